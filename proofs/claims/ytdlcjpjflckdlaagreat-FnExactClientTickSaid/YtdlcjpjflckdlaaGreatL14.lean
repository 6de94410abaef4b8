/-
  That the program and the reference answer alike, in plain terms, and that the laws answer true.
-/
import Derived.Test.YtdlcjpjflckdlaaGreatL13
namespace Go.Proofs.YtdlcjpjflckdlaaGreat
open Go.RowKit
set_option linter.unusedVariables false
set_option linter.unusedSimpArgs false
set_option maxRecDepth 100000
set_option maxHeartbeats 4000000
noncomputable section
/-! ## Timers -/
def timer0 (t : YTimer) : Bool := and (t.1 == false) (and (t.2.1 == (0 : Int)) (and (t.2.2.1 == (0 : Int)) (and (t.2.2.2.1 == (0 : Int)) true)))
def timerOk (t : YTimer) : Bool := bif !t.1 then timer0 t else inR t.2.1 0 1000008 && (inR t.2.2.2.1 1 5 && ((t.2.2.1 == 1) || ((t.2.2.1 == 2) || ((t.2.2.1 == 4) || (t.2.2.1 == 8)))))
theorem i_TimerOk (t : YTimer) : V_i_TimerOk t = some (timerOk t, ()) := by
  unfold V_i_TimerOk T_i_TimerOk timerOk timer0
  simp only [val_br, val_ob, val_leaf, i_within, ob_s, br_cc, Option.some.injEq, Prod.mk.injEq, and_true]
  cases t.1 <;> cases (t.2.2.1 == (1 : Int)) <;> cases (t.2.2.1 == (2 : Int)) <;> cases (t.2.2.1 == (4 : Int)) <;> cases (t.2.2.1 == (8 : Int)) <;> cases inR t.2.1 0 1000008 <;> cases inR t.2.2.2.1 1 5 <;> rfl
theorem s_TimerOk (t : YTimer) : V_s_TimerOk t = some (timerOk t, ()) := by
  unfold V_s_TimerOk T_s_TimerOk timerOk timer0
  simp only [val_br, val_ob, val_leaf, s_l1In, ob_s, br_cc, Option.some.injEq, Prod.mk.injEq, and_true]
  cases t.1 <;> cases (t.2.2.1 == (1 : Int)) <;> cases (t.2.2.1 == (2 : Int)) <;> cases (t.2.2.1 == (4 : Int)) <;> cases (t.2.2.1 == (8 : Int)) <;> cases inR t.2.1 0 1000008 <;> cases inR t.2.2.2.1 1 5 <;> rfl
theorem timer0_ok (t : YTimer) : timer0 t = (!t.1 && timerOk t) := by
  unfold timerOk timer0
  cases t.1 <;> simp
abbrev clFin (c : YClient) : YFrame := (c.2.2.2.2.2.2.1, c.2.2.2.2.2.2.2.1, c.2.2.2.2.2.2.2.2.1, c.2.2.2.2.2.2.2.2.2.1, c.2.2.2.2.2.2.2.2.2.2.1, c.2.2.2.2.2.2.2.2.2.2.2.1, c.2.2.2.2.2.2.2.2.2.2.2.2.1, c.2.2.2.2.2.2.2.2.2.2.2.2.2.1, c.2.2.2.2.2.2.2.2.2.2.2.2.2.2.1, c.2.2.2.2.2.2.2.2.2.2.2.2.2.2.2.1, c.2.2.2.2.2.2.2.2.2.2.2.2.2.2.2.2.1, ())
abbrev clCh (c : YClient) : YChan := (c.2.2.2.2.2.2.2.2.2.2.2.2.2.2.2.2.2.1, c.2.2.2.2.2.2.2.2.2.2.2.2.2.2.2.2.2.2.1, c.2.2.2.2.2.2.2.2.2.2.2.2.2.2.2.2.2.2.2.1, c.2.2.2.2.2.2.2.2.2.2.2.2.2.2.2.2.2.2.2.2.1, c.2.2.2.2.2.2.2.2.2.2.2.2.2.2.2.2.2.2.2.2.2.1, c.2.2.2.2.2.2.2.2.2.2.2.2.2.2.2.2.2.2.2.2.2.2.1, c.2.2.2.2.2.2.2.2.2.2.2.2.2.2.2.2.2.2.2.2.2.2.2.1, c.2.2.2.2.2.2.2.2.2.2.2.2.2.2.2.2.2.2.2.2.2.2.2.2.1, c.2.2.2.2.2.2.2.2.2.2.2.2.2.2.2.2.2.2.2.2.2.2.2.2.2.1, c.2.2.2.2.2.2.2.2.2.2.2.2.2.2.2.2.2.2.2.2.2.2.2.2.2.2.1, c.2.2.2.2.2.2.2.2.2.2.2.2.2.2.2.2.2.2.2.2.2.2.2.2.2.2.2.1, c.2.2.2.2.2.2.2.2.2.2.2.2.2.2.2.2.2.2.2.2.2.2.2.2.2.2.2.2.1, c.2.2.2.2.2.2.2.2.2.2.2.2.2.2.2.2.2.2.2.2.2.2.2.2.2.2.2.2.2.1, c.2.2.2.2.2.2.2.2.2.2.2.2.2.2.2.2.2.2.2.2.2.2.2.2.2.2.2.2.2.2.1, c.2.2.2.2.2.2.2.2.2.2.2.2.2.2.2.2.2.2.2.2.2.2.2.2.2.2.2.2.2.2.2.1, ())
abbrev clT (c : YClient) : YTimer := (c.2.2.2.2.2.2.2.2.2.2.2.2.2.2.2.2.2.2.2.2.2.2.2.2.2.2.2.2.2.2.2.2.1, c.2.2.2.2.2.2.2.2.2.2.2.2.2.2.2.2.2.2.2.2.2.2.2.2.2.2.2.2.2.2.2.2.2.1, c.2.2.2.2.2.2.2.2.2.2.2.2.2.2.2.2.2.2.2.2.2.2.2.2.2.2.2.2.2.2.2.2.2.2.1, c.2.2.2.2.2.2.2.2.2.2.2.2.2.2.2.2.2.2.2.2.2.2.2.2.2.2.2.2.2.2.2.2.2.2.2.1, ())
abbrev clR (c : YClient) : YTimer := (c.2.2.2.2.2.2.2.2.2.2.2.2.2.2.2.2.2.2.2.2.2.2.2.2.2.2.2.2.2.2.2.2.2.2.2.2.1, c.2.2.2.2.2.2.2.2.2.2.2.2.2.2.2.2.2.2.2.2.2.2.2.2.2.2.2.2.2.2.2.2.2.2.2.2.2.1, c.2.2.2.2.2.2.2.2.2.2.2.2.2.2.2.2.2.2.2.2.2.2.2.2.2.2.2.2.2.2.2.2.2.2.2.2.2.2.1, c.2.2.2.2.2.2.2.2.2.2.2.2.2.2.2.2.2.2.2.2.2.2.2.2.2.2.2.2.2.2.2.2.2.2.2.2.2.2.2.1, ())
def frZ (f : YFrame) : Bool := (f.1 == 0) && ((f.2.1 == 0) && (((f.2.2.1.length : Int) == 0) && (((f.2.2.2.1.length : Int) == 0) && ((f.2.2.2.2.1 == 0) && (((f.2.2.2.2.2.1.length : Int) == 0) && (((f.2.2.2.2.2.2.1.length : Int) == 0) && ((f.2.2.2.2.2.2.2.1 == 0) && ((f.2.2.2.2.2.2.2.2.1 == 0) &&
  (((f.2.2.2.2.2.2.2.2.2.1.length : Int) == 0) && ((f.2.2.2.2.2.2.2.2.2.2.1.length : Int) == 0))))))))))
theorem s_l19NoFrame (f : YFrame) : V_s_l19NoFrame f = some (frZ f, ()) := by
  unfold V_s_l19NoFrame T_s_l19NoFrame frZ
  simp only [val_br, val_ob, val_leaf, br_and]
theorem i_sameFrame0 (f : YFrame) : V_i_sameFrame f ((0 : Int), (0 : Int), ([] : List (Int × Unit)), ([] : List (Int × Unit)), (0 : Int), ([] : List (Int × Unit)), ([] : List (Int × Unit)), (0 : Int), (0 : Int), ([] : List (Int × Unit)), ([] : List (Int × Unit)), ()) = some (frZ f, ()) := by
  rw [i_sameFrame]
  unfold frZ
  simp only [sameB_nil]
  refine congrArg (fun b => some (b, ())) ?_
  apply beq_of_iff
  simp only [Bool.and_eq_true]
  constructor <;> (rintro ⟨h1, h2, h3, h4, h5, h6, h7, h8, h9, h10, h11⟩; simp only [*, and_self])
theorem client_law (st : Int) (cnz cn12 f0 c0 ch role0 fin3 finId finOk finCn sn Ton Tok Ron Rok l0 lin nx old nz np : Bool) (hl : l0 = true → lin = true) :
    (bif st == 0 then (cnz && (f0 && (c0 && ((!Ton && Tok) && ((!Ron && Rok) && l0))))) else bif st == 1 then (cn12 && (f0 && (c0 && (Ton && (Tok && ((!Ron && Rok) && l0)))))) else
      bif st == 2 then ((cn12 && (fin3 && (finOk && (finId && (finCn && (ch && (role0 && (sn && (old && (!nx && nz)))))))))) && (Ton && (Tok && ((!Ron && Rok) && l0)))) else
      bif st == 3 then (cn12 && (f0 && (ch && (role0 && ((!Ton && Tok) && (Rok && ((Ron == np) && lin))))))) else false) =
    (Tok && (Rok && (lin && (bif st == 0 then (cnz && (f0 && (c0 && (!Ton && (!Ron && l0))))) else (cn12 && (bif st == 3 then (f0 && (ch && (role0 && (!Ton && (Ron == np))))) else
      (Ton && (!Ron && (l0 && (bif st == 1 then (f0 && c0) else (st == 2 && (finOk && (fin3 && (finId && (finCn && (ch && (role0 && (sn && (old && (!nx && nz)))))))))))))))))))) := by
  by_cases h0 : st = 0
  · subst h0; cases Tok <;> cases Rok <;> cases l0 <;> simp_all
  · by_cases h1 : st = 1
    · subst h1; cases Tok <;> cases Rok <;> cases l0 <;> cases Ton <;> cases Ron <;> simp_all
    · by_cases h2 : st = 2
      · subst h2; cases Tok <;> cases Rok <;> cases l0 <;> cases Ton <;> cases Ron <;> cases finOk <;> simp_all
      · by_cases h3 : st = 3
        · subst h3; cases Tok <;> cases Rok <;> cases lin <;> cases Ton <;> simp_all
        · have e0 : (st == 0) = false := by simpa using h0
          have e1 : (st == 1) = false := by simpa using h1
          have e2 : (st == 2) = false := by simpa using h2
          have e3 : (st == 3) = false := by simpa using h3
          simp [e0, e1, e2, e3]

def clientOk (c : YClient) : Bool :=
  inR c.1 1 9 && (pskOk (c.2.1, ()) && (addrOk (c.2.2.1, c.2.2.2.1, ()) &&
    (bif c.2.2.2.2.1 == 0 then (((c.2.2.2.2.2.1.length : Int) == 0) && (frZ (clFin c) && (chan0 (clCh c) && (timer0 (clT c) && (timer0 (clR c) && (c.2.2.2.2.2.2.2.2.2.2.2.2.2.2.2.2.2.2.2.2.2.2.2.2.2.2.2.2.2.2.2.2.2.2.2.2.2.2.2.2.1 == 0)))))) else
     bif c.2.2.2.2.1 == 1 then (((c.2.2.2.2.2.1.length : Int) == 12) && (frZ (clFin c) && (chan0 (clCh c) && (c.2.2.2.2.2.2.2.2.2.2.2.2.2.2.2.2.2.2.2.2.2.2.2.2.2.2.2.2.2.2.2.2.1 && (timerOk (clT c) && (timer0 (clR c) && (c.2.2.2.2.2.2.2.2.2.2.2.2.2.2.2.2.2.2.2.2.2.2.2.2.2.2.2.2.2.2.2.2.2.2.2.2.2.2.2.2.1 == 0))))))) else
     bif c.2.2.2.2.1 == 2 then ((((c.2.2.2.2.2.1.length : Int) == 12) && ((c.2.2.2.2.2.2.1 == 3) && (frameOk (clFin c) && ((c.2.2.2.2.2.2.2.1 == c.1) && (sameB c.2.2.2.2.2.2.2.2.1 c.2.2.2.2.2.1 && (chanOk (clCh c) && ((c.2.2.2.2.2.2.2.2.2.2.2.2.2.2.2.2.2.1 == 0) && (sameB c.2.2.2.2.2.2.2.2.2.2.2.2.2.2.2.2.2.2.1 c.2.2.2.2.2.2.2.2.2.1 && ((c.2.2.2.2.2.2.2.2.2.2.2.2.2.2.2.2.2.2.2.1 == 0) && (!c.2.2.2.2.2.2.2.2.2.2.2.2.2.2.2.2.2.2.2.2.2.2.2.2.2.2.2.2.2.1 && ((c.2.2.2.2.2.2.2.2.2.2.2.2.2.2.2.2.2.2.2.2.2.2.2.2.2.2.2.2.2.2.2.1.length : Int) == 0))))))))))) && (c.2.2.2.2.2.2.2.2.2.2.2.2.2.2.2.2.2.2.2.2.2.2.2.2.2.2.2.2.2.2.2.2.1 && (timerOk (clT c) && (timer0 (clR c) && (c.2.2.2.2.2.2.2.2.2.2.2.2.2.2.2.2.2.2.2.2.2.2.2.2.2.2.2.2.2.2.2.2.2.2.2.2.2.2.2.2.1 == 0))))) else
     bif c.2.2.2.2.1 == 3 then (((c.2.2.2.2.2.1.length : Int) == 12) && (frZ (clFin c) && (chanOk (clCh c) && ((c.2.2.2.2.2.2.2.2.2.2.2.2.2.2.2.2.2.1 == 0) && (timer0 (clT c) && (timerOk (clR c) && ((c.2.2.2.2.2.2.2.2.2.2.2.2.2.2.2.2.2.2.2.2.2.2.2.2.2.2.2.2.2.2.2.2.2.2.2.2.1 == decide ((c.2.2.2.2.2.2.2.2.2.2.2.2.2.2.2.2.2.2.2.2.2.2.2.2.2.2.2.2.2.2.2.1.length : Int) > 0)) && inR c.2.2.2.2.2.2.2.2.2.2.2.2.2.2.2.2.2.2.2.2.2.2.2.2.2.2.2.2.2.2.2.2.2.2.2.2.2.2.2.2.1 0 1000000))))))) else false)))
theorem i_finishOk (c : YClient) (h : need_Client c ≤ 4294967296) : V_i_finishOk c = some ((((c.2.2.2.2.2.1.length : Int) == 12) && ((c.2.2.2.2.2.2.1 == 3) && (frameOk (clFin c) && ((c.2.2.2.2.2.2.2.1 == c.1) && (sameB c.2.2.2.2.2.2.2.2.1 c.2.2.2.2.2.1 && (chanOk (clCh c) && ((c.2.2.2.2.2.2.2.2.2.2.2.2.2.2.2.2.2.1 == 0) && (sameB c.2.2.2.2.2.2.2.2.2.2.2.2.2.2.2.2.2.2.1 c.2.2.2.2.2.2.2.2.2.1 && ((c.2.2.2.2.2.2.2.2.2.2.2.2.2.2.2.2.2.2.2.1 == 0) && (!c.2.2.2.2.2.2.2.2.2.2.2.2.2.2.2.2.2.2.2.2.2.2.2.2.2.2.2.2.2.1 && ((c.2.2.2.2.2.2.2.2.2.2.2.2.2.2.2.2.2.2.2.2.2.2.2.2.2.2.2.2.2.2.2.1.length : Int) == 0))))))))))), ()) := by
  simp only [need_Client] at h
  unfold V_i_finishOk T_i_finishOk
  simp (disch := first | omega | (dsimp only; omega)) only [val_br, val_ob, val_leaf, i_isNonce, i_FrameOk, i_ChanOk, bytes_Equal, ob_s, br_cc, bne, Bool.cond_false_right, Bool.cond_true_left, Bool.cond_false_left, Bool.not_not]
theorem i_ClientOk (c : YClient) (h : need_Client c ≤ 4294967296) : V_i_ClientOk c = some (clientOk c, ()) := by
  have h' := h
  simp only [need_Client] at h
  unfold V_i_ClientOk T_i_ClientOk clientOk
  simp (disch := first | omega | (dsimp only; omega)) only [val_br, val_ob, val_leaf, i_within, i_PskOk, i_AddrOk, i_sameFrame0, i_isZeroChan, i_isNonce, i_TimerOk, i_finishOk, i_ChanOk, ob_s, br_cc, bne, Bool.cond_false_right, Bool.cond_true_left, Bool.cond_false_left, Bool.not_not]
  rfl
theorem s_ClientOk (c : YClient) : V_s_ClientOk c = some (clientOk c, ()) := by
  unfold V_s_ClientOk T_s_ClientOk
  simp only [val_br, val_ob, val_leaf, s_l1In, s_PskOk, s_AddrOk, s_l19NoFrame, s_l19NoChan, s_TimerOk, s_FrameOk, s_ChanOk, s_l1Same, ob_s, br_cc, bne, Bool.cond_false_right, Bool.cond_true_left, Bool.cond_false_left, Bool.not_not]
  unfold clientOk
  rw [timer0_ok (clT c), timer0_ok (clR c)]
  rw [client_law c.2.2.2.2.1 ((c.2.2.2.2.2.1.length : Int) == 0) ((c.2.2.2.2.2.1.length : Int) == 12) (frZ (clFin c)) (chan0 (clCh c)) (chanOk (clCh c)) (c.2.2.2.2.2.2.2.2.2.2.2.2.2.2.2.2.2.1 == 0) (c.2.2.2.2.2.2.1 == 3) (c.2.2.2.2.2.2.2.1 == c.1) (frameOk (clFin c)) (sameB c.2.2.2.2.2.2.2.2.1 c.2.2.2.2.2.1) (sameB c.2.2.2.2.2.2.2.2.2.2.2.2.2.2.2.2.2.2.1 c.2.2.2.2.2.2.2.2.2.1) c.2.2.2.2.2.2.2.2.2.2.2.2.2.2.2.2.2.2.2.2.2.2.2.2.2.2.2.2.2.2.2.2.1 (timerOk (clT c)) c.2.2.2.2.2.2.2.2.2.2.2.2.2.2.2.2.2.2.2.2.2.2.2.2.2.2.2.2.2.2.2.2.2.2.2.2.1 (timerOk (clR c)) (c.2.2.2.2.2.2.2.2.2.2.2.2.2.2.2.2.2.2.2.2.2.2.2.2.2.2.2.2.2.2.2.2.2.2.2.2.2.2.2.2.1 == 0) (inR c.2.2.2.2.2.2.2.2.2.2.2.2.2.2.2.2.2.2.2.2.2.2.2.2.2.2.2.2.2.2.2.2.2.2.2.2.2.2.2.2.1 0 1000000) c.2.2.2.2.2.2.2.2.2.2.2.2.2.2.2.2.2.2.2.2.2.2.2.2.2.2.2.2.2.1 (c.2.2.2.2.2.2.2.2.2.2.2.2.2.2.2.2.2.2.2.1 == 0) ((c.2.2.2.2.2.2.2.2.2.2.2.2.2.2.2.2.2.2.2.2.2.2.2.2.2.2.2.2.2.2.2.1.length : Int) == 0) (decide ((c.2.2.2.2.2.2.2.2.2.2.2.2.2.2.2.2.2.2.2.2.2.2.2.2.2.2.2.2.2.2.2.1.length : Int) > 0)) (fun e => by simp at e; rw [e]; rfl)]
theorem i_copyFrame (d : YFrame) (h : need_Frame d ≤ 4294967296) : V_i_copyFrame d = some d := by
  simp only [need_Frame] at h
  unfold V_i_copyFrame T_i_copyFrame
  simp (disch := first | omega | (dsimp only; omega)) only [val_ob, val_leaf, i_clone, ob_s]
theorem s_l7Copy (d : YFrame) (h : need_Frame d ≤ 4294967296) : V_s_l7Copy d = some d := by
  simp only [need_Frame] at h
  unfold V_s_l7Copy T_s_l7Copy
  simp (disch := first | omega | (dsimp only; omega)) only [val_chk, val_leaf, List.length_nil, Nat.zero_add, List.nil_append, dec_t, chk_t]
theorem i_copyClient (d : YClient) (h : need_Client d ≤ 4294967296) : V_i_copyClient d = some d := by
  simp only [need_Client] at h
  unfold V_i_copyClient T_i_copyClient
  simp (disch := first | omega | (dsimp only; omega) | (simp only [need_Chan]; omega) | (simp only [need_Frame]; omega)) only [val_ob, val_leaf, i_clone, i_copyFrame, i_copyChan, ob_s]
theorem s_l19Copy (d : YClient) (h : need_Client d ≤ 4294967296) : V_s_l19Copy d = some d := by
  simp only [need_Client] at h
  unfold V_s_l19Copy T_s_l19Copy
  simp (disch := first | omega | (dsimp only; omega) | (simp only [need_Chan]; omega) | (simp only [need_Frame]; omega)) only [val_ob, val_chk, val_leaf, s_l7Copy, s_l14Copy, ob_s, List.length_nil, Nat.zero_add, List.nil_append, dec_t, chk_t]
def idleC (c : YClient) : YClient := (c.1, c.2.1, c.2.2.1, c.2.2.2.1, (0 : Int), [], (0 : Int), (0 : Int), [], [], (0 : Int), [], [], (0 : Int), (0 : Int), [], [], (0 : Int), [], (0 : Int), [], (0 : Int), (0 : Int), [], (0 : Int), [], (0 : Int), (0 : Int), [], false, (0 : Int), [], false, (0 : Int), (0 : Int), (0 : Int), false, (0 : Int), (0 : Int), (0 : Int), (0 : Int), ())
theorem need_idle (c : YClient) : need_Client (idleC c) ≤ need_Client c := by
  simp only [need_Client, idleC, List.length_nil]; omega
theorem i_idle (c : YClient) (h : need_Client c ≤ 4294967296) : V_i_idle c = some (idleC c) := by
  simp only [need_Client] at h
  unfold V_i_idle T_i_idle idleC
  simp (disch := first | omega | (dsimp only; omega)) only [val_ob, val_leaf, i_clone, ob_s]
theorem s_l19Idle (c : YClient) (h : need_Client c ≤ 4294967296) (ho : clientOk c = true) : V_s_l19Idle c = some (idleC c) := by
  simp only [need_Client] at h
  unfold clientOk at ho
  simp only [Bool.and_eq_true] at ho
  unfold V_s_l19Idle T_s_l19Idle V_s_ClientNew T_s_ClientNew idleC
  simp (disch := first | omega | (dsimp only; omega)) only [val_br, val_ob, val_chk, val_leaf, s_l1In, s_PskOk, s_AddrOk, ho.1, ho.2.1, ho.2.2.1, ob_s, Bool.not_true, br_f, List.length_nil, Nat.zero_add, List.nil_append, dec_t, chk_t]

theorem i_initOf (c : YClient) (h : c.2.2.2.2.2.1.length ≤ 4294967296) : V_i_initOf c = some ((1 : Int), c.1, c.2.2.2.2.2.1, [], (0 : Int), [], [], (0 : Int), (0 : Int), [], [], ()) := by
  unfold V_i_initOf T_i_initOf
  simp only [val_ob, val_leaf]
  rw [i_clone _ (by dsimp only; omega), ob_s]
theorem s_l19Init (c : YClient) (h : c.2.2.2.2.2.1.length ≤ 4294967296) : V_s_l19Init c = some ((1 : Int), c.1, c.2.2.2.2.2.1, [], (0 : Int), [], [], (0 : Int), (0 : Int), [], [], ()) := by
  unfold V_s_l19Init T_s_l19Init
  simp only [val_chk, val_leaf, List.length_nil, Nat.zero_add, List.nil_append]
  rw [dec_t h]; rfl
theorem TimerSet_eq : V_i_TimerSet = V_s_TimerSet := by
  funext n
  unfold V_i_TimerSet T_i_TimerSet V_s_TimerSet T_s_TimerSet
  simp only [val_br, val_ob, val_leaf, i_within, s_l1In, ob_s]
theorem some_TimerSet (n : YI) : ∃ t, V_s_TimerSet n = some t := by
  unfold V_s_TimerSet T_s_TimerSet
  simp only [val_br, val_ob, val_leaf, s_l1In, ob_s]
  cases inR n.1 0 1000000 <;> exact ⟨_, rfl⟩
end
end Go.Proofs.YtdlcjpjflckdlaaGreat

/-
  The data types of the laws, what it is to read and to own them in memory; nothing is assumed.
-/
import Derived.Test.YtddpdlggnbkpbaaChecked
import Derived.Test.YtddpdlggnbkpbaaBase
namespace Go.Proofs.Ytddpdlggnbkpbaa
open Go.RowKit
set_option maxHeartbeats 1000000
set_option linter.unusedVariables false
structure DOp where
  Kind : Int
  I : Int
  J : Int
  B : List UInt8
theorem extOp {a b : DOp} (h0 : a.Kind = b.Kind) (h1 : a.I = b.I) (h2 : a.J = b.J) (h3 : a.B = b.B) : a = b := by cases a; cases b; simp only at *; subst h0 h1 h2 h3; rfl
@[simp] theorem etaOp (a : DOp) : (⟨a.Kind, a.I, a.J, a.B⟩ : DOp) = a := rfl
def rdOp (f : Frag) (cs : List Value) (a : DOp) : Prop := ∃ p1 c1, cs = [.int .i64 a.Kind, .int .i64 a.I, .int .i64 a.J, .slice p1 a.B.length c1] ∧ RdB f (.slice p1 a.B.length c1) a.B
def ownOp (f : Frag) (cs : List Value) (a : DOp) : Prop := ∃ p1 c1 f1, cs = [.int .i64 a.Kind, .int .i64 a.I, .int .i64 a.J, .slice p1 a.B.length c1] ∧ Parts f [f1] ∧ OwnB f1 (.slice p1 a.B.length c1) a.B
def bulkOp (a : DOp) : Nat := a.B.length
theorem rdOp_sub (f g : Frag) (cs : List Value) (a : DOp) (h : rdOp f cs a) (hg : f.sub g) : rdOp g cs a := by
  obtain ⟨p1, c1, rfl, h1⟩ := h
  exact ⟨p1, c1, rfl, RdRow.sub h1 hg⟩
theorem ownOp_sub (f g : Frag) (cs : List Value) (a : DOp) (h : ownOp f cs a) (hg : f.sub g) : ownOp g cs a := by
  obtain ⟨p1, c1, f1, rfl, hp, h1⟩ := h
  exact ⟨p1, c1, f1, rfl, hp.sub hg, h1⟩
theorem ownOp_rd (f : Frag) (cs : List Value) (a : DOp) (h : ownOp f cs a) : rdOp f cs a := by
  obtain ⟨p1, c1, f1, rfl, hp, h1⟩ := h
  exact ⟨p1, c1, rfl, RdRow.sub (OwnB.rd h1) (hp.2 f1 (by simp))⟩
theorem rdOp_len {f : Frag} {cs : List Value} {a : DOp} (h : rdOp f cs a) : cs.length = 4 := by obtain ⟨p1, c1, rfl, _⟩ := h; rfl
theorem oneOp {f : Frag} {cs : List Value} {a : DOp} (h : rdOp f cs a) : ∀ v ∈ cs, v.oneCell' = true := by
  obtain ⟨p1, c1, rfl, _⟩ := h
  intro v hv; simp only [List.mem_cons, List.not_mem_nil, or_false] at hv; rcases hv with rfl | rfl | rfl | rfl <;> rfl

structure DAddr where
  Host : Int
  Port : Int
theorem extAddr {a b : DAddr} (h0 : a.Host = b.Host) (h1 : a.Port = b.Port) : a = b := by cases a; cases b; simp only at *; subst h0 h1; rfl
@[simp] theorem etaAddr (a : DAddr) : (⟨a.Host, a.Port⟩ : DAddr) = a := rfl
def rdAddr (f : Frag) (cs : List Value) (a : DAddr) : Prop := cs = [.int .i64 a.Host, .int .i64 a.Port]
def ownAddr (f : Frag) (cs : List Value) (a : DAddr) : Prop := cs = [.int .i64 a.Host, .int .i64 a.Port]
def bulkAddr (a : DAddr) : Nat := 0
theorem rdAddr_sub (f g : Frag) (cs : List Value) (a : DAddr) (h : rdAddr f cs a) (hg : f.sub g) : rdAddr g cs a := h
theorem ownAddr_sub (f g : Frag) (cs : List Value) (a : DAddr) (h : ownAddr f cs a) (hg : f.sub g) : ownAddr g cs a := h
theorem ownAddr_rd (f : Frag) (cs : List Value) (a : DAddr) (h : ownAddr f cs a) : rdAddr f cs a := h
theorem rdAddr_len {f : Frag} {cs : List Value} {a : DAddr} (h : rdAddr f cs a) : cs.length = 2 := by obtain rfl := h; rfl
theorem oneAddr {f : Frag} {cs : List Value} {a : DAddr} (h : rdAddr f cs a) : ∀ v ∈ cs, v.oneCell' = true := by
  obtain rfl := h
  intro v hv; simp only [List.mem_cons, List.not_mem_nil, or_false] at hv; rcases hv with rfl | rfl <;> rfl

structure DWire where
  From : DAddr
  To : DAddr
  B : List UInt8
theorem extWire {a b : DWire} (h0 : a.From = b.From) (h1 : a.To = b.To) (h2 : a.B = b.B) : a = b := by cases a; cases b; simp only at *; subst h0 h1 h2; rfl
@[simp] theorem etaWire (a : DWire) : (⟨a.From, a.To, a.B⟩ : DWire) = a := rfl
def rdWire (f : Frag) (cs : List Value) (a : DWire) : Prop := ∃ p1 c1, cs = [.int .i64 a.From.Host, .int .i64 a.From.Port, .int .i64 a.To.Host, .int .i64 a.To.Port, .slice p1 a.B.length c1] ∧ RdB f (.slice p1 a.B.length c1) a.B
def ownWire (f : Frag) (cs : List Value) (a : DWire) : Prop := ∃ p1 c1 f1, cs = [.int .i64 a.From.Host, .int .i64 a.From.Port, .int .i64 a.To.Host, .int .i64 a.To.Port, .slice p1 a.B.length c1] ∧ Parts f [f1] ∧ OwnB f1 (.slice p1 a.B.length c1) a.B
def bulkWire (a : DWire) : Nat := a.B.length
theorem rdWire_sub (f g : Frag) (cs : List Value) (a : DWire) (h : rdWire f cs a) (hg : f.sub g) : rdWire g cs a := by
  obtain ⟨p1, c1, rfl, h1⟩ := h
  exact ⟨p1, c1, rfl, RdRow.sub h1 hg⟩
theorem ownWire_sub (f g : Frag) (cs : List Value) (a : DWire) (h : ownWire f cs a) (hg : f.sub g) : ownWire g cs a := by
  obtain ⟨p1, c1, f1, rfl, hp, h1⟩ := h
  exact ⟨p1, c1, f1, rfl, hp.sub hg, h1⟩
theorem ownWire_rd (f : Frag) (cs : List Value) (a : DWire) (h : ownWire f cs a) : rdWire f cs a := by
  obtain ⟨p1, c1, f1, rfl, hp, h1⟩ := h
  exact ⟨p1, c1, rfl, RdRow.sub (OwnB.rd h1) (hp.2 f1 (by simp))⟩
theorem rdWire_len {f : Frag} {cs : List Value} {a : DWire} (h : rdWire f cs a) : cs.length = 5 := by obtain ⟨p1, c1, rfl, _⟩ := h; rfl
theorem oneWire {f : Frag} {cs : List Value} {a : DWire} (h : rdWire f cs a) : ∀ v ∈ cs, v.oneCell' = true := by
  obtain ⟨p1, c1, rfl, _⟩ := h
  intro v hv; simp only [List.mem_cons, List.not_mem_nil, or_false] at hv; rcases hv with rfl | rfl | rfl | rfl | rfl <;> rfl

structure DFrame where
  Kind : Int
  Id : Int
  Cn : List UInt8
  Sn : List UInt8
  Tick : Int
  Cookie : List UInt8
  Proof : List UInt8
  Epoch : Int
  Seq : Int
  Body : List UInt8
  Tag : List UInt8
theorem extFrame {a b : DFrame} (h0 : a.Kind = b.Kind) (h1 : a.Id = b.Id) (h2 : a.Cn = b.Cn) (h3 : a.Sn = b.Sn) (h4 : a.Tick = b.Tick) (h5 : a.Cookie = b.Cookie) (h6 : a.Proof = b.Proof) (h7 : a.Epoch = b.Epoch) (h8 : a.Seq = b.Seq) (h9 : a.Body = b.Body) (h10 : a.Tag = b.Tag) : a = b := by cases a; cases b; simp only at *; subst h0 h1 h2 h3 h4 h5 h6 h7 h8 h9 h10; rfl
@[simp] theorem etaFrame (a : DFrame) : (⟨a.Kind, a.Id, a.Cn, a.Sn, a.Tick, a.Cookie, a.Proof, a.Epoch, a.Seq, a.Body, a.Tag⟩ : DFrame) = a := rfl
def rdFrame (f : Frag) (cs : List Value) (a : DFrame) : Prop := ∃ p1 c1 p2 c2 p3 c3 p4 c4 p5 c5 p6 c6, cs = [.int .i64 a.Kind, .int .i64 a.Id, .slice p1 a.Cn.length c1, .slice p2 a.Sn.length c2, .int .i64 a.Tick, .slice p3 a.Cookie.length c3, .slice p4 a.Proof.length c4, .int .i64 a.Epoch, .int .i64 a.Seq, .slice p5 a.Body.length c5, .slice p6 a.Tag.length c6] ∧ RdB f (.slice p1 a.Cn.length c1) a.Cn ∧ RdB f (.slice p2 a.Sn.length c2) a.Sn ∧ RdB f (.slice p3 a.Cookie.length c3) a.Cookie ∧ RdB f (.slice p4 a.Proof.length c4) a.Proof ∧ RdB f (.slice p5 a.Body.length c5) a.Body ∧ RdB f (.slice p6 a.Tag.length c6) a.Tag
def ownFrame (f : Frag) (cs : List Value) (a : DFrame) : Prop := ∃ p1 c1 p2 c2 p3 c3 p4 c4 p5 c5 p6 c6 f1 f2 f3 f4 f5 f6, cs = [.int .i64 a.Kind, .int .i64 a.Id, .slice p1 a.Cn.length c1, .slice p2 a.Sn.length c2, .int .i64 a.Tick, .slice p3 a.Cookie.length c3, .slice p4 a.Proof.length c4, .int .i64 a.Epoch, .int .i64 a.Seq, .slice p5 a.Body.length c5, .slice p6 a.Tag.length c6] ∧ Parts f [f1, f2, f3, f4, f5, f6] ∧ OwnB f1 (.slice p1 a.Cn.length c1) a.Cn ∧ OwnB f2 (.slice p2 a.Sn.length c2) a.Sn ∧ OwnB f3 (.slice p3 a.Cookie.length c3) a.Cookie ∧ OwnB f4 (.slice p4 a.Proof.length c4) a.Proof ∧ OwnB f5 (.slice p5 a.Body.length c5) a.Body ∧ OwnB f6 (.slice p6 a.Tag.length c6) a.Tag
def bulkFrame (a : DFrame) : Nat := a.Cn.length + a.Sn.length + a.Cookie.length + a.Proof.length + a.Body.length + a.Tag.length
theorem rdFrame_sub (f g : Frag) (cs : List Value) (a : DFrame) (h : rdFrame f cs a) (hg : f.sub g) : rdFrame g cs a := by
  obtain ⟨p1, c1, p2, c2, p3, c3, p4, c4, p5, c5, p6, c6, rfl, h1, h2, h3, h4, h5, h6⟩ := h
  exact ⟨p1, c1, p2, c2, p3, c3, p4, c4, p5, c5, p6, c6, rfl, RdRow.sub h1 hg, RdRow.sub h2 hg, RdRow.sub h3 hg, RdRow.sub h4 hg, RdRow.sub h5 hg, RdRow.sub h6 hg⟩
theorem ownFrame_sub (f g : Frag) (cs : List Value) (a : DFrame) (h : ownFrame f cs a) (hg : f.sub g) : ownFrame g cs a := by
  obtain ⟨p1, c1, p2, c2, p3, c3, p4, c4, p5, c5, p6, c6, f1, f2, f3, f4, f5, f6, rfl, hp, h1, h2, h3, h4, h5, h6⟩ := h
  exact ⟨p1, c1, p2, c2, p3, c3, p4, c4, p5, c5, p6, c6, f1, f2, f3, f4, f5, f6, rfl, hp.sub hg, h1, h2, h3, h4, h5, h6⟩
theorem ownFrame_rd (f : Frag) (cs : List Value) (a : DFrame) (h : ownFrame f cs a) : rdFrame f cs a := by
  obtain ⟨p1, c1, p2, c2, p3, c3, p4, c4, p5, c5, p6, c6, f1, f2, f3, f4, f5, f6, rfl, hp, h1, h2, h3, h4, h5, h6⟩ := h
  exact ⟨p1, c1, p2, c2, p3, c3, p4, c4, p5, c5, p6, c6, rfl, RdRow.sub (OwnB.rd h1) (hp.2 f1 (by simp)), RdRow.sub (OwnB.rd h2) (hp.2 f2 (by simp)), RdRow.sub (OwnB.rd h3) (hp.2 f3 (by simp)), RdRow.sub (OwnB.rd h4) (hp.2 f4 (by simp)), RdRow.sub (OwnB.rd h5) (hp.2 f5 (by simp)), RdRow.sub (OwnB.rd h6) (hp.2 f6 (by simp))⟩
theorem rdFrame_len {f : Frag} {cs : List Value} {a : DFrame} (h : rdFrame f cs a) : cs.length = 11 := by obtain ⟨p1, c1, p2, c2, p3, c3, p4, c4, p5, c5, p6, c6, rfl, _, _, _, _, _, _⟩ := h; rfl
theorem oneFrame {f : Frag} {cs : List Value} {a : DFrame} (h : rdFrame f cs a) : ∀ v ∈ cs, v.oneCell' = true := by
  obtain ⟨p1, c1, p2, c2, p3, c3, p4, c4, p5, c5, p6, c6, rfl, _, _, _, _, _, _⟩ := h
  intro v hv; simp only [List.mem_cons, List.not_mem_nil, or_false] at hv; rcases hv with rfl | rfl | rfl | rfl | rfl | rfl | rfl | rfl | rfl | rfl | rfl <;> rfl

theorem rowByteS : RowTy Try.prog 22 5 (.int .u8 0) 1 1 := ⟨Try.underlying22, by kernel_rfl, rfl, by omega⟩
theorem rowByteSS : RowTy Try.prog 80 22 (.slice none 0 0) 1 24 := ⟨Try.underlying80, by kernel_rfl, rfl, by omega⟩
theorem rowWireS : RowTy Try.prog 46 39 (.agg #[.int .i64 0, .int .i64 0, .int .i64 0, .int .i64 0, .slice none 0 0]) 5 56 := ⟨Try.underlying46, by kernel_rfl, rfl, by omega⟩

end Go.Proofs.Ytddpdlggnbkpbaa

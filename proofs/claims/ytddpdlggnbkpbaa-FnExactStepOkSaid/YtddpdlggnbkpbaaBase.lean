import Derived.WalkKit
import Derived.WalkSpells
import Derived.WalkLawsBesides
import Derived.Lib.Hide
import Derived.ProofKit
import Derived.Deep.Slices
import Derived.Deep.MidRow
import Derived.Deep.RegionHeld3
import Derived.Deep.QuietTactic
import Derived.BigQuiet
namespace Go.Proofs.Ytddpdlggnbkpbaa
open Go.RowKit
set_option linter.unusedVariables false

/-- A part of memory: some blocks, each with what it holds. -/
def Frag : Type := Nat → Option Obj
namespace Frag
def emp : Frag := fun _ => none
def one (b : Nat) (o : Obj) : Frag := fun k => if k = b then some o else none
def join (f g : Frag) : Frag := fun k => (f k).or (g k)
def sub (f g : Frag) : Prop := ∀ k o, f k = some o → g k = some o
def apart (f g : Frag) : Prop := ∀ k, f k = none ∨ g k = none
/-- every block of f is numbered b or above -/
def from_ (f : Frag) (b : Nat) : Prop := ∀ k o, f k = some o → b ≤ k
/-- every block of f is numbered below b -/
def below (f : Frag) (b : Nat) : Prop := ∀ k o, f k = some o → k < b

theorem sub_refl (f : Frag) : f.sub f := fun _ _ h => h
theorem sub_trans {f g h : Frag} (a : f.sub g) (b : g.sub h) : f.sub h := fun k o e => b k o (a k o e)
theorem emp_sub (f : Frag) : emp.sub f := fun k o e => by cases e
theorem sub_join_left (f g : Frag) : f.sub (f.join g) := fun k o e => by simp [join, e]
theorem sub_join_right {f g : Frag} (h : f.apart g) : g.sub (f.join g) := fun k o e => by
  rcases h k with h | h
  · simp [join, h, e]
  · rw [h] at e; cases e
theorem apart_symm {f g : Frag} (h : f.apart g) : g.apart f := fun k => (h k).symm
theorem apart_emp (f : Frag) : f.apart emp := fun _ => .inr rfl
theorem emp_apart (f : Frag) : emp.apart f := fun _ => .inl rfl
theorem apart_sub {f g f' g' : Frag} (h : f.apart g) (hf : f'.sub f) (hg : g'.sub g) : f'.apart g' := fun k => by
  rcases h k with h | h
  · left
    cases e : f' k with
    | none => rfl
    | some o => rw [hf k o e] at h; cases h
  · right
    cases e : g' k with
    | none => rfl
    | some o => rw [hg k o e] at h; cases h
theorem apart_of {f g : Frag} {b : Nat} (hf : f.below b) (hg : g.from_ b) : f.apart g := fun k => by
  cases e : f k with
  | none => exact .inl rfl
  | some o =>
    right
    cases e' : g k with
    | none => rfl
    | some o' => have := hf k o e; have := hg k o' e'; omega
theorem join_apart {f g h : Frag} (a : f.apart h) (b : g.apart h) : (f.join g).apart h := fun k => by
  rcases a k with x | x
  · rcases b k with y | y
    · left; simp [join, x, y]
    · exact .inr y
  · exact .inr x
theorem apart_join {f g h : Frag} (a : h.apart f) (b : h.apart g) : h.apart (f.join g) := apart_symm (join_apart (apart_symm a) (apart_symm b))
theorem from_join {f g : Frag} {b : Nat} (hf : f.from_ b) (hg : g.from_ b) : (f.join g).from_ b := fun k o e => by
  cases x : f k with
  | none => simp [join, x] at e; exact hg k o e
  | some o' => exact hf k o' x
theorem below_join {f g : Frag} {b : Nat} (hf : f.below b) (hg : g.below b) : (f.join g).below b := fun k o e => by
  cases x : f k with
  | none => simp [join, x] at e; exact hg k o e
  | some o' => exact hf k o' x
theorem from_mono {f : Frag} {b c : Nat} (h : f.from_ b) (hc : c ≤ b) : f.from_ c := fun k o e => Nat.le_trans hc (h k o e)
theorem below_mono {f : Frag} {b c : Nat} (h : f.below b) (hc : b ≤ c) : f.below c := fun k o e => Nat.lt_of_lt_of_le (h k o e) hc
theorem from_emp (b : Nat) : emp.from_ b := fun k o e => by cases e
theorem join_sub {f g h : Frag} (a : f.sub h) (b : g.sub h) : (f.join g).sub h := fun k o e => by
  cases x : f k with
  | none => simp [join, x] at e; exact b k o e
  | some o' => simp [join, x] at e; exact a k o (by rw [x, e])
end Frag

/-- The world holds the part f. -/
def Lies (f : Frag) (w : World) : Prop := ∀ k o, f k = some o → w.heap[k]? = some o
theorem Lies.lt {f : Frag} {w : World} (h : Lies f w) : f.below w.heap.size := fun k o e => (Array.getElem?_eq_some_iff.1 (h k o e)).1
theorem Lies.sub {f g : Frag} {w : World} (h : Lies g w) (hs : f.sub g) : Lies f w := fun k o e => h k o (hs k o e)
theorem Lies.emp (w : World) : Lies Frag.emp w := fun k o e => by cases e
theorem Lies.join {f g : Frag} {w : World} (h : Lies f w) (h' : Lies g w) : Lies (f.join g) w := fun k o e => by
  cases x : f k with
  | none => simp [Frag.join, x] at e; exact h' k o e
  | some o' => simp [Frag.join, x] at e; exact h k o (by rw [x, e])

/-- What has come into the world: new blocks, and draws. -/
structure More where
  blocks : Array Obj
  drawn : Nat
def _root_.Go.World.ext (w : World) (x : More) : World := { w with heap := w.heap ++ x.blocks, drawn := x.drawn }

@[simp] theorem size_ext (w : World) (x : More) : (w.ext x).heap.size = w.heap.size + x.blocks.size := by simp [World.ext]
theorem heap_ext (w : World) (x : More) (k : Nat) (h : k < w.heap.size) : (w.ext x).heap[k]? = w.heap[k]? := by
  simp only [World.ext]
  exact Array.getElem?_append_left h
theorem heap_ext_new (w : World) (x : More) (k : Nat) (h : w.heap.size ≤ k) : (w.ext x).heap[k]? = x.blocks[k - w.heap.size]? := by
  simp only [World.ext]
  exact Array.getElem?_append_right h
theorem cell?_ext (w : World) (x : More) (a : Addr) (h : a.block < w.heap.size) : (w.ext x).cell? a = w.cell? a :=
  World.cell?_of_block (heap_ext w x _ h)
theorem frozen?_ext (w : World) (x : More) (a : Addr) (h : a.block < w.heap.size) : (w.ext x).frozen? a = w.frozen? a :=
  World.frozen?_of_block (heap_ext w x _ h)
theorem setCell_ext (w : World) (x : More) (a : Addr) (v : Value) (h : a.block < w.heap.size) : (w.ext x).setCell a v = (w.setCell a v).ext x := by
  simp only [World.ext, World.setCell]
  congr 1
  apply Array.ext_getElem?
  intro i
  simp only [Array.getElem?_modify, Array.getElem?_append, Array.size_modify]
  by_cases hi : a.block = i
  · subst hi; simp [h]
  · simp [hi]
theorem ext_ext (w : World) (x y : More) : (w.ext x).ext y = w.ext ⟨x.blocks ++ y.blocks, y.drawn⟩ := by simp [World.ext, Array.append_assoc]
theorem alloc_ext (w : World) (o : Obj) : w.alloc o = w.ext ⟨#[o], w.drawn⟩ := by unfold World.alloc World.ext; rw [Array.push_eq_append]
theorem drew_ext (w : World) : w.drew = w.ext ⟨#[], w.drawn + 1⟩ := by unfold World.ext World.drew; simp only [Array.append_empty]
theorem self_ext (w : World) : w = w.ext ⟨#[], w.drawn⟩ := by simp [World.ext]
theorem ext_drew (w : World) (x : More) : (w.ext x).drew = w.ext ⟨x.blocks, x.drawn + 1⟩ := rfl

/-- w' is w with new blocks and draws, and nothing else. -/
def Grew (w w' : World) : Prop := ∃ x, w' = w.ext x
theorem Grew.refl (w : World) : Grew w w := ⟨_, self_ext w⟩
theorem Grew.ext {w w' : World} (h : Grew w w') (x : More) : Grew w (w'.ext x) := by
  obtain ⟨y, rfl⟩ := h; exact ⟨_, ext_ext _ _ _⟩
theorem Grew.trans {a b c : World} (h : Grew a b) (k : Grew b c) : Grew a c := by obtain ⟨x, rfl⟩ := k; exact h.ext x
theorem Grew.alloc {w w' : World} (h : Grew w w') (o : Obj) : Grew w (w'.alloc o) := by rw [alloc_ext]; exact h.ext _
theorem Grew.drew {w w' : World} (h : Grew w w') : Grew w w'.drew := by rw [drew_ext]; exact h.ext _
theorem Grew.size {w w' : World} (h : Grew w w') : w.heap.size ≤ w'.heap.size := by obtain ⟨x, rfl⟩ := h; simp
theorem Grew.block {w w' : World} (h : Grew w w') (k : Nat) (hk : k < w.heap.size) : w'.heap[k]? = w.heap[k]? := by
  obtain ⟨x, rfl⟩ := h; exact heap_ext _ _ _ hk
/-- From Below's five limbs. -/
theorem Grew.of_below {w w' : World} (h : Below w.heap.size w w') : Grew w w' := by
  refine ⟨⟨w'.heap.extract w.heap.size w'.heap.size, w'.drawn⟩, ?_⟩
  have hb := h.block
  have hs := h.size
  have hos := h.os
  have ht := h.tape
  have ho := h.output
  obtain ⟨hp, tp, dr, os, out⟩ := w'
  simp only at *
  subst hos ht ho
  simp only [World.ext]
  congr 1
  apply Array.ext_getElem?
  intro i
  rw [Array.getElem?_append]
  split
  · rename_i hi; exact hb i hi
  · rename_i hi
    rw [Array.getElem?_extract]
    split
    · congr 1; omega
    · exact Array.getElem?_eq_none (by omega)
theorem Grew.below {w w' : World} (h : Grew w w') : Below w.heap.size w w' := by
  obtain ⟨x, rfl⟩ := h
  exact ⟨rfl, rfl, rfl, by simp, fun k hk => heap_ext _ _ _ hk⟩

theorem Lies.ext {f : Frag} {w : World} (h : Lies f w) (x : More) : Lies f (w.ext x) := fun k o e => by
  rw [heap_ext w x k (h.lt k o e)]; exact h k o e
theorem Lies.grew {f : Frag} {w w' : World} (h : Lies f w) (g : Grew w w') : Lies f w' := by obtain ⟨x, rfl⟩ := g; exact h.ext x
theorem Lies.alloc {f : Frag} {w : World} (h : Lies f w) (o : Obj) : Lies f (w.alloc o) := by rw [alloc_ext]; exact h.ext _
theorem Lies.drew {f : Frag} {w : World} (h : Lies f w) : Lies f w.drew := h
theorem Lies.setCell {f : Frag} {w : World} (h : Lies f w) {a : Addr} (ha : f a.block = none) (v : Value) : Lies f (w.setCell a v) := fun k o e => by
  rw [heap_setCell_other _ _ _ _ (fun hk => by rw [← hk, e] at ha; cases ha)]; exact h k o e
/-- f lies in what has come in since the heap had n blocks -/
def In (n : Nat) (x : More) (f : Frag) : Prop := ∀ k o, f k = some o → n ≤ k ∧ x.blocks[k - n]? = some o
theorem In.lies {n : Nat} {x : More} {f : Frag} (h : In n x f) {w : World} (hn : w.heap.size = n) : Lies f (w.ext x) := fun k o e => by
  obtain ⟨h1, h2⟩ := h k o e
  rw [heap_ext_new w x k (by omega), hn]; exact h2
theorem In.from_ {n : Nat} {x : More} {f : Frag} (h : In n x f) : f.from_ n := fun k o e => (h k o e).1
theorem In.of_lies {w : World} {x : More} {f : Frag} (h : Lies f (w.ext x)) (hf : f.from_ w.heap.size) : In w.heap.size x f := fun k o e =>
  ⟨hf k o e, by rw [← heap_ext_new w x k (hf k o e)]; exact h k o e⟩
theorem In.emp (n : Nat) (x : More) : In n x Frag.emp := fun k o e => by cases e


/-- Cell o of block b in the part f. -/
def Frag.cell (f : Frag) (b o : Nat) : Option Value :=
  match f b with
  | some (.cells c _ _) => c[o]?
  | _ => none
theorem Lies.cell {f : Frag} {w : World} (h : Lies f w) {b o : Nat} {v : Value} (e : f.cell b o = some v) : w.cell? ⟨b, o, none⟩ = some v := by
  unfold Frag.cell at e
  cases x : f b with
  | none => rw [x] at e; cases e
  | some ob =>
    rw [x] at e
    cases ob <;> simp at e
    rename_i c t fr
    rw [cell_of_row w b o c t fr (h b _ x)]
    simpa using e
theorem Frag.cell_sub {f g : Frag} (h : f.sub g) {b o : Nat} {v : Value} (e : f.cell b o = some v) : g.cell b o = some v := by
  unfold Frag.cell at *
  cases x : f b with
  | none => rw [x] at e; cases e
  | some ob => rw [h b _ x]; rw [x] at e; exact e

/-- The slice value s reads, in f, as n elements whose cells are cs, one after another. -/
def RdRow (f : Frag) (s : Value) (n : Nat) (cs : List Value) : Prop :=
  ∃ a cap, s = .slice a n cap ∧ n ≤ cap ∧ cap ≤ maxLen ∧
    match a with
    | none => cap = 0 ∧ cs = []
    | some ad => ∀ i c, cs[i]? = some c → ad.spot = none ∧ f.cell ad.block (ad.off + i) = some c

/-- The slice value s owns, in f, a row from its head: n elements of sz cells each, of type e; their cells are cs. -/
def OwnRow (e sz : Nat) (f : Frag) (s : Value) (n : Nat) (cs : List Value) : Prop :=
  cs.length = n * sz ∧
  (((∃ a, s = .slice a 0 0) ∧ n = 0) ∨
   ∃ g cap cur, s = .slice (some ⟨g, 0, none⟩) n cap ∧ f g = some (.cells cur e (0, 0)) ∧ n ≤ cap ∧ cap ≤ maxLen ∧ cur.size = cap * sz ∧ cur.toList.take (n * sz) = cs)

theorem RdRow.sub {f g : Frag} {s : Value} {n : Nat} {cs : List Value} (h : RdRow f s n cs) (hs : f.sub g) : RdRow g s n cs := by
  obtain ⟨a, cap, rfl, h1, h2, h3⟩ := h
  refine ⟨a, cap, rfl, h1, h2, ?_⟩
  cases a with
  | none => exact h3
  | some ad => exact fun i c hc => ⟨(h3 i c hc).1, Frag.cell_sub hs (h3 i c hc).2⟩
theorem OwnRow.sub {e sz : Nat} {f g : Frag} {s : Value} {n : Nat} {cs : List Value} (h : OwnRow e sz f s n cs) (hs : f.sub g) : OwnRow e sz g s n cs := by
  obtain ⟨hl, h | ⟨b, cap, cur, h1, h2, h3⟩⟩ := h
  · exact ⟨hl, .inl h⟩
  · exact ⟨hl, .inr ⟨b, cap, cur, h1, hs b _ h2, h3⟩⟩
theorem OwnRow.nil (e sz : Nat) (f : Frag) : OwnRow e sz f (.slice none 0 0) 0 [] := ⟨by simp, .inl ⟨⟨_, rfl⟩, rfl⟩⟩
theorem OwnRow.zero (e sz : Nat) (f : Frag) (a : Option Addr) : OwnRow e sz f (.slice a 0 0) 0 [] := ⟨by simp, .inl ⟨⟨_, rfl⟩, rfl⟩⟩
theorem OwnRow.rd {e sz : Nat} {f : Frag} {s : Value} {n : Nat} {cs : List Value} (h : OwnRow e sz f s n cs) : RdRow f s n cs := by
  obtain ⟨hl, ⟨⟨a, rfl⟩, rfl⟩ | ⟨b, cap, cur, rfl, h2, h3, h4, h5, h6⟩⟩ := h
  · have hnil : cs = [] := List.eq_nil_of_length_eq_zero (by simpa using hl)
    subst hnil
    refine ⟨a, 0, rfl, Nat.le_refl _, Nat.zero_le _, ?_⟩
    cases a with
    | none => exact ⟨rfl, rfl⟩
    | some ad => exact fun i c hc => by simp at hc
  · refine ⟨_, cap, rfl, h3, h4, fun i c hc => ⟨rfl, ?_⟩⟩
    unfold Frag.cell
    rw [h2]
    simp only [Nat.zero_add]
    rw [← h6, List.getElem?_take] at hc
    split at hc
    · simpa using hc
    · cases hc
def encB (l : List UInt8) : List Value := l.map fun b => .int .u8 b.toNat
def encI (l : List Int) : List Value := l.map fun n => .int .i64 n
/-- bytes -/
def RdB (f : Frag) (s : Value) (l : List UInt8) : Prop := RdRow f s l.length (encB l)
def OwnB (f : Frag) (s : Value) (l : List UInt8) : Prop := OwnRow 5 1 f s l.length (encB l)
theorem OwnB.rd {f : Frag} {s : Value} {l : List UInt8} (h : OwnB f s l) : RdB f s l := OwnRow.rd h
theorem length_encB (l : List UInt8) : (encB l).length = l.length := by simp [encB]
theorem RdB.out {f : Frag} {s : Value} {l : List UInt8} (h : RdB f s l) : ∃ a cap, s = .slice a l.length cap ∧ l.length ≤ cap ∧ cap ≤ maxLen ∧
    (∀ i, i < l.length → ∃ b o, a = some ⟨b, o, none⟩ ∧ f.cell b (o + i) = some (.int .u8 (l.getD i 0).toNat)) := by
  obtain ⟨a, cap, rfl, h1, h2, h3⟩ := h
  refine ⟨a, cap, rfl, h1, h2, fun i hi => ?_⟩
  cases a with
  | none => have h3 := h3.2; simp [encB] at h3; subst h3; simp at hi
  | some ad =>
    obtain ⟨b, o, sp⟩ := ad
    obtain ⟨hs, h4⟩ := h3 i (.int .u8 (l.getD i 0).toNat) (by simp [encB, List.getD, List.getElem?_eq_getElem hi])
    simp only at hs
    subst hs
    exact ⟨b, o, rfl, h4⟩
/-- bytes, not none of them: the address -/
theorem RdB.addr {f : Frag} {s : Value} {l : List UInt8} (h : RdB f s l) (hl : 0 < l.length) : ∃ b o cap, s = .slice (some ⟨b, o, none⟩) l.length cap ∧ l.length ≤ cap ∧ cap ≤ maxLen ∧
    (∀ i, i < l.length → f.cell b (o + i) = some (.int .u8 (l.getD i 0).toNat)) := by
  obtain ⟨a, cap, rfl, h1, h2, h3⟩ := h.out
  obtain ⟨b, o, rfl, _⟩ := h3 0 hl
  refine ⟨b, o, cap, rfl, h1, h2, fun i hi => ?_⟩
  obtain ⟨b', o', e, h4⟩ := h3 i hi
  cases e
  exact h4

/-- It returns v, and memory has but grown. -/
def Ret (w : World) (v : Value) (e : Ending) (w' : World) : Prop := e = .returned v ∧ Grew w w'
theorem Ret.mk {w : World} {v v' : Value} {w' : World} (h : v' = v) (g : Grew w w') : Ret w v (.returned v') w' := ⟨by rw [h], g⟩
theorem Ret.out {w : World} {v : Value} {e : Ending} {w' : World} (h : Ret w v e w') : e = .returned v ∧ ∃ x, w' = w.ext x := h
theorem Grew.drewN {w w' : World} (h : Grew w w') (n : Nat) : Grew w (w'.drewN n) := by
  have : w'.drewN n = w'.ext ⟨#[], w'.drawn + n⟩ := by simp [World.drewN, World.ext]
  rw [this]; exact h.ext _
theorem Lies.drewN {f : Frag} {w : World} (h : Lies f w) (n : Nat) : Lies f (w.drewN n) := h.grew ((Grew.refl w).drewN n)
/-- It returns a value that reads, out of a part of memory that is new, as Ψ says. -/
def Gives (w : World) (Ψ : Value → Frag → Prop) (e : Ending) (w' : World) : Prop :=
  ∃ v f, e = .returned v ∧ Grew w w' ∧ Lies f w' ∧ f.from_ w.heap.size ∧ Ψ v f
theorem Gives.mk {w : World} {Ψ : Value → Frag → Prop} {v : Value} {w' : World} (f : Frag) (g : Grew w w') (hl : Lies f w') (hf : f.from_ w.heap.size) (h : Ψ v f) : Gives w Ψ (.returned v) w' := ⟨v, f, rfl, g, hl, hf, h⟩
theorem Gives.out {w : World} {Ψ : Value → Frag → Prop} {e : Ending} {w' : World} (h : Gives w Ψ e w') :
    ∃ v f x, e = .returned v ∧ w' = w.ext x ∧ In w.heap.size x f ∧ Ψ v f := by
  obtain ⟨v, f, h1, ⟨x, rfl⟩, h3, h4, h5⟩ := h
  exact ⟨v, f, x, h1, rfl, In.of_lies h3 h4, h5⟩
attribute [simp] cell?_ext frozen?_ext setCell_ext

def szb (n : Nat) (left : Int) : Int := if left < n then -1 else left - n
theorem szb_neg {n : Nat} {left : Int} (h : left < n) : szb n left = -1 := by unfold szb; rw [if_pos h]
theorem szb_pos {n : Nat} {left : Int} (h : n ≤ left) : szb n left = left - n := by unfold szb; rw [if_neg (by omega)]
theorem szb_le {n : Nat} {left : Int} (h : 0 ≤ left) : szb n left ≤ left := by unfold szb; split <;> omega
theorem szb_lt {n : Nat} {left : Int} (h : 0 ≤ left) : szb n left < 0 ↔ left < n := by unfold szb; split <;> omega
theorem szb_add {n m : Nat} {left : Int} (h : ¬ szb n left < 0) (h0 : 0 ≤ left) : szb m (szb n left) = szb (n + m) left := by
  unfold szb at *; repeat split
  all_goals (repeat (split at h)) <;> (repeat split) <;> omega
theorem szb_stop {n m : Nat} {left : Int} (h : szb n left < 0) : szb (n + m) left = -1 := by
  unfold szb at *; split at h <;> (repeat split) <;> omega
def eqb {α : Type} [DecidableEq α] (a b : α) : Bool := decide (a = b)
theorem eqb_false {α : Type} [DecidableEq α] {a b : α} (h : a ≠ b) : eqb a b = false := decide_eq_false h
theorem eqb_true {α : Type} [DecidableEq α] {a b : α} (h : a = b) : eqb a b = true := decide_eq_true h
theorem of_eqb_false {α : Type} [DecidableEq α] {a b : α} (h : eqb a b = false) : a ≠ b := of_decide_eq_false h
theorem of_eqb_true {α : Type} [DecidableEq α] {a b : α} (h : eqb a b = true) : a = b := of_decide_eq_true h
theorem take_succ_getD (l : List UInt8) (k : Nat) (h : k < l.length) : l.take (k + 1) = l.take k ++ [l.getD k 0] := by
  rw [List.take_succ_eq_append_getElem h]; simp [List.getD, List.getElem?_eq_getElem h]

/-- Memory has grown, and of what was there only blocks of f may have turned. -/
structure Moved (f : Frag) (w w' : World) : Prop where
  os : w'.os = w.os
  tape : w'.tape = w.tape
  output : w'.output = w.output
  size : w.heap.size ≤ w'.heap.size
  block : ∀ k, k < w.heap.size → f k = none → w'.heap[k]? = w.heap[k]?
theorem Moved.refl (f : Frag) (w : World) : Moved f w w := ⟨rfl, rfl, rfl, Nat.le_refl _, fun _ _ _ => rfl⟩
theorem Moved.of_grew {f : Frag} {w w' : World} (h : Grew w w') : Moved f w w' := by
  obtain ⟨x, rfl⟩ := h
  exact ⟨rfl, rfl, rfl, by simp, fun k hk _ => heap_ext _ _ _ hk⟩
theorem Moved.lies {f g : Frag} {w w' : World} (h : Moved f w w') (hg : Lies g w) (ha : g.apart f) : Lies g w' := fun k o e => by
  rw [h.block k (hg.lt k o e) ((ha k).resolve_left (by rw [e]; simp))]; exact hg k o e
/-- what has turned is new since a base: the base has but grown -/
theorem Moved.grew {f : Frag} {b w w' : World} (h : Moved f w w') (hb : Grew b w) (hf : f.from_ b.heap.size) : Grew b w' := by
  refine Grew.of_below ⟨?_, ?_, ?_, Nat.le_trans hb.size h.size, fun k hk => ?_⟩
  · rw [h.os]; exact hb.below.os
  · rw [h.tape]; exact hb.below.tape
  · rw [h.output]; exact hb.below.output
  · rw [h.block k (Nat.lt_of_lt_of_le hk hb.size) ?_]
    · exact hb.block k hk
    · cases e : f k with
      | none => rfl
      | some o => have := hf k o e; omega
/-- Each block of f' is one of f's, or numbered n or above. -/
def Frag.newOr (f' f : Frag) (n : Nat) : Prop := ∀ k o, f' k = some o → f k ≠ none ∨ n ≤ k
theorem Frag.newOr.from_ {f' f : Frag} {n b : Nat} (h : f'.newOr f n) (hf : f.from_ b) (hb : b ≤ n) : f'.from_ b := fun k o e => by
  rcases h k o e with h | h
  · cases x : f k with
    | none => exact absurd x h
    | some o' => exact hf k o' x
  · omega
theorem Frag.newOr.apart {f' f g : Frag} {n : Nat} (h : f'.newOr f n) (hg : g.apart f) (hn : g.below n) : g.apart f' := fun k => by
  cases e : g k with
  | none => exact .inl rfl
  | some o =>
    right
    cases e' : f' k with
    | none => rfl
    | some o' =>
      rcases h k o' e' with h | h
      · rcases hg k with x | x
        · rw [e] at x; cases x
        · exact absurd x h
      · have := hn k o e; omega
theorem Frag.newOr_refl (f : Frag) (n : Nat) : f.newOr f n := fun k o e => .inl (by rw [e]; simp)

theorem one_lies {w : World} {b : Nat} {o : Obj} (h : w.heap[b]? = some o) : Lies (Frag.one b o) w := fun k o' e => by
  simp only [Frag.one] at e
  split at e
  · rename_i hk; subst hk; cases e; exact h
  · cases e
theorem one_from (b n : Nat) (o : Obj) (h : n ≤ b) : (Frag.one b o).from_ n := fun k o' e => by
  simp only [Frag.one] at e
  split at e
  · omega
  · cases e
theorem one_self (b : Nat) (o : Obj) : Frag.one b o b = some o := by simp [Frag.one]
theorem one_newOr_new (b n : Nat) (o : Obj) (f : Frag) (h : n ≤ b) : (Frag.one b o).newOr f n := fun k o' e => .inr (one_from b n o h k o' e)
theorem one_newOr_old {b : Nat} (n : Nat) (o : Obj) {f : Frag} {o0 : Obj} (h : f b = some o0) : (Frag.one b o).newOr f n := fun k o' e => by
  simp only [Frag.one] at e
  split at e
  · rename_i hk; subst hk; left; rw [h]; simp
  · cases e

section
variable {P : Program} (w : World)
theorem ownRow_grown (e sz : Nat) (z : Value) (hzs : z.cells.size = sz) (xs news : List Value) (n m need old : Nat) (hx : xs.length = n * sz) (hn : news.length = m * sz) (hneed : need = n + m)
    (h63 : n + m ≤ maxLen) :
    OwnRow e sz (Frag.one w.heap.size (.cells (xs.toArray ++ news.toArray ++ Builtin.zeroCells z.cells (grownCap w need old e - need)) e))
      (.slice (some ⟨w.heap.size, 0, none⟩) (n + m) (grownCap w need old e)) (n + m) (xs ++ news) := by
  subst hneed
  have hlen : (xs ++ news).length = (n + m) * sz := by rw [List.length_append, hx, hn, Nat.add_mul]
  have hge := grownCap_ge w (n + m) old e
  have hcm := grownCap_le_maxLen w (n + m) old e h63
  refine ⟨hlen, .inr ⟨w.heap.size, _, _, rfl, one_self _ _, hge, hcm, ?_, ?_⟩⟩
  · simp only [Array.size_append, List.size_toArray, size_zeroCells, hzs, hx, hn, ← Nat.add_mul]
    congr 1
    omega
  · simp only [Array.toList_append, List.append_assoc]
    rw [← List.append_assoc, ← hlen]
    exact List.take_left
/-- APPEND: onto a row that is owned, from whatever is read. -/
theorem run_append_frag (t ty e : TypeId) (i : TypeInfo) (z : Value) (sz : Nat) (ht : P.underlying t = some (.slice e)) (hi : P.info? e = some i) (hz : i.zero = some z) (hsz : i.size = sz)
    (hzs : z.cells.size = sz) (h0 : 0 < sz) {f g : Frag} {s x : Value} {n m : Nat} {xs news : List Value} (hs : OwnRow e sz f s n xs) (hf : Lies f w) (hx : RdRow g x m news) (hg : Lies g w)
    (hl : news.length = m * sz) (h1 : ∀ u ∈ news, u.oneCell' = true) (h63 : n + m ≤ maxLen) (hb : (n + m) * i.bytes ≤ 140737488355328) :
    ∃ v' w' f', (Builtin.append_ #[t, t] ty #[s, x]).run P w = .ok v' w' ∧ OwnRow e sz f' v' (n + m) (xs ++ news) ∧ Lies f' w' ∧ Moved f w w' ∧ f'.newOr f w.heap.size := by
  subst hsz
  have hsmall : n + m ≤ 9223372036854775807 := by simp only [maxLen] at h63; omega
  obtain ⟨ad, c, rfl, hmc, hcm, hrd⟩ := hx
  by_cases hm : m = 0
  · subst hm
    have hn : news = [] := List.eq_nil_of_length_eq_zero (by simpa using hl)
    subst hn
    have hform : ∃ a cap, s = .slice a n cap ∧ n ≤ cap := by
      rcases hs.2 with ⟨⟨a, rfl⟩, rfl⟩ | ⟨b, cap, cur, rfl, _, h3, _⟩
      · exact ⟨a, 0, rfl, Nat.le_refl _⟩
      · exact ⟨_, cap, rfl, h3⟩
    obtain ⟨a, cap, rfl, hcap⟩ := hform
    refine ⟨.slice a n cap, w, f, ?_, by simpa using hs, hf, Moved.refl _ _, Frag.newOr_refl _ _⟩
    cases ad <;> cases a <;> simp [Builtin.append_, run_underlying ht, sizeOf, typeInfo, hi, Builtin.lenOf, Builtin.firstCells, hcap, loadCells, loadCellsFrom, storeCells]
  · cases ad with
    | none => obtain ⟨_, hn⟩ := hrd; subst hn; simp at hl; omega
    | some ad =>
      have hpos : 0 < news.length := by rw [hl]; exact Nat.mul_pos (by omega) h0
      have hsp : ad.spot = none := (hrd 0 (news[0]'hpos) (by simp)).1
      obtain ⟨gb, go, gs⟩ := ad
      simp only at hsp
      subst hsp
      have hnews : ∀ j u, news[j]? = some u → w.cell? ((⟨gb, go, none⟩ : Addr).add j) = some u := fun j u hu => by
        rw [Addr.add_mid]; exact hg.cell (hrd j u hu).2
      rcases hs.2 with ⟨⟨a, rfl⟩, rfl⟩ | ⟨b, cap, cur, rfl, hgb, hnc, hcap, hcs, htake⟩
      · have hxs : xs = [] := List.eq_nil_of_length_eq_zero (by simpa using hs.1)
        subst hxs
        have hr : (Builtin.append_ #[t, t] ty #[.slice a 0 0, .slice (some ⟨gb, go, none⟩) m c]).run P w =
            .ok (.slice (some ⟨w.heap.size, 0, none⟩) (0 + m) (grownCap w (0 + m) 0 e)) (w.drew.alloc (.cells (([] : List Value).toArray ++ news.toArray ++ Builtin.zeroCells z.cells (grownCap w (0 + m) 0 e - (0 + m))) e)) := by
          cases a with
          | none =>
            have := run_append_nil (P := P) w t ty e i z ht hi hz ⟨gb, go, none⟩ m c news hl hnews (by omega) (by omega) (by have hb := hb; simp only [Nat.zero_add] at hb; omega)
            simpa using this
          | some ad =>
            exact run_append_grow (P := P) w t ty e i z ht hi hz ad 0 0 [] (by simp) (by simp) ⟨gb, go, none⟩ m c news hl hnews (by omega) (by omega) (growslice_fits (by omega) hb)
        refine ⟨_, _, _, hr, ownRow_grown w e i.size z hzs [] news 0 m (0 + m) 0 (by simp) hl rfl h63, ?_, Moved.of_grew ((Grew.refl w).drew.alloc _), one_newOr_new _ _ _ _ (Nat.le_refl _)⟩
        exact one_lies (heap_alloc_new w.drew _)
      · by_cases hroom : n + m ≤ cap
        · have hfit : n * i.size + news.length ≤ cur.size := by rw [hl, hcs, ← Nat.add_mul]; exact Nat.mul_le_mul_right _ hroom
          have hr := run_append_room (P := P) w t ty e i ht hi b n cap cur (hf b _ hgb) ⟨gb, go, none⟩ m c news hl hnews h1 hroom hfit
          have hlen : (xs ++ news).length = (n + m) * i.size := by rw [List.length_append, hs.1, hl, Nat.add_mul]
          refine ⟨_, _, _, hr, ⟨hlen, .inr ⟨b, cap, _, rfl, one_self _ _, hroom, hcap, ?_, ?_⟩⟩, one_lies (setRow_heap w b cur _ e _ (hf b _ hgb)), ⟨rfl, rfl, rfl, by simp, fun k _ hk => setRow_other w b k _ (fun e => by rw [e, hgb] at hk; cases hk)⟩, one_newOr_old _ _ hgb⟩
          · simp only [List.size_toArray, List.length_append, List.length_take, List.length_drop, Array.length_toList]
            omega
          · rw [htake, ← hlen]
            exact List.take_left
        · have holds : ∀ j u, xs[j]? = some u → w.cell? ((⟨b, 0, none⟩ : Addr).add j) = some u := fun j u hu => by
            rw [Addr.add_mid, cell_of_row w b _ cur e (0, 0) (hf b _ hgb), Nat.zero_add]
            rw [← htake, List.getElem?_take] at hu
            split at hu
            · simpa using hu
            · cases hu
          have hr := run_append_grow (P := P) w t ty e i z ht hi hz ⟨b, 0, none⟩ n cap xs hs.1 holds ⟨gb, go, none⟩ m c news hl hnews (by omega) (by omega) (growslice_fits (by omega) hb)
          refine ⟨_, _, _, hr, ownRow_grown w e i.size z hzs xs news n m (n + m) cap hs.1 hl rfl h63, one_lies (heap_alloc_new w.drew _), Moved.of_grew ((Grew.refl w).drew.alloc _), one_newOr_new _ _ _ _ (Nat.le_refl _)⟩
/-- .. onto a slice without any room: nothing that was there turns. -/
theorem run_append_zero (t ty e : TypeId) (i : TypeInfo) (z : Value) (sz : Nat) (ht : P.underlying t = some (.slice e)) (hi : P.info? e = some i) (hz : i.zero = some z) (hsz : i.size = sz)
    (hzs : z.cells.size = sz) (h0 : 0 < sz) {g : Frag} {a : Option Addr} {x : Value} {m : Nat} {news : List Value} (hx : RdRow g x m news) (hg : Lies g w)
    (hl : news.length = m * sz) (h1 : ∀ u ∈ news, u.oneCell' = true) (h63 : m ≤ maxLen) (hb : m * i.bytes ≤ 140737488355328) :
    ∃ v' y f', (Builtin.append_ #[t, t] ty #[.slice a 0 0, x]).run P w = .ok v' (w.ext y) ∧ OwnRow e sz f' v' m news ∧ In w.heap.size y f' := by
  obtain ⟨v', w', f', h2, h3, h4, h5, h6⟩ := run_append_frag w t ty e i z sz ht hi hz hsz hzs h0 (OwnRow.zero e sz Frag.emp a) (Lies.emp w) hx hg hl h1 (by omega) (by simpa using hb)
  obtain ⟨y, rfl⟩ := h5.grew (Grew.refl w) (Frag.from_emp _)
  simp only [Nat.zero_add, List.nil_append] at h3
  exact ⟨v', y, f', h2, h3, In.of_lies h4 (h6.from_ (Frag.from_emp _) (Nat.le_refl _))⟩
end

/-- What is asked of a slice type t with elements of type e: its zero element, its cells, its bytes. -/
structure RowTy (P : Program) (t e : TypeId) (z : Value) (sz bytes : Nat) : Prop where
  ht : P.underlying t = some (.slice e)
  hi : (P.info? e).map (fun i => (i.zero, i.size, i.bytes)) = some (some z, sz, bytes)
  hz : z.cells.size = sz
  h0 : 0 < sz
theorem RowTy.info {P : Program} {t e : TypeId} {z : Value} {sz bytes : Nat} (R : RowTy P t e z sz bytes) : ∃ i, P.info? e = some i ∧ i.zero = some z ∧ i.size = sz ∧ i.bytes = bytes := by
  have := R.hi
  cases h : P.info? e with
  | none => rw [h] at this; cases this
  | some i => rw [h] at this; simp at this; exact ⟨i, rfl, this.1, this.2.1, this.2.2⟩

section
variable {P : Program} {w : World} {ops : Array Oper} {rest : List Oper} {o : Oper} {a : Act} {Q : Exit → Act → World → Prop} {K : Act → World → Prop} {t e : TypeId} {z : Value} {sz bytes : Nat}
theorem wp_append_frag (R : RowTy P t e z sz bytes) (s x : Operand) (ho : o.op = .call { callee := .builtin .append, args := #[s, x], argTypes := #[t, t] })
    {f g : Frag} {sv xv : Value} {n m : Nat} {xs news : List Value} (hs : a.eval s = sv) (hx : a.eval x = xv) (hown : OwnRow e sz f sv n xs) (hf : Lies f w) (hrd : RdRow g xv m news) (hg : Lies g w)
    (hl : news.length = m * sz) (h1 : ∀ u ∈ news, u.oneCell' = true) (h63 : n + m ≤ 4294967296) (hb : bytes ≤ 4096)
    (h : ∀ v' w' f', OwnRow e sz f' v' (n + m) (xs ++ news) → Lies f' w' → Moved f w w' → f'.newOr f w.heap.size → K (a.put o.dst v') w') : o.wp P a w K Q := by
  obtain ⟨i, hi, hz, hsz, hby⟩ := R.info
  have hm : (n + m) * bytes ≤ 4294967296 * 4096 := Nat.mul_le_mul h63 hb
  obtain ⟨v', w', f', hr, h2, h3, h4, h5⟩ := run_append_frag (P := P) w t o.type e i z sz R.ht hi hz hsz R.hz R.h0 hown hf hrd hg hl h1 (by unfold maxLen; omega) (by rw [hby]; omega)
  unfold Oper.wp execOp
  simp only [ho, resolve, invoke, builtin, Sem.run_bind, Sem.run_pure, Result.andThen_ok, List.map_toArray, List.map_cons, List.map_nil, hs, hx, hr]
  exact h v' w' f' h2 h3 h4 h5
theorem wp_append_zero (R : RowTy P t e z sz bytes) (s x : Operand) (ho : o.op = .call { callee := .builtin .append, args := #[s, x], argTypes := #[t, t] })
    {g : Frag} {sa : Option Addr} {xv : Value} {m : Nat} {news : List Value} (hs : a.eval s = .slice sa 0 0) (hx : a.eval x = xv) (hrd : RdRow g xv m news) (hg : Lies g w)
    (hl : news.length = m * sz) (h1 : ∀ u ∈ news, u.oneCell' = true) (h63 : m ≤ 4294967296) (hb : bytes ≤ 4096)
    (h : ∀ v' y f', OwnRow e sz f' v' m news → In w.heap.size y f' → K (a.put o.dst v') (w.ext y)) : o.wp P a w K Q := by
  obtain ⟨i, hi, hz, hsz, hby⟩ := R.info
  have hm : m * bytes ≤ 4294967296 * 4096 := Nat.mul_le_mul h63 hb
  obtain ⟨v', y, f', hr, h2, h3⟩ := run_append_zero (P := P) w t o.type e i z sz R.ht hi hz hsz R.hz R.h0 (a := sa) hrd hg hl h1 (by unfold maxLen; omega) (by rw [hby]; omega)
  unfold Oper.wp execOp
  simp only [ho, resolve, invoke, builtin, Sem.run_bind, Sem.run_pure, Result.andThen_ok, List.map_toArray, List.map_cons, List.map_nil, hs, hx, hr]
  exact h v' y f' h2 h3
theorem wpList_append_frag (R : RowTy P t e z sz bytes) (hgd : o.guard = none) (s x : Operand) (ho : o.op = .call { callee := .builtin .append, args := #[s, x], argTypes := #[t, t] })
    {f g : Frag} {sv xv : Value} {n m : Nat} {xs news : List Value} (hs : a.eval s = sv) (hx : a.eval x = xv) (hown : OwnRow e sz f sv n xs) (hf : Lies f w) (hrd : RdRow g xv m news) (hg : Lies g w)
    (hl : news.length = m * sz) (h1 : ∀ u ∈ news, u.oneCell' = true) (h63 : n + m ≤ 4294967296) (hb : bytes ≤ 4096)
    (h : ∀ v' w' f', OwnRow e sz f' v' (n + m) (xs ++ news) → Lies f' w' → Moved f w w' → f'.newOr f w.heap.size → wpList P ops Q rest (a.put o.dst v') w') : wpList P ops Q (o :: rest) a w :=
  wpList_plain hgd fun _ hK => wp_append_frag R s x ho hs hx hown hf hrd hg hl h1 h63 hb fun v' w' f' h2 h3 h4 h5 => hK _ _ (h v' w' f' h2 h3 h4 h5)
theorem wpList_append_zero (R : RowTy P t e z sz bytes) (hgd : o.guard = none) (s x : Operand) (ho : o.op = .call { callee := .builtin .append, args := #[s, x], argTypes := #[t, t] })
    {g : Frag} {sa : Option Addr} {xv : Value} {m : Nat} {news : List Value} (hs : a.eval s = .slice sa 0 0) (hx : a.eval x = xv) (hrd : RdRow g xv m news) (hg : Lies g w)
    (hl : news.length = m * sz) (h1 : ∀ u ∈ news, u.oneCell' = true) (h63 : m ≤ 4294967296) (hb : bytes ≤ 4096)
    (h : ∀ v' y f', OwnRow e sz f' v' m news → In w.heap.size y f' → wpList P ops Q rest (a.put o.dst v') (w.ext y)) : wpList P ops Q (o :: rest) a w :=
  wpList_plain hgd fun _ hK => wp_append_zero R s x ho hs hx hrd hg hl h1 h63 hb fun v' y f' h2 h3 => hK _ _ (h v' y f' h2 h3)
/-- make([]T, n) -/
theorem wp_make_new (R : RowTy P t e z sz bytes) (l c : Operand) (ho : o.op = .makeSlice t l c) (n : Nat) (hl : a.eval l = .int .i64 n) (hc : a.eval c = .int .i64 n) (h63 : n ≤ 4294967296) (hb : bytes ≤ 4096)
    (h : K (a.put o.dst (.slice (some ⟨w.heap.size, 0, none⟩) n n)) (w.alloc (.cells (madeCells z.cells (n * sz)) e))) : o.wp P a w K Q := by
  obtain ⟨i, hi, hz, hsz, hby⟩ := R.info
  have hm : bytes * n ≤ 4096 * 4294967296 := Nat.mul_le_mul hb h63
  have hm' : ((bytes * n : Nat) : Int) ≤ 281474976710656 := by omega
  rw [Int.natCast_mul] at hm'
  have hr := run_make (P := P) w t e i z R.ht hi hz .i64 .i64 n n (by omega) (Int.le_refl _) (by rw [hby]; exact hm') (by omega)
  simp only [Int.toNat_natCast, hsz] at hr
  unfold Oper.wp execOp
  simp only [ho, hl, hc, hr, Sem.run_bind, Sem.run_pure, Result.andThen_ok]
  exact h
theorem wpList_make_new (R : RowTy P t e z sz bytes) (hgd : o.guard = none) (l c : Operand) (ho : o.op = .makeSlice t l c) (n : Nat) (hl : a.eval l = .int .i64 n) (hc : a.eval c = .int .i64 n) (h63 : n ≤ 4294967296) (hb : bytes ≤ 4096)
    (h : wpList P ops Q rest (a.put o.dst (.slice (some ⟨w.heap.size, 0, none⟩) n n)) (w.alloc (.cells (madeCells z.cells (n * sz)) e))) : wpList P ops Q (o :: rest) a w :=
  wpList_plain hgd fun _ hK => wp_make_new R l c ho n hl hc h63 hb (hK _ _ h)
end

theorem one_encB (l : List UInt8) : ∀ u ∈ encB l, u.oneCell' = true := by
  intro u hu; simp only [encB, List.mem_map] at hu; obtain ⟨b, _, rfl⟩ := hu; rfl
theorem one_encI (l : List Int) : ∀ u ∈ encI l, u.oneCell' = true := by
  intro u hu; simp only [encI, List.mem_map] at hu; obtain ⟨b, _, rfl⟩ := hu; rfl
theorem length_encI (l : List Int) : (encI l).length = l.length := by simp [encI]
theorem encB_append (l m : List UInt8) : encB (l ++ m) = encB l ++ encB m := by simp [encB]
theorem encI_append (l m : List Int) : encI (l ++ m) = encI l ++ encI m := by simp [encI]
theorem OwnRow.form {e sz : Nat} {f : Frag} {s : Value} {n : Nat} {cs : List Value} (h : OwnRow e sz f s n cs) : ∃ a cap, s = .slice a n cap := by
  obtain ⟨_, _, h, _⟩ := h.rd; exact ⟨_, _, h⟩
theorem OwnB.form {f : Frag} {s : Value} {l : List UInt8} (h : OwnB f s l) : ∃ a cap, s = .slice a l.length cap := OwnRow.form h
theorem RdRow.form {f : Frag} {s : Value} {n : Nat} {cs : List Value} (h : RdRow f s n cs) : ∃ a cap, s = .slice a n cap := by
  obtain ⟨_, _, h, _⟩ := h; exact ⟨_, _, h⟩
theorem RdB.form {f : Frag} {s : Value} {l : List UInt8} (h : RdB f s l) : ∃ a cap, s = .slice a l.length cap := RdRow.form h
noncomputable def eqc {α : Type} (a b : α) : Bool := @decide (a = b) (Classical.propDecidable _)
theorem eqc_true {α : Type} {a b : α} (h : a = b) : eqc a b = true := by unfold eqc; simp [h]
theorem eqc_false {α : Type} {a b : α} (h : a ≠ b) : eqc a b = false := by unfold eqc; simp [h]
theorem of_eqc_true {α : Type} {a b : α} (h : eqc a b = true) : a = b := by unfold eqc at h; simpa using h
theorem of_eqc_false {α : Type} {a b : α} (h : eqc a b = false) : a ≠ b := by unfold eqc at h; simpa using h

/-! ### Rows of structs -/
theorem flatten_at {css : List (List Value)} {sz : Nat} (hsz : ∀ c ∈ css, c.length = sz) {i j : Nat} {c : List Value} (hc : css[i]? = some c) (hj : j < sz) : css.flatten[i * sz + j]? = c[j]? := by
  induction css generalizing i with
  | nil => simp at hc
  | cons d r ih =>
    have hd : d.length = sz := hsz d (by simp)
    cases i with
    | zero =>
      simp at hc; subst hc
      simp only [List.flatten_cons, Nat.zero_mul, Nat.zero_add]
      rw [List.getElem?_append_left (by omega)]
    | succ i =>
      simp at hc
      simp only [List.flatten_cons]
      rw [List.getElem?_append_right (by rw [hd, Nat.succ_mul]; omega), hd, show (i + 1) * sz + j - sz = i * sz + j by rw [Nat.succ_mul]; omega]
      exact ih (fun c hc => hsz c (by simp [hc])) hc
theorem flatten_length {css : List (List Value)} {sz : Nat} (hsz : ∀ c ∈ css, c.length = sz) : css.flatten.length = css.length * sz := by
  induction css with
  | nil => simp
  | cons d r ih =>
    simp only [List.flatten_cons, List.length_append, List.length_cons, ih (fun c hc => hsz c (by simp [hc])), hsz d (by simp)]
    rw [Nat.succ_mul]; omega

/-- What the elements' cells read as, one by one. -/
def RdElems {α : Type} (sz : Nat) (rd : Frag → List Value → α → Prop) (f : Frag) (css : List (List Value)) (l : List α) : Prop :=
  css.length = l.length ∧ ∀ (i : Nat) (c : List Value) (a : α), css[i]? = some c → l[i]? = some a → c.length = sz ∧ rd f c a
def RdList {α : Type} (sz : Nat) (rd : Frag → List Value → α → Prop) (f : Frag) (s : Value) (l : List α) : Prop :=
  ∃ css, RdRow f s l.length css.flatten ∧ RdElems sz rd f css l
theorem RdElems.len {α : Type} {sz : Nat} {rd : Frag → List Value → α → Prop} {f : Frag} {css : List (List Value)} {l : List α} (h : RdElems sz rd f css l) : ∀ c ∈ css, c.length = sz := by
  intro c hc
  obtain ⟨i, hi⟩ := List.getElem?_of_mem hc
  have hlt : i < l.length := by rw [← h.1]; exact (List.getElem?_eq_some_iff.1 hi).1
  exact (h.2 i c _ hi (List.getElem?_eq_getElem hlt)).1
theorem RdList.form {α : Type} {sz : Nat} {rd : Frag → List Value → α → Prop} {f : Frag} {s : Value} {l : List α} (h : RdList sz rd f s l) : ∃ a cap, s = .slice a l.length cap ∧ cap ≤ maxLen ∧ l.length ≤ cap := by
  obtain ⟨_, ⟨a, cap, rfl, h1, h2, _⟩, _⟩ := h; exact ⟨a, cap, rfl, h2, h1⟩
/-- element k: where it lies, its cells, what they read as -/
theorem RdList.elem {α : Type} {sz : Nat} (hsz : 0 < sz) {rd : Frag → List Value → α → Prop} {f : Frag} {s : Value} {l : List α} (h : RdList sz rd f s l) {k : Nat} (hk : k < l.length) :
    ∃ a b o cap c, l[k]? = some a ∧ s = .slice (some ⟨b, o, none⟩) l.length cap ∧ c.length = sz ∧ rd f c a ∧ ∀ j v, c[j]? = some v → f.cell b (o + (k * sz + j)) = some v := by
  obtain ⟨css, ⟨ad, cap, rfl, h1, h2, h3⟩, he⟩ := h
  have hlt : k < css.length := by rw [he.1]; exact hk
  have hc : css[k]? = some css[k] := List.getElem?_eq_getElem hlt
  have ha : l[k]? = some l[k] := List.getElem?_eq_getElem hk
  obtain ⟨hlen, hrd⟩ := he.2 k _ _ hc ha
  have key : ∀ j v, css[k][j]? = some v → css.flatten[k * sz + j]? = some v := fun j v hv => by
    rw [flatten_at he.len hc (by have := (List.getElem?_eq_some_iff.1 hv).1; omega)]; exact hv
  cases ad with
  | none =>
    have := h3.2
    have h5 := key 0 _ (List.getElem?_eq_getElem (by omega))
    rw [this] at h5; simp at h5
  | some ad =>
    obtain ⟨b, o, sp⟩ := ad
    have h5 := h3 _ _ (key 0 _ (List.getElem?_eq_getElem (by omega)))
    have h6 := h5.1
    simp only at h6
    subst h6
    exact ⟨_, b, o, cap, css[k], ha, rfl, hlen, hrd, fun j v hv => (h3 _ _ (key j v hv)).2⟩

/-- Parts of f, apart from one another. -/
def Parts (f : Frag) (l : List Frag) : Prop := l.Pairwise Frag.apart ∧ ∀ g ∈ l, g.sub f
theorem Parts.nil (f : Frag) : Parts f [] := ⟨.nil, fun g h => by cases h⟩
theorem Parts.cons {g f : Frag} {l : List Frag} (ha : g.apart f) (h : Parts f l) : Parts (g.join f) (g :: l) := by
  refine ⟨List.pairwise_cons.2 ⟨fun x hx => Frag.apart_sub ha (Frag.sub_refl _) (h.2 x hx), h.1⟩, fun x hx => ?_⟩
  rcases List.mem_cons.1 hx with rfl | hx
  · exact Frag.sub_join_left _ _
  · exact Frag.sub_trans (h.2 x hx) (Frag.sub_join_right ha)
theorem Parts.one (g : Frag) : Parts g [g] := ⟨List.pairwise_singleton _ _, fun x hx => by simp at hx; subst hx; exact Frag.sub_refl _⟩
theorem Parts.sub {f g : Frag} {l : List Frag} (h : Parts f l) (hs : f.sub g) : Parts g l := ⟨h.1, fun x hx => Frag.sub_trans (h.2 x hx) hs⟩

def OwnElems {α : Type} (sz : Nat) (own : Frag → List Value → α → Prop) (hs : List Frag) (css : List (List Value)) (l : List α) : Prop :=
  css.length = l.length ∧ hs.length = l.length ∧ ∀ (i : Nat) (h : Frag) (c : List Value) (a : α), hs[i]? = some h → css[i]? = some c → l[i]? = some a → c.length = sz ∧ own h c a
def OwnList {α : Type} (e sz : Nat) (own : Frag → List Value → α → Prop) (f : Frag) (s : Value) (l : List α) : Prop :=
  ∃ css g hs, OwnRow e sz g s l.length css.flatten ∧ Parts f (g :: hs) ∧ OwnElems sz own hs css l
theorem OwnList.form {α : Type} {e sz : Nat} {own : Frag → List Value → α → Prop} {f : Frag} {s : Value} {l : List α} (h : OwnList e sz own f s l) : ∃ a cap, s = .slice a l.length cap := by
  obtain ⟨_, _, _, h, _⟩ := h; exact h.form
theorem OwnElems.rd {α : Type} {sz : Nat} {own rd : Frag → List Value → α → Prop} (hor : ∀ f cs a, own f cs a → rd f cs a) (hsub : ∀ f g cs a, rd f cs a → f.sub g → rd g cs a)
    {hs : List Frag} {css : List (List Value)} {l : List α} {f : Frag} (h : OwnElems sz own hs css l) (hp : ∀ g ∈ hs, g.sub f) : RdElems sz rd f css l := by
  refine ⟨h.1, fun i c a hc ha => ?_⟩
  have hi : i < hs.length := by rw [h.2.1]; exact (List.getElem?_eq_some_iff.1 ha).1
  obtain ⟨h1, h2⟩ := h.2.2 i _ c a (List.getElem?_eq_getElem hi) hc ha
  exact ⟨h1, hsub _ _ _ _ (hor _ _ _ h2) (hp _ (List.getElem_mem _))⟩
theorem OwnList.rd {α : Type} {e sz : Nat} {own rd : Frag → List Value → α → Prop} (hor : ∀ f cs a, own f cs a → rd f cs a) (hsub : ∀ f g cs a, rd f cs a → f.sub g → rd g cs a)
    {f : Frag} {s : Value} {l : List α} (h : OwnList e sz own f s l) : RdList sz rd f s l := by
  obtain ⟨css, g, hs, h1, h2, h3⟩ := h
  exact ⟨css, h1.rd.sub (h2.2 g (by simp)), h3.rd hor hsub (fun x hx => h2.2 x (by simp [hx]))⟩
theorem RdList.sub {α : Type} {sz : Nat} {rd : Frag → List Value → α → Prop} (hsub : ∀ f g cs a, rd f cs a → f.sub g → rd g cs a) {f g : Frag} {s : Value} {l : List α} (h : RdList sz rd f s l) (hs : f.sub g) : RdList sz rd g s l := by
  obtain ⟨css, h1, h2, h3⟩ := h
  exact ⟨css, h1.sub hs, h2, fun i c a hc ha => ⟨(h3 i c a hc ha).1, hsub _ _ _ _ (h3 i c a hc ha).2 hs⟩⟩
theorem OwnElems.snoc {α : Type} {sz : Nat} {own : Frag → List Value → α → Prop} {hs : List Frag} {css : List (List Value)} {l : List α} (h : OwnElems sz own hs css l) {g : Frag} {c : List Value} {a : α}
    (hc : c.length = sz) (ho : own g c a) : OwnElems sz own (hs ++ [g]) (css ++ [c]) (l ++ [a]) := by
  obtain ⟨h1, h2, h3⟩ := h
  refine ⟨by simp [h1], by simp [h2], fun i h' c' a' e1 e2 e3 => ?_⟩
  rcases Nat.lt_trichotomy i l.length with hi | hi | hi
  · rw [List.getElem?_append_left (by omega)] at e1 e2 e3
    exact h3 i h' c' a' e1 e2 e3
  · rw [List.getElem?_append_right (by omega)] at e1 e2 e3
    simp [hi, h1, h2] at e1 e2 e3
    subst e1 e2 e3; exact ⟨hc, ho⟩
  · have := (List.getElem?_eq_some_iff.1 e3).1; simp at this; omega
theorem OwnElems.len {α : Type} {sz : Nat} {own : Frag → List Value → α → Prop} {hs : List Frag} {css : List (List Value)} {l : List α} (h : OwnElems sz own hs css l) : ∀ c ∈ css, c.length = sz := by
  intro c hc
  obtain ⟨i, hi⟩ := List.getElem?_of_mem hc
  have hlt : i < l.length := by rw [← h.1]; exact (List.getElem?_eq_some_iff.1 hi).1
  exact (h.2.2 i _ c _ (List.getElem?_eq_getElem (by rw [h.2.1]; exact hlt)) hi (List.getElem?_eq_getElem hlt)).1
theorem OwnElems.nil {α : Type} (sz : Nat) (own : Frag → List Value → α → Prop) : OwnElems sz own [] [] [] := ⟨rfl, rfl, fun i h c a e => by simp at e⟩
theorem take_snoc {α : Type} {l : List α} {k : Nat} {a : α} (h : l[k]? = some a) : l.take (k + 1) = l.take k ++ [a] := by
  rw [List.take_add_one, h]; rfl

/-- The array C with the cells cs laid in from place o on. -/
def splice (C : Array Value) (o : Nat) (cs : List Value) : Array Value := (C.toList.take o ++ cs ++ C.toList.drop (o + cs.length)).toArray
theorem size_splice {C : Array Value} {o : Nat} {cs : List Value} (h : o + cs.length ≤ C.size) : (splice C o cs).size = C.size := by
  simp [splice]; omega
theorem take_splice {C : Array Value} {o : Nat} {cs : List Value} (h : o + cs.length ≤ C.size) : (splice C o cs).toList.take (o + cs.length) = C.toList.take o ++ cs := by
  have hl : (C.toList.take o ++ cs).length = o + cs.length := by simp; omega
  simp only [splice, ← hl]
  exact List.take_left
theorem setCells_splice (b : Nat) (e : TypeId) : ∀ (cs : List Value) (o : Nat) (C : Array Value) (w : World), w.heap[b]? = some (.cells C e (0, 0)) → o + cs.length ≤ C.size →
    w.setCells b o cs = w.setRow b (splice C o cs) := by
  intro cs
  induction cs with
  | nil =>
    intro o C w hb ho
    have : splice C o [] = C := by simp [splice]
    rw [this, setRow_self w b C e (0, 0) hb]; rfl
  | cons v r ih =>
    intro o C w hb ho
    simp only [List.length_cons] at ho
    show (w.setCell ⟨b, o, none⟩ v).setCells b (o + 1) r = _
    rw [ih (o + 1) (C.setIfInBounds o v) _ (heap_setCell_same w b o C e v hb) (by simp; omega), setCell_eq_setRow w b o C e (0, 0) v hb]
    have h1 : splice (C.setIfInBounds o v) (o + 1) r = splice C o (v :: r) := by
      unfold splice
      congr 1
      rw [Array.toList_setIfInBounds]
      have ho' : o < C.toList.length := by simp; omega
      rw [List.take_set, List.drop_set_of_lt (by omega)]
      rw [List.take_succ_eq_append_getElem ho', List.set_append_right _ _ (by simp; omega)]
      simp [Nat.add_assoc, Nat.add_comm 1]
      have : min o C.size = o := by omega
      simp [this]
    rw [h1]
    simp only [World.setRow]
    congr 1
    apply Array.ext_getElem?
    intro i
    simp only [Array.getElem?_modify]
    by_cases hi : b = i
    · subst hi; simp [hb]
    · simp [hi]

theorem Parts.rev {f : Frag} {l : List Frag} (h : Parts f l) : Parts f l.reverse := by
  refine ⟨List.pairwise_reverse.2 (h.1.imp fun h => Frag.apart_symm h), fun g hg => h.2 g (by simpa using hg)⟩
theorem In.apart {w : World} {x : More} {f g : Frag} (h : In w.heap.size x g) (hl : Lies f w) : f.apart g := Frag.apart_of hl.lt h.from_
/-- what a law's 'sz..' returns: what is left -/
def RetSz (w : World) (n : Nat) (left : Int) (e : Ending) (w' : World) : Prop := ∃ r : Int, e = .returned (.int .i64 r) ∧ r ≤ left ∧ Hid (r = szb n left) ∧ ∃ x, w' = w.ext x
theorem RetSz.mk {w : World} {n : Nat} {left r : Int} {w' : World} (h : szb n left = r) (hle : r ≤ left) (g : Grew w w') : RetSz w n left (.returned (.int .i64 r)) w' := ⟨r, rfl, hle, h.symm, g⟩

/-- integers -/
def RdI (f : Frag) (s : Value) (l : List Int) : Prop := RdRow f s l.length (encI l)
def OwnI (f : Frag) (s : Value) (l : List Int) : Prop := OwnRow 3 1 f s l.length (encI l)
theorem OwnI.rd {f : Frag} {s : Value} {l : List Int} (h : OwnI f s l) : RdI f s l := OwnRow.rd h
theorem OwnI.form {f : Frag} {s : Value} {l : List Int} (h : OwnI f s l) : ∃ a cap, s = .slice a l.length cap := OwnRow.form h
theorem RdI.out {f : Frag} {s : Value} {l : List Int} (h : RdI f s l) : ∃ a cap, s = .slice a l.length cap ∧ l.length ≤ cap ∧ cap ≤ maxLen ∧
    (∀ i, i < l.length → ∃ b o, a = some ⟨b, o, none⟩ ∧ f.cell b (o + i) = some (.int .i64 (l.getD i 0))) := by
  obtain ⟨a, cap, rfl, h1, h2, h3⟩ := h
  refine ⟨a, cap, rfl, h1, h2, fun i hi => ?_⟩
  cases a with
  | none => have h3 := h3.2; simp [encI] at h3; subst h3; simp at hi
  | some ad =>
    obtain ⟨b, o, sp⟩ := ad
    obtain ⟨hs, h4⟩ := h3 i (.int .i64 (l.getD i 0)) (by simp [encI, List.getD, List.getElem?_eq_getElem hi])
    simp only at hs
    subst hs
    exact ⟨b, o, rfl, h4⟩
theorem RdI.addr {f : Frag} {s : Value} {l : List Int} (h : RdI f s l) (hl : 0 < l.length) : ∃ b o cap, s = .slice (some ⟨b, o, none⟩) l.length cap ∧ l.length ≤ cap ∧ cap ≤ maxLen ∧
    (∀ i, i < l.length → f.cell b (o + i) = some (.int .i64 (l.getD i 0))) := by
  obtain ⟨a, cap, rfl, h1, h2, h3⟩ := h.out
  obtain ⟨b, o, rfl, _⟩ := h3 0 hl
  refine ⟨b, o, cap, rfl, h1, h2, fun i hi => ?_⟩
  obtain ⟨b', o', e, h4⟩ := h3 i hi
  cases e
  exact h4
/-- a cell that is a slice of bytes -/
def rdCellB (f : Frag) (cs : List Value) (a : List UInt8) : Prop := ∃ p c, cs = [.slice p a.length c] ∧ RdB f (.slice p a.length c) a
def ownCellB (f : Frag) (cs : List Value) (a : List UInt8) : Prop := ∃ p c, cs = [.slice p a.length c] ∧ OwnB f (.slice p a.length c) a
theorem rdCellB_sub (f g : Frag) (cs : List Value) (a : List UInt8) (h : rdCellB f cs a) (hg : f.sub g) : rdCellB g cs a := by
  obtain ⟨p, c, rfl, h⟩ := h; exact ⟨p, c, rfl, RdRow.sub h hg⟩
theorem ownCellB_rd (f : Frag) (cs : List Value) (a : List UInt8) (h : ownCellB f cs a) : rdCellB f cs a := by
  obtain ⟨p, c, rfl, h⟩ := h; exact ⟨p, c, rfl, OwnB.rd h⟩
def RdBs (f : Frag) (s : Value) (l : List (List UInt8)) : Prop := RdList 1 rdCellB f s l
def OwnBs (f : Frag) (s : Value) (l : List (List UInt8)) : Prop := OwnList 22 1 ownCellB f s l
theorem RdBs.sub {f g : Frag} {s : Value} {l : List (List UInt8)} (h : RdBs f s l) (hg : f.sub g) : RdBs g s l := RdList.sub rdCellB_sub h hg
theorem OwnBs.rd {f : Frag} {s : Value} {l : List (List UInt8)} (h : OwnBs f s l) : RdBs f s l := OwnList.rd ownCellB_rd rdCellB_sub h
theorem OwnBs.form {f : Frag} {s : Value} {l : List (List UInt8)} (h : OwnBs f s l) : ∃ a cap, s = .slice a l.length cap := OwnList.form h
def sumOf : List Nat → Nat
  | [] => 0
  | n :: r => n + sumOf r
def bulkL {α : Type} (b : α → Nat) (l : List α) : Nat := l.length + sumOf (l.map b)
def bulkBs (l : List (List UInt8)) : Nat := bulkL List.length l
theorem sumOf_append (l m : List Nat) : sumOf (l ++ m) = sumOf l + sumOf m := by
  induction l with
  | nil => simp [sumOf]
  | cons a r ih => simp [sumOf, ih]; omega
theorem sumOf_take {α : Type} (b : α → Nat) (l : List α) (k : Nat) : sumOf ((l.take k).map b) ≤ sumOf (l.map b) := by
  have := sumOf_append ((l.take k).map b) ((l.drop k).map b)
  rw [← List.map_append, List.take_append_drop] at this
  omega
theorem bulk_at {α : Type} {b : α → Nat} {l : List α} {k : Nat} {a : α} (h : l[k]? = some a) : b a ≤ sumOf (l.map b) := by
  have h1 := sumOf_take b l (k + 1)
  rw [take_snoc h, List.map_append, sumOf_append] at h1
  simp [sumOf] at h1
  omega
theorem bulkL_le {α : Type} {b : α → Nat} {l : List α} {k : Nat} {a : α} (h : l[k]? = some a) : b a ≤ bulkL b l := by
  have := bulk_at (b := b) h; unfold bulkL; omega
/-- y is x with more -/
def More.sub (x y : More) : Prop := ∀ (k : Nat) (o : Obj), x.blocks[k]? = some o → y.blocks[k]? = some o
theorem In.mono {n : Nat} {x y : More} {f : Frag} (h : In n x f) (hs : x.sub y) : In n y f := fun k o e => ⟨(h k o e).1, hs _ _ (h k o e).2⟩
theorem ext_merge (w : World) (x y : More) : ∃ z, (w.ext x).ext y = w.ext z ∧ x.sub z := by
  refine ⟨_, ext_ext w x y, fun k o e => ?_⟩
  rw [Array.getElem?_append_left (Array.getElem?_eq_some_iff.1 e).1]; exact e
theorem Grew.merge {w w' : World} {x : More} (h : Grew (w.ext x) w') : ∃ z, w' = w.ext z ∧ x.sub z := by
  obtain ⟨y, rfl⟩ := h; exact ext_merge w x y
theorem Ret.merge {w : World} {x : More} {v : Value} {e : Ending} {w' : World} (h : Ret (w.ext x) v e w') : e = .returned v ∧ ∃ z, w' = w.ext z ∧ x.sub z := ⟨h.1, h.2.merge⟩
theorem RetSz.merge {w : World} {x : More} {n : Nat} {left : Int} {e : Ending} {w' : World} (h : RetSz (w.ext x) n left e w') :
    ∃ r : Int, e = .returned (.int .i64 r) ∧ r ≤ left ∧ Hid (r = szb n left) ∧ ∃ z, w' = w.ext z ∧ x.sub z := by
  obtain ⟨r, h1, h2, h3, h4⟩ := h
  exact ⟨r, h1, h2, h3, Grew.merge h4⟩
theorem In.apart_from {w : World} {x : More} {f g : Frag} {n : Nat} (h : In w.heap.size x f) (hg : g.from_ n) (hn : n = w.heap.size + x.blocks.size) : f.apart g := by
  subst hn
  have hb : f.below (w.heap.size + x.blocks.size) := by have := (h.lies rfl).lt; simpa using this
  exact Frag.apart_of hb hg
theorem Gives.merge {w : World} {x : More} {Ψ : Value → Frag → Prop} {e : Ending} {w' : World} (h : Gives (w.ext x) Ψ e w') :
    ∃ v f z, e = .returned v ∧ w' = w.ext z ∧ x.sub z ∧ In w.heap.size z f ∧ (∀ g, In w.heap.size x g → f.apart g) ∧ Ψ v f := by
  obtain ⟨v, f, h1, h2, h3, h4, h5⟩ := h
  obtain ⟨z, rfl, hs⟩ := h2.merge
  refine ⟨v, f, z, h1, rfl, hs, In.of_lies h3 (Frag.from_mono h4 (by simp)), fun g hg => Frag.apart_symm (In.apart_from hg h4 (by simp)), h5⟩
theorem In.join {n : Nat} {x : More} {f g : Frag} (hf : In n x f) (hg : In n x g) : In n x (f.join g) := fun k o e => by
  cases y : f k with
  | none => simp [Frag.join, y] at e; exact hg k o e
  | some o' => simp [Frag.join, y] at e; exact hf k o (by rw [y, e])
theorem Gives.outAt {w : World} {Ψ : Value → Frag → Prop} {e : Ending} {w' : World} (h : Gives w Ψ e w') {n : Nat} (hn : w.heap.size = n) :
    ∃ v f x, e = .returned v ∧ w' = w.ext x ∧ In n x f ∧ Ψ v f := by subst hn; exact h.out
theorem Gives.mergeAt {w : World} {x : More} {Ψ : Value → Frag → Prop} {e : Ending} {w' : World} (h : Gives (w.ext x) Ψ e w') {n : Nat} (hn : w.heap.size = n) :
    ∃ v f z, e = .returned v ∧ w' = w.ext z ∧ x.sub z ∧ In n z f ∧ (∀ g, In n x g → f.apart g) ∧ Ψ v f := by subst hn; exact h.merge

/-- The world at a piece of code, under a name of its own. -/
theorem wp_name {P : Program} {c : Code} {Q : Exit → Act → World → Prop} {a : Act} {w : World} (h : ∀ W, W = w → c.wp P Q a W) : c.wp P Q a w := h w rfl
theorem heap_alloc_at {w : World} {o : Obj} {n : Nat} (h : n = w.heap.size) : (w.alloc o).heap[n]? = some o := by subst h; exact heap_alloc_new w o
theorem heap_alloc_far {w : World} {o : Obj} {n : Nat} {v : Obj} (h : w.heap[n]? = some v) : (w.alloc o).heap[n]? = some v := by
  rw [Below.heap_alloc w o n (Array.getElem?_eq_some_iff.1 h).1]; exact h
theorem heap_ext_far {w : World} {x : More} {n : Nat} {v : Obj} (h : w.heap[n]? = some v) : (w.ext x).heap[n]? = some v := by
  rw [heap_ext w x n (Array.getElem?_eq_some_iff.1 h).1]; exact h
/-- a block that is known: its cells, in whatever the world has grown to -/
theorem block_cells {W : World} {b : Nat} {C : Array Value} {t : TypeId} {fr : Nat × Nat} (h : W.heap[b]? = some (.cells C t fr)) : ∀ w', Grew W w' → ∀ j, w'.cell? ⟨b, j, none⟩ = C[j]? := by
  intro w' hw j
  exact cell_of_row w' b j C t fr (by rw [hw.block b (Array.getElem?_eq_some_iff.1 h).1]; exact h)

/-! ### From the row's reading to ours -/
def whole (W : World) : Frag := fun k => W.heap[k]?
theorem lies_whole (W : World) : Lies (whole W) W := fun _ _ h => h
theorem whole_cell {W : World} {a : Addr} {v : Value} (h : W.cell? a = some v) : a.spot = none ∧ (whole W).cell a.block a.off = some v := by
  unfold World.cell? at h
  unfold Frag.cell whole
  cases e : W.heap[a.block]? with
  | none => rw [e] at h; cases h
  | some o =>
    rw [e] at h
    cases o <;> simp at h
    rename_i c t fr
    exact h
def Opens (P : Program) (t : TypeId) {α : Type} (rd : Frag → List Value → α → Prop) : Prop :=
  ∀ (H : Type) (enc : TypeId × Value → H) (w : World) (base : Nat) (sp : Nat → Bool) (held : Bool) (fuel : Nat) (cs : List Value) (x : DataW H × List MemPlace),
    DataW.trod enc P w base sp held fuel t cs = some x → ∃ a : α, rd (whole w) cs a
theorem opens_int {P : Program} {t : TypeId} {k : IntKind} (ht : P.underlying t = some (.int k)) : Opens P t (fun _ cs (n : Int) => cs = [.int k n] ∧ (Lit.int k n).wf = true) := by
  intro H enc w base sp held fuel cs x h
  obtain ⟨n, h1, _, h2⟩ := DataW.trod_int ht h
  exact ⟨n, h1, h2⟩
theorem opens_bool {P : Program} {t : TypeId} (ht : P.underlying t = some .bool) : Opens P t (fun _ cs (b : Bool) => cs = [.bool b]) := by
  intro H enc w base sp held fuel cs x h
  obtain ⟨n, h1, _⟩ := DataW.trod_bool ht h
  exact ⟨n, h1⟩
theorem map_range_get {α : Type} (f : Nat → α) (n i : Nat) (x : α) (h : ((List.range n).map f)[i]? = some x) : i < n ∧ f i = x := by
  rw [List.getElem?_map] at h
  by_cases hi : i < n
  · rw [List.getElem?_range hi] at h; simp at h; exact ⟨hi, h⟩
  · rw [List.getElem?_eq_none (by simpa using hi)] at h; cases h
theorem opens_slice {P : Program} {t e : TypeId} {α : Type} {rd : Frag → List Value → α → Prop} {sz : Nat} (ht : P.underlying t = some (.slice e)) (hc : P.cellsOf e = sz) (h0 : 0 < sz) (he : Opens P e rd) :
    Opens P t (fun f cs (l : List α) => ∃ p c, cs = [.slice p l.length c] ∧ RdList sz rd f (.slice p l.length c) l) := by
  intro H enc w base sp held fuel cs x h
  rcases Go.Deep.open_slice ht h with ⟨rfl, _⟩ | ⟨a, len, cap, m, n, D, Pl, rfl, hb, hl, hm, hmm, _, hx⟩
  · exact ⟨[], none, 0, rfl, [], ⟨none, 0, rfl, Nat.le_refl _, Nat.zero_le _, rfl, rfl⟩, rfl, fun i c a hc => by simp at hc⟩
  · have hlm : len ≤ m := by rw [hmm]; split <;> omega
    have key : ∀ i, i < len → ∃ ca : List Value × α, w.cells? base (a.add (i * sz)) sz = some ca.1 ∧ rd (whole w) ca.1 ca.2 := fun i hi => by
      obtain ⟨cs', h1, h2⟩ := hx i (by omega)
      obtain ⟨av, h3⟩ := he _ _ _ _ _ _ _ _ _ h2
      exact ⟨(cs', av), by rw [hc] at h1; exact h1, h3⟩
    by_cases hz : len = 0
    · subst hz
      exact ⟨[], some a, cap, rfl, [], ⟨some a, cap, rfl, Nat.zero_le _, hm, fun i c hc => by simp at hc⟩, rfl, fun i c a hc => by simp at hc⟩
    · have : Inhabited (List Value × α) := ⟨Classical.choose (key 0 (by omega))⟩
      obtain ⟨F, hF⟩ := Go.Deep.choose_lt (α := List Value × α) key
      have hlen : ∀ i, i < len → (F i).1.length = sz := fun i hi => (World.cells?_some (hF i hi).1).2.1
      refine ⟨(List.range len).map fun i => (F i).2, some a, cap, by simp, (List.range len).map fun i => (F i).1, ?_, by simp, fun i c av hc' ha => ?_⟩
      · refine ⟨some a, cap, by simp, by simpa using hl, hm, fun i c hc' => ?_⟩
        have hall : ∀ c ∈ (List.range len).map (fun i => (F i).1), c.length = sz := fun c hcm => by
          obtain ⟨i, hi, rfl⟩ := List.mem_map.1 hcm
          exact hlen i (by simpa using hi)
        have hi : i < ((List.range len).map fun i => (F i).1).flatten.length := (List.getElem?_eq_some_iff.1 hc').1
        rw [flatten_length hall] at hi
        simp only [List.length_map, List.length_range] at hi
        have hq : i / sz < len := Nat.div_lt_of_lt_mul (by rw [Nat.mul_comm]; exact hi)
        have hr : i % sz < sz := Nat.mod_lt _ h0
        have hsplit : i / sz * sz + i % sz = i := by rw [Nat.mul_comm]; exact Nat.div_add_mod i sz
        have hget := flatten_at hall (i := i / sz) (j := i % sz) (c := (F (i / sz)).1) (by rw [List.getElem?_map, List.getElem?_range hq]; rfl) hr
        rw [hsplit, hc'] at hget
        have hcell := ((World.cells?_some (hF _ hq).1).2.2 (i % sz) hr).trans hget.symm
        rw [Go.Deep.add_add, hsplit] at hcell
        obtain ⟨h5, h6⟩ := whole_cell hcell
        unfold Addr.add at h5 h6
        split at h5
        · rename_i hi0; subst hi0; exact ⟨h5, by simpa using h6⟩
        · rename_i hi0
          simp only [hi0, if_false] at h6
          have h00 := ((World.cells?_some (hF 0 (by omega)).1).2.2 0 h0).trans (List.getElem?_eq_getElem (by rw [hlen 0 (by omega)]; exact h0))
          rw [Go.Deep.add_add] at h00
          have h7 := (whole_cell h00).1
          simp [Addr.add] at h7
          exact ⟨h7, h6⟩
      · obtain ⟨h1, h2⟩ := map_range_get _ _ _ _ hc'
        obtain ⟨_, h3⟩ := map_range_get _ _ _ _ ha
        rw [← h2, ← h3]
        exact ⟨hlen i h1, (hF i h1).2⟩
theorem rdList_bytes {f : Frag} {s : Value} {l : List Int} (h : RdList 1 (fun _ cs (n : Int) => cs = [.int .u8 n] ∧ (Lit.int .u8 n).wf = true) f s l) :
    ∃ m : List UInt8, m.length = l.length ∧ RdB f s m := by
  obtain ⟨css, h1, h2, h3⟩ := h
  refine ⟨l.map fun n => n.toNat.toUInt8, by simp, ?_⟩
  have : encB (l.map fun n => n.toNat.toUInt8) = css.flatten := by
    unfold encB
    rw [List.map_map]
    have hone : ∀ (l : List Int) (css : List (List Value)), css.length = l.length → (∀ (i : Nat) (c : List Value) (a : Int), css[i]? = some c → l[i]? = some a → c = [.int .u8 a] ∧ (Lit.int .u8 a).wf = true) →
        l.map ((fun b : UInt8 => Value.int .u8 b.toNat) ∘ fun n : Int => n.toNat.toUInt8) = css.flatten := by
      intro l
      induction l with
      | nil => intro css hl _; (obtain rfl : css = [] := List.eq_nil_of_length_eq_zero (by simpa using hl)); rfl
      | cons a r ih =>
        intro css hl hc
        match css, hl with
        | c :: cr, hl =>
          obtain ⟨rfl, hw⟩ := hc 0 c a (by simp) (by simp)
          have hw' : 0 ≤ a ∧ a ≤ 255 := by simpa [Lit.wf, IntKind.min, IntKind.max, IntKind.signed, IntKind.bits] using hw
          rw [List.map_cons, ih cr (by simpa using hl) (fun i c a h1 h2 => hc (i + 1) c a (by simpa using h1) (by simpa using h2))]
          simp only [List.flatten_cons, Function.comp, List.cons_append, List.nil_append]
          congr 2
          have : a.toNat % 256 = a.toNat := by omega
          simp [this]; omega
    exact hone l css h2 (fun i c a e1 e2 => (h3 i c a e1 e2).2)
  unfold RdB
  rw [this]
  simpa using h1
theorem opens_bytes {P : Program} {t e : TypeId} (ht : P.underlying t = some (.slice e)) (he : P.underlying e = some (.int .u8)) (hc : P.cellsOf e = 1) : Opens P t rdCellB := by
  intro H enc w base sp held fuel cs x h
  obtain ⟨l, p, c, rfl, h1⟩ := opens_slice ht hc (by omega) (opens_int he) _ _ _ _ _ _ _ _ _ h
  obtain ⟨m, hm, h2⟩ := rdList_bytes h1
  exact ⟨m, p, c, by rw [hm], by rw [hm]; exact h2⟩
def rdCellI (f : Frag) (cs : List Value) (a : List Int) : Prop := ∃ p c, cs = [.slice p a.length c] ∧ RdI f (.slice p a.length c) a
theorem rdList_ints {f : Frag} {s : Value} {l : List Int} (h : RdList 1 (fun _ cs (n : Int) => cs = [.int .i64 n] ∧ (Lit.int .i64 n).wf = true) f s l) : RdI f s l := by
  obtain ⟨css, h1, h2, h3⟩ := h
  have hone : ∀ (l : List Int) (css : List (List Value)), css.length = l.length → (∀ (i : Nat) (c : List Value) (a : Int), css[i]? = some c → l[i]? = some a → c = [.int .i64 a]) → encI l = css.flatten := by
    intro l
    induction l with
    | nil => intro css hl _; (obtain rfl : css = [] := List.eq_nil_of_length_eq_zero (by simpa using hl)); rfl
    | cons a r ih =>
      intro css hl hc
      match css, hl with
      | c :: cr, hl =>
        obtain rfl := hc 0 c a (by simp) (by simp)
        show Value.int .i64 a :: encI r = _
        rw [ih cr (by simpa using hl) (fun i c a h1 h2 => hc (i + 1) c a (by simpa using h1) (by simpa using h2))]
        simp
  unfold RdI
  rw [hone l css h2 (fun i c a e1 e2 => (h3 i c a e1 e2).2.1)]
  exact h1
theorem opens_ints {P : Program} {t e : TypeId} (ht : P.underlying t = some (.slice e)) (he : P.underlying e = some (.int .i64)) (hc : P.cellsOf e = 1) : Opens P t rdCellI := by
  intro H enc w base sp held fuel cs x h
  obtain ⟨l, p, c, rfl, h1⟩ := opens_slice ht hc (by omega) (opens_int he) _ _ _ _ _ _ _ _ _ h
  exact ⟨l, p, c, rfl, rdList_ints h1⟩
theorem drop_step (cs : List Value) (o s : Nat) : cs.drop o = (cs.drop o).take s ++ cs.drop (o + s) := by
  rw [← List.drop_drop]; exact (List.take_append_drop s (cs.drop o)).symm
theorem trodAll_below {H : Type} {enc : TypeId × Value → H} {P : Program} (hl : laidOutB P = true) {W W' : World} (hb : Below W.heap.size W W') : ∀ {ts : List TypeId} {vs : List Value} {ds : List (DataW H)} {ps : List MemPlace},
    (∀ t ∈ ts, P.readableRec t = true ∧ t < P.types.size) → DataW.TrodAll enc P W 0 (fun _ => true) true ts vs ds ps → (∀ x ∈ ps, x.block < W.heap.size) →
    DataW.TrodAll enc P W' 0 (fun b => decide (b < W.heap.size)) true ts vs ds ps
  | [], [], [], ps, _, h, _ => h
  | t :: ts, v :: vs, d :: ds, ps, ht, ⟨p, q, h1, h2, h3⟩, hlt => by
    subst h3
    exact ⟨p, q, Below.trod hl (ht t (by simp)).1 (ht t (by simp)).2 h1 hb (fun x hx => hlt x (by simp [hx])),
      trodAll_below hl hb (fun t' h' => ht t' (by simp [h'])) h2 (fun x hx => hlt x (by simp [hx])), rfl⟩

/-- STORE of a struct into the row that the walk itself has made. -/
theorem wpList_store_lit {P : Program} {ops : Array Oper} {rest : List Oper} {op : Oper} {a : Act} {w : World} {x : More} {C : Array Value} {e : TypeId} {Q : Exit → Act → World → Prop} (hgd : op.guard = none) (ty : TypeId) (xo yo : Operand)
    (ho : op.op = .store ty xo yo) (o : Nat) (cs : List Value) (hx : a.eval xo = .pointer (some ⟨w.heap.size, o, none⟩)) (hy : a.eval yo = .agg cs.toArray) (hfit : o + cs.length ≤ C.size)
    (hi : (P.info? ty).map (·.size) = some cs.length) (h1 : ∀ v ∈ cs, v.oneCell' = true)
    (h : wpList P ops Q rest (a.put op.dst undef) ((w.alloc (.cells (splice C o cs) e)).ext x)) : wpList P ops Q (op :: rest) a ((w.alloc (.cells C e)).ext x) := by
  have hb : ((w.alloc (.cells C e)).ext x).heap[w.heap.size]? = some (.cells C e (0, 0)) := heap_ext_far (heap_alloc_new w _)
  refine wpList_store_mid hgd ty xo yo ho w.heap.size o cs.toArray hx hy (fun j hj => ?_) (by simpa using hi) (all_oneCell_toArray h1) ?_
  · rw [cell_of_row _ _ _ _ _ _ hb, frozen_of_row _ _ _ _ _ hb]
    simp at hj
    simp; omega
  · have hE : ((w.alloc (.cells C e)).ext x).setCells w.heap.size o cs.toArray.toList = (w.alloc (.cells (splice C o cs) e)).ext x := by
      rw [show cs.toArray.toList = cs by simp, setCells_splice w.heap.size e cs o C _ hb hfit]
      simp only [World.setRow, World.ext, World.alloc]
      congr 1
      apply Array.ext_getElem?
      intro i
      simp only [Array.getElem?_modify, Array.getElem?_append, Array.getElem?_push, Array.size_push]
      by_cases hi : w.heap.size = i
      · subst hi; simp
      · simp [hi, Ne.symm hi]
    rw [hE]
    exact h
/-- a row that the call itself has made, and what its elements own -/
theorem gives_row {w : World} {x : More} {C : Array Value} {e : TypeId} {hs : List Frag} {v : Value} {Ψ : Value → Frag → Prop} (hp : hs.Pairwise Frag.apart) (hin : ∀ g ∈ hs, In (w.heap.size + 1) x g)
    (h : ∀ f, Parts f (Frag.one w.heap.size (.cells C e) :: hs) → Ψ v f) : Gives w Ψ (.returned v) ((w.alloc (.cells C e)).ext x) := by
  have key : ∀ hs : List Frag, hs.Pairwise Frag.apart → (∀ g ∈ hs, In (w.heap.size + 1) x g) → ∃ f, Parts f hs ∧ In (w.heap.size + 1) x f := by
    intro hs
    induction hs with
    | nil => exact fun _ _ => ⟨Frag.emp, Parts.nil _, In.emp _ _⟩
    | cons g r ih =>
      intro hp hin
      obtain ⟨f, h1, h2⟩ := ih (List.pairwise_cons.1 hp).2 (fun g hg => hin g (by simp [hg]))
      -- f is the join of r: g is apart from it
      refine ⟨g.join (fun k => if g k = none then f k else none), ⟨hp, fun y hy => ?_⟩, In.join (hin g (by simp)) (fun k o e => ?_)⟩
      · rcases List.mem_cons.1 hy with rfl | hy
        · exact Frag.sub_join_left _ _
        · intro k o e
          have hg := ((List.pairwise_cons.1 hp).1 y hy) k
          have hgk : g k = none := hg.resolve_right (by rw [e]; simp)
          simp [Frag.join, hgk, h1.2 y hy k o e]
      · by_cases hgk : g k = none
        · simp [hgk] at e; exact h2 k o e
        · simp [hgk] at e
  obtain ⟨f, h1, h2⟩ := key hs hp hin
  have ha : (Frag.one w.heap.size (.cells C e)).apart f := Frag.apart_of (b := w.heap.size + 1) (fun k o hk => by
    simp only [Frag.one] at hk; split at hk <;> simp at hk; omega) (fun k o hk => (h2 k o hk).1)
  exact Gives.mk _ (((Grew.refl w).alloc _).ext x) (Lies.join (one_lies (heap_ext_far (heap_alloc_new w _))) (h2.lies (by simp))) (Frag.from_join (one_from _ _ _ (Nat.le_refl _)) (Frag.from_mono h2.from_ (by omega))) (h _ (Parts.cons ha h1))
end Go.Proofs.Ytddpdlggnbkpbaa

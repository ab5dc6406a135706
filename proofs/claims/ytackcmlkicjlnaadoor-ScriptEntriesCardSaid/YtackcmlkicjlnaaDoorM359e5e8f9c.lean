/- Lemmas that the chapter's laws rest on: Kit, Open, Row, Blk, Own, Str, Nums, Facts, Step, RowStep, Set, Has, Put, Bits, Make, Eqs, Ints, Fields, Facts2, Mem, Aggs, Evts, EvText, Words, Cuts, Fresh, Codes, Texts, Chr, Chars2, Texts2. -/
import Derived.Test.YtackcmlkicjlnaaDoorProg
import Derived.WalkKit
import Derived.Below
import Derived.KernelRfl
import Derived.BigQuiet
import Derived.Deep.QuietTactic
import Derived.Lib.Hide
import Derived.Lib.SmallJoins
import Derived.Carry
import Derived.IntWalk
import Derived.OpenShut
import Derived.ChangeShapes
import Derived.Laws.Rows
import Derived.Maps.AppendAt
import Derived.OwnWalk
import Derived.Laws.BytesArg
import Derived.Still
import Derived.DeepKeys
import Derived.Laws.StructEq
import Derived.LoopTactic
import Derived.Laws.MakeOwn
import Derived.Laws.Tables
import Derived.Deep.MidRow
import Derived.Lib.Join
/- Small laws that all of this seat's walks use: the builtin min and max of whole numbers, and facts on worlds. -/
namespace Go.Proofs.YtackcmlkicjlnaaDoor
open Go.RowKit

/-! ### min and max -/
theorem max2_int (k k' : IntKind) (x y : Int) : Builtin.max2 (.int k x) (.int k' y) = pure (.int k (max x y)) := by
  simp only [Builtin.max2, gt_iff_lt]
  rw [show (if x < y then y else x) = max x y from by omega]
theorem min2_int (k k' : IntKind) (x y : Int) : Builtin.min2 (.int k x) (.int k' y) = pure (.int k (min x y)) := by
  simp only [Builtin.min2]
  rw [show (if y < x then y else x) = min x y from by omega]
theorem max_two (ats : Array TypeId) (ty : TypeId) (a b : Value) : Builtin.max_ ats ty #[a, b] = (Builtin.max2 a b >>= fun s => pure s) := by simp only [Builtin.max_, List.foldlM_cons, List.foldlM_nil]
theorem min_two (ats : Array TypeId) (ty : TypeId) (a b : Value) : Builtin.min_ ats ty #[a, b] = (Builtin.min2 a b >>= fun s => pure s) := by simp only [Builtin.min_, List.foldlM_cons, List.foldlM_nil]
attribute [go_sem] max2_int min2_int max_two min_two

/-! ### worlds -/
theorem bl_alloc {w W : World} (h : Below w.heap.size w W) (o : Obj) : Below w.heap.size w (W.alloc o) := h.alloc h.size o
theorem bl_drew {B : Nat} {w W : World} (h : Below B w W) : Below B w W.drew := h.drew
theorem bl_drewN {B : Nat} {w W : World} (h : Below B w W) (n : Nat) : Below B w (W.drewN n) := ⟨h.os, h.tape, h.output, h.size, h.block⟩
theorem bl_then {B : Nat} {w w1 w2 : World} (h : Below B w w1) (hB : B ≤ w1.heap.size) (k : Below w1.heap.size w1 w2) : Below B w w2 := h.trans (k.mono hB)
theorem bl_step {w w1 w2 : World} (h : Below w.heap.size w w1) (k : Below w1.heap.size w1 w2) : Below w.heap.size w w2 := bl_then h h.size k

/-- For go_quiet: a callee that leaves the world alone, told as 'w = w''. -/
theorem quiet_same {P : Program} {f : FuncId} {args : Array Value} {w : World} {n : Nat} {v : Value}
    (h : Calls P f args (w.drewN n) fun e w' => e = .returned v ∧ w.drewN n = w') : Calls P f args (w.drewN n) fun e w'' => e = .returned v ∧ ∃ m, w'' = w.drewN m :=
  h.mono fun _ _ ⟨he, hm⟩ => ⟨he, n, hm.symm⟩
/-- .. a callee that draws. -/
theorem quiet_draws {P : Program} {f : FuncId} {args : Array Value} {w : World} {n : Nat} {v : Value}
    (h : Calls P f args (w.drewN n) fun e w' => e = .returned v ∧ ∃ m, w' = (w.drewN n).drewN m) : Calls P f args (w.drewN n) fun e w'' => e = .returned v ∧ ∃ m, w'' = w.drewN m :=
  h.mono fun _ _ ⟨he, m, hm⟩ => ⟨he, n + m, by rw [hm, World.drewN_drewN]⟩

end Go.Proofs.YtackcmlkicjlnaaDoor

/- How the arguments of the laws are laid open: what a value of a flat type (whole numbers, bools, strings, arrays and structs of these) and a slice of such looks like. -/
namespace Go.Proofs.YtackcmlkicjlnaaDoor
open Go.RowKit Go.WideShapes Go.ChangeShapes

/-- What can be read as data of type t looks so. -/
def Flat (P : Program) (t : TypeId) (R : List Value → Prop) : Prop :=
  ∀ {H : Type} {enc : TypeId × Value → H} {w : World} {base : Nat} {spare : Nat → Bool} {held : Bool} {fuel : Nat} {cs : List Value} {x : DataW H × List MemPlace},
    DataW.trod enc P w base spare held fuel t cs = some x → R cs

theorem Flat.imp {P : Program} {t : TypeId} {R R' : List Value → Prop} (h : Flat P t R) (hr : ∀ cs, R cs → R' cs) : Flat P t R' := fun hx => hr _ (h hx)

theorem flat_int {P : Program} {t : TypeId} {k : IntKind} (ht : P.underlying t = some (.int k)) : Flat P t (fun cs => ∃ n, cs = [.int k n] ∧ (Lit.int k n).wf = true) := by
  intro H enc w base spare held fuel cs x h
  cases fuel with
  | zero => simp [DataW.trod] at h
  | succ m =>
    unfold DataW.trod at h
    rw [ht] at h
    split at h <;> simp_all

theorem flat_bool {P : Program} {t : TypeId} (ht : P.underlying t = some .bool) : Flat P t (fun cs => ∃ b, cs = [.bool b]) := by
  intro H enc w base spare held fuel cs x h
  cases fuel with
  | zero => simp [DataW.trod] at h
  | succ m =>
    unfold DataW.trod at h
    rw [ht] at h
    split at h <;> simp_all

theorem flat_string {P : Program} {t : TypeId} (ht : P.underlying t = some .string) : Flat P t (fun cs => ∃ s : ByteArray, cs = [.string s] ∧ s.size ≤ maxLen) := by
  intro H enc w base spare held fuel cs x h
  cases fuel with
  | zero => simp [DataW.trod] at h
  | succ m =>
    unfold DataW.trod at h
    rw [ht] at h
    split at h <;> simp_all

/-- An array: each element's cells look so. -/
theorem flat_array {P : Program} {t e : TypeId} {n : Nat} {R : List Value → Prop} (ht : P.underlying t = some (.array n e)) (he : Flat P e R) :
    Flat P t (fun cs => cs.length = P.cellsOf t ∧ ∀ i, i < n → R ((cs.drop (i * P.cellsOf e)).take (P.cellsOf e))) := by
  intro H enc w base spare held fuel cs x h
  obtain ⟨xs, m, _, _, hl, hx, hi⟩ := DataW.trod_array ht h
  refine ⟨hl, fun i hlt => ?_⟩
  have := hi i hlt
  rw [List.getElem?_eq_getElem (by omega)] at this
  exact he this

theorem mapM_each' {α β : Type} {f : α → Option β} {l : List α} {r : List β} (h : l.mapM f = some r) : ∀ x ∈ l, ∃ y, f x = some y := fun x hx => mapM_each h x hx

/-- A struct: each field's cells look so. -/
theorem flat_struct {P : Program} {t : TypeId} {fs : Array Field} (R : Nat → List Value → Prop) (ht : P.underlying t = some (.struct fs)) (hf : ∀ i f, fs[i]? = some f → Flat P f.type (R i)) :
    Flat P t (fun cs => cs.length = P.cellsOf t ∧ ∀ i f, fs[i]? = some f → R i ((cs.drop f.offset).take (P.cellsOf f.type))) := by
  intro H enc w base spare held fuel cs x h
  cases fuel with
  | zero => simp [DataW.trod] at h
  | succ m =>
    unfold DataW.trod at h
    rw [ht] at h
    split at h <;> simp_all
    obtain ⟨_, xs, hp, _⟩ := h
    intro i f hi
    obtain ⟨y, hy⟩ := mapM_each' hp f (by rw [Array.getElem?_eq_some_iff] at hi; obtain ⟨h1, h2⟩ := hi; simp [← h2])
    exact hf i f hi hy

/-- A value of a flat type: of one cell. -/
theorem open_one {H : Type} {enc : TypeId × Value → H} {P : Program} {w : World} {base : Nat} {spare : Nat → Bool} {held : Bool} {t : TypeId} {v : Value} {d : DataW H} {ps : List MemPlace} {R : List Value → Prop}
    (hf : Flat P t R) (h : DataW.Trod enc P w base spare held t v d ps) : R v.cells.toList := by
  obtain ⟨fuel, hx⟩ := h
  exact hf hx

theorem okWide_array {P : Program} {w : World} {r : Reach} {base : Nat} {t e : TypeId} {n : Nat} {v : Value} (ht : P.underlying t = some (.array n e)) (h : Value.okWide P w r base t v) : ∃ cs, v = .agg cs ∧ cs.size = P.cellsOf t := by
  simp only [Value.okWide, ht] at h
  obtain ⟨cs, h1, h2, _⟩ := h
  exact ⟨cs, h1, h2⟩

/-- A slice whose elements look so: nil, or a row in memory. -/
def SliceOf (P : Program) (w : World) (e : TypeId) (R : List Value → Prop) (A : Option Addr) (len cap : Nat) : Prop :=
  len ≤ cap ∧ cap ≤ maxLen ∧ (A = none → cap = 0) ∧ ∀ i, i < len → ∃ ad cs, A = some ad ∧ cs.length = P.cellsOf e ∧ R cs ∧ ∀ j u, cs[j]? = some u → w.cell? ((ad.add (i * P.cellsOf e)).add j) = some u

theorem mapM_range {β : Type} {f : Nat → Option β} {n : Nat} {r : List β} (h : (List.range n).mapM f = some r) : ∀ i, i < n → ∃ y, f i = some y := fun i hi => mapM_each h i (by simp [hi])

theorem cells?_get {w : World} {base : Nat} {a : Addr} {n : Nat} {cs : List Value} (h : w.cells? base a n = some cs) : cs.length = n ∧ ∀ j u, cs[j]? = some u → w.cell? (a.add j) = some u := by
  unfold World.cells? at h
  split at h
  · have hl := mapM_some_length h
    simp at hl
    refine ⟨hl, fun j u hj => ?_⟩
    have hlt : j < n := by rw [← hl]; exact (List.getElem?_eq_some_iff.1 hj).1
    have := mapM_some_get h j j (by simp [hlt])
    rw [hj] at this
    exact this
  · cases h

theorem open_slice_of {H : Type} {enc : TypeId × Value → H} {P : Program} {w : World} {r : Reach} {b0 base : Nat} {spare : Nat → Bool} {held : Bool} {t e : TypeId} {v : Value} {d : DataW H} {ps : List MemPlace} {R : List Value → Prop}
    (ht : P.underlying t = some (.slice e)) (he : Flat P e R) (hval : Value.okWide P w r b0 t v) (h : DataW.Trod enc P w base spare held t v d ps) :
    ∃ A len cap, v = .slice A len cap ∧ SliceOf P w e R A len cap := by
  obtain ⟨A, len, cap, rfl⟩ := okWide_slice ht hval
  refine ⟨A, len, cap, rfl, ?_⟩
  obtain ⟨fuel, hf⟩ := h
  cases fuel with
  | zero => simp [DataW.trod] at hf
  | succ m =>
    unfold DataW.trod at hf
    rw [ht] at hf
    simp only [Value.cells] at hf
    cases A with
    | none =>
      match len, cap, hf with
      | 0, 0, _ => exact ⟨Nat.le_refl _, Nat.zero_le _, fun _ => rfl, fun i hi => by omega⟩
      | n + 1, _, hf => simp at hf
      | 0, n + 1, hf => simp at hf
    | some ad =>
      by_cases hc0 : base ≤ ad.block ∧ len ≤ cap ∧ cap ≤ maxLen
      · simp only [hc0, and_self, if_true, Option.bind_eq_some_iff] at hf
        obtain ⟨_, h1, h2⟩ := hc0
        obtain ⟨elems, hel, _⟩ := hf
        refine ⟨h1, h2, by simp, fun i hi => ?_⟩
        obtain ⟨y, hy⟩ := mapM_range hel i hi
        simp only [Option.bind_eq_some_iff] at hy
        obtain ⟨cs, hc, hx⟩ := hy
        obtain ⟨g1, g2⟩ := cells?_get hc
        exact ⟨ad, cs, rfl, g1, he hx, g2⟩
      · simp [hc0] at hf
end Go.Proofs.YtackcmlkicjlnaaDoor

/- Rows of cells in memory, as lists: what a slice whose elements are of a flat type holds. -/
namespace Go.Proofs.YtackcmlkicjlnaaDoor
open Go.RowKit Go.WideShapes Go.ChangeShapes

/-- From address A on memory holds these cells. -/
def Reads (w : World) (A : Option Addr) (cells : List Value) : Prop :=
  ∀ j u, cells[j]? = some u → ∃ b off, A = some ⟨b, off, none⟩ ∧ w.cell? ⟨b, off + j, none⟩ = some u

theorem Reads.nil (w : World) (A : Option Addr) : Reads w A [] := fun j u h => by simp at h

theorem Reads.at_ {w : World} {A : Option Addr} {cells : List Value} (h : Reads w A cells) (hp : 0 < cells.length) :
    ∃ b off, A = some ⟨b, off, none⟩ ∧ ∀ j u, cells[j]? = some u → w.cell? ⟨b, off + j, none⟩ = some u := by
  obtain ⟨b, off, hA, _⟩ := h 0 cells[0] (by rw [List.getElem?_eq_getElem hp])
  refine ⟨b, off, hA, fun j u hj => ?_⟩
  obtain ⟨b', off', hA', hc⟩ := h j u hj
  rw [hA] at hA'
  injection hA' with hA'
  injection hA' with h1 h2
  subst h1 h2
  exact hc

theorem Reads.same {w w' : World} {A : Option Addr} {cells : List Value} (h : Reads w A cells) (hb : Below w.heap.size w w') : Reads w' A cells := by
  intro j u hj
  obtain ⟨b, off, hA, hc⟩ := h j u hj
  exact ⟨b, off, hA, (hb.cell (World.block_lt_of_cell? w _ hc)).trans hc⟩

theorem Reads.drewN {w : World} {A : Option Addr} {cells : List Value} (h : Reads w A cells) (n : Nat) : Reads (w.drewN n) A cells := h.same (bl_drewN (Below.refl _ _) n)
theorem Reads.alloc {w : World} {A : Option Addr} {cells : List Value} (h : Reads w A cells) (o : Obj) : Reads (w.alloc o) A cells := h.same (bl_alloc (Below.refl _ _) o)

theorem Reads.take {w : World} {A : Option Addr} {cells : List Value} (h : Reads w A cells) (n : Nat) : Reads w A (cells.take n) := by
  intro j u hj
  rw [List.getElem?_take] at hj
  split at hj
  · exact h j u hj
  · cases hj

theorem Reads.drop {w : World} {b off : Nat} {cells : List Value} (h : Reads w (some ⟨b, off, none⟩) cells) (n : Nat) : Reads w (some ⟨b, off + n, none⟩) (cells.drop n) := by
  intro j u hj
  rw [List.getElem?_drop] at hj
  obtain ⟨b', off', hA, hc⟩ := h _ u hj
  injection hA with hA
  injection hA with h1 h2
  subst h1 h2
  exact ⟨b, off + n, rfl, by rw [← hc, Nat.add_assoc]⟩

theorem add_none (b off n : Nat) : (⟨b, off, none⟩ : Addr).add n = ⟨b, off + n, none⟩ := by unfold Addr.add; split <;> simp_all

theorem cell_spot {w : World} {a : Addr} {u : Value} (h : w.cell? a = some u) : ∃ b off, a = ⟨b, off, none⟩ := by
  obtain ⟨b, off, spot⟩ := a
  cases spot with
  | none => exact ⟨b, off, rfl⟩
  | some s =>
    simp only [World.cell?] at h
    split at h <;> simp at h

/-- How many cells a value has, and which. -/
structure Enc (α : Type) where
  sz : Nat
  enc : α → List Value
  len : ∀ a, (enc a).length = sz
  one : ∀ a, ∀ u ∈ enc a, u.oneCell' = true

def Enc.all {α : Type} (E : Enc α) (xs : List α) : List Value := xs.flatMap E.enc

theorem Enc.all_length {α : Type} (E : Enc α) (xs : List α) : (E.all xs).length = xs.length * E.sz := by
  induction xs with
  | nil => simp [Enc.all]
  | cons x xs ih => simp only [Enc.all, List.flatMap_cons, List.length_append, E.len, List.length_cons] at *; rw [ih, Nat.succ_mul, Nat.add_comm]

theorem Enc.all_get {α : Type} (E : Enc α) : ∀ (xs : List α) (i j : Nat) (x : α), xs[i]? = some x → j < E.sz → (E.all xs)[i * E.sz + j]? = (E.enc x)[j]?
  | [], i, j, x, h, hj => by simp at h
  | y :: ys, 0, j, x, h, hj => by
    simp only [List.getElem?_cons_zero, Option.some.injEq] at h
    subst h
    simp only [Enc.all, List.flatMap_cons, Nat.zero_mul, Nat.zero_add]
    rw [List.getElem?_append_left (by rw [E.len]; exact hj)]
  | y :: ys, i + 1, j, x, h, hj => by
    simp only [List.getElem?_cons_succ] at h
    have := Enc.all_get E ys i j x h hj
    simp only [Enc.all, List.flatMap_cons] at *
    rw [List.getElem?_append_right (by rw [E.len, Nat.succ_mul]; omega), E.len, ← this]
    congr 1
    rw [Nat.succ_mul]
    omega

theorem Enc.all_append {α : Type} (E : Enc α) (xs ys : List α) : E.all (xs ++ ys) = E.all xs ++ E.all ys := by simp [Enc.all]
theorem Enc.all_one {α : Type} (E : Enc α) (x : α) : E.all [x] = E.enc x := by simp [Enc.all]
theorem Enc.all_take {α : Type} (E : Enc α) : ∀ (xs : List α) (n : Nat), E.all (xs.take n) = (E.all xs).take (n * E.sz)
  | [], n => by simp [Enc.all]
  | x :: xs, 0 => by simp [Enc.all]
  | x :: xs, n + 1 => by
    have := Enc.all_take E xs n
    simp only [Enc.all, List.take_succ_cons, List.flatMap_cons] at *
    rw [this, Nat.succ_mul, Nat.add_comm, List.take_append, E.len, Nat.add_sub_cancel_left, List.take_of_length_le (l := E.enc x) (by rw [E.len]; omega)]
theorem Enc.all_drop {α : Type} (E : Enc α) : ∀ (xs : List α) (n : Nat), E.all (xs.drop n) = (E.all xs).drop (n * E.sz)
  | [], n => by simp [Enc.all]
  | x :: xs, 0 => by simp [Enc.all]
  | x :: xs, n + 1 => by
    have := Enc.all_drop E xs n
    simp only [Enc.all, List.drop_succ_cons, List.flatMap_cons] at *
    rw [this, Nat.succ_mul, Nat.add_comm, List.drop_append, E.len, Nat.add_sub_cancel_left, List.drop_of_length_le (l := E.enc x) (by rw [E.len]; omega), List.nil_append]

def eInt (k : IntKind) : Enc Int := ⟨1, fun n => [.int k n], fun _ => rfl, fun _ u hu => by simp at hu; subst hu; rfl⟩
def eStr : Enc ByteArray := ⟨1, fun s => [.string s], fun _ => rfl, fun _ u hu => by simp at hu; subst hu; rfl⟩
def eBool : Enc Bool := ⟨1, fun b => [.bool b], fun _ => rfl, fun _ u hu => by simp at hu; subst hu; rfl⟩
theorem Enc.all_one_cell {α : Type} (E : Enc α) (xs : List α) : ∀ u ∈ E.all xs, u.oneCell' = true := by
  intro u hu
  obtain ⟨x, _, hx⟩ := List.mem_flatMap.1 hu
  exact E.one x u hx

theorem eInt_all (k : IntKind) (xs : List Int) : (eInt k).all xs = xs.map (Value.int k) := by
  induction xs with
  | nil => rfl
  | cons x xs ih => simp only [Enc.all, List.flatMap_cons, eInt, List.map_cons, List.cons_append, List.nil_append] at *; rw [ih]
theorem eStr_all (xs : List ByteArray) : eStr.all xs = xs.map Value.string := by
  induction xs with
  | nil => rfl
  | cons x xs ih => simp only [Enc.all, List.flatMap_cons, eStr, List.map_cons, List.cons_append, List.nil_append] at *; rw [ih]

/-- A slice of flat elements, as a list. -/
theorem slice_list {α : Type} (E : Enc α) (ok : α → Prop) {P : Program} {w : World} {e : TypeId} {A : Option Addr} {len cap : Nat} (hsz : P.cellsOf e = E.sz) (hpos : 0 < E.sz)
    (h : SliceOf P w e (fun cs => ∃ a, cs = E.enc a ∧ ok a) A len cap) : ∃ xs : List α, xs.length = len ∧ (∀ x ∈ xs, ok x) ∧ Reads w A (E.all xs) := by
  obtain ⟨_, _, _, h⟩ := h
  have key : ∀ n, n ≤ len → ∃ xs : List α, xs.length = n ∧ (∀ x ∈ xs, ok x) ∧ Reads w A (E.all xs) := by
    intro n
    induction n with
    | zero => exact fun _ => ⟨[], rfl, by simp, by intro j u hj; simp [Enc.all] at hj⟩
    | succ n ih =>
      intro hn
      obtain ⟨xs, hl, ho, hr⟩ := ih (by omega)
      obtain ⟨ad, cs, rfl, hlen, ⟨a, rfl, hok⟩, hc⟩ := h n (by omega)
      refine ⟨xs ++ [a], by simp [hl], by simpa [or_imp, forall_and] using ⟨ho, hok⟩, ?_⟩
      obtain ⟨b0, off0, e0⟩ := cell_spot (hc 0 (E.enc a)[0] (by rw [List.getElem?_eq_getElem (by rw [E.len]; exact hpos)]))
      intro j u hj
      rw [Enc.all_append, Enc.all_one] at hj
      by_cases hjn : j < (E.all xs).length
      · rw [List.getElem?_append_left hjn] at hj
        exact hr j u hj
      · rw [List.getElem?_append_right (by omega)] at hj
        have hjl := (List.getElem?_eq_some_iff.1 hj).1
        have g := hc _ u hj
        rw [E.all_length, hl] at g hjn
        rw [hsz] at g
        obtain ⟨b, off, spot⟩ := ad
        by_cases hz : n * E.sz = 0
        · by_cases hj0 : j = 0
          · subst hj0
            simp only [hz, Nat.sub_self, Addr.add, if_true] at g
            obtain ⟨b1, off1, e1⟩ := cell_spot g
            injection e1 with h1 h2 h3
            subst h1 h2 h3
            exact ⟨b, off, rfl, g⟩
          · -- the first cell tells that there is no spot
            simp only [hz, Nat.sub_zero] at g
            have g0 := hc 0 (E.enc a)[0] (by rw [List.getElem?_eq_getElem (by rw [E.len]; exact hpos)])
            rw [hsz] at g0
            simp only [hz, Addr.add, if_true] at g0
            obtain ⟨b1, off1, e1⟩ := cell_spot g0
            injection e1 with h1 h2 h3
            subst h1 h2 h3
            refine ⟨b, off, rfl, ?_⟩
            rw [show (Addr.add ⟨b, off, none⟩ 0) = ⟨b, off, none⟩ from rfl, add_none] at g
            exact g
        · have hn0 : 0 < n := by
            rcases Nat.eq_zero_or_pos n with h0 | h0
            · subst h0; simp at hz
            · exact h0
          have hx : 0 < (E.all xs).length := by rw [E.all_length, hl]; exact Nat.mul_pos hn0 hpos
          obtain ⟨b1, off1, e1, _⟩ := hr.at_ hx
          injection e1 with e1
          injection e1 with h1 h2 h3
          subst h1 h2 h3
          refine ⟨b, off, rfl, ?_⟩
          rw [add_none, add_none] at g
          rw [← g]
          congr 2
          omega
  exact key len (Nat.le_refl _)

theorem flat_ints {P : Program} {t : TypeId} {k : IntKind} (ht : P.underlying t = some (.int k)) : Flat P t (fun cs => ∃ n, cs = (eInt k).enc n ∧ (Lit.int k n).wf = true) := flat_int ht

/-- A slice of whole numbers. -/
theorem open_int_list {H : Type} {enc : TypeId × Value → H} {P : Program} {w : World} {r : Reach} {b0 base : Nat} {spare : Nat → Bool} {held : Bool} {t e : TypeId} {k : IntKind} {v : Value} {d : DataW H} {ps : List MemPlace}
    (ht : P.underlying t = some (.slice e)) (he : P.underlying e = some (.int k)) (hc : P.cellsOf e = 1) (hval : Value.okWide P w r b0 t v) (h : DataW.Trod enc P w base spare held t v d ps) :
    ∃ (A : Option Addr) (xs : List Int) (cap : Nat), v = .slice A xs.length cap ∧ xs.length ≤ cap ∧ cap ≤ 9223372036854775807 ∧ (A = none → cap = 0) ∧ (∀ x ∈ xs, (Lit.int k x).wf = true) ∧ Reads w A (xs.map (Value.int k)) := by
  obtain ⟨A, len, cap, rfl, hs⟩ := open_slice_of ht (flat_ints he) hval h
  obtain ⟨xs, rfl, ho, hr⟩ := slice_list (eInt k) _ hc Nat.one_pos hs
  rw [eInt_all] at hr
  exact ⟨A, xs, cap, rfl, hs.1, by have := hs.2.1; unfold maxLen at this; omega, hs.2.2.1, ho, hr⟩

/-- The number at a place (0 beyond the end): by a name that no simp lays open. -/
def nth (xs : List Int) (i : Nat) : Int := xs.getD i 0
theorem nth_eq (xs : List Int) (i : Nat) : nth xs i = xs.getD i 0 := rfl

/-- The cell of an element. -/
theorem Reads.int_at {w : World} {b off : Nat} {k : IntKind} {xs : List Int} (h : ∀ j u, (xs.map (Value.int k))[j]? = some u → w.cell? ⟨b, off + j, none⟩ = some u) (i : Nat) (hi : i < xs.length) :
    w.cell? ⟨b, off + i, none⟩ = some (.int k (nth xs i)) := h i _ (by simp [nth, hi])
end Go.Proofs.YtackcmlkicjlnaaDoor

/- Blocks of cells that a call made for its variables: how they stay, and how they change. -/
namespace Go.Proofs.YtackcmlkicjlnaaDoor
open Go.RowKit Go.WideShapes Go.ChangeShapes

/-- A block of cells that may be written. -/
def Blk (w : World) (g : Nat) (cs : Array Value) (t : TypeId) : Prop := w.heap[g]? = some (.cells cs t (0, 0))
theorem Blk.new (w : World) (cs : Array Value) (t : TypeId) (g : Nat) (hg : g = w.heap.size) : Blk (w.alloc (.cells cs t)) g cs t := by subst hg; exact heap_alloc_new _ _
theorem Blk.lt {w : World} {g : Nat} {cs : Array Value} {t : TypeId} (h : Blk w g cs t) : g < w.heap.size := (Array.getElem?_eq_some_iff.1 h).1
theorem Blk.below {w w' : World} {g : Nat} {cs : Array Value} {t : TypeId} (h : Blk w g cs t) (hb : Below w.heap.size w w') : Blk w' g cs t := (hb.block g h.lt).trans h
theorem Blk.alloc {w : World} {g : Nat} {cs : Array Value} {t : TypeId} (h : Blk w g cs t) (o : Obj) : Blk (w.alloc o) g cs t := h.below (bl_alloc (Below.refl _ _) o)
theorem Blk.drew {w : World} {g : Nat} {cs : Array Value} {t : TypeId} (h : Blk w g cs t) : Blk w.drew g cs t := h
theorem Blk.set {w : World} {g : Nat} {cs : Array Value} {t : TypeId} (h : Blk w g cs t) (i : Nat) (v : Value) : Blk (w.setCell ⟨g, i, none⟩ v) g (cs.setIfInBounds i v) t := heap_setCell_same _ _ _ _ _ _ h
theorem Blk.far {w : World} {g : Nat} {cs : Array Value} {t : TypeId} (h : Blk w g cs t) (a : Addr) (v : Value) (ha : g ≠ a.block) : Blk (w.setCell a v) g cs t := (heap_setCell_other _ _ _ _ ha).trans h
theorem Blk.row {w : World} {g : Nat} {cs : Array Value} {t : TypeId} (h : Blk w g cs t) (new : Array Value) : Blk (w.setRow g new) g new t := setRow_heap _ _ _ _ _ _ h
theorem Blk.rowFar {w : World} {g : Nat} {cs : Array Value} {t : TypeId} (h : Blk w g cs t) (g' : Nat) (new : Array Value) (hg : g ≠ g') : Blk (w.setRow g' new) g cs t := (setRow_other _ _ _ _ hg).trans h
theorem Blk.cell {w : World} {g : Nat} {cs : Array Value} {t : TypeId} (h : Blk w g cs t) (i : Nat) : w.cell? ⟨g, i, none⟩ = cs[i]? := cell_of_row _ _ _ _ _ _ h
theorem Blk.free {w : World} {g : Nat} {cs : Array Value} {t : TypeId} (h : Blk w g cs t) (i : Nat) : w.frozen? ⟨g, i, none⟩ = false := frozen_of_row _ _ _ _ _ h

end Go.Proofs.YtackcmlkicjlnaaDoor

/- Rows that a call makes for itself: slices that it appends to, as lists. -/
namespace Go.Proofs.YtackcmlkicjlnaaDoor
open Go.RowKit Go.WideShapes Go.ChangeShapes

/-- t is the type of slices of e, whose elements are laid as E says, in so many bytes. -/
structure SlT {α : Type} (P : Program) (t e : TypeId) (E : Enc α) (bytes : Nat) : Prop where
  under : P.underlying t = some (.slice e)
  info : ∃ i z, P.info? e = some i ∧ i.zero = some z ∧ i.size = E.sz ∧ i.bytes = bytes ∧ z.cells.size = E.sz
  pos : 0 < E.sz
  bpos : 0 < bytes

theorem slT_of {α : Type} {P : Program} {t e : TypeId} {E : Enc α} {bytes : Nat} {z : Value} (h1 : P.underlying t = some (.slice e)) (h2 : (P.info? e).map (fun i => (i.zero, i.size, i.bytes)) = some (some z, E.sz, bytes))
    (h3 : z.cells.size = E.sz) (h4 : 0 < E.sz) (h5 : 0 < bytes) : SlT P t e E bytes := by
  obtain ⟨i, a, b, c, d⟩ := info_parts h2
  exact ⟨h1, ⟨i, z, a, b, c, d, h3⟩, h4, h5⟩

/-- The value v is a slice that owns the row of these elements, in a block from base on. -/
def OwnR {α : Type} (w : World) (base : Nat) (e : TypeId) (E : Enc α) (v : Value) (xs : List α) : Prop := w.ownsRow base e E.sz v xs.length (E.all xs)

section
variable {α : Type} {w w' : World} {base : Nat} {e : TypeId} {E : Enc α} {v : Value} {xs : List α}
theorem OwnR.nil (w : World) (base : Nat) (e : TypeId) (E : Enc α) : OwnR w base e E (.slice none 0 0) [] := ⟨by simp [Enc.all], .inl ⟨rfl, rfl⟩⟩
theorem OwnR.lt (h : OwnR w base e E v xs) (k : Nat) (hk : v.ownBlock = some k) : base ≤ k ∧ k < w.heap.size := by
  obtain ⟨_, h | ⟨g, cap, cur, rfl, hb, hg, _⟩⟩ := h
  · rw [h.1] at hk; cases hk
  · injection hk with hk
    subst hk
    exact ⟨hb, (Array.getElem?_eq_some_iff.1 hg).1⟩
theorem OwnR.grown (h : OwnR w base e E v xs) {row : Option Nat} (hg : w.grownBy w' row) (hne : v.ownBlock = none ∨ v.ownBlock ≠ row) : OwnR w' base e E v xs := World.ownsRow.kept h hg hne
theorem OwnR.same (h : OwnR w base e E v xs) (hb : Below w.heap.size w w') : OwnR w' base e E v xs :=
  h.grown (row := none) ⟨hb.os, hb.tape, hb.output, hb.size, fun k hk _ => hb.block k hk⟩ (by cases v.ownBlock <;> simp)
theorem OwnR.alloc (h : OwnR w base e E v xs) (o : Obj) : OwnR (w.alloc o) base e E v xs := h.same (bl_alloc (Below.refl _ _) o)
theorem OwnR.drew (h : OwnR w base e E v xs) : OwnR w.drew base e E v xs := h
/-- A store elsewhere. -/
theorem OwnR.set (h : OwnR w base e E v xs) (a : Addr) (u : Value) (ha : ∀ k, v.ownBlock = some k → k ≠ a.block) : OwnR (w.setCell a u) base e E v xs :=
  h.grown (row := some a.block) ⟨rfl, rfl, rfl, by simp [World.setCell], fun k _ hk => Below.heap_setCell _ _ _ _ (fun e => hk (by rw [e]))⟩ (by
    cases hv : v.ownBlock with
    | none => exact .inl rfl
    | some k => exact .inr (fun e => ha k hv (by injection e)))
theorem OwnR.row (h : OwnR w base e E v xs) (g : Nat) (cs : Array Value) (ha : ∀ k, v.ownBlock = some k → k ≠ g) : OwnR (w.setRow g cs) base e E v xs :=
  h.grown (row := some g) ⟨rfl, rfl, rfl, by simp, fun k _ hk => setRow_other _ _ _ _ (fun e => hk (by rw [e]))⟩ (by
    cases hv : v.ownBlock with
    | none => exact .inl rfl
    | some k => exact .inr (fun e => ha k hv (by injection e)))
theorem OwnR.lower {base' : Nat} (h : OwnR w base e E v xs) (hb : base' ≤ base) : OwnR w base' e E v xs := by
  refine ⟨h.1, ?_⟩
  rcases h.2 with h | ⟨g, cap, cur, hv, hg, r⟩
  · exact .inl h
  · exact .inr ⟨g, cap, cur, hv, Nat.le_trans hb hg, r⟩

/-- It reads as the list. -/
theorem OwnR.reads (h : OwnR w base e E v xs) : ∃ A cap, v = .slice A xs.length cap ∧ xs.length ≤ cap ∧ cap ≤ 9223372036854775807 ∧ (A = none → cap = 0) ∧ Reads w A (E.all xs) := by
  obtain ⟨hl, ⟨rfl, h0⟩ | ⟨g, cap, cur, rfl, _, hg, h1, h2, h3, h4⟩⟩ := h
  · have : xs = [] := List.length_eq_zero_iff.1 h0
    subst this
    exact ⟨none, 0, rfl, Nat.le_refl _, by omega, fun _ => rfl, Reads.nil _ _⟩
  · refine ⟨some ⟨g, 0, none⟩, cap, rfl, h1, by unfold maxLen at h2; omega, by simp, fun j u hj => ⟨g, 0, rfl, ?_⟩⟩
    rw [Nat.zero_add, cell_of_row _ _ _ _ _ _ hg]
    rw [← h4, List.getElem?_take] at hj
    split at hj
    · simpa using hj
    · cases hj

/-- What lay below base is as it was, whatever was done to rows from base on. -/
theorem bl_grown {B : Nat} {w0 : World} (hb : Below B w0 w) (h : OwnR w base e E v xs) (hg : w.grownBy w' v.ownBlock) (hB : B ≤ base) (hw : B ≤ w.heap.size) : Below B w0 w' :=
  hb.grown hg hw fun k hk => Nat.le_trans hB (h.lt k hk).1
end

theorem gb_drew {w w' : World} {row : Option Nat} (h : w.grownBy w' row) : w.grownBy w'.drew row := ⟨h.os, h.tape, h.output, h.size, h.block⟩
theorem World.grownBy.blk {w w' : World} {row : Option Nat} (hg : w.grownBy w' row) {g : Nat} {cs : Array Value} {t : TypeId} (h : Blk w g cs t) (hne : some g ≠ row) : Blk w' g cs t := (hg.block g h.lt hne).trans h
/-- A variable's block ahead of all rows. -/
theorem OwnR.blk {α : Type} {w w' : World} {base : Nat} {e : TypeId} {E : Enc α} {v : Value} {xs : List α} (h : OwnR w base e E v xs) (hg : w.grownBy w' v.ownBlock) {g : Nat} {cs : Array Value} {t : TypeId} (hb : Blk w g cs t) (hlt : g < base) : Blk w' g cs t :=
  World.grownBy.blk hg hb (fun e => by have := (h.lt _ e.symm).1; omega)

/-- append to a row of the call's own: at the operation. -/
theorem own_append {α : Type} {P : Program} {w : World} {ops : Array Oper} {rest : List Oper} {o : Oper} {a : Act} {Q : Exit → Act → World → Prop} {t e : TypeId} {E : Enc α} {bytes : Nat} (T : SlT P t e E bytes) (hgd : o.guard = none) (s x : Operand)
    (ho : o.op = .call { callee := .builtin .append, args := #[s, x], argTypes := #[t, t] })
    (base : Nat) (v : Value) (xs : List α) (hs : a.eval s = v) (hown : OwnR w base e E v xs) (ad : Addr) (m c : Nat) (ys : List α) (hx : a.eval x = .slice (some ad) m c) (hm : ys.length = m)
    (hnews : ∀ j u, (E.all ys)[j]? = some u → w.cell? (ad.add j) = some u) (hbytes : (xs.length + ys.length) * bytes ≤ 140737488355328) (hbase : base ≤ w.heap.size)
    (h : ∀ v' w', OwnR w' base e E v' (xs ++ ys) → w.grownBy w' v.ownBlock → (v'.ownBlock = v.ownBlock ∨ v'.ownBlock = some w.heap.size) → wpList P ops Q rest (a.put o.dst v') w') : wpList P ops Q (o :: rest) a w := by
  obtain ⟨i, z, h1, h2, h3, h4, h5⟩ := T.info
  subst hm
  have hb := T.bpos
  refine wpList_append_own_at _ hgd s x t ho base e i z E.sz bytes T.under h1 h2 h3 h4 h5 T.pos v xs.length (E.all xs) hs hown ad ys.length c (E.all ys) hx (E.all_length ys) hnews (E.all_one_cell ys) ?_ hbytes hbase ?_
  · have : xs.length + ys.length ≤ (xs.length + ys.length) * bytes := Nat.le_mul_of_pos_right _ hb
    unfold maxLen
    omega
  · intro v' w' h2 h3 _ h5
    refine h v' w' ?_ h3 h5
    unfold OwnR
    rw [E.all_append, List.length_append]
    exact h2

theorem news_at (w : World) (x : Value) (t : TypeId) (g : Nat) (hg : g = w.heap.size) : ∀ j u, [x][j]? = some u → (w.alloc (.cells #[x] t)).cell? ((⟨g, 0, none⟩ : Addr).add j) = some u := by
  subst hg; exact cell_one_new w x t
theorem news_one (w : World) (x : Value) (t : TypeId) : ∀ j u, [x][j]? = some u → (w.alloc (.cells #[x] t)).cell? ((⟨w.heap.size, 0, none⟩ : Addr).add j) = some u := cell_one_new w x t
end Go.Proofs.YtackcmlkicjlnaaDoor

/- Strings as lists of bytes; slices of bytes; slices.Reverse of bytes of the call's own. -/
namespace Go.Proofs.YtackcmlkicjlnaaDoor
open Go.RowKit Go.WideShapes Go.ChangeShapes

/-- The string of these bytes. -/
def str (l : List UInt8) : ByteArray := ⟨l.toArray⟩
theorem str_data (l : List UInt8) : (str l).data.toList = l := by simp [str]
theorem str_size (l : List UInt8) : (str l).size = l.length := by simp [str, ByteArray.size]
theorem str_append (a b : List UInt8) : str a ++ str b = str (a ++ b) := by
  apply Go.WideShapes.bytes_inj
  rw [str_data, Go.Joins.data_append, str_data, str_data]
theorem str_of (s : ByteArray) : str s.data.toList = s := by cases s; simp [str]
theorem str_inj {a b : List UInt8} (h : str a = str b) : a = b := by rw [← str_data a, h, str_data]

def eByte : Enc UInt8 := ⟨1, fun b => [.int .u8 (b.toNat : Int)], fun _ => rfl, fun _ u hu => by simp at hu; subst hu; rfl⟩
theorem eByte_all (xs : List UInt8) : eByte.all xs = xs.map fun b => Value.int .u8 (b.toNat : Int) := by
  induction xs with
  | nil => rfl
  | cons x xs ih => simp only [Enc.all, List.flatMap_cons, eByte, List.map_cons, List.cons_append, List.nil_append] at *; rw [ih]

theorem slByte : SlT Tryd.prog 45 5 eByte 1 := slT_of Tryd.underlying45 (z := .int .u8 0) (by kernel_rfl) rfl Nat.one_pos (by omega)

/-- string(b), b a slice of bytes in memory. -/
theorem run_bytes_str {w : World} {b off : Nat} {xs : List UInt8} (src dst e : TypeId) (hs : Tryd.prog.underlying src = some (.slice e)) (he : Tryd.prog.underlying e = some (.int .u8)) (hd : Tryd.prog.underlying dst = some .string)
    (h : Reads w (some ⟨b, off, none⟩) (eByte.all xs)) (cap : Nat) : (convert src dst (.slice (some ⟨b, off, none⟩) xs.length cap)).run Tryd.prog w = .ok (.string (str xs)) w := by
  rw [eByte_all] at h
  have hc : ∀ i, i < xs.length → w.cell? ⟨b, off + i, none⟩ = some (.int .u8 ((xs.map fun b => (b.toNat : Int)).getD i 0)) := fun i hi => by
    obtain ⟨b', off', e', hc⟩ := h i (.int .u8 ((xs[i]).toNat : Int)) (by simp [hi])
    injection e' with e'
    injection e' with h1 h2
    subst h1 h2
    rw [hc]; simp [hi]
  have := run_convert_bytes_arg w src e hs he b off xs.length cap (xs.map fun b => (b.toNat : Int)) (by simp) hc dst hd
  rw [this]
  congr 2
  apply Go.WideShapes.bytes_inj
  rw [strOfNums_data, str_data, List.map_map]
  conv => rhs; rw [← List.map_id xs]
  refine List.map_congr_left fun b _ => ?_
  simp
theorem run_nil_str {w : World} (src dst e : TypeId) (hs : Tryd.prog.underlying src = some (.slice e)) (he : Tryd.prog.underlying e = some (.int .u8)) (hd : Tryd.prog.underlying dst = some .string) (l c : Nat) :
    (convert src dst (.slice none l c)).run Tryd.prog w = .ok (.string (str [])) w := run_convert_bytes_nil w src e hs he l c dst hd
theorem OwnR.str {w : World} {base e' : Nat} {v : Value} {xs : List UInt8} (src dst e : TypeId) (hs : Tryd.prog.underlying src = some (.slice e)) (he : Tryd.prog.underlying e = some (.int .u8)) (hd : Tryd.prog.underlying dst = some .string)
    (h : OwnR w base e' eByte v xs) : (convert src dst v).run Tryd.prog w = .ok (.string (str xs)) w := by
  have hr := h.reads
  rcases h.2 with ⟨rfl, h0⟩ | ⟨g, cap, cur, rfl, _⟩
  · obtain rfl : xs = [] := List.length_eq_zero_iff.1 h0
    exact run_nil_str src dst e hs he hd 0 0
  · obtain ⟨A, cap', e1, _, _, _, hr⟩ := hr
    injection e1 with e1 _ e3
    subst e1 e3
    exact run_bytes_str src dst e hs he hd hr cap
end Go.Proofs.YtackcmlkicjlnaaDoor

/- Numbers' texts: plain laws. -/
namespace Go.Proofs.YtackcmlkicjlnaaDoor
open Go.RowKit Go.WideShapes Go.ChangeShapes

/-! ### numbers' texts -/
def tdg (n : Nat) : UInt8 := UInt8.ofNat (48 + n % 10)
theorem tdg_val (n : Nat) : (tdg n).toNat = 48 + n % 10 := by simp [tdg]; omega
/-- A natural number's text. -/
def tdec (n : Nat) : List UInt8 := if n < 10 then [tdg n] else tdec (n / 10) ++ [tdg n]
theorem tdec_small {n : Nat} (h : n < 10) : tdec n = [tdg n] := by rw [tdec, if_pos h]
theorem tdec_big {n : Nat} (h : 10 ≤ n) : tdec n = tdec (n / 10) ++ [tdg n] := by rw [tdec, if_neg (by omega)]
theorem tdec_len : ∀ (k n : Nat), n < 10 ^ (k + 1) → (tdec n).length ≤ k + 1
  | 0, n, h => by rw [tdec_small (by simpa using h)]; simp
  | k + 1, n, h => by
    by_cases hn : n < 10
    · rw [tdec_small hn]; simp
    · rw [tdec_big (by omega), List.length_append]
      have := tdec_len k (n / 10) (by rw [Nat.pow_succ] at h; omega)
      simp; omega
theorem tdec_pos (n : Nat) : 0 < (tdec n).length := by
  rw [tdec]; split <;> simp
theorem tdec_digit : ∀ {n : Nat} {c : UInt8}, c ∈ tdec n → 48 ≤ c.toNat ∧ c.toNat ≤ 57 := by
  intro n
  induction n using Nat.strongRecOn with
  | _ n ih =>
    intro c hc
    by_cases hn : n < 10
    · rw [tdec_small hn, List.mem_singleton] at hc
      subst hc; rw [tdg_val]; omega
    · rw [tdec_big (by omega), List.mem_append] at hc
      rcases hc with hc | hc
      · exact ih (n / 10) (by omega) hc
      · rw [List.mem_singleton] at hc
        subst hc; rw [tdg_val]; omega
/-- What digits come to, modulo M. -/
def nval (M : Nat) (n : Nat) (l : List UInt8) : Nat := l.foldl (fun n c => (10 * n + (c.toNat + 208) % 256) % M) n
theorem nval_append (M n : Nat) (a b : List UInt8) : nval M n (a ++ b) = nval M (nval M n a) b := by simp [nval]
theorem nval_tdec {M : Nat} : ∀ {k : Nat}, k < M → nval M 0 (tdec k) = k := by
  intro k
  induction k using Nat.strongRecOn with
  | _ k ih =>
    intro hk
    by_cases hn : k < 10
    · rw [tdec_small hn]
      show (10 * 0 + ((tdg k).toNat + 208) % 256) % M = k
      rw [tdg_val, show (48 + k % 10 + 208) % 256 = k by omega, Nat.mul_zero, Nat.zero_add, Nat.mod_eq_of_lt hk]
    · rw [tdec_big (by omega), nval_append, ih (k / 10) (by omega) (by omega)]
      show (10 * (k / 10) + ((tdg k).toNat + 208) % 256) % M = k
      rw [tdg_val, show (48 + k % 10 + 208) % 256 = k % 10 by omega, Nat.mod_eq_of_lt (by omega)]
      omega
theorem tdec_inj {m n : Nat} (h : tdec m = tdec n) : m = n := by
  have h1 := nval_tdec (M := m + n + 1) (k := m) (by omega)
  rw [h, nval_tdec (by omega)] at h1
  exact h1.symm
/-- A whole number's text. -/
def tdecI (n : Int) : List UInt8 := if n < 0 then 45 :: tdec n.natAbs else tdec n.natAbs
theorem tdecI_inj {m n : Int} (h : tdecI m = tdecI n) : m = n := by
  unfold tdecI at h
  have nodash : ∀ (k : Nat) (l : List UInt8), tdec k ≠ 45 :: l := fun k l e => by
    have := tdec_digit (n := k) (c := 45) (by rw [e]; simp)
    simp at this
  split at h <;> split at h
  · injection h with _ h; have := tdec_inj h; omega
  · exact absurd h.symm (nodash _ _)
  · exact absurd h (nodash _ _)
  · have := tdec_inj h; omega
theorem tdecI_len {n : Int} (h : -9223372036854775808 ≤ n ∧ n ≤ 9223372036854775807) : (tdecI n).length ≤ 20 := by
  have := tdec_len 18 n.natAbs (by omega)
  unfold tdecI; split <;> simp <;> omega
theorem tdecI_pos (n : Int) : 0 < (tdecI n).length := by have := tdec_pos n.natAbs; unfold tdecI; split <;> simp <;> omega
theorem tdecI_char {n : Int} {c : UInt8} (h : c ∈ tdecI n) : c = 45 ∨ (48 ≤ c.toNat ∧ c.toNat ≤ 57) := by
  unfold tdecI at h
  split at h
  · rcases List.mem_cons.1 h with h | h
    · exact .inl h
    · exact .inr (tdec_digit h)
  · exact .inr (tdec_digit h)
end Go.Proofs.YtackcmlkicjlnaaDoor

/- A region that draws its order: of each operation a fact on what it yields; one walk of the text's order, each operation in any world in which what it waits for has been done, serves every order. -/
namespace Go.Proofs.YtackcmlkicjlnaaDoor
open Go.RowKit

/-- What is known of what an operation yields: the very value; or a fact on it that stays. -/
inductive Fact (G : World → World → Prop) where
  | val (v : Value)
  | ex (p : Value → World → Prop) (h : ∀ v w w', G w w' → p v w → p v w')

def Fact.holds {G : World → World → Prop} : Fact G → Value → World → Prop
  | .val c, v, _ => v = c
  | .ex p _, v, w => p v w

theorem Fact.stay {G : World → World → Prop} {f : Fact G} {v : Value} {w w' : World} (h : G w w') (k : f.holds v w) : f.holds v w' := by
  cases f with
  | val c => exact k
  | ex p hp => exact hp _ _ _ h k

/-- What an operation waits for. -/
def predsOf (o : Oper) : List Nat := (o.after.toList.filter (fun e => Region.binds .any e)).map (·.on)

def factsOk (ops : Array Oper) (n : Nat) (i : Nat) (o : Oper) : Bool :=
  (o.after.all fun e => !Region.binds .any e || decide (e.on < i)) &&
  (match o.dst with | some d => decide (d < n) | none => true) &&
  (List.range ops.size).all fun j => match (ops[j]?).bind (·.dst) with
    | some d => (i == j || o.dst != some d) && (!(o.looksAt ops).contains d || (predsOf o).contains j)
    | none => true
def factsB (ops : Array Oper) (n : Nat) : Bool :=
  Region.noSelect ops && (List.range ops.size).all fun i => match ops[i]? with | some o => factsOk ops n i o | none => true

section
variable {P : Program} {ops : Array Oper} {C : World → Prop} {G : World → World → Prop}

/-- An operation, carried out in this state and world, yields what the fact says. -/
def opok (P : Program) (ops : Array Oper) (C : World → Prop) (G : World → World → Prop) (o : Oper) (f : Fact G) (a : Act) (w : World) : Prop :=
  if Region.wanted o (yielded ops a.tmps) then
    match (execOp a.eval o).run P w with
    | .ok (.value v) w' => f.holds v w' ∧ C w' ∧ G w w'
    | .ok .skip w' => f.holds undef w' ∧ C w' ∧ G w w'
    | .ok (.enter g args) w' => Calls P g args w' fun e w'' => ∃ v, e = .returned v ∧ f.holds v w'' ∧ C w'' ∧ G w w''
    | _ => False
  else f.holds undef w ∧ G w w

def fsteps (P : Program) (ops : Array Oper) (C : World → Prop) (G : World → World → Prop) (Q : Act → World → Prop) : Nat → List Oper → List (Fact G) → Act → List (Nat × (World → Prop)) → Prop
  | i, o :: os, f :: fs, a, hs => (∀ w, C w → (∀ p ∈ hs, p.1 ∈ predsOf o → p.2 w) → opok P ops C G o f a w) ∧
    match f with
    | .val c => fsteps P ops C G Q (i + 1) os fs (a.put o.dst c) hs
    | .ex p _ => ∀ v, fsteps P ops C G Q (i + 1) os fs (a.put o.dst v) ((i, p v) :: hs)
  | _, [], [], a, hs => ∀ w, C w → (∀ p ∈ hs, p.2 w) → Q a w
  | _, _, _, _, _ => False

def putsFrom (vs : Nat → Value) : Nat → List Oper → Act → Act
  | _, [], a => a
  | k, o :: os, a => putsFrom vs (k + 1) os (a.put o.dst (vs k))

def Agree (fs0 : List (Fact G)) (vs : Nat → Value) : Prop := ∀ i c, fs0[i]? = some (.val c) → vs i = c

theorem fsteps_use {Q : Act → World → Prop} {fs0 : List (Fact G)} {vs : Nat → Value} (hv : Agree fs0 vs) : ∀ (os : List Oper) (k : Nat) (fs : List (Fact G)) (a : Act) (hs : List (Nat × (World → Prop))),
    (∀ j, fs[j]? = fs0[k + j]?) → (∀ p ∈ hs, ∃ (q : Value → World → Prop) (hq : _), fs0[p.1]? = some (Fact.ex q hq) ∧ p.2 = q (vs p.1)) → fsteps P ops C G Q k os fs a hs →
    (∀ j o, os[j]? = some o → ∃ f, fs0[k + j]? = some f ∧ ∀ w, C w → (∀ i ∈ predsOf o, ∀ (q : Value → World → Prop) (hq : _), fs0[i]? = some (Fact.ex q hq) → q (vs i) w) → opok P ops C G o f (putsFrom vs k (os.take j) a) w) ∧
    (∀ w, C w → (∀ (i : Nat) (q : Value → World → Prop) (hq : _), fs0[i]? = some (Fact.ex q hq) → q (vs i) w) → Q (putsFrom vs k os a) w)
  | [], k, [], a, hs, _, hh, h => by
    refine ⟨fun j o hj => by simp at hj, fun w hC hq => ?_⟩
    exact h w hC fun p hp => by
      obtain ⟨q, hq', h1, h2⟩ := hh p hp
      rw [h2]; exact hq _ _ _ h1
  | [], k, f :: fs, a, hs, _, hh, h => h.elim
  | o :: os, k, [], a, hs, _, hh, h => h.elim
  | o :: os, k, f :: fs, a, hs, hf, hh, h => by
    have hk : fs0[k]? = some f := by have := hf 0; simpa using this.symm
    have hf' : ∀ j, fs[j]? = fs0[k + 1 + j]? := fun j => by
      have := hf (j + 1)
      rw [show k + 1 + j = k + (j + 1) from by omega]
      simpa using this
    have key : ∃ hs', (∀ p ∈ hs', ∃ (q : Value → World → Prop) (hq : _), fs0[p.1]? = some (Fact.ex q hq) ∧ p.2 = q (vs p.1)) ∧ fsteps P ops C G Q (k + 1) os fs (a.put o.dst (vs k)) hs' := by
      cases f with
      | val c => rw [hv k c hk]; exact ⟨hs, hh, h.2⟩
      | ex p hp =>
        refine ⟨(k, p (vs k)) :: hs, ?_, h.2 (vs k)⟩
        intro x hx
        rcases List.mem_cons.1 hx with rfl | hx
        · exact ⟨p, hp, hk, rfl⟩
        · exact hh x hx
    obtain ⟨hs', hh', h'⟩ := key
    obtain ⟨r1, r2⟩ := fsteps_use hv os (k + 1) fs _ hs' hf' hh' h'
    refine ⟨fun j oj hj => ?_, r2⟩
    cases j with
    | zero =>
      simp only [List.getElem?_cons_zero, Option.some.injEq] at hj
      subst hj
      refine ⟨f, by simpa using hk, fun w hC hq => h.1 w hC fun p hp hin => ?_⟩
      obtain ⟨q, hq', h1, h2⟩ := hh p hp
      rw [h2]; exact hq _ hin _ _ h1
    | succ j =>
      obtain ⟨f', h1, h2⟩ := r1 j oj (by simpa using hj)
      exact ⟨f', by rw [← h1]; congr 1; omega, h2⟩

theorem putsFrom_size (vs : Nat → Value) : ∀ (os : List Oper) (k : Nat) (a : Act), (putsFrom vs k os a).tmps.size = a.tmps.size
  | [], _, _ => rfl
  | o :: os, k, a => by
    rw [putsFrom, putsFrom_size vs os]
    cases h : o.dst <;> simp [Act.put]
theorem putsFrom_defers (vs : Nat → Value) : ∀ (os : List Oper) (k : Nat) (a : Act), (putsFrom vs k os a).defers = a.defers
  | [], _, _ => rfl
  | o :: os, k, a => by
    rw [putsFrom, putsFrom_defers vs os]
    cases h : o.dst <;> simp [Act.put]
/-- A slot that none of them writes. -/
theorem putsFrom_other (vs : Nat → Value) (t : Nat) : ∀ (os : List Oper) (k : Nat) (a : Act), (∀ o ∈ os, o.dst ≠ some t) → (putsFrom vs k os a).tmps[t]? = a.tmps[t]?
  | [], _, _, _ => rfl
  | o :: os, k, a, h => by
    rw [putsFrom, putsFrom_other vs t os (k + 1) _ (fun x hx => h x (by simp [hx]))]
    have := h o (by simp)
    cases hd : o.dst with
    | none => rfl
    | some d =>
      have hne : d ≠ t := fun e => this (by rw [hd, e])
      simp [Act.put, Array.getElem?_setIfInBounds_ne hne]
/-- A slot that one of them writes. -/
theorem putsFrom_at (vs : Nat → Value) (t : Nat) : ∀ (os : List Oper) (k : Nat) (a : Act) (j : Nat) (o : Oper), os[j]? = some o → o.dst = some t → t < a.tmps.size →
    (∀ i o', os[i]? = some o' → i ≠ j → o'.dst ≠ some t) → (putsFrom vs k os a).tmps[t]? = some (vs (k + j))
  | [], _, _, j, o, h, _, _, _ => by simp at h
  | o :: os, k, a, 0, o', h, hd, ht, hne => by
    simp only [List.getElem?_cons_zero, Option.some.injEq] at h
    subst h
    rw [putsFrom, putsFrom_other vs t os]
    · simp [Act.put, hd, ht]
    · intro x hx
      obtain ⟨i, hi, rfl⟩ := List.mem_iff_getElem.1 hx
      exact hne (i + 1) _ (by simp [hi]) (by omega)
  | o :: os, k, a, j + 1, o', h, hd, ht, hne => by
    rw [putsFrom, putsFrom_at vs t os (k + 1) _ j o' (by simpa using h) hd (by cases h : o.dst <;> simpa [Act.put] using ht) (fun i o'' hi hij => hne (i + 1) o'' (by simpa using hi) (by omega))]
    congr 2; omega

theorem factsOk_of (n : Nat) (h : factsB ops n = true) {i : Nat} {o : Oper} (hi : ops[i]? = some o) :
    (∀ e ∈ o.after, Region.binds .any e = true → e.on < i) ∧ (∀ d, o.dst = some d → d < n) ∧ (∀ j o' d, ops[j]? = some o' → o'.dst = some d → (j ≠ i → o.dst ≠ some d) ∧ (d ∈ o.looksAt ops → j ∈ predsOf o)) := by
  have hlt := (Array.getElem?_eq_some_iff.1 hi).1
  simp only [factsB, Bool.and_eq_true, List.all_eq_true, List.mem_range] at h
  have h1 := h.2 i hlt
  simp only [hi, factsOk, Bool.and_eq_true, List.all_eq_true, List.mem_range] at h1
  obtain ⟨⟨h1, h2⟩, h3⟩ := h1
  refine ⟨fun e he hb => ?_, fun d hd => ?_, fun j o' d hj hd => ?_⟩
  · rw [Array.all_eq_true_iff_forall_mem] at h1
    have := h1 e he
    simpa [hb] using this
  · simpa [hd] using h2
  · have hjl := (Array.getElem?_eq_some_iff.1 hj).1
    have := h3 j hjl
    simp only [hj, Option.bind_some, hd, Bool.and_eq_true, Bool.or_eq_true] at this
    refine ⟨fun hne => ?_, fun hin => ?_⟩
    · have := this.1.resolve_left (by simp; omega)
      simpa using this
    · have := this.2.resolve_left (by simpa using hin)
      simpa using this

theorem opok_congr {o : Oper} {f : Fact G} {a b : Act} {w : World} (h1 : execOp a.eval o = execOp b.eval o) (h2 : Region.wanted o (yielded ops a.tmps) = Region.wanted o (yielded ops b.tmps)) (h : opok P ops C G o f a w) : opok P ops C G o f b w := by
  unfold opok at *
  rw [h1, h2] at h
  exact h

theorem wpOp_of_opok {Q : Exit → Act → World → Prop} {K : Act → World → Prop} {i : Nat} {o : Oper} {f : Fact G} {a : Act} {w : World} (hi : ops[i]? = some o) (hC : C w) (h : opok P ops C G o f a w)
    (hK : ∀ v w', f.holds v w' → C w' → G w w' → K (a.put o.dst v) w') : wpOp P ops Q i K a w := by
  unfold wpOp opok at *
  simp only [hi]
  by_cases hw : Region.wanted o (yielded ops a.tmps) = true
  · simp only [hw, if_true] at h ⊢
    refine .inl ?_
    unfold Oper.wp
    generalize (execOp a.eval o).run P w = r at *
    cases r with
    | ok n w' =>
      cases n <;> simp only [Oper.upon] at h ⊢
      case value v => exact hK _ _ h.1 h.2.1 h.2.2
      case skip => exact hK _ _ h.1 h.2.1 h.2.2
      case enter g args =>
        refine h.mono fun e w'' ⟨v, he, h1, h2, h3⟩ => ?_
        subst he
        exact hK _ _ h1 h2 h3
    | halt x w' => exact h.elim
  · simp only [hw, Bool.false_eq_true, if_false] at h ⊢
    exact hK _ _ h.1 hC h.2

structure FInv (ops : Array Oper) (C : World → Prop) (fs0 : List (Fact G)) (a0 : Act) (listed : Array Bool) (a : Act) (w : World) (vs : Nat → Value) : Prop where
  size : listed.size = ops.size
  cls : C w
  defers : a.defers = a0.defers
  tsize : a.tmps.size = a0.tmps.size
  agree : Agree fs0 vs
  base : ∀ t, (∀ i o, ops[i]? = some o → listed.getD i false = true → o.dst ≠ some t) → a.tmps[t]? = a0.tmps[t]?
  done : ∀ i o d, ops[i]? = some o → listed.getD i false = true → o.dst = some d → a.tmps[d]? = some (vs i)
  facts : ∀ (i : Nat) (q : Value → World → Prop) (hq : _), fs0[i]? = some (Fact.ex q hq) → listed.getD i false = true → q (vs i) w

theorem getD_true_of {listed : Array Bool} {i : Nat} (h : i < listed.size) (hn : listed.getD i true = false ∨ listed.getD i false = true) : listed.getD i false = true ∨ listed.getD i true = false := hn.symm

theorem wpAny_of_facts {Q : Exit → Act → World → Prop} {fs0 : List (Fact G)} {a0 : Act} (hB : factsB ops a0.tmps.size = true)
    (h : fsteps P ops C G (Q .normal) 0 ops.toList fs0 a0 []) : ∀ (fuel : Nat) (listed : Array Bool) (a : Act) (w : World) (vs : Nat → Value), FInv ops C fs0 a0 listed a w vs →
    ((List.range ops.size).filter fun i => !listed.getD i false).length ≤ fuel → wpAny P .any ops Q fuel listed a w := by
  have hsel : Region.noSelect ops = true := by simp only [factsB, Bool.and_eq_true] at hB; exact hB.1
  -- all have come up
  have fin : ∀ (listed : Array Bool) (a : Act) (w : World) (vs : Nat → Value), FInv ops C fs0 a0 listed a w vs → (∀ i, i < ops.size → listed.getD i false = true) → Q .normal a w := by
    intro listed a w vs I hall
    obtain ⟨r1, r2⟩ := fsteps_use (ops := ops) I.agree ops.toList 0 fs0 a0 [] (by simp) (by simp) h
    have ea : a = putsFrom vs 0 ops.toList a0 := by
      obtain ⟨ts, ds⟩ := a
      have e1 : ds = (putsFrom vs 0 ops.toList a0).defers := by rw [putsFrom_defers]; exact I.defers
      have e2 : ts = (putsFrom vs 0 ops.toList a0).tmps := by
        apply Array.ext_getElem?
        intro t
        by_cases hex : ∃ (j : Nat) (o : Oper), ops[j]? = some o ∧ o.dst = some t
        · obtain ⟨j, o, hj, hd⟩ := hex
          have hjl := (Array.getElem?_eq_some_iff.1 hj).1
          have h1 := I.done j o t hj (hall j hjl) hd
          obtain ⟨_, hlt, _⟩ := factsOk_of _ hB hj
          rw [putsFrom_at vs t ops.toList 0 a0 j o (by simpa using hj) hd (hlt t hd) (fun i o' hi hij => by
            obtain ⟨_, _, h3⟩ := factsOk_of _ hB (show ops[i]? = some o' by simpa using hi)
            exact (h3 j o t hj hd).1 (Ne.symm hij))]
          simpa using h1
        · rw [putsFrom_other vs t ops.toList 0 a0 (fun o ho hd => hex (by
            obtain ⟨i, hi, rfl⟩ := List.mem_iff_getElem.1 ho
            exact ⟨i, _, by rw [← Array.getElem?_toList]; exact List.getElem?_eq_getElem hi, hd⟩))]
          exact I.base t (fun i o hi _ hd => hex ⟨i, o, hi, hd⟩)
      rw [e1, e2]
    rw [ea]
    refine r2 w I.cls fun i q hq hi => I.facts i q hq hi ?_
    -- a fact's number is an operation's
    have hl : fs0.length = ops.size := by
      have : ∀ (os : List Oper) (k : Nat) (fs : List (Fact G)) (a : Act) (hs : List (Nat × (World → Prop))), fsteps P ops C G (Q .normal) k os fs a hs → fs.length = os.length := by
        intro os
        induction os with
        | nil => intro k fs a hs h; cases fs with
          | nil => rfl
          | cons f fs => exact h.elim
        | cons o os ih => intro k fs a hs h; cases fs with
          | nil => exact h.elim
          | cons f fs =>
            cases f with
            | val c => simp [ih _ _ _ _ h.2]
            | ex p hp => simp [ih _ _ _ _ (h.2 undef)]
      simpa using this _ _ _ _ _ h
    have := (List.getElem?_eq_some_iff.1 hi).1
    exact hall i (by omega)
  -- if none can come up, all have
  have none_ready : ∀ (listed : Array Bool), listed.size = ops.size → Region.ready .any ops listed = [] → ∀ i, i < ops.size → listed.getD i false = true := by
    intro listed hs hr i
    induction i using Nat.strongRecOn with
    | _ i ih =>
      intro hi
      by_cases hl : listed.getD i false = true
      · exact hl
      · exfalso
        have hl' : listed.getD i true = false := by
          have : i < listed.size := by omega
          simp [this] at hl ⊢
          exact hl
        have hm : i ∈ Region.ready .any ops listed := by
          refine mem_ready.2 ⟨hl', ops[i], by simp [hi], fun e he hb => ?_⟩
          obtain ⟨h1, _, _⟩ := factsOk_of _ hB (show ops[i]? = some ops[i] by simp [hi])
          have := h1 e he hb
          exact ih e.on this (by omega)
        rw [hr] at hm
        cases hm
  intro fuel
  induction fuel with
  | zero =>
    intro listed a w vs I hc
    have hall : ∀ i, i < ops.size → listed.getD i false = true := by
      intro i hi
      have : (List.range ops.size).filter (fun i => !listed.getD i false) = [] := List.length_eq_zero_iff.1 (by omega)
      rw [List.filter_eq_nil_iff] at this
      have := this i (by simp [hi])
      simpa using this
    refine ⟨?_, fin listed a w vs I hall⟩
    cases hr : Region.ready .any ops listed with
    | nil => rfl
    | cons j js =>
      exfalso
      have hj : j ∈ Region.ready .any ops listed := by rw [hr]; simp
      obtain ⟨h0, o, ho, _⟩ := mem_ready.1 hj
      have := hall j (Array.getElem?_eq_some_iff.1 ho).1
      have hlt : j < listed.size := by rw [I.size]; exact (Array.getElem?_eq_some_iff.1 ho).1
      simp [hlt] at h0 this
      rw [h0] at this; cases this
  | succ fuel ih =>
    intro listed a w vs I hc
    refine ⟨fun hr => fin listed a w vs I (none_ready listed I.size hr), fun i hi => ?_⟩
    obtain ⟨h0, o, ho, hall⟩ := mem_ready.1 hi
    have hil := (Array.getElem?_eq_some_iff.1 ho).1
    have hls : i < listed.size := by rw [I.size]; exact hil
    have hun : listed.getD i false = false := by simp [hls] at h0 ⊢; exact h0
    obtain ⟨g1, g2, g3⟩ := factsOk_of _ hB ho
    obtain ⟨r1, _⟩ := fsteps_use (ops := ops) I.agree ops.toList 0 fs0 a0 [] (by simp) (by simp) h
    obtain ⟨f, hf, hok⟩ := r1 i o (by simpa using ho)
    rw [Nat.zero_add] at hf
    have hpre : ∀ j ∈ predsOf o, listed.getD j false = true := by
      intro j hj
      simp only [predsOf, List.mem_map, List.mem_filter] at hj
      obtain ⟨e, ⟨he, hb⟩, rfl⟩ := hj
      exact hall e (by simpa using he) hb
    have hok := hok w I.cls fun j hj q hq hjf => I.facts j q hq hjf (hpre j hj)
    -- the two states are alike at what the operation looks at
    have same : ∀ t ∈ o.looksAt ops, (putsFrom vs 0 (ops.toList.take i) a0).tmps[t]? = a.tmps[t]? := by
      intro t ht
      by_cases hex : ∃ (j : Nat) (o' : Oper), ops[j]? = some o' ∧ o'.dst = some t
      · obtain ⟨j, o', hj, hd⟩ := hex
        have hjp := (g3 j o' t hj hd).2 ht
        have hjl := hpre j hjp
        have hji : j < i := by
          simp only [predsOf, List.mem_map, List.mem_filter] at hjp
          obtain ⟨e, ⟨he, hb⟩, rfl⟩ := hjp
          exact g1 e (by simpa using he) hb
        obtain ⟨_, hlt, _⟩ := factsOk_of _ hB hj
        rw [putsFrom_at vs t (ops.toList.take i) 0 a0 j o' (by rw [List.getElem?_take, if_pos hji]; simpa using hj) hd (hlt t hd) (fun k ok hk hkj => by
          rw [List.getElem?_take] at hk
          split at hk
          · obtain ⟨_, _, h3⟩ := factsOk_of _ hB (show ops[k]? = some ok by simpa using hk)
            exact (h3 j o' t hj hd).1 (Ne.symm hkj)
          · cases hk)]
        rw [I.done j o' t hj hjl hd, Nat.zero_add]
      · rw [putsFrom_other vs t (ops.toList.take i) 0 a0 (fun o' ho' hd => hex (by
          obtain ⟨k, hk, rfl⟩ := List.mem_iff_getElem.1 (List.mem_of_mem_take ho')
          exact ⟨k, _, by rw [← Array.getElem?_toList]; exact List.getElem?_eq_getElem hk, hd⟩))]
        exact (I.base t (fun k ok hk _ hd => hex ⟨k, ok, hk, hd⟩)).symm
    have hok : opok P ops C G o f a w := by
      refine opok_congr ?_ ?_ hok
      · refine execOp_congr o (fun cs b => Region.noSelect_spec hsel i o cs b ho) fun x hx => ?_
        cases x with
        | tmp t =>
          have := same t (List.mem_append_left _ (List.mem_filterMap.2 ⟨.tmp t, by simpa using hx, rfl⟩))
          simp only [Act.eval, Array.getD_eq_getD_getElem?, this]
        | _ => rfl
      · unfold Region.wanted
        cases hg : o.guard with
        | none => rfl
        | some gw =>
          obtain ⟨g, want⟩ := gw
          have : yielded ops (putsFrom vs 0 (ops.toList.take i) a0).tmps g = yielded ops a.tmps g := by
            unfold yielded
            cases ht : (ops[g]?).bind (·.dst) with
            | none => rfl
            | some t => rw [Option.bind_some, Option.bind_some, same t (by simp [Oper.looksAt, hg, ht])]
          simp only [this]
    refine wpOp_of_opok ho I.cls hok fun v w' hv hC' hG => ?_
    refine ih _ _ _ (fun j => if j = i then v else vs j) ⟨by simp [I.size], hC', ?_, ?_, ?_, ?_, ?_, ?_⟩ ?_
    · cases hd : o.dst <;> simpa [Act.put] using I.defers
    · cases hd : o.dst <;> simpa [Act.put] using I.tsize
    · intro j c hj
      by_cases hji : j = i
      · subst hji
        rw [hf] at hj
        injection hj with hj
        subst hj
        simpa [Fact.holds] using hv
      · simpa [hji] using I.agree j c hj
    · intro t ht
      have hne : o.dst ≠ some t := ht i o ho (by simp [hls])
      have : (a.put o.dst v).tmps[t]? = a.tmps[t]? := by
        cases hd : o.dst with
        | none => rfl
        | some d =>
          have hne' : d ≠ t := fun e => hne (by rw [hd, e])
          simp [Act.put, Array.getElem?_setIfInBounds_ne hne']
      rw [this]
      exact I.base t fun j oj hj hl => ht j oj hj (getD_set_true hl)
    · intro j oj d hj hl hd
      by_cases hji : j = i
      · subst hji
        rw [ho] at hj
        injection hj with hj
        subst hj
        have := g2 d hd
        rw [← I.tsize] at this
        simp [Act.put, hd, this]
      · rw [getD_set_ne false (Ne.symm hji)] at hl
        have h1 := I.done j oj d hj hl hd
        have hne : o.dst ≠ some d := (g3 j oj d hj hd).1 hji
        have : (a.put o.dst v).tmps[d]? = a.tmps[d]? := by
          cases hd' : o.dst with
          | none => rfl
          | some d' =>
            have hne' : d' ≠ d := fun e => hne (by rw [hd', e])
            simp [Act.put, Array.getElem?_setIfInBounds_ne hne']
        rw [this, h1]
        simp [hji]
    · intro j q hq hj hl
      by_cases hji : j = i
      · subst hji
        rw [hf] at hj
        injection hj with hj
        subst hj
        simpa [Fact.holds] using hv
      · rw [getD_set_ne false (Ne.symm hji)] at hl
        simp only [hji, if_false]
        exact hq _ _ _ hG (I.facts j q hq hj hl)
    · -- one less
      have hlen : ((List.range ops.size).filter fun j => !(listed.setIfInBounds i true).getD j false).length < ((List.range ops.size).filter fun j => !listed.getD j false).length := by
        have e1 : ((List.range ops.size).filter fun j => !(listed.setIfInBounds i true).getD j false) = ((List.range ops.size).filter fun j => !listed.getD j false).filter (fun j => j != i) := by
          rw [List.filter_filter]
          refine List.filter_congr fun j hj => ?_
          by_cases hji : j = i
          · subst hji; simp [hls]
          · rw [getD_set_ne false (Ne.symm hji)]; simp [hji]
        rw [e1]
        refine List.length_filter_lt_length_iff_exists.2 ⟨i, ?_, by simp⟩
        simp [List.mem_filter, hil]
        simpa [hls] using hun
      omega

/-- **One walk of the text's order.** -/
theorem wp_region_facts {id : Nat} {Q : Exit → Act → World → Prop} {a : Act} {w : World} (fs : List (Fact G)) (hm : P.follows .mixedOrders = true) (hB : factsB ops a.tmps.size = true) (hC : C w.drew)
    (h : fsteps P ops C G (Q .normal) 0 ops.toList fs a []) : (Code.region id ops true).wp P Q a w := by
  refine wp_region_any hm (wpAny_of_facts hB h _ _ _ _ (fun i => match fs[i]? with | some (.val c) => c | _ => undef) ⟨by simp, hC, rfl, rfl, ?_, ?_, ?_, ?_⟩ ?_)
  · intro i c hi; simp [hi]
  · intro t _; rfl
  · intro i o d hi hl; exfalso
    by_cases h' : i < ops.size <;> simp [h'] at hl
  · intro i q hq hi hl; exfalso
    by_cases h' : i < ops.size <;> simp [h'] at hl
  · refine Nat.le_trans (List.length_filter_le _ _) (by simp)

theorem wp_region_facts_lit {id : Nat} {Q : Exit → Act → World → Prop} {a : Act} {w : World} {l : List Oper} (fs : List (Fact G)) (hm : P.follows .mixedOrders = true) (hB : factsB l.toArray a.tmps.size = true) (hC : C w.drew)
    (h : fsteps P l.toArray C G (Q .normal) 0 l fs a []) : (Code.region id l.toArray true).wp P Q a w :=
  wp_region_facts fs hm hB hC (by simpa using h)

/-! ### One operation at a time -/
theorem fsteps_val {Q : Act → World → Prop} {i : Nat} {o : Oper} {os : List Oper} {c : Value} {fs : List (Fact G)} {a : Act} {hs : List (Nat × (World → Prop))} (h1 : ∀ w, C w → (∀ p ∈ hs, p.1 ∈ predsOf o → p.2 w) → opok P ops C G o (.val c) a w)
    (h2 : fsteps P ops C G Q (i + 1) os fs (a.put o.dst c) hs) : fsteps P ops C G Q i (o :: os) (.val c :: fs) a hs := ⟨h1, h2⟩
theorem fsteps_ex {Q : Act → World → Prop} {i : Nat} {o : Oper} {os : List Oper} {p : Value → World → Prop} {hp : ∀ v w w', G w w' → p v w → p v w'} {fs : List (Fact G)} {a : Act} {hs : List (Nat × (World → Prop))}
    (h1 : ∀ w, C w → (∀ p ∈ hs, p.1 ∈ predsOf o → p.2 w) → opok P ops C G o (.ex p hp) a w)
    (h2 : ∀ v, fsteps P ops C G Q (i + 1) os fs (a.put o.dst v) ((i, p v) :: hs)) : fsteps P ops C G Q i (o :: os) (.ex p hp :: fs) a hs := ⟨h1, h2⟩
theorem fsteps_nil {Q : Act → World → Prop} {i : Nat} {a : Act} {hs : List (Nat × (World → Prop))} (h : ∀ w, C w → (∀ p ∈ hs, p.2 w) → Q a w) : fsteps P ops C G Q i [] [] a hs := h

/-! ### How an operation is told -/
variable {o : Oper} {a : Act} {w : World}
theorem opok_value {v : Value} {f : Fact G} {w' : World} (hw : Region.wanted o (yielded ops a.tmps) = true) (h : (execOp a.eval o).run P w = .ok (.value v) w') (hf : f.holds v w') (hC : C w') (hG : G w w') : opok P ops C G o f a w := by
  unfold opok; rw [if_pos hw, h]; exact ⟨hf, hC, hG⟩
theorem opok_skip {f : Fact G} {w' : World} (hw : Region.wanted o (yielded ops a.tmps) = true) (h : (execOp a.eval o).run P w = .ok .skip w') (hf : f.holds undef w') (hC : C w') (hG : G w w') : opok P ops C G o f a w := by
  unfold opok; rw [if_pos hw, h]; exact ⟨hf, hC, hG⟩
theorem opok_call {g : FuncId} {args : Array Value} {f : Fact G} {w1 : World} (hw : Region.wanted o (yielded ops a.tmps) = true) (h : (execOp a.eval o).run P w = .ok (.enter g args) w1)
    (hc : Calls P g args w1 fun e w' => ∃ v, e = .returned v ∧ f.holds v w' ∧ C w' ∧ G w w') : opok P ops C G o f a w := by
  unfold opok; rw [if_pos hw, h]; exact hc
theorem opok_not {f : Fact G} (hw : Region.wanted o (yielded ops a.tmps) = false) (hf : f.holds undef w) (hG : G w w) : opok P ops C G o f a w := by
  unfold opok; rw [if_neg (by simp [hw])]; exact ⟨hf, hG⟩
end
end Go.Proofs.YtackcmlkicjlnaaDoor

/- One operation at a time: laws for walks that a small program (gen/wx.py) prints. -/
namespace Go.Proofs.YtackcmlkicjlnaaDoor
open Go.RowKit

def G0 (w w' : World) : Prop := Below w.heap.size w w'
theorem G0.refl (w : World) : G0 w w := Below.refl _ _
/-- The worlds above one. -/
def Abv (W0 W : World) : Prop := Below W0.heap.size W0 W
theorem Abv.step {W0 W W' : World} (h : Abv W0 W) (k : G0 W W') : Abv W0 W' := bl_step h k
theorem Abv.start (W0 : World) : Abv W0 W0.drew := bl_drew (Below.refl _ _)

section
variable {P : Program} {ops : Array Oper} {o : Oper} {rest : List Oper} {a : Act} {w : World} {Q : Exit → Act → World → Prop}
theorem st_value {v : Value} (hw : Region.wanted o (yielded ops a.tmps) = true) (h : (execOp a.eval o).run P w = .ok (.value v) w) (k : wpList P ops Q rest (a.put o.dst v) w) : wpList P ops Q (o :: rest) a w := by
  unfold wpList
  rw [if_pos hw]
  refine .inl ?_
  unfold Oper.wp
  rw [h]
  exact k
theorem st_not (hw : Region.wanted o (yielded ops a.tmps) = false) (k : wpList P ops Q rest (a.put o.dst undef) w) : wpList P ops Q (o :: rest) a w := by
  unfold wpList
  rw [if_neg (by simp [hw])]
  exact k
/-- A call. -/
theorem st_call {g : FuncId} {args : Array Value} {R : Value → World → Prop} (hw : Region.wanted o (yielded ops a.tmps) = true) (h : (execOp a.eval o).run P w = .ok (.enter g args) w)
    (c : Calls P g args w fun e w' => ∃ v, e = .returned v ∧ R v w') (k : ∀ v w', R v w' → wpList P ops Q rest (a.put o.dst v) w') : wpList P ops Q (o :: rest) a w := by
  unfold wpList
  rw [if_pos hw]
  refine .inl ?_
  unfold Oper.wp
  rw [h]
  exact c.mono fun e w' ⟨v, he, hr⟩ => by subst he; exact k _ _ hr
/-- A call that hands back the value v. -/
theorem st_call1 {g : FuncId} {args : Array Value} {v : Value} {R : World → Prop} (hw : Region.wanted o (yielded ops a.tmps) = true) (h : (execOp a.eval o).run P w = .ok (.enter g args) w)
    (c : Calls P g args w fun e w' => e = .returned v ∧ R w') (k : ∀ w', R w' → wpList P ops Q rest (a.put o.dst v) w') : wpList P ops Q (o :: rest) a w :=
  st_call (R := fun u w' => u = v ∧ R w') hw h (c.mono fun _ _ ⟨h1, h2⟩ => ⟨v, h1, rfl, h2⟩) fun _ w' ⟨h1, h2⟩ => h1 ▸ k w' h2
/-- A new block. -/
theorem st_new {cs : Array Value} {t : TypeId} (hw : Region.wanted o (yielded ops a.tmps) = true) (h : (execOp a.eval o).run P w = .ok (.value (.pointer (some ⟨w.heap.size, 0, none⟩))) (w.alloc (.cells cs t)))
    (k : ∀ g w', Blk w' g cs t → Below w.heap.size w w' → w.heap.size ≤ g → wpList P ops Q rest (a.put o.dst (.pointer (some ⟨g, 0, none⟩))) w') : wpList P ops Q (o :: rest) a w := by
  unfold wpList
  rw [if_pos hw]
  refine .inl ?_
  unfold Oper.wp
  rw [h]
  exact k _ _ (Blk.new _ _ _ _ rfl) (bl_alloc (Below.refl _ _) _) (Nat.le_refl _)
/-- A block of the call's own is written whole. -/
theorem st_row {g : Nat} {new old : Array Value} {t : TypeId} (hw : Region.wanted o (yielded ops a.tmps) = true) (h : (execOp a.eval o).run P w = .ok .skip (w.setRow g new)) (hg : Blk w g old t)
    (k : ∀ w', Blk w' g new t → w.grownBy w' (some g) → wpList P ops Q rest (a.put o.dst undef) w') : wpList P ops Q (o :: rest) a w := by
  unfold wpList
  rw [if_pos hw]
  refine .inl ?_
  unfold Oper.wp
  rw [h]
  exact k _ (hg.row new) ⟨rfl, rfl, rfl, by simp, fun k _ hk => setRow_other _ _ _ _ (fun e => hk (by rw [e]))⟩
/-- A cell of a block of the call's own. -/
theorem st_cell {g i : Nat} {cs : Array Value} {v : Value} {t : TypeId} (hw : Region.wanted o (yielded ops a.tmps) = true) (h : (execOp a.eval o).run P w = .ok .skip (w.setCell ⟨g, i, none⟩ v)) (hg : Blk w g cs t)
    (k : ∀ w', Blk w' g (cs.setIfInBounds i v) t → w.grownBy w' (some g) → wpList P ops Q rest (a.put o.dst undef) w') : wpList P ops Q (o :: rest) a w := by
  unfold wpList
  rw [if_pos hw]
  refine .inl ?_
  unfold Oper.wp
  rw [h]
  exact k _ (hg.set i v) ⟨rfl, rfl, rfl, by simp [World.setCell], fun k _ hk => Below.heap_setCell _ _ _ _ (fun e => hk (by rw [e]))⟩
end

theorem not_true {b : Bool} (h : (!b) = true) : b = false := by simpa using h
theorem not_false {b : Bool} (h : (!b) = false) : b = true := by simpa using h
theorem Blk.ne {w : World} {g g' : Nat} {cs : Array Value} {t : TypeId} (h : Blk w g cs t) (k : w.heap.size ≤ g') : g ≠ g' := by
  have := h.lt
  omega
theorem Blk.kept {w w' : World} {g g' : Nat} {cs : Array Value} {t : TypeId} (h : Blk w g cs t) (hg : w.grownBy w' (some g')) (hne : g ≠ g') : Blk w' g cs t := World.grownBy.blk hg h (fun e => hne (Option.some.inj e))
theorem bl_kept {B : Nat} {w0 w w' : World} {g : Nat} (hb : Below B w0 w) (hg : w.grownBy w' (some g)) (hB : B ≤ g) (hw : B ≤ w.heap.size) : Below B w0 w' :=
  hb.grown hg hw fun k hk => by injection hk with hk; omega
theorem bl_kept0 {w0 w w' : World} {g : Nat} (hb : Below w0.heap.size w0 w) (hg : w.grownBy w' (some g)) (hB : w0.heap.size ≤ g) : Below w0.heap.size w0 w' := bl_kept hb hg hB hb.size
/-- What lay at a place below stays there. -/
theorem low_le {w0 w : World} (hb : Below w0.heap.size w0 w) {g : Nat} (h : w.heap.size ≤ g) : w0.heap.size ≤ g := Nat.le_trans hb.size h
end Go.Proofs.YtackcmlkicjlnaaDoor

/- Rows that a call makes for itself, in walks that gen/wx.py prints: append, blocks beside them, and a loop's law by what is left. -/
namespace Go.Proofs.YtackcmlkicjlnaaDoor
open Go.RowKit

/-- A row's block is not this one. -/
def Off (v : Value) (g : Nat) : Prop := v.ownBlock ≠ some g
/-- Two rows lie apart. -/
def Off2 (v u : Value) : Prop := v.ownBlock = none ∨ v.ownBlock ≠ u.ownBlock
theorem Off2.symm {v u : Value} (h : Off2 v u) : Off2 u v := by
  rcases h with h | h
  · cases hu : u.ownBlock with
    | none => exact .inl hu
    | some k => exact .inr (by rw [h, hu]; simp)
  · exact .inr (fun e => h e.symm)
theorem Off.nil (g : Nat) : Off (.slice none 0 0) g := by simp [Off, Value.ownBlock]
theorem Off2.nil (u : Value) : Off2 (.slice none 0 0) u := .inl rfl

section
variable {α : Type} {w w' : World} {base : Nat} {e : TypeId} {E : Enc α} {v v' u : Value} {xs : List α} {g : Nat} {cs : Array Value} {t : TypeId}
theorem OwnR.off (h : OwnR w base e E v xs) (hg : w.heap.size ≤ g) : Off v g := fun k => by have := (h.lt g k).2; omega
/-- A row that a callee made lies apart from what there was. -/
theorem OwnR.offLow {w0 : World} (h : OwnR w w0.heap.size e E v xs) (hb : Blk w0 g cs t) : Off v g := fun k => by have := (h.lt g k).1; have := hb.lt; omega
theorem OwnR.offLow2 {α' : Type} {e' : TypeId} {E' : Enc α'} {ys : List α'} {base' : Nat} {w0 : World} (h : OwnR w w0.heap.size e E v xs) (k : OwnR w0 base' e' E' u ys) : Off2 v u := by
  cases hv : v.ownBlock with
  | none => exact .inl hv
  | some q =>
    refine .inr fun hu => ?_
    have := (h.lt q hv).1
    have := (k.lt q (by rw [← hu, hv])).2
    omega
theorem OwnR.keptB (h : OwnR w base e E v xs) (hg : w.grownBy w' (some g)) (n : Off v g) : OwnR w' base e E v xs := h.grown hg (.inr n)
theorem Blk.keptR (h : Blk w g cs t) (hg : w.grownBy w' v.ownBlock) (n : Off v g) : Blk w' g cs t := World.grownBy.blk hg h (fun k => n k.symm)
theorem Off.app (n : Off v g) (h : Blk w g cs t) (hat : v'.ownBlock = v.ownBlock ∨ v'.ownBlock = some w.heap.size) : Off v' g := by
  have hl := h.lt
  rcases hat with hat | hat
  · rw [Off, hat]; exact n
  · rw [Off, hat]; intro k; injection k with k; omega
theorem Off2.app {α' : Type} {e' : TypeId} {E' : Enc α'} {ys : List α'} {base' : Nat} (n : Off2 v u) (h : OwnR w base' e' E' u ys) (hat : v'.ownBlock = v.ownBlock ∨ v'.ownBlock = some w.heap.size) : Off2 v' u := by
  rcases hat with hat | hat
  · rw [Off2, hat]; exact n
  · refine .inr fun k => ?_
    rw [hat] at k
    have := (h.lt _ k.symm).2
    omega
theorem OwnR.keptR (h : OwnR w base e E v xs) (hg : w.grownBy w' u.ownBlock) (n : Off2 v u) : OwnR w' base e E v xs := h.grown hg n
theorem bl_app {w0 : World} (hb : Below w0.heap.size w0 w) (h : OwnR w w0.heap.size e E v xs) (hg : w.grownBy w' v.ownBlock) : Below w0.heap.size w0 w' := bl_grown hb h hg (Nat.le_refl _) hb.size
/-- A slice that was built of so many elements. -/
theorem OwnR.built (h : Blk w g cs e) (hc : cs.toList = E.all xs) (hB : base ≤ g) (hn : xs.length ≤ 9223372036854775807) (hz : cs.size = xs.length * E.sz) : OwnR w base e E (.slice (some ⟨g, 0, none⟩) xs.length xs.length) xs := by
  refine ⟨E.all_length xs, .inr ⟨g, xs.length, cs, rfl, hB, h, Nat.le_refl _, by unfold maxLen; omega, hz, ?_⟩⟩
  rw [hc, List.take_of_length_le (by rw [E.all_length]; exact Nat.le_refl _)]
end

section
variable {P : Program} {ops : Array Oper} {o : Oper} {rest : List Oper} {a : Act} {w : World} {Q : Exit → Act → World → Prop}
/-- A slice literal. -/
theorem st_lit {cs : Array Value} {t : TypeId} {n : Nat} (hw : Region.wanted o (yielded ops a.tmps) = true) (h : (execOp a.eval o).run P w = .ok (.value (.slice (some ⟨w.heap.size, 0, none⟩) n n)) (w.alloc (.cells cs t)))
    (k : ∀ g w', Blk w' g cs t → Below w.heap.size w w' → w.heap.size ≤ g → wpList P ops Q rest (a.put o.dst (.slice (some ⟨g, 0, none⟩) n n)) w') : wpList P ops Q (o :: rest) a w := by
  unfold wpList
  rw [if_pos hw]
  refine .inl ?_
  unfold Oper.wp
  rw [h]
  exact k _ _ (Blk.new _ _ _ _ rfl) (bl_alloc (Below.refl _ _) _) (Nat.le_refl _)
/-- append of a literal's elements. -/
theorem st_append {α : Type} {t e : TypeId} {E : Enc α} {bytes : Nat} (T : SlT P t e E bytes) (hgd : o.guard = none) (s x : Operand)
    (ho : o.op = .call { callee := .builtin .append, args := #[s, x], argTypes := #[t, t] })
    {base : Nat} {v : Value} {xs : List α} (hs : a.eval s = v) (hown : OwnR w base e E v xs) {g m c : Nat} (ys : List α) (hx : a.eval x = .slice (some ⟨g, 0, none⟩) m c) (hm : ys.length = m)
    {cs : Array Value} {t' : TypeId} (hB : Blk w g cs t') (hc : ∀ (j : Nat) (u : Value), (E.all ys)[j]? = some u → cs[j]? = some u) (hbytes : (xs.length + ys.length) * bytes ≤ 140737488355328) (hbase : base ≤ w.heap.size)
    (h : ∀ v' w', OwnR w' base e E v' (xs ++ ys) → w.grownBy w' v.ownBlock → (v'.ownBlock = v.ownBlock ∨ v'.ownBlock = some w.heap.size) → wpList P ops Q rest (a.put o.dst v') w') : wpList P ops Q (o :: rest) a w :=
  own_append T hgd s x ho base v xs hs hown ⟨g, 0, none⟩ m c ys hx hm (fun j u hj => by rw [add_none, Nat.zero_add, hB.cell]; exact hc j u hj) hbytes hbase h
/-- append of what reads as a list, nil or not. -/
theorem st_appends {α : Type} {t e : TypeId} {E : Enc α} {bytes : Nat} (T : SlT P t e E bytes) (hgd : o.guard = none) (s x : Operand)
    (ho : o.op = .call { callee := .builtin .append, args := #[s, x], argTypes := #[t, t] })
    {base : Nat} {v : Value} {xs : List α} (hs : a.eval s = v) (hown : OwnR w base e E v xs) {A : Option Addr} {m c : Nat} (ys : List α) (hx : a.eval x = .slice A m c) (hm : ys.length = m)
    (hr : Reads w A (E.all ys)) (hbytes : (xs.length + ys.length) * bytes ≤ 140737488355328) (hbase : base ≤ w.heap.size)
    (h : ∀ v' w', OwnR w' base e E v' (xs ++ ys) → w.grownBy w' v.ownBlock → (v'.ownBlock = v.ownBlock ∨ v'.ownBlock = some w.heap.size) → wpList P ops Q rest (a.put o.dst v') w') : wpList P ops Q (o :: rest) a w := by
  cases A with
  | some ad =>
    refine own_append T hgd s x ho base v xs hs hown ad m c ys hx hm (fun j u hj => ?_) hbytes hbase h
    obtain ⟨b, off, e1, hc⟩ := hr j u hj
    injection e1 with e1
    subst e1
    rw [add_none]
    exact hc
  | none =>
    have hy : ys = [] := by
      cases ys with
      | nil => rfl
      | cons y ys =>
        exfalso
        have hp : 0 < (E.all (y :: ys)).length := by rw [E.all_length, List.length_cons, Nat.succ_mul]; have := T.pos; omega
        obtain ⟨b, off, e1, _⟩ := hr.at_ hp
        cases e1
    subst hy
    subst hm
    obtain ⟨i, z, h1, h2, h3, h4, h5⟩ := T.info
    have hrun : (Builtin.append_ #[t, t] o.type #[v, .slice none 0 c]).run P w = .ok v w := by
      rcases hown.2 with ⟨rfl, _⟩ | ⟨g, cap, cur, rfl, _, _, hnc, _⟩
      · simp [Builtin.append_, run_underlying T.under, sizeOf, typeInfo, h1, Builtin.lenOf, Builtin.firstCells]
      · simp [Builtin.append_, run_underlying T.under, sizeOf, typeInfo, h1, Builtin.lenOf, Builtin.firstCells, hnc, storeCells]
    have hw : Region.wanted o (yielded ops a.tmps) = true := by simp [Region.wanted, hgd]
    refine st_value (v := v) hw ?_ (h v w (by simpa using hown) ⟨rfl, rfl, rfl, Nat.le_refl _, fun k _ _ => rfl⟩ (.inl rfl))
    unfold execOp
    simp only [ho, resolve, invoke, builtin, Sem.run_bind, Sem.run_pure, Result.andThen_ok, List.map_toArray, List.map_cons, List.map_nil, hs, hx, List.length_nil, hrun]
end

/-- A loop, by what is left. -/
theorem wp_loop_left {P : Program} {c : Code} {Q : Exit → Act → World → Prop} {a : Act} {w : World} (I : Nat → Act → World → Prop) (n : Nat) (h0 : I n a w)
    (round : ∀ n a w, I n a w → c.wp P (Exit.then (fun a' w' => ∃ m, m < n ∧ I m a' w') Q) a w) : (Code.loop c).wp P Q a w := by
  intro b k cs
  have key : ∀ n a w, I n a w → ∃ e a' w', Q e a' w' ∧ Arrives P (lone (b.at a (.code c :: .inLoop c :: k)) cs w) b k cs e a' w' := by
    intro n
    induction n using Nat.strongRecOn with
    | _ n ih =>
      intro a w hI
      obtain ⟨e, a₁, w₁, hq, harr⟩ := round n a w hI b (.inLoop c :: k) cs
      cases e with
      | normal =>
        obtain ⟨m, hlt, hI₁⟩ := hq
        obtain ⟨e₂, a₂, w₂, hq₂, harr₂⟩ := ih m hlt a₁ w₁ hI₁
        exact ⟨e₂, a₂, w₂, hq₂, .of_steps (Steps.trans harr (.one step_inLoop)) harr₂⟩
      | exit id => exact ⟨_, a₁, w₁, hq, .pass (x := .inLoop c) rfl (fun _ _ => .inl (by simp)) harr⟩
      | goto l => exact ⟨_, a₁, w₁, hq, .pass (x := .inLoop c) rfl (fun _ _ => .inl (by simp)) harr⟩
      | ret => exact ⟨_, a₁, w₁, hq, .pass (x := .inLoop c) rfl (fun _ _ => .inl (by simp)) harr⟩
      | panic ch => exact ⟨_, a₁, w₁, hq, .pass (x := .inLoop c) rfl (fun _ _ => .inl (by simp)) harr⟩
      | outgrown => exact ⟨_, a₁, w₁, hq, .pass (x := .inLoop c) rfl (fun _ _ => .inl (by simp)) harr⟩
  obtain ⟨e, a', w', hq, harr⟩ := key n a w h0
  exact ⟨e, a', w', hq, .of_steps (.one step_loop) harr⟩

/-! ### Elements of what came in -/
theorem Reads.intAt {w : World} {b off : Nat} {k : IntKind} {xs : List Int} (h : Reads w (some ⟨b, off, none⟩) (xs.map (Value.int k))) (i : Nat) (hi : i < xs.length) : w.cell? ⟨b, off + i * 1, none⟩ = some (.int k (nth xs i)) := by
  obtain ⟨b', off', e, hc⟩ := h i (.int k (nth xs i)) (by simp [nth, hi])
  injection e with e
  injection e with e1 e2
  subst e1 e2
  rw [Nat.mul_one]
  exact hc
theorem Reads.int_elem {w : World} {b off : Nat} {k : IntKind} {xs : List Int} (h : ∀ j u, (xs.map (Value.int k))[j]? = some u → w.cell? ⟨b, off + j, none⟩ = some u) (i : Nat) (hi : i < xs.length) :
    w.cell? ⟨b, off + i * 1, none⟩ = some (.int k (nth xs i)) := by rw [Nat.mul_one]; exact Reads.int_at h i hi
theorem Blk.readsAt {w : World} {g : Nat} {cs : Array Value} {t : TypeId} (h : Blk w g cs t) (l : List Value) (hl : cs.toList = l) : Reads w (some ⟨g, 0, none⟩) l := by
  subst hl
  intro j u hj
  exact ⟨g, 0, rfl, by rw [Nat.zero_add, h.cell]; simpa using hj⟩
end Go.Proofs.YtackcmlkicjlnaaDoor

/- A set of workers as one number of which no bit from 1024 on is set: its sixteen words, how one word changes, and when two are the same. -/
namespace Go.Proofs.YtackcmlkicjlnaaDoor
open Go.RowKit Go.WideShapes Go.ChangeShapes

/-- Word number i. -/
def wd (S i : Nat) : Nat := (S >>> (64 * i)) % 2 ^ 64
theorem wd_lt (S i : Nat) : wd S i < 2 ^ 64 := Nat.mod_lt _ (by decide)
theorem testBit_wd (S i j : Nat) : (wd S i).testBit j = (decide (j < 64) && S.testBit (64 * i + j)) := by
  unfold wd
  rw [Nat.testBit_mod_two_pow, Nat.testBit_shiftRight]

/-- No bit from 1024 on is set. -/
def Sm (S : Nat) : Prop := ∀ n, 1024 ≤ n → S.testBit n = false
theorem sm_zero : Sm 0 := fun n _ => Nat.zero_testBit n

/-- Two such numbers with the same sixteen words are one. -/
theorem eq_of_wd {S T : Nat} (hS : Sm S) (hT : Sm T) (h : ∀ i, i < 16 → wd S i = wd T i) : S = T := by
  refine Nat.eq_of_testBit_eq fun n => ?_
  by_cases hn : n < 1024
  · have := congrArg (fun x => x.testBit (n % 64)) (h (n / 64) (by omega))
    simp only [testBit_wd] at this
    rw [show 64 * (n / 64) + n % 64 = n from by omega] at this
    simpa [show n % 64 < 64 from by omega] using this
  · rw [hS n (by omega), hT n (by omega)]

/-- The sixteen cells of a set. -/
def setC (S : Nat) : List Value := (List.range 16).map fun i => Value.int .u64 (wd S i)
def setA (S : Nat) : Array Value := (setC S).toArray
theorem setC_length (S : Nat) : (setC S).length = 16 := by simp [setC]
theorem setA_size (S : Nat) : (setA S).size = 16 := by simp [setA, setC]
theorem setC_get (S i : Nat) (h : i < 16) : (setC S)[i]? = some (.int .u64 (wd S i)) := by simp [setC, h]
theorem setA_get (S i : Nat) (h : i < 16) : (setA S)[i]? = some (.int .u64 (wd S i)) := by simp [setA, setC, h]

/-- One word is another one. -/
theorem setA_set {S T i v : Nat} (hv : wd T i = v) (h : ∀ j, j < 16 → j ≠ i → wd T j = wd S j) : (setA S).setIfInBounds i (.int .u64 v) = setA T := by
  apply Array.ext
  · simp [setA, setC]
  · intro j h1 h2
    have hj : j < 16 := by simpa [setA_size] using h2
    rw [Array.getElem_setIfInBounds (by simpa [setA_size] using hj)]
    split
    · rename_i e; subst e; simp [setA, setC, hv]
    · rename_i e; simp [setA, setC, h j hj (fun q => e q.symm)]

theorem setA_inj {S T : Nat} (hS : Sm S) (hT : Sm T) (h : setA S = setA T) : S = T := by
  refine eq_of_wd hS hT fun i hi => ?_
  have := congrArg (fun x : Array Value => x[i]?) h
  simp only [setA_get _ _ hi, Option.some.injEq, Value.int.injEq, true_and] at this
  exact Int.ofNat.inj this

/-- The set of sixteen words. -/
def ofWords : List Nat → Nat
  | [] => 0
  | w :: ws => w + ofWords ws * 2 ^ 64
theorem ofWords_lt : ∀ (l : List Nat), (∀ w ∈ l, w < 2 ^ 64) → ofWords l < 2 ^ (64 * l.length)
  | [], _ => by simp [ofWords]
  | w :: ws, h => by
    have h1 := h w (by simp)
    have h2 := ofWords_lt ws (fun x hx => h x (by simp [hx]))
    simp only [ofWords, List.length_cons]
    rw [show 64 * (ws.length + 1) = 64 * ws.length + 64 from by omega, Nat.pow_add]
    have h3 : ofWords ws + 1 ≤ 2 ^ (64 * ws.length) := h2
    have := Nat.mul_le_mul_right (2 ^ 64) h3
    rw [Nat.succ_mul] at this
    omega
theorem wd_ofWords : ∀ (l : List Nat) (i : Nat), (∀ w ∈ l, w < 2 ^ 64) → i < l.length → wd (ofWords l) i = l.getD i 0
  | [], i, _, h => by simp at h
  | w :: ws, 0, hw, _ => by
    have h1 := hw w (by simp)
    simp only [wd, ofWords, Nat.mul_zero, Nat.shiftRight_zero, List.getD_cons_zero]
    rw [Nat.add_mul_mod_self_right, Nat.mod_eq_of_lt h1]
  | w :: ws, i + 1, hw, h => by
    have h1 := hw w (by simp)
    have := wd_ofWords ws i (fun x hx => hw x (by simp [hx])) (by simpa using h)
    simp only [List.getD_cons_succ]
    rw [← this]
    simp only [wd, ofWords]
    rw [show 64 * (i + 1) = 64 + 64 * i from by omega, Nat.shiftRight_add]
    congr 2
    rw [Nat.shiftRight_eq_div_pow, Nat.add_mul_div_right _ _ (by decide), Nat.div_eq_of_lt h1, Nat.zero_add]

/-- Sixteen cells that are well-formed words are a set's. -/
theorem setC_of {cs : List Value} (hl : cs.length = 16) (h : ∀ i, i < 16 → ∃ n, (cs.drop i).take 1 = [Value.int .u64 n] ∧ (Lit.int .u64 n).wf = true) : ∃ S, Sm S ∧ cs = setC S := by
  have key : ∀ m, m ≤ 16 → ∃ l : List Nat, l.length = m ∧ (∀ w ∈ l, w < 2 ^ 64) ∧ cs.take m = l.map fun (w : Nat) => Value.int .u64 (w : Int) := by
    intro m
    induction m with
    | zero => exact fun _ => ⟨[], rfl, by simp, rfl⟩
    | succ m ih =>
      intro hm
      obtain ⟨l, h1, h2, h3⟩ := ih (by omega)
      obtain ⟨n, e, wf⟩ := h m (by omega)
      have b := bounds_u64 wf
      have e2 : cs[m]? = some (Value.int .u64 n) := by
        have := congrArg (fun x : List Value => x[0]?) e
        simpa [List.getElem?_take, List.getElem?_drop] using this
      obtain ⟨q, rfl⟩ := Int.eq_ofNat_of_zero_le b.1
      refine ⟨l ++ [q], by simp [h1], ?_, ?_⟩
      · intro w hw
        rcases List.mem_append.1 hw with hw | hw
        · exact h2 w hw
        · simp at hw; subst hw; have := b.2; omega
      · rw [List.take_add_one, h3, e2]; simp
  obtain ⟨l, h1, h2, h3⟩ := key 16 (Nat.le_refl _)
  refine ⟨ofWords l, ?_, ?_⟩
  · intro n hn
    exact Nat.testBit_lt_two_pow (Nat.lt_of_lt_of_le (ofWords_lt l h2) (Nat.pow_le_pow_right (by decide) (by rw [h1]; omega)))
  · rw [List.take_of_length_le (by omega)] at h3
    rw [h3]
    apply List.ext_getElem?
    intro i
    by_cases hi : i < 16
    · rw [setC_get _ _ hi, wd_ofWords l i h2 (by omega), List.getElem?_map, List.getD_eq_getElem?_getD, List.getElem?_eq_getElem (by omega)]; rfl
    · rw [List.getElem?_eq_none (by simp; omega), List.getElem?_eq_none (by rw [setC_length]; omega)]

theorem flat_set {P : Program} {t e : TypeId} (ht : P.underlying t = some (.array 16 e)) (he : P.underlying e = some (.int .u64)) (hc : P.cellsOf e = 1) (hs : P.cellsOf t = 16) :
    Flat P t (fun cs => ∃ S, cs = setC S ∧ Sm S) := by
  intro H enc w base spare held fuel cs x h
  obtain ⟨h1, h2⟩ := flat_array ht (flat_int he) h
  rw [hc] at h2
  rw [hs] at h1
  obtain ⟨S, a, b⟩ := setC_of h1 (fun i hi => by simpa using h2 i hi)
  exact ⟨S, b, a⟩

/-! ### '==' -/
theorem u64_wf (n : Nat) (h : n < 2 ^ 64) : (Lit.int .u64 (n : Int)).wf = true := by go_wf
theorem keyLits_set {P : Program} {t e : TypeId} (ht : P.underlying t = some (.array 16 e)) (he : P.underlying e = some (.int .u64)) (hc : P.cellsOf e = 1) (hs : P.cellsOf t = 16) (D S : Nat) :
    P.keyLits (D + 2) t (setC S) = some ((List.range 16).map fun i => Lit.int .u64 (wd S i)) := by
  unfold Program.keyLits
  simp only [ht, setC_length, hs, if_true, hc, Nat.mul_one]
  have : (List.range 16).mapM (fun i => P.keyLits (D + 1) e (((setC S).drop i).take 1)) = some ((List.range 16).map fun i => [Lit.int .u64 (wd S i)]) := by
    have g : ∀ l : List Nat, (∀ i ∈ l, i < 16) → l.mapM (fun i => P.keyLits (D + 1) e (((setC S).drop i).take 1)) = some (l.map fun i => [Lit.int .u64 (wd S i)]) := by
      intro l
      induction l with
      | nil => intro _; rfl
      | cons i l ih =>
        intro h
        have e1 : ((setC S).drop i).take 1 = [.int .u64 (wd S i)] := by
          have hi := h i (by simp)
          apply List.ext_getElem?
          intro j
          cases j with
          | zero => simp [setC_get _ _ hi]
          | succ j => simp [List.getElem?_take]
        rw [List.mapM_cons, ih (fun j hj => h j (by simp [hj])), e1]
        unfold Program.keyLits
        simp [he, u64_wf _ (wd_lt S i)]
    exact g _ (by simp)
  rw [this]
  simp only [Option.map_some, Option.some.injEq]
  generalize List.range 16 = l
  induction l with
  | nil => rfl
  | cons a l ih => simp [ih]

theorem run_eq_set {P : Program} {t e : TypeId} (ht : P.underlying t = some (.array 16 e)) (he : P.underlying e = some (.int .u64)) (hc : P.cellsOf e = 1) (hs : P.cellsOf t = 16) (d : Nat) {S T : Nat} (hS : Sm S) (hT : Sm T) (w : World) :
    (Op.equalIn (d + 2) t (.agg (setA S)) (.agg (setA T))).run P w = .ok (decide (S = T)) w := by
  have hk : P.keyTypeAt 2 t = true := by simp [Program.keyTypeAt, ht, he]
  have f : ∀ U, (Value.agg (setA U)).formed P t = true := fun U => by simp [Value.formed, ht, hs, setA_size]
  obtain ⟨r, hr, hi⟩ := run_equalIn_deep d 2 t hk w 2 2 _ _ _ _ (f S) (f T) (keyLits_set ht he hc hs 0 S) (keyLits_set ht he hc hs 0 T)
  rw [hr]
  congr 1
  rw [Bool.eq_iff_iff, hi, decide_eq_true_iff]
  constructor
  · intro h
    refine eq_of_wd hS hT fun i hi => ?_
    have := congrArg (fun x : List Lit => x[i]?) h
    simp [hi] at this
    exact Int.ofNat.inj this
  · rintro rfl; rfl

/-! ### single workers -/
/-- Is n in the set? -/
def has (S : Nat) (n : Int) : Bool := decide (0 ≤ n) && S.testBit n.toNat
theorem has_nat (S n : Nat) : has S n = S.testBit n := by simp [has]
theorem has_neg (S : Nat) (n : Int) (h : n < 0) : has S n = false := by simp [has]; omega
theorem has_big {S : Nat} (hS : Sm S) {n : Int} (h : 1024 ≤ n) : has S n = false := by
  simp only [has, Bool.and_eq_false_iff]
  exact .inr (hS _ (by omega))
theorem has_word (S n : Nat) : (wd S (n / 64) / 2 ^ (n % 64)) % 2 = (S.testBit n).toNat := by
  have h := testBit_wd S (n / 64) (n % 64)
  rw [show 64 * (n / 64) + n % 64 = n from by omega, show decide (n % 64 < 64) = true from by simp; omega, Bool.true_and] at h
  rw [← h, Nat.testBit_eq_decide_div_mod_eq]
  have : wd S (n / 64) / 2 ^ (n % 64) % 2 < 2 := Nat.mod_lt _ (by decide)
  by_cases e : wd S (n / 64) / 2 ^ (n % 64) % 2 = 1
  · simp [e]
  · have : wd S (n / 64) / 2 ^ (n % 64) % 2 = 0 := by omega
    simp [this]

/-- With one more. -/
def put (S : Nat) (n : Int) : Nat := if 0 ≤ n ∧ n < 1024 then S ||| 2 ^ n.toNat else S
/-- Without one. -/
def drop (S : Nat) (n : Int) : Nat := if 0 ≤ n ∧ n < 1024 then S ^^^ (S &&& 2 ^ n.toNat) else S
theorem testBit_put (S : Nat) (n : Int) (m : Nat) : (put S n).testBit m = (S.testBit m || decide ((m : Int) = n ∧ n < 1024)) := by
  unfold put
  split
  · rename_i h
    rw [Nat.testBit_or, Nat.testBit_two_pow]
    congr 1
    rw [decide_eq_decide]
    omega
  · rename_i h
    rw [show decide ((m : Int) = n ∧ n < 1024) = false from by simp; omega, Bool.or_false]
theorem testBit_drop (S : Nat) (n : Int) (m : Nat) : (drop S n).testBit m = (S.testBit m && !decide ((m : Int) = n ∧ n < 1024)) := by
  unfold drop
  split
  · rename_i h
    rw [Nat.testBit_xor, Nat.testBit_and, Nat.testBit_two_pow]
    rw [show decide ((m : Int) = n ∧ n < 1024) = decide (n.toNat = m) from by rw [decide_eq_decide]; omega]
    cases S.testBit m <;> cases decide (n.toNat = m) <;> rfl
  · rename_i h
    rw [show decide ((m : Int) = n ∧ n < 1024) = false from by simp; omega, Bool.not_false, Bool.and_true]

theorem put_sm {S : Nat} (hS : Sm S) (n : Int) : Sm (put S n) := fun m hm => by rw [testBit_put, hS m hm]; simp; omega
theorem drop_sm {S : Nat} (hS : Sm S) (n : Int) : Sm (drop S n) := fun m hm => by rw [testBit_drop, hS m hm]; simp
theorem testBit_pow_word (n i j : Nat) : (2 ^ n).testBit (64 * i + j) = decide (n = 64 * i + j) := Nat.testBit_two_pow
end Go.Proofs.YtackcmlkicjlnaaDoor

/- What cpuset's is, Has, Put, Drop and the reference's Has do, over sets as numbers. -/
namespace Go.Proofs.YtackcmlkicjlnaaDoor
open Go.RowKit Go.WideShapes Go.ChangeShapes

theorem ret_bool {a b : Bool} (h : a = b) : Ending.returned (.bool a) = .returned (.bool b) := by rw [h]

theorem shr_mod (v k : Nat) : (((v : Int) / 2 ^ k).tmod 2 == 1) = (v / 2 ^ k % 2 == 1) := by
  have e : ((v : Int) / 2 ^ k) = ((v / 2 ^ k : Nat) : Int) := by simp
  rw [e, Int.tmod_eq_emod_of_nonneg (Int.natCast_nonneg _)]
  rw [Bool.eq_iff_iff]; simp; omega

theorem wraps_u64 (n : Int) (h₀ : 0 ≤ n) (h₁ : n < 2 ^ 64) : IntKind.u64.wrap n = n := by
  have e : IntKind.u64.wrap n = n % 18446744073709551616 := by simp [IntKind.wrap, IntKind.bits, IntKind.signed]
  rw [e]
  omega
theorem bits64 (a b : Nat) (ha : a < 2 ^ 64) (hb : b < 2 ^ 64) : bits .and .u64 a b = ((a &&& b : Nat) : Int) ∧ bits .or .u64 a b = ((a ||| b : Nat) : Int) :=
  bits_nat .u64 64 (by decide) wraps_u64 a b ha hb
theorem bits64_not (a b : Nat) (ha : a < 2 ^ 64) (hb : b < 2 ^ 64) : bits .andNot .u64 a b = ((a ^^^ (a &&& b) : Nat) : Int) := by
  have e0 : (BitVec.ofNat 64 a &&& ~~~BitVec.ofNat 64 b).toNat = a ^^^ (a &&& b) := by
    refine Nat.eq_of_testBit_eq fun i => ?_
    rw [← BitVec.getLsbD]
    simp only [BitVec.getLsbD_and, BitVec.getLsbD_not, BitVec.getLsbD_ofNat, Nat.testBit_xor, Nat.testBit_and]
    by_cases hi : i < 64
    · simp only [hi, decide_true, Bool.true_and]
      cases a.testBit i <;> cases b.testBit i <;> rfl
    · have : a.testBit i = false := Nat.testBit_lt_two_pow (Nat.lt_of_lt_of_le ha (Nat.pow_le_pow_right (by decide) (by omega)))
      simp [hi, this]
  have e : (BitVec.ofNat IntKind.u64.bits a &&& ~~~BitVec.ofNat IntKind.u64.bits b).toNat = a ^^^ (a &&& b) := e0
  simp only [bits, BitVec.ofInt_natCast]
  rw [e]
  refine wraps_u64 _ (Int.natCast_nonneg _) ?_
  have : a ^^^ (a &&& b) < 2 ^ 64 := Nat.xor_lt_two_pow ha (Nat.and_lt_two_pow _ hb)
  exact_mod_cast this
theorem div_lt64 {v : Nat} (h : v < 2 ^ 64) (k : Nat) : v / 2 ^ k < 2 ^ 64 := Nat.lt_of_le_of_lt (Nat.div_le_self _ _) h
theorem and_one (v k : Nat) (h : v < 2 ^ 64) : (bits .and .u64 ((v : Int) / 2 ^ k) 1 == 1) = (v / 2 ^ k % 2 == 1) := by
  have e : ((v : Int) / 2 ^ k) = ((v / 2 ^ k : Nat) : Int) := by simp
  have := (bits64 (v / 2 ^ k) 1 (div_lt64 h k) (by decide)).1
  rw [e, show (1 : Int) = ((1 : Nat) : Int) from rfl, this, Nat.and_one_is_mod]
  rw [Bool.eq_iff_iff, beq_iff_eq, beq_iff_eq]
  omega

end Go.Proofs.YtackcmlkicjlnaaDoor

/- What cpuset's Put and Drop do. -/
namespace Go.Proofs.YtackcmlkicjlnaaDoor
open Go.RowKit Go.WideShapes Go.ChangeShapes

theorem wd_put (S n : Nat) (h : n < 1024) : wd (put S n) (n / 64) = wd S (n / 64) ||| 2 ^ (n % 64) := by
  refine Nat.eq_of_testBit_eq fun j => ?_
  rw [testBit_wd, Nat.testBit_or, testBit_wd, testBit_put, Nat.testBit_two_pow]
  by_cases hj : j < 64
  · simp only [hj, decide_true, Bool.true_and]
    congr 1
    rw [decide_eq_decide]
    omega
  · simp only [hj, decide_false, Bool.false_and, Bool.false_or]
    rw [eq_comm, decide_eq_false_iff_not]
    omega
theorem wd_put_other (S n j : Nat) (hj : j ≠ n / 64) : wd (put S n) j = wd S j := by
  refine Nat.eq_of_testBit_eq fun i => ?_
  rw [testBit_wd, testBit_wd, testBit_put]
  by_cases hi : i < 64
  · rw [show decide (((64 * j + i : Nat) : Int) = (n : Int) ∧ (n : Int) < 1024) = false from by simp; omega, Bool.or_false]
  · simp [hi]
theorem wd_drop (S n : Nat) (h : n < 1024) : wd (drop S n) (n / 64) = wd S (n / 64) ^^^ (wd S (n / 64) &&& 2 ^ (n % 64)) := by
  refine Nat.eq_of_testBit_eq fun j => ?_
  rw [testBit_wd, Nat.testBit_xor, Nat.testBit_and, testBit_wd, testBit_drop, Nat.testBit_two_pow]
  by_cases hj : j < 64
  · simp only [hj, decide_true, Bool.true_and]
    rw [show decide (((64 * (n / 64) + j : Nat) : Int) = (n : Int) ∧ (n : Int) < 1024) = decide (n % 64 = j) from by rw [decide_eq_decide]; omega]
    cases S.testBit (64 * (n / 64) + j) <;> cases decide (n % 64 = j) <;> rfl
  · simp [hj]
theorem wd_drop_other (S n j : Nat) (hj : j ≠ n / 64) : wd (drop S n) j = wd S j := by
  refine Nat.eq_of_testBit_eq fun i => ?_
  rw [testBit_wd, testBit_wd, testBit_drop]
  by_cases hi : i < 64
  · rw [show decide (((64 * j + i : Nat) : Int) = (n : Int) ∧ (n : Int) < 1024) = false from by simp; omega, Bool.not_false, Bool.and_true]
  · simp [hi]
theorem pow64 {k : Nat} (h : k < 64) : 2 ^ k < 2 ^ 64 := Nat.pow_lt_pow_right (by decide) h

theorem put_out {S : Nat} {n : Int} (h : ¬ (0 ≤ n ∧ n < 1024)) : put S n = S := by rw [put, if_neg h]
theorem drop_out {S : Nat} {n : Int} (h : ¬ (0 ≤ n ∧ n < 1024)) : drop S n = S := by rw [drop, if_neg h]

/-! ### whole sets read from a variable, stored into one, handed back -/
theorem setA_one (S : Nat) : (setA S).all (·.oneCell') = true := by
  rw [Array.all_eq_true_iff_forall_mem]
  intro v hv
  simp [setA, setC] at hv
  obtain ⟨i, _, rfl⟩ := hv
  rfl
theorem bl_setRow {w W : World} (h : Below w.heap.size w W) (g : Nat) (hg : w.heap.size ≤ g) (cs : Array Value) : Below w.heap.size w (W.setRow g cs) :=
  h.trans ⟨rfl, rfl, rfl, by simp, fun k hk => setRow_other W g k cs (by omega)⟩

end Go.Proofs.YtackcmlkicjlnaaDoor

/- What cpuset's And, Or and Minus do. -/
namespace Go.Proofs.YtackcmlkicjlnaaDoor
open Go.RowKit Go.WideShapes Go.ChangeShapes

/-- Sixteen cells out of sixteen words. -/
def wordsA (f : Nat → Nat) : Array Value := ((List.range 16).map fun j => Value.int .u64 (f j)).toArray
theorem wordsA_wd (S : Nat) : wordsA (wd S) = setA S := rfl
theorem wordsA_get (f : Nat → Nat) (i : Nat) (h : i < 16) : (wordsA f)[i]? = some (.int .u64 (f i)) := by simp [wordsA, h]
theorem wordsA_size (f : Nat → Nat) : (wordsA f).size = 16 := by simp [wordsA]
theorem wordsA_set {f g : Nat → Nat} {i v : Nat} (hv : g i = v) (h : ∀ j, j < 16 → j ≠ i → g j = f j) : (wordsA f).setIfInBounds i (.int .u64 v) = wordsA g := by
  apply Array.ext
  · simp [wordsA]
  · intro j h1 h2
    have hj : j < 16 := by simpa [wordsA_size] using h2
    rw [Array.getElem_setIfInBounds (by simpa [wordsA_size] using hj)]
    split
    · rename_i e; subst e; simp [wordsA, hv]
    · rename_i e; simp [wordsA, h j hj (fun q => e q.symm)]
theorem wordsA_eq {f g : Nat → Nat} (h : ∀ j, j < 16 → f j = g j) : wordsA f = wordsA g := by
  unfold wordsA
  congr 1
  exact List.map_congr_left fun j hj => by rw [h j (by simpa using hj)]

/-- The first of two sets without the second. -/
def minus (S T : Nat) : Nat := S ^^^ (S &&& T)
theorem testBit_minus (S T n : Nat) : (minus S T).testBit n = (S.testBit n && !T.testBit n) := by
  simp only [minus, Nat.testBit_xor, Nat.testBit_and]
  cases S.testBit n <;> cases T.testBit n <;> rfl
theorem wd_and (S T j : Nat) : wd (S &&& T) j = wd S j &&& wd T j := by
  refine Nat.eq_of_testBit_eq fun i => ?_
  simp only [testBit_wd, Nat.testBit_and]
  cases decide (i < 64) <;> simp
theorem wd_or (S T j : Nat) : wd (S ||| T) j = wd S j ||| wd T j := by
  refine Nat.eq_of_testBit_eq fun i => ?_
  simp only [testBit_wd, Nat.testBit_or]
  cases decide (i < 64) <;> simp
theorem wd_minus (S T j : Nat) : wd (minus S T) j = wd S j ^^^ (wd S j &&& wd T j) := by
  refine Nat.eq_of_testBit_eq fun i => ?_
  simp only [testBit_wd, Nat.testBit_xor, Nat.testBit_and, testBit_minus]
  cases decide (i < 64) <;> cases S.testBit (64 * j + i) <;> cases T.testBit (64 * j + i) <;> rfl
theorem and_sm {S : Nat} (T : Nat) (hS : Sm S) : Sm (S &&& T) := fun n hn => by rw [Nat.testBit_and, hS n hn, Bool.false_and]
theorem or_sm {S T : Nat} (hS : Sm S) (hT : Sm T) : Sm (S ||| T) := fun n hn => by rw [Nat.testBit_or, hS n hn, hT n hn]; rfl
theorem minus_sm {S : Nat} (T : Nat) (hS : Sm S) : Sm (minus S T) := fun n hn => by rw [testBit_minus, hS n hn, Bool.false_and]

/-- The words while the loop goes: those ahead of i are new. -/
def mixW (op : Nat → Nat → Nat) (S T i j : Nat) : Nat := if j < i then op (wd S j) (wd T j) else wd S j

theorem heap_alloc3_a (w : World) (A B C : Obj) : (((w.alloc A).alloc B).alloc C).heap[w.heap.size]? = some A := by
  rw [heap_alloc_old _ _ (by simp; omega)]; exact heap_alloc2_old w A B
theorem heap_alloc3_b (w : World) (A B C : Obj) : (((w.alloc A).alloc B).alloc C).heap[w.heap.size + 1]? = some B := by
  rw [heap_alloc_old _ _ (by simp)]; exact heap_alloc2_new w A B
theorem heap_alloc3_c (w : World) (A B C : Obj) : (((w.alloc A).alloc B).alloc C).heap[w.heap.size + 2]? = some C := by
  have := heap_alloc2_new (w.alloc A) B C; simpa using this

theorem mixW_zero (op : Nat → Nat → Nat) (S T : Nat) : setA S = wordsA (mixW op S T 0) := wordsA_eq fun j _ => by simp [mixW]
theorem mixW_all (op : Nat → Nat → Nat) (S T R : Nat) (h : ∀ j, wd R j = op (wd S j) (wd T j)) : wordsA (mixW op S T 16) = setA R := wordsA_eq fun j hj => by simp [mixW, hj, h]
theorem mixW_step (op : Nat → Nat → Nat) (S T i : Nat) : (wordsA (mixW op S T i)).setIfInBounds i (.int .u64 (op (wd S i) (wd T i) : Nat)) = wordsA (mixW op S T (i + 1)) :=
  wordsA_set (by simp [mixW]) fun j _ hj => by unfold mixW; split <;> split <;> first | rfl | omega


end Go.Proofs.YtackcmlkicjlnaaDoor

/- What cpuset's Of, Range, Within and Meets and the reference's Make do. -/
namespace Go.Proofs.YtackcmlkicjlnaaDoor
open Go.RowKit Go.WideShapes Go.ChangeShapes

/-- The set of those of some numbers that are workers'. -/
def mk (l : List Int) : Nat := l.foldl put 0
theorem mk_snoc (l : List Int) (n : Int) : mk (l ++ [n]) = put (mk l) n := by simp [mk]
theorem mk_take (l : List Int) (k : Nat) (h : k < l.length) : mk (l.take (k + 1)) = put (mk (l.take k)) (nth l k) := by
  rw [List.take_succ_eq_append_getElem h, mk_snoc]
  simp [nth, h]
theorem mk_sm (l : List Int) : Sm (mk l) := by
  have : ∀ (l : List Int) (S : Nat), Sm S → Sm (l.foldl put S) := by
    intro l
    induction l with
    | nil => exact fun _ h => h
    | cons n l ih => exact fun S h => ih _ (put_sm h n)
  exact this l 0 sm_zero
theorem testBit_mk (l : List Int) (m : Nat) : (mk l).testBit m = decide (m < 1024 ∧ (m : Int) ∈ l) := by
  have : ∀ (l : List Int) (S : Nat), (l.foldl put S).testBit m = (S.testBit m || decide (m < 1024 ∧ (m : Int) ∈ l)) := by
    intro l
    induction l with
    | nil => simp
    | cons n l ih =>
      intro S
      rw [List.foldl_cons, ih, testBit_put, Bool.or_assoc]
      congr 1
      rw [← Bool.decide_or, decide_eq_decide]
      simp only [List.mem_cons]
      constructor
      · rintro (⟨h1, h2⟩ | ⟨h1, h2⟩)
        · exact ⟨by omega, .inl h1⟩
        · exact ⟨h1, .inr h2⟩
      · rintro ⟨h1, h2 | h2⟩
        · exact .inl ⟨h2, by omega⟩
        · exact .inr ⟨h1, h2⟩
  rw [mk, this, Nat.zero_testBit, Bool.false_or]

theorem setA_zero : setA 0 = #[.int .u64 0, .int .u64 0, .int .u64 0, .int .u64 0, .int .u64 0, .int .u64 0, .int .u64 0, .int .u64 0, .int .u64 0, .int .u64 0, .int .u64 0, .int .u64 0, .int .u64 0, .int .u64 0, .int .u64 0, .int .u64 0] := rfl

/-- Adding a bit that is not there is or. -/
theorem add_bit (v k : Nat) (hk : k < 64) (hv : v < 2 ^ 64) (h : v.testBit k = false) : IntKind.u64.wrap ((v : Int) + IntKind.u64.wrap (2 ^ k)) = ((v ||| 2 ^ k : Nat) : Int) := by
  have hp : (2 : Nat) ^ k < 2 ^ 64 := pow64 hk
  have e1 : IntKind.u64.wrap (2 ^ k) = ((2 ^ k : Nat) : Int) := by rw [wraps_u64 _ (Int.pow_nonneg (by omega)) (by exact_mod_cast hp)]; simp
  have e2 : v + 2 ^ k = v ||| 2 ^ k := by
    have a : v &&& 2 ^ k = 0 := by
      refine Nat.eq_of_testBit_eq fun i => ?_
      rw [Nat.testBit_and, Nat.testBit_two_pow, Nat.zero_testBit]
      by_cases e : k = i
      · subst e; rw [h, Bool.false_and]
      · simp [e]
    have b := BitVec.add_eq_or_of_and_eq_zero (BitVec.ofNat 65 v) (BitVec.ofNat 65 (2 ^ k)) (by
      apply BitVec.eq_of_toNat_eq
      simp only [BitVec.toNat_and, BitVec.toNat_ofNat]
      rw [Nat.mod_eq_of_lt (by omega), Nat.mod_eq_of_lt (by omega), a])
    have c := congrArg BitVec.toNat b
    simp only [BitVec.toNat_add, BitVec.toNat_or, BitVec.toNat_ofNat] at c
    rw [Nat.mod_eq_of_lt (a := v) (by omega), Nat.mod_eq_of_lt (a := 2 ^ k) (by omega), Nat.mod_eq_of_lt (by omega)] at c
    exact c
  rw [e1, ← e2]
  have : v ||| 2 ^ k < 2 ^ 64 := Nat.or_lt_two_pow hv hp
  rw [wraps_u64]
  · simp
  · omega
  · rw [← e2] at this; omega

theorem put_has {S : Nat} {n : Int} (h : has S n = true) : put S n = S := by
  refine Nat.eq_of_testBit_eq fun m => ?_
  rw [testBit_put]
  simp only [has, Bool.and_eq_true, decide_eq_true_eq] at h
  by_cases e : (m : Int) = n
  · subst e; simp at h; rw [h]; simp
  · simp [e]

end Go.Proofs.YtackcmlkicjlnaaDoor

/- '==' and '!=' of sets and of texts, and the load of a set: at the operation. -/
namespace Go.Proofs.YtackcmlkicjlnaaDoor
open Go.RowKit Go.WideShapes Go.ChangeShapes

theorem str_toList (l : List UInt8) : (str l).toList = l := by rw [ByteArray.toList_eq, str_data]
theorem list_beq (l m : List UInt8) : (l == m) = decide (l = m) := by rw [Bool.eq_iff_iff, beq_iff_eq, decide_eq_true_iff]

/-- .. of two texts. -/
theorem run_eql_text {o : Oper} {a : Act} (x y : Operand) {t t' : TypeId} (ho : o.op = .binOp .eql t x y t') {l m : List UInt8} (hx : a.eval x = .string (str l)) (hy : a.eval y = .string (str m)) (W : World) :
    (execOp a.eval o).run Tryd.prog W = .ok (.value (.bool (decide (l = m)))) W := by
  unfold execOp
  simp only [ho, hx, hy]
  simp [eqGuard, binOp, Op.stringOp, str_toList, list_beq]
theorem run_neq_text {o : Oper} {a : Act} (x y : Operand) {t t' : TypeId} (ho : o.op = .binOp .neq t x y t') {l m : List UInt8} (hx : a.eval x = .string (str l)) (hy : a.eval y = .string (str m)) (W : World) :
    (execOp a.eval o).run Tryd.prog W = .ok (.value (.bool (!decide (l = m)))) W := by
  unfold execOp
  simp only [ho, hx, hy]
  simp [eqGuard, binOp, Op.stringOp, str_toList, list_beq]
section
variable {o : Oper} {a : Act} (x y : Operand) {t t' : TypeId}
theorem run_eql_text_t (ho : o.op = .binOp .eql t x y t') {l m : List UInt8} (hx : a.eval x = .string (str l)) (hy : a.eval y = .string (str m)) (h : l = m) (W : World) : (execOp a.eval o).run Tryd.prog W = .ok (.value (.bool true)) W := by
  rw [run_eql_text x y ho hx hy W, decide_eq_true h]
theorem run_eql_text_f (ho : o.op = .binOp .eql t x y t') {l m : List UInt8} (hx : a.eval x = .string (str l)) (hy : a.eval y = .string (str m)) (h : l ≠ m) (W : World) : (execOp a.eval o).run Tryd.prog W = .ok (.value (.bool false)) W := by
  rw [run_eql_text x y ho hx hy W, decide_eq_false h]
theorem run_neq_text_t (ho : o.op = .binOp .neq t x y t') {l m : List UInt8} (hx : a.eval x = .string (str l)) (hy : a.eval y = .string (str m)) (h : l = m) (W : World) : (execOp a.eval o).run Tryd.prog W = .ok (.value (.bool false)) W := by
  rw [run_neq_text x y ho hx hy W, decide_eq_true h]; rfl
theorem run_neq_text_f (ho : o.op = .binOp .neq t x y t') {l m : List UInt8} (hx : a.eval x = .string (str l)) (hy : a.eval y = .string (str m)) (h : l ≠ m) (W : World) : (execOp a.eval o).run Tryd.prog W = .ok (.value (.bool true)) W := by
  rw [run_neq_text x y ho hx hy W, decide_eq_false h]; rfl
theorem run_equalIn_bool (d : Nat) {t : TypeId} (h : Tryd.prog.underlying t = some .bool) (b c : Bool) (W : World) : (Op.equalIn (d + 1) t (.bool b) (.bool c)).run Tryd.prog W = .ok (b == c) W := by simp [Op.equalIn, run_underlying h]
theorem run_eql_bool (ho : o.op = .binOp .eql 4 x y t') {b c : Bool} (hx : a.eval x = .bool b) (hy : a.eval y = .bool c) (W : World) : (execOp a.eval o).run Tryd.prog W = .ok (.value (.bool (b == c))) W := by
  have e : binOp .eql 4 (.bool b) (.bool c) = (do pure (.bool (← Op.equal 4 (.bool b) (.bool c)))) := rfl
  have r := run_equalIn_bool 9999 Tryd.underlying4 b c W
  unfold execOp
  simp only [ho, hx, hy, e]
  simp [eqGuard, Op.equal, Op.maxDepth, r]
theorem run_neq_bool (ho : o.op = .binOp .neq 4 x y t') {b c : Bool} (hx : a.eval x = .bool b) (hy : a.eval y = .bool c) (W : World) : (execOp a.eval o).run Tryd.prog W = .ok (.value (.bool (b != c))) W := by
  have e : binOp .neq 4 (.bool b) (.bool c) = (do pure (.bool (!(← Op.equal 4 (.bool b) (.bool c))))) := rfl
  have r := run_equalIn_bool 9999 Tryd.underlying4 b c W
  unfold execOp
  simp only [ho, hx, hy, e]
  simp [eqGuard, Op.equal, Op.maxDepth, r, bne]
theorem run_neq_bool_t (ho : o.op = .binOp .neq 4 x y t') {b : Bool} (hx : a.eval x = .bool b) (hy : a.eval y = .bool b) (W : World) : (execOp a.eval o).run Tryd.prog W = .ok (.value (.bool false)) W := by
  rw [run_neq_bool x y ho hx hy W]; simp
theorem run_eql_bool_t (ho : o.op = .binOp .eql 4 x y t') {b : Bool} (hx : a.eval x = .bool b) (hy : a.eval y = .bool b) (W : World) : (execOp a.eval o).run Tryd.prog W = .ok (.value (.bool true)) W := by
  rw [run_eql_bool x y ho hx hy W]; simp
end
end Go.Proofs.YtackcmlkicjlnaaDoor

/- What single operations on whole numbers, Bools, texts and slices yield: at the operation. -/
namespace Go.Proofs.YtackcmlkicjlnaaDoor
open Go.RowKit

section
variable {P : Program} {o : Oper} {a : Act} (x y : Operand) {t t' : TypeId} {k : IntKind} {m n : Int}

theorem run_add (ho : o.op = .binOp .add t x y t') (hx : a.eval x = .int k m) (hy : a.eval y = .int k n) (W : World) : (execOp a.eval o).run P W = .ok (.value (.int k (k.wrap (m + n)))) W := by
  unfold execOp; simp only [ho, hx, hy]; simp [go_sem, eqGuard]
theorem run_sub (ho : o.op = .binOp .sub t x y t') (hx : a.eval x = .int k m) (hy : a.eval y = .int k n) (W : World) : (execOp a.eval o).run P W = .ok (.value (.int k (k.wrap (m - n)))) W := by
  unfold execOp; simp only [ho, hx, hy]; simp [go_sem, eqGuard]
theorem run_mul (ho : o.op = .binOp .mul t x y t') (hx : a.eval x = .int k m) (hy : a.eval y = .int k n) (W : World) : (execOp a.eval o).run P W = .ok (.value (.int k (k.wrap (m * n)))) W := by
  unfold execOp; simp only [ho, hx, hy]; simp [go_sem, eqGuard]
theorem run_add_in (ho : o.op = .binOp .add t x y t') (hx : a.eval x = .int .i64 m) (hy : a.eval y = .int .i64 n) (h : -9223372036854775808 ≤ m + n ∧ m + n ≤ 9223372036854775807) (W : World) : (execOp a.eval o).run P W = .ok (.value (.int .i64 (m + n))) W := by
  rw [run_add x y ho hx hy W, IntWalk.i64_in _ (by omega)]
theorem run_sub_in (ho : o.op = .binOp .sub t x y t') (hx : a.eval x = .int .i64 m) (hy : a.eval y = .int .i64 n) (h : -9223372036854775808 ≤ m - n ∧ m - n ≤ 9223372036854775807) (W : World) : (execOp a.eval o).run P W = .ok (.value (.int .i64 (m - n))) W := by
  rw [run_sub x y ho hx hy W, IntWalk.i64_in _ (by omega)]
theorem run_mul_in (ho : o.op = .binOp .mul t x y t') (hx : a.eval x = .int .i64 m) (hy : a.eval y = .int .i64 n) (h : -9223372036854775808 ≤ m * n ∧ m * n ≤ 9223372036854775807) (W : World) : (execOp a.eval o).run P W = .ok (.value (.int .i64 (m * n))) W := by
  rw [run_mul x y ho hx hy W, IntWalk.i64_in _ (by omega)]
theorem run_lss (ho : o.op = .binOp .lss t x y t') (hx : a.eval x = .int k m) (hy : a.eval y = .int k n) (W : World) : (execOp a.eval o).run P W = .ok (.value (.bool (decide (m < n)))) W := by
  unfold execOp; simp only [ho, hx, hy]; simp [go_sem, eqGuard]
theorem run_leq (ho : o.op = .binOp .leq t x y t') (hx : a.eval x = .int k m) (hy : a.eval y = .int k n) (W : World) : (execOp a.eval o).run P W = .ok (.value (.bool (decide (m ≤ n)))) W := by
  unfold execOp; simp only [ho, hx, hy]; simp [go_sem, eqGuard]
theorem run_gtr (ho : o.op = .binOp .gtr t x y t') (hx : a.eval x = .int k m) (hy : a.eval y = .int k n) (W : World) : (execOp a.eval o).run P W = .ok (.value (.bool (decide (n < m)))) W := by
  unfold execOp; simp only [ho, hx, hy]; simp [go_sem, eqGuard]
theorem run_geq (ho : o.op = .binOp .geq t x y t') (hx : a.eval x = .int k m) (hy : a.eval y = .int k n) (W : World) : (execOp a.eval o).run P W = .ok (.value (.bool (decide (n ≤ m)))) W := by
  unfold execOp; simp only [ho, hx, hy]; simp [go_sem, eqGuard]
theorem int_beq (m n : Int) : (m == n) = decide (m = n) := by rw [Bool.eq_iff_iff, beq_iff_eq, decide_eq_true_iff]
theorem run_eql_int (ho : o.op = .binOp .eql t x y t') (hx : a.eval x = .int k m) (hy : a.eval y = .int k n) (W : World) : (execOp a.eval o).run P W = .ok (.value (.bool (decide (m = n)))) W := by
  unfold execOp; simp only [ho, hx, hy]; simp [eqGuard, binOp, Op.intCmp, int_beq]
theorem run_neq_int (ho : o.op = .binOp .neq t x y t') (hx : a.eval x = .int k m) (hy : a.eval y = .int k n) (W : World) : (execOp a.eval o).run P W = .ok (.value (.bool (!decide (m = n)))) W := by
  unfold execOp; simp only [ho, hx, hy]; simp [eqGuard, binOp, Op.intCmp, bne, int_beq]
theorem run_eql_int_t (ho : o.op = .binOp .eql t x y t') (hx : a.eval x = .int k m) (hy : a.eval y = .int k n) (h : m = n) (W : World) : (execOp a.eval o).run P W = .ok (.value (.bool true)) W := by
  rw [run_eql_int x y ho hx hy W, decide_eq_true h]
theorem run_eql_int_f (ho : o.op = .binOp .eql t x y t') (hx : a.eval x = .int k m) (hy : a.eval y = .int k n) (h : m ≠ n) (W : World) : (execOp a.eval o).run P W = .ok (.value (.bool false)) W := by
  rw [run_eql_int x y ho hx hy W, decide_eq_false h]
theorem run_neq_int_t (ho : o.op = .binOp .neq t x y t') (hx : a.eval x = .int k m) (hy : a.eval y = .int k n) (h : m = n) (W : World) : (execOp a.eval o).run P W = .ok (.value (.bool false)) W := by
  rw [run_neq_int x y ho hx hy W, decide_eq_true h]; rfl
theorem run_neq_int_f (ho : o.op = .binOp .neq t x y t') (hx : a.eval x = .int k m) (hy : a.eval y = .int k n) (h : m ≠ n) (W : World) : (execOp a.eval o).run P W = .ok (.value (.bool true)) W := by
  rw [run_neq_int x y ho hx hy W, decide_eq_false h]; rfl
theorem run_not (ho : o.op = .unOp .not t x) {b : Bool} (hx : a.eval x = .bool b) (W : World) : (execOp a.eval o).run P W = .ok (.value (.bool (!b))) W := by
  unfold execOp; simp only [ho, hx]; simp [go_sem]
theorem run_len (ho : o.op = .call { callee := .builtin .len, args := #[x], argTypes := #[t] }) (ht : ∃ e, P.underlying t = some (.slice e)) {A : Option Addr} {l c : Nat} (hx : a.eval x = .slice A l c) (W : World) : (execOp a.eval o).run P W = .ok (.value (.int .i64 l)) W := by
  obtain ⟨e, ht⟩ := ht
  have he : P.underlying t = some (.slice (P.elem t)) := by rw [ht]; simp [Program.elem, ht]
  unfold execOp; simp only [ho]; generalize a.eval = ρ at *; have hl := fun w' => run_len_slice (w := w') t o.type A l c he
  simp [go_sem, resolve, hx, hl]
theorem run_len_text (ho : o.op = .call { callee := .builtin .len, args := #[x], argTypes := #[t] }) (ht : P.underlying t = some .string) {l : List UInt8} (hx : a.eval x = .string (str l)) (W : World) : (execOp a.eval o).run P W = .ok (.value (.int .i64 l.length)) W := by
  unfold execOp; simp only [ho]; generalize a.eval = ρ at *; simp [go_sem, resolve, hx, ht, str_size]
theorem run_min2 (ho : o.op = .call { callee := .builtin .min, args := #[x, y], argTypes := #[t, t'] }) (hx : a.eval x = .int k m) (hy : a.eval y = .int k n) (W : World) : (execOp a.eval o).run P W = .ok (.value (.int k (min m n))) W := by
  unfold execOp; simp only [ho]; generalize a.eval = ρ at *; simp [go_sem, resolve, hx, hy]
theorem run_max2 (ho : o.op = .call { callee := .builtin .max, args := #[x, y], argTypes := #[t, t'] }) (hx : a.eval x = .int k m) (hy : a.eval y = .int k n) (W : World) : (execOp a.eval o).run P W = .ok (.value (.int k (max m n))) W := by
  unfold execOp; simp only [ho]; generalize a.eval = ρ at *; simp [go_sem, resolve, hx, hy]
theorem addr_zero (a : Addr) : a.add 0 = a := by unfold Addr.add; simp
/-- 'xs[:m]'. -/
theorem run_cut (ho : o.op = .slice t x none (some y) none) {e : TypeId} (ht : P.underlying t = some (.slice e)) (hs : ∃ i, P.info? e = some i) {A : Option Addr} {l c : Nat} (hx : a.eval x = .slice A l c) (hy : a.eval y = .int k m) (h : 0 ≤ m ∧ m ≤ c) (W : World) :
    (execOp a.eval o).run P W = .ok (.value (.slice A m.toNat c)) W := by
  have hel : P.elem t = e := by simp [Program.elem, ht]
  have he : P.underlying t = some (.slice (P.elem t)) := by rw [hel]; exact ht
  obtain ⟨h0, h1⟩ := h
  obtain ⟨i, hi⟩ := hs
  have r1 := run_sliceAt_slice (P := P) W t (.slice A l c) none (some (.int k m)) none he
  have r2 := run_slice_h (P := P) W t A l c he k m h0 h1
  unfold execOp; simp only [ho]; generalize a.eval = ρ at *
  simp only [Option.map_none, Option.map_some, hx, hy, Sem.run_bind, r1, r2, hel, sizeOf, typeInfo]
  simp [hi, sliced]
  cases A with
  | none => simp
  | some ad => simp [addr_zero]
theorem run_indexAddr (ho : o.op = .indexAddr t x y) {e : TypeId} {sz : Nat} (ht : P.underlying t = some (.slice e)) (hs : ∃ i, P.info? e = some i ∧ i.size = sz) {b off l c : Nat} (hx : a.eval x = .slice (some ⟨b, off, none⟩) l c) (hy : a.eval y = .int k m) (h : 0 ≤ m ∧ m < l) (W : World) :
    (execOp a.eval o).run P W = .ok (.value (.pointer (some ⟨b, off + m.toNat * sz, none⟩))) W := by
  obtain ⟨i, hi, rfl⟩ := hs
  obtain ⟨h0, h1⟩ := h
  unfold execOp; simp only [ho, hx, hy]
  simp [Instr.indexAt, asIntOf, run_underlying ht, h0, h1, sizeOf, typeInfo, hi, add_none]
theorem run_indexAddrN (ho : o.op = .indexAddr t x y) {e : TypeId} {sz : Nat} (ht : P.underlying t = some (.slice e)) (hs : ∃ i, P.info? e = some i ∧ i.size = sz) {b off l c i : Nat} (hx : a.eval x = .slice (some ⟨b, off, none⟩) l c) (hy : a.eval y = .int k (i : Int)) (h : i < l) (W : World) :
    (execOp a.eval o).run P W = .ok (.value (.pointer (some ⟨b, off + i * sz, none⟩))) W := by
  have := run_indexAddr x y ho ht hs hx hy ⟨by omega, by omega⟩ W
  rwa [Int.toNat_natCast] at this
theorem run_cut_take (ho : o.op = .slice t x none (some y) none) {e : TypeId} (ht : P.underlying t = some (.slice e)) {sz : Nat} (hs : ∃ i, P.info? e = some i ∧ i.size = sz) {α : Type} {xs : List α} {A : Option Addr} {c : Nat} (hx : a.eval x = .slice A xs.length c) {N : Int} (n : Nat) (hN : N = (n : Int)) (hy : a.eval y = .int k (min (xs.length : Int) N)) (h : xs.length ≤ c) (W : World) :
    (execOp a.eval o).run P W = .ok (.value (.slice A (xs.take n).length c)) W := by
  obtain ⟨i, hi, _⟩ := hs
  subst hN
  have := run_cut x y ho ht ⟨i, hi⟩ hx hy ⟨by omega, by omega⟩ W
  rwa [show (min (xs.length : Int) (n : Int)).toNat = (xs.take n).length from by rw [List.length_take]; omega] at this
theorem run_load1 (ho : o.op = .load t x) {d : TypeDesc} (ht : P.underlying t = some d) (hd : (match d with | .struct _ | .array _ _ => false | _ => true) = true) (hs : ∃ i, P.info? t = some i ∧ i.size = 1) {ad : Addr} (hx : a.eval x = .pointer (some ad)) {W : World} {v : Value} (hc : W.cell? ad = some v) :
    (execOp a.eval o).run P W = .ok (.value v) W := by
  obtain ⟨i, hi, h1⟩ := hs
  unfold execOp; simp only [ho, hx]
  have hagg : (isAgg t).run P W = .ok false W := by
    unfold isAgg
    rw [Sem.run_bind, run_underlying ht W]
    cases d <;> simp_all
  simp [Instr.loadAt, Instr.sureAddr, loadVar, Sem.run_bind, hagg, hc]
end
theorem Reads.takeI {w : World} {A : Option Addr} {k : IntKind} {xs : List Int} (h : Reads w A (xs.map (Value.int k))) (n : Nat) : Reads w A ((xs.take n).map (Value.int k)) := by rw [List.map_take]; exact h.take n
theorem SlT.sz {α : Type} {P : Program} {t e : TypeId} {E : Enc α} {bytes : Nat} (T : SlT P t e E bytes) : ∃ i, P.info? e = some i ∧ i.size = E.sz := by
  obtain ⟨i, z, h1, _, h3, _⟩ := T.info
  exact ⟨i, h1, h3⟩
end Go.Proofs.YtackcmlkicjlnaaDoor

/- Pointers to structs and to single cells: the check, the load and the store, at the operation. -/
namespace Go.Proofs.YtackcmlkicjlnaaDoor
open Go.RowKit

section
variable {P : Program} {o : Oper} {a : Act} (x y : Operand) {t : TypeId}
theorem run_nilCheck (ho : o.op = .nilCheck x) {ad : Addr} (hx : a.eval x = .pointer (some ad)) (W : World) : (execOp a.eval o).run P W = .ok (.value (.pointer (some ad))) W := by
  unfold execOp; simp only [ho, hx]; rfl
theorem run_store1 (ho : o.op = .store t x y) (hs : ∃ i, P.info? t = some i ∧ i.size = 1) {W : World} {g i : Nat} {cs : Array Value} {t' : TypeId} (hB : Blk W g cs t') (hi : i < cs.size) (hx : a.eval x = .pointer (some ⟨g, i, none⟩)) {v : Value} (hy : a.eval y = v) (hv : v.oneCell' = true) (hc : v.cells = #[v]) :
    (execOp a.eval o).run P W = .ok .skip (W.setCell ⟨g, i, none⟩ v) := by
  obtain ⟨z, hz, h1⟩ := hs
  have h2 : W.cell? ⟨g, i, none⟩ = some cs[i] := by rw [hB.cell, Array.getElem?_eq_getElem hi]
  have h3 := hB.free i
  have h4 := run_store P W ⟨g, i, none⟩ v .plain hv
  rw [h2] at h4
  simp only [h3] at h4
  unfold execOp
  simp only [ho, hx, hy, Instr.storeAt, Instr.sureAddr, Sem.run_bind, Sem.run_pure, Result.andThen_ok]
  have ha : (⟨g, i, none⟩ : Addr).add 0 = ⟨g, i, none⟩ := addr_zero _
  simp [storeVar, sizeOf, typeInfo, hz, h1, hc, storeCells, ha, h4]
theorem run_fieldAddr {f : Nat} (ho : o.op = .fieldAddr t x f) {fs : Array Field} (ht : P.underlying t = some (.struct fs)) {fl : Field} (hf : fs[f]? = some fl) (hs : ∃ i, P.info? fl.type = some i ∧ i.size ≠ 0) {g k : Nat} (hx : a.eval x = .pointer (some ⟨g, k, none⟩)) (W : World) :
    (execOp a.eval o).run P W = .ok (.value (.pointer (some ⟨g, k + fl.offset, none⟩))) W := by
  obtain ⟨z, hz, h1⟩ := hs
  unfold execOp
  simp [ho, hx, Instr.fieldAt, Sem.run_bind, run_underlying ht W, hf, Instr.sureAddr, fieldPlace, sizeOf, typeInfo, hz, h1, Addr.add]
end
end Go.Proofs.YtackcmlkicjlnaaDoor

/- A region that draws its order: of each operation of its head a fact on what it yields (new variables among them), one walk of the text's order serves every order of them; the tail comes behind all of them, in its order. -/
namespace Go.Proofs.YtackcmlkicjlnaaDoor
open Go.RowKit

/-- What is known of what an operation yields: the very value; a fact on it that stays; a new block. -/
inductive Fct where
  | val (v : Value)
  | ex (p : Value → World → Prop) (h : ∀ v w w', G0 w w' → p v w → p v w')
  | new (cs : Array Value) (t : TypeId)

def Fct.holds (N0 : Nat) : Fct → Value → World → Prop
  | .val c, v, _ => v = c
  | .ex p _, v, w => p v w
  | .new cs t, v, w => ∃ g, v = .pointer (some ⟨g, 0, none⟩) ∧ N0 ≤ g ∧ Blk w g cs t
theorem Fct.stay {N0 : Nat} {f : Fct} {v : Value} {w w' : World} (h : G0 w w') (k : f.holds N0 v w) : f.holds N0 v w' := by
  cases f with
  | val c => exact k
  | ex p hp => exact hp _ _ _ h k
  | new cs t => obtain ⟨g, h1, h2, h3⟩ := k; exact ⟨g, h1, h2, h3.below h⟩
def Fct.isNew : Fct → Bool
  | .new _ _ => true
  | _ => false

/-- What comes ahead of an operation, so many steps back. -/
def downs (ops : Array Oper) : Nat → Nat → List Nat
  | 0, _ => []
  | f + 1, i => match ops[i]? with
    | none => []
    | some o => let p := (predsOf o).eraseDups; (p ++ p.flatMap (downs ops f)).eraseDups
def tailB (ops : Array Oper) (m : Nat) : Bool := (List.range ops.size).all fun i => i < m || (List.range i).all fun j => (downs ops 3 i).contains j

section
variable {P : Program} {ops : Array Oper} {C : World → Prop} {N0 : Nat}

def opok2 (P : Program) (ops : Array Oper) (C : World → Prop) (N0 : Nat) (o : Oper) (f : Fct) (a : Act) (w : World) : Prop :=
  if Region.wanted o (yielded ops a.tmps) then
    match f with
    | .new cs t => (execOp a.eval o).run P w = .ok (.value (.pointer (some ⟨w.heap.size, 0, none⟩))) (w.alloc (.cells cs t)) ∧ C (w.alloc (.cells cs t))
    | f =>
      match (execOp a.eval o).run P w with
      | .ok (.value v) w' => f.holds N0 v w' ∧ C w' ∧ G0 w w'
      | .ok .skip w' => f.holds N0 undef w' ∧ C w' ∧ G0 w w'
      | .ok (.enter g args) w' => Calls P g args w' fun e w'' => ∃ v, e = .returned v ∧ f.holds N0 v w'' ∧ C w'' ∧ G0 w w''
      | _ => False
  else f.isNew = false ∧ f.holds N0 undef w

def fst2 (P : Program) (ops : Array Oper) (C : World → Prop) (N0 : Nat) (Q : Act → World → Prop) : Nat → List Oper → List Fct → Act → List (Nat × (World → Prop)) → List Nat → Prop
  | i, o :: os, f :: fs, a, hs, gs => (∀ w, C w → (∀ p ∈ hs, p.1 ∈ predsOf o → p.2 w) → opok2 P ops C N0 o f a w) ∧
    match f with
    | .val c => fst2 P ops C N0 Q (i + 1) os fs (a.put o.dst c) hs gs
    | .ex p _ => ∀ v, fst2 P ops C N0 Q (i + 1) os fs (a.put o.dst v) ((i, p v) :: hs) gs
    | .new cs t => ∀ g, N0 ≤ g → fst2 P ops C N0 Q (i + 1) os fs (a.put o.dst (.pointer (some ⟨g, 0, none⟩))) ((i, fun w => Blk w g cs t) :: hs) (g :: gs)
  | _, [], [], a, hs, gs => ∀ w, C w → (∀ p ∈ hs, p.2 w) → gs.Nodup → Q a w
  | _, _, _, _, _, _ => False

/-- The values agree with what is told. -/
def Agr (N0 : Nat) (fs0 : List Fct) (vs : Nat → Value) : Prop := ∀ (i : Nat) (f : Fct), fs0[i]? = some f → match f with | .val c => vs i = c | .ex _ _ => True | .new _ _ => ∃ g, vs i = .pointer (some ⟨g, 0, none⟩) ∧ N0 ≤ g
/-- What is told holds in a world (of those numbers). -/
def Hold (N0 : Nat) (fs0 : List Fct) (vs : Nat → Value) (I : Nat → Prop) (w : World) : Prop := ∀ (i : Nat) (f : Fct), fs0[i]? = some f → I i → f.holds N0 (vs i) w
/-- New blocks are apart. -/
def Dist (fs0 : List Fct) (vs : Nat → Value) (I : Nat → Prop) : Prop := ∀ (i j : Nat) (f g : Fct), fs0[i]? = some f → fs0[j]? = some g → f.isNew = true → g.isNew = true → I i → I j → i ≠ j → vs i ≠ vs j

theorem fst2_use {Q : Act → World → Prop} {fs0 : List Fct} {vs : Nat → Value} (hv : Agr N0 fs0 vs) : ∀ (os : List Oper) (k : Nat) (fs : List Fct) (a : Act) (hs : List (Nat × (World → Prop))) (gs : List Nat),
    (∀ j, fs[j]? = fs0[k + j]?) →
    (∀ p ∈ hs, ∀ w, (∀ (f : Fct), fs0[p.1]? = some f → f.holds N0 (vs p.1) w) → p.2 w) →
    (∀ (I : Nat → Prop), Dist fs0 vs I → (∀ i, i < k → I i) → gs.Nodup) → (∀ g ∈ gs, ∃ i f, i < k ∧ fs0[i]? = some f ∧ f.isNew = true ∧ vs i = .pointer (some ⟨g, 0, none⟩)) →
    fst2 P ops C N0 Q k os fs a hs gs →
    (∀ j o, os[j]? = some o → ∃ f, fs0[k + j]? = some f ∧ ∀ w, C w → Hold N0 fs0 vs (fun i => i ∈ predsOf o) w → opok2 P ops C N0 o f (putsFrom vs k (os.take j) a) w) ∧
    (∀ w, C w → Hold N0 fs0 vs (fun _ => True) w → Dist fs0 vs (fun _ => True) → Q (putsFrom vs k os a) w) ∧ fs.length = os.length
  | [], k, [], a, hs, gs, _, hh, hg, _, h => by
    refine ⟨fun j o hj => by simp at hj, fun w hC hq hd => ?_, rfl⟩
    exact h w hC (fun p hp => hh p hp w fun f hf => hq _ f hf trivial) (hg _ hd fun _ _ => trivial)
  | [], k, f :: fs, a, hs, gs, _, hh, _, _, h => h.elim
  | o :: os, k, [], a, hs, gs, _, hh, _, _, h => h.elim
  | o :: os, k, f :: fs, a, hs, gs, hf, hh, hg, hg2, h => by
    have hk : fs0[k]? = some f := by have := hf 0; simpa using this.symm
    have hf' : ∀ j, fs[j]? = fs0[k + 1 + j]? := fun j => by
      have := hf (j + 1)
      rw [show k + 1 + j = k + (j + 1) from by omega]
      simpa using this
    have hg2' : ∀ g ∈ gs, ∃ i f, i < k + 1 ∧ fs0[i]? = some f ∧ f.isNew = true ∧ vs i = .pointer (some ⟨g, 0, none⟩) := fun g hgm => by
      obtain ⟨i, f, h1, h2⟩ := hg2 g hgm
      exact ⟨i, f, by omega, h2⟩
    have hg' : ∀ (I : Nat → Prop), Dist fs0 vs I → (∀ i, i < k + 1 → I i) → gs.Nodup := fun I hd hi => hg I hd fun i h => hi i (by omega)
    have key : ∃ hs' gs', (∀ p ∈ hs', ∀ w, (∀ (f : Fct), fs0[p.1]? = some f → f.holds N0 (vs p.1) w) → p.2 w) ∧ (∀ (I : Nat → Prop), Dist fs0 vs I → (∀ i, i < k + 1 → I i) → gs'.Nodup) ∧
        (∀ g ∈ gs', ∃ i f, i < k + 1 ∧ fs0[i]? = some f ∧ f.isNew = true ∧ vs i = .pointer (some ⟨g, 0, none⟩)) ∧ fst2 P ops C N0 Q (k + 1) os fs (a.put o.dst (vs k)) hs' gs' := by
      have ha := hv k f hk
      cases f with
      | val c => simp only at ha; rw [ha]; exact ⟨hs, gs, hh, hg', hg2', h.2⟩
      | ex p hp =>
        refine ⟨(k, p (vs k)) :: hs, gs, ?_, hg', hg2', h.2 (vs k)⟩
        intro x hx w hw
        rcases List.mem_cons.1 hx with rfl | hx
        · exact hw _ hk
        · exact hh x hx w hw
      | new cs t =>
        obtain ⟨g, e, hN⟩ := ha
        have h2 := h.2 g hN
        rw [← e] at h2
        refine ⟨(k, fun w => Blk w g cs t) :: hs, g :: gs, ?_, ?_, ?_, h2⟩
        · intro x hx w hw
          rcases List.mem_cons.1 hx with rfl | hx
          · obtain ⟨g', e', _, hb⟩ := hw _ hk
            rw [e] at e'
            injection e' with e'
            injection e' with e'
            injection e' with e'
            subst e'
            exact hb
          · exact hh x hx w hw
        · intro I hd hi
          refine List.nodup_cons.2 ⟨fun hin => ?_, hg' I hd hi⟩
          obtain ⟨i, f, h1, h2, h3, h4⟩ := hg2 g hin
          exact hd i k f _ h2 hk h3 rfl (hi i (by omega)) (hi k (by omega)) (by omega) (h4.trans e.symm)
        · intro x hx
          rcases List.mem_cons.1 hx with rfl | hx
          · exact ⟨k, _, by omega, hk, rfl, e⟩
          · exact hg2' x hx
    obtain ⟨hs', gs', hh', hg'', hg3, h'⟩ := key
    obtain ⟨r1, r2, r3⟩ := fst2_use hv os (k + 1) fs _ hs' gs' hf' hh' hg'' hg3 h'
    refine ⟨fun j oj hj => ?_, r2, by simp [r3]⟩
    cases j with
    | zero =>
      simp only [List.getElem?_cons_zero, Option.some.injEq] at hj
      subst hj
      refine ⟨f, by simpa using hk, fun w hC hq => h.1 w hC fun p hp hin => hh p hp w fun f' hf' => hq _ f' hf' hin⟩
    | succ j =>
      obtain ⟨f', h1, h2⟩ := r1 j oj (by simpa using hj)
      exact ⟨f', by rw [← h1]; congr 1; omega, h2⟩

theorem opok2_congr {o : Oper} {f : Fct} {a b : Act} {w : World} (h1 : execOp a.eval o = execOp b.eval o) (h2 : Region.wanted o (yielded ops a.tmps) = Region.wanted o (yielded ops b.tmps)) (h : opok2 P ops C N0 o f a w) : opok2 P ops C N0 o f b w := by
  unfold opok2 at *
  rw [h1, h2] at h
  exact h

theorem wpOp_of_opok2 {Q : Exit → Act → World → Prop} {K : Act → World → Prop} {i : Nat} {o : Oper} {f : Fct} {a : Act} {w : World} (hi : ops[i]? = some o) (hC : C w) (hN : N0 ≤ w.heap.size) (h : opok2 P ops C N0 o f a w)
    (hK : ∀ v w', f.holds N0 v w' → C w' → G0 w w' → (f.isNew = true → v = .pointer (some ⟨w.heap.size, 0, none⟩)) → K (a.put o.dst v) w') : wpOp P ops Q i K a w := by
  unfold wpOp opok2 at *
  simp only [hi]
  by_cases hw : Region.wanted o (yielded ops a.tmps) = true
  · simp only [hw, if_true] at h ⊢
    refine .inl ?_
    unfold Oper.wp
    cases f with
    | new cs t =>
      simp only at h
      rw [h.1]
      exact hK _ _ ⟨_, rfl, hN, Blk.new _ _ _ _ rfl⟩ h.2 (bl_alloc (Below.refl _ _) _) fun _ => rfl
    | val c =>
      simp only at h
      generalize (execOp a.eval o).run P w = r at *
      cases r with
      | ok n w' =>
        cases n <;> simp only [Oper.upon] at h ⊢
        case value v => exact hK _ _ h.1 h.2.1 h.2.2 (fun k => by cases k)
        case skip => exact hK _ _ h.1 h.2.1 h.2.2 (fun k => by cases k)
        case enter g args =>
          refine h.mono fun e w'' ⟨v, he, h1, h2, h3⟩ => ?_
          subst he
          exact hK _ _ h1 h2 h3 (fun k => by cases k)
      | halt x w' => exact h.elim
    | ex p hp =>
      simp only at h
      generalize (execOp a.eval o).run P w = r at *
      cases r with
      | ok n w' =>
        cases n <;> simp only [Oper.upon] at h ⊢
        case value v => exact hK _ _ h.1 h.2.1 h.2.2 (fun k => by cases k)
        case skip => exact hK _ _ h.1 h.2.1 h.2.2 (fun k => by cases k)
        case enter g args =>
          refine h.mono fun e w'' ⟨v, he, h1, h2, h3⟩ => ?_
          subst he
          exact hK _ _ h1 h2 h3 (fun k => by cases k)
      | halt x w' => exact h.elim
  · simp only [hw, Bool.false_eq_true, if_false] at h ⊢
    exact hK _ _ h.2 hC (G0.refl _) (fun k => by rw [h.1] at k; cases k)

/-- All ahead of it have come up. -/
theorem downs_listed (listed : Array Bool) (hdown : ∀ (i : Nat) (o : Oper), ops[i]? = some o → listed.getD i false = true → ∀ j ∈ predsOf o, listed.getD j false = true) :
    ∀ (f i : Nat) (o : Oper), ops[i]? = some o → (∀ j ∈ predsOf o, listed.getD j false = true) → ∀ j ∈ downs ops f i, listed.getD j false = true
  | 0, _, _, _, _, j, h => by simp [downs] at h
  | f + 1, i, o, ho, hp, j, h => by
    simp only [downs, ho, List.mem_eraseDups, List.mem_append, List.mem_flatMap] at h
    rcases h with h | ⟨q, hq, h⟩
    · exact hp j h
    · have hl := hp q hq
      cases hoq : ops[q]? with
      | none => cases f <;> simp [downs, hoq] at h
      | some oq => exact downs_listed listed hdown f q oq hoq (hdown q oq hoq hl) j h

/-- The tail, in its order. -/
theorem wpAny_tail {Q : Exit → Act → World → Prop} (hB : ∀ (i : Nat) (o : Oper), ops[i]? = some o → ∀ e ∈ o.after, Region.binds .any e = true → e.on < i) (m : Nat) (hT : ∀ i, m ≤ i → i < ops.size → ∀ j, j < i → j ∈ downs ops 3 i) :
    ∀ (d : Nat) (fuel : Nat) (listed : Array Bool) (a : Act) (w : World), m ≤ ops.size - d → d ≤ fuel → d ≤ ops.size → listed.size = ops.size → (∀ j, j < ops.size → listed.getD j false = decide (j < ops.size - d)) →
      wpList P ops Q (ops.toList.drop (ops.size - d)) a w → wpAny P .any ops Q fuel listed a w := by
  intro d
  induction d with
  | zero =>
    intro fuel listed a w _ _ _ hs hl h
    have hq : Q .normal a w := by
      rw [Nat.sub_zero, ← Array.length_toList, List.drop_length] at h
      exact h
    have hr : Region.ready .any ops listed = [] := by
      cases hr : Region.ready .any ops listed with
      | nil => rfl
      | cons j js =>
        exfalso
        obtain ⟨h0, o, ho, _⟩ := mem_ready.1 (show j ∈ Region.ready .any ops listed by rw [hr]; simp)
        have hj := (Array.getElem?_eq_some_iff.1 ho).1
        have := hl j hj
        have hlt : j < listed.size := by omega
        simp [hlt] at h0 this
        rw [h0] at this
        have := this.symm
        simp at this
        omega
    cases fuel with
    | zero => exact ⟨hr, hq⟩
    | succ fuel => exact ⟨fun _ => hq, fun i hi => by rw [hr] at hi; cases hi⟩
  | succ d ih =>
    intro fuel listed a w hm hf hd hs hl h
    obtain ⟨fuel, rfl⟩ : ∃ k, fuel = k + 1 := ⟨fuel - 1, by omega⟩
    have hi : ops.size - (d + 1) < ops.size := by omega
    have hdrop : ops.toList.drop (ops.size - (d + 1)) = ops[ops.size - (d + 1)] :: ops.toList.drop (ops.size - d) := by
      rw [List.drop_eq_getElem_cons (by simpa using hi)]
      simp [show ops.size - (d + 1) + 1 = ops.size - d from by omega]
    rw [hdrop] at h
    generalize hi0 : ops.size - (d + 1) = i at *
    have hge : ops[i]? = some ops[i] := by simp [hi]
    have hready : ∀ j ∈ Region.ready .any ops listed, j = i := by
      intro j hj
      obtain ⟨h0, o, ho, hall⟩ := mem_ready.1 hj
      have hjl := (Array.getElem?_eq_some_iff.1 ho).1
      have hlt : j < listed.size := by omega
      have hlj := hl j hjl
      simp [hlt] at h0 hlj
      rw [h0] at hlj
      have hji : ¬ j < i := by have := hlj.symm; simpa using this
      by_cases hij : i < j
      · exfalso
        have hdown : ∀ (q : Nat) (oq : Oper), ops[q]? = some oq → listed.getD q false = true → ∀ r ∈ predsOf oq, listed.getD r false = true := by
          intro q oq hoq hlq r hr
          have hql := (Array.getElem?_eq_some_iff.1 hoq).1
          simp only [predsOf, List.mem_map, List.mem_filter] at hr
          obtain ⟨e, ⟨he, hb⟩, rfl⟩ := hr
          have h1 := hB q oq hoq e (by simpa using he) hb
          rw [hl q hql] at hlq
          rw [hl e.on (by omega)]
          simp at hlq ⊢
          omega
        have := downs_listed listed hdown 3 j o ho (fun r hr => by
          simp only [predsOf, List.mem_map, List.mem_filter] at hr
          obtain ⟨e, ⟨he, hb⟩, rfl⟩ := hr
          exact hall e (by simpa using he) hb) i (hT j (by omega) hjl i hij)
        rw [hl i hi] at this
        simp at this
      · omega
    refine ⟨fun hr => ?_, fun j hj => ?_⟩
    · exfalso
      have : i ∈ Region.ready .any ops listed := by
        refine mem_ready.2 ⟨?_, ops[i], hge, fun e he hb => ?_⟩
        · have hlt : i < listed.size := by omega
          have := hl i hi
          simp [hlt] at this ⊢
          exact this
        · have h1 := hB i _ hge e he hb
          rw [hl e.on (by omega)]
          simp; omega
      rw [hr] at this
      cases this
    · obtain rfl := hready j hj
      have hnext : ∀ a w, wpList P ops Q (ops.toList.drop (ops.size - d)) a w → wpAny P .any ops Q fuel (listed.setIfInBounds j true) a w := fun a w hh => by
        refine ih fuel _ a w (by omega) (by omega) (by omega) (by simp [hs]) (fun q hq => ?_) hh
        by_cases hqj : q = j
        · subst hqj
          have hlt : q < listed.size := by omega
          simp [hlt]; omega
        · rw [getD_set_ne false (fun e => hqj e.symm), hl q hq]
          rw [decide_eq_decide]
          omega
      unfold wpOp
      simp only [hge]
      unfold wpList at h
      split
      · rename_i hw
        rw [if_pos hw] at h
        exact h.imp (Oper.wp_mono hnext) id
      · rename_i hw
        rw [if_neg hw] at h
        exact hnext _ _ h

structure FI2 (ops : Array Oper) (C : World → Prop) (N0 : Nat) (fs0 : List Fct) (m : Nat) (a0 : Act) (listed : Array Bool) (a : Act) (w : World) (vs : Nat → Value) : Prop where
  size : listed.size = ops.size
  cls : C w
  defers : a.defers = a0.defers
  tsize : a.tmps.size = a0.tmps.size
  agree : Agr N0 fs0 vs
  base : ∀ t, (∀ i o, ops[i]? = some o → listed.getD i false = true → o.dst ≠ some t) → a.tmps[t]? = a0.tmps[t]?
  done : ∀ i o d, ops[i]? = some o → listed.getD i false = true → o.dst = some d → a.tmps[d]? = some (vs i)
  facts : Hold N0 fs0 vs (fun i => listed.getD i false = true) w
  dist : Dist fs0 vs (fun i => listed.getD i false = true)
  old : ∀ i f, fs0[i]? = some f → f.isNew = true → listed.getD i false = true → ∃ g, vs i = .pointer (some ⟨g, 0, none⟩) ∧ g < w.heap.size
  down : ∀ (i : Nat) (o : Oper), ops[i]? = some o → listed.getD i false = true → ∀ j ∈ predsOf o, listed.getD j false = true
  head : ∀ i, m ≤ i → listed.getD i false = false

theorem wpAny_of_facts2 {Q : Exit → Act → World → Prop} {fs0 : List Fct} {a0 : Act} {m : Nat} (hB : factsB ops a0.tmps.size = true) (hT : tailB ops m = true) (hN : ∀ w, C w → N0 ≤ w.heap.size) (hm : m ≤ ops.size)
    (h : fst2 P ops C N0 (wpList P ops Q (ops.toList.drop m)) 0 (ops.toList.take m) fs0 a0 [] []) : ∀ (fuel : Nat) (listed : Array Bool) (a : Act) (w : World) (vs : Nat → Value), FI2 ops C N0 fs0 m a0 listed a w vs →
    ((List.range ops.size).filter fun i => !listed.getD i false).length ≤ fuel → wpAny P .any ops Q fuel listed a w := by
  have hsel : Region.noSelect ops = true := by simp only [factsB, Bool.and_eq_true] at hB; exact hB.1
  have hedge : ∀ (i : Nat) (o : Oper), ops[i]? = some o → ∀ e ∈ o.after, Region.binds .any e = true → e.on < i := fun i o ho e he hb => (factsOk_of _ hB ho).1 e he hb
  have htail : ∀ i, m ≤ i → i < ops.size → ∀ j, j < i → j ∈ downs ops 3 i := by
    intro i hi hlt j hj
    simp only [tailB, List.all_eq_true, List.mem_range, Bool.or_eq_true, decide_eq_true_eq] at hT
    have := (hT i hlt).resolve_left (by omega) j hj
    simpa using this
  have use : ∀ vs, Agr N0 fs0 vs → _ := fun vs hv => fst2_use (P := P) (ops := ops) (C := C) (N0 := N0) hv (ops.toList.take m) 0 fs0 a0 [] [] (by simp) (by simp) (by simp) (by simp) h
  have hlen : fs0.length = m := by
    have hv : ∃ vs, Agr N0 fs0 vs := ⟨fun i => match fs0[i]? with | some (.val c) => c | some (.new _ _) => .pointer (some ⟨N0, 0, none⟩) | _ => undef, fun i f hf => by
      cases f with
      | val c => simp [hf]
      | ex p hp => trivial
      | new cs t => exact ⟨N0, by simp [hf], Nat.le_refl _⟩⟩
    obtain ⟨vs, hv⟩ := hv
    have := (use vs hv).2.2
    rw [this, List.length_take, Array.length_toList]
    omega
  have fin : ∀ (fuel : Nat) (listed : Array Bool) (a : Act) (w : World) (vs : Nat → Value), FI2 ops C N0 fs0 m a0 listed a w vs → ops.size - m ≤ fuel → (∀ i, i < m → listed.getD i false = true) → wpAny P .any ops Q fuel listed a w := by
    intro fuel listed a w vs I hfuel hall
    obtain ⟨r1, r2, _⟩ := use vs I.agree
    have ea : a = putsFrom vs 0 (ops.toList.take m) a0 := by
      obtain ⟨ts, ds⟩ := a
      have e1 : ds = (putsFrom vs 0 (ops.toList.take m) a0).defers := by rw [putsFrom_defers]; exact I.defers
      have e2 : ts = (putsFrom vs 0 (ops.toList.take m) a0).tmps := by
        apply Array.ext_getElem?
        intro t
        by_cases hex : ∃ (j : Nat) (o : Oper), j < m ∧ ops[j]? = some o ∧ o.dst = some t
        · obtain ⟨j, o, hjm, hj, hd⟩ := hex
          have h1 := I.done j o t hj (hall j hjm) hd
          obtain ⟨_, hlt, _⟩ := factsOk_of _ hB hj
          rw [putsFrom_at vs t (ops.toList.take m) 0 a0 j o (by rw [List.getElem?_take, if_pos hjm]; simpa using hj) hd (hlt t hd) (fun i o' hi hij => by
            rw [List.getElem?_take] at hi
            split at hi
            · obtain ⟨_, _, h3⟩ := factsOk_of _ hB (show ops[i]? = some o' by simpa using hi)
              exact (h3 j o t hj hd).1 (Ne.symm hij)
            · cases hi)]
          simpa using h1
        · rw [putsFrom_other vs t (ops.toList.take m) 0 a0 (fun o ho hd => hex (by
            obtain ⟨i, hi, rfl⟩ := List.mem_iff_getElem.1 ho
            have him : i < m := by simp at hi; omega
            have his : i < ops.size := by simp at hi; omega
            exact ⟨i, _, him, by simp [his], hd⟩))]
          exact I.base t (fun i o hi hl hd => by
            by_cases him : i < m
            · exact hex ⟨i, o, him, hi, hd⟩
            · rw [I.head i (by omega)] at hl; cases hl)
      rw [e1, e2]
    rw [ea]
    have hl : ∀ i f, fs0[i]? = some f → listed.getD i false = true := fun i f hf => hall i (by have := (List.getElem?_eq_some_iff.1 hf).1; omega)
    refine wpAny_tail hedge m htail (ops.size - m) fuel listed _ _ (by omega) hfuel (by omega) I.size (fun j hj => ?_) ?_
    · by_cases hjm : j < m
      · rw [hall j hjm]; simp; omega
      · rw [I.head j (by omega)]; simp; omega
    · rw [show ops.size - (ops.size - m) = m from by omega]
      exact r2 w I.cls (fun i f hf _ => I.facts i f hf (hl i f hf)) (fun i j f g hi hj hf hg _ _ hne => I.dist i j f g hi hj hf hg (hl i f hi) (hl j g hj) hne)
  -- one of the head that has not come up, the lowest, may come up
  have some_ready : ∀ (listed : Array Bool), listed.size = ops.size → Region.ready .any ops listed = [] → ∀ i, i < ops.size → listed.getD i false = true := by
    intro listed hs hr i
    induction i using Nat.strongRecOn with
    | _ i ih =>
      intro hi
      by_cases hl : listed.getD i false = true
      · exact hl
      · exfalso
        have hl' : listed.getD i true = false := by
          have : i < listed.size := by omega
          simp [this] at hl ⊢
          exact hl
        have hm : i ∈ Region.ready .any ops listed := by
          refine mem_ready.2 ⟨hl', ops[i], by simp [hi], fun e he hb => ?_⟩
          have := hedge i _ (show ops[i]? = some ops[i] by simp [hi]) e he hb
          exact ih e.on this (by omega)
        rw [hr] at hm
        cases hm
  intro fuel
  induction fuel with
  | zero =>
    intro listed a w vs I hc
    have hall : ∀ i, i < ops.size → listed.getD i false = true := by
      intro i hi
      have : (List.range ops.size).filter (fun i => !listed.getD i false) = [] := List.length_eq_zero_iff.1 (by omega)
      rw [List.filter_eq_nil_iff] at this
      have := this i (by simp [hi])
      simpa using this
    have hms : m = ops.size := by
      by_cases hlt : m < ops.size
      · have := hall m hlt; rw [I.head m (Nat.le_refl _)] at this; cases this
      · omega
    exact fin 0 listed a w vs I (by omega) fun i hi => hall i (by omega)
  | succ fuel ih =>
    intro listed a w vs I hc
    by_cases hdone : ∀ i, i < m → listed.getD i false = true
    · refine fin (fuel + 1) listed a w vs I ?_ hdone
      -- what is left is the tail
      have : ((List.range ops.size).filter fun i => !listed.getD i false).length ≥ ops.size - m := by
        have h1 : ((List.range ops.size).filter fun i => !listed.getD i false) = (List.range ops.size).filter (fun i => decide (m ≤ i)) := by
          refine List.filter_congr fun i hi => ?_
          by_cases him : i < m
          · rw [hdone i him]; simp; omega
          · rw [I.head i (by omega)]; simp; omega
        rw [h1]
        have h2 : ∀ n, ((List.range n).filter (fun i => decide (m ≤ i))).length = n - m := by
          intro n
          induction n with
          | zero => simp
          | succ n ihn =>
            rw [List.range_succ, List.filter_append, List.length_append, ihn]
            by_cases hmn : m ≤ n
            · simp [hmn]; omega
            · simp [hmn]; omega
        rw [h2]
        exact Nat.le_refl _
      omega
    refine ⟨fun hr => absurd (fun i hi => some_ready listed I.size hr i (by omega)) hdone, fun i hi => ?_⟩
    obtain ⟨h0, o, ho, hall⟩ := mem_ready.1 hi
    have hil := (Array.getElem?_eq_some_iff.1 ho).1
    have hls : i < listed.size := by rw [I.size]; exact hil
    have hun : listed.getD i false = false := by simp [hls] at h0 ⊢; exact h0
    obtain ⟨g1, g2, g3⟩ := factsOk_of _ hB ho
    have hpre : ∀ j ∈ predsOf o, listed.getD j false = true := by
      intro j hj
      simp only [predsOf, List.mem_map, List.mem_filter] at hj
      obtain ⟨e, ⟨he, hb⟩, rfl⟩ := hj
      exact hall e (by simpa using he) hb
    have him : i < m := by
      by_cases h' : i < m
      · exact h'
      · exfalso
        refine hdone fun j hj => ?_
        exact downs_listed listed I.down 3 i o ho hpre j (htail i (by omega) hil j (by omega))
    obtain ⟨r1, _, _⟩ := use vs I.agree
    obtain ⟨f, hf, hok⟩ := r1 i o (by rw [List.getElem?_take, if_pos him]; simpa using ho)
    rw [Nat.zero_add] at hf
    have hok := hok w I.cls fun j f hjf hj => I.facts j f hjf (hpre j hj)
    have htk : (ops.toList.take m).take i = ops.toList.take i := by rw [List.take_take, Nat.min_eq_left (by omega)]
    rw [htk] at hok
    -- the two states are alike at what the operation looks at
    have same : ∀ t ∈ o.looksAt ops, (putsFrom vs 0 (ops.toList.take i) a0).tmps[t]? = a.tmps[t]? := by
      intro t ht
      by_cases hex : ∃ (j : Nat) (o' : Oper), ops[j]? = some o' ∧ o'.dst = some t
      · obtain ⟨j, o', hj, hd⟩ := hex
        have hjp := (g3 j o' t hj hd).2 ht
        have hjl := hpre j hjp
        have hji : j < i := by
          simp only [predsOf, List.mem_map, List.mem_filter] at hjp
          obtain ⟨e, ⟨he, hb⟩, rfl⟩ := hjp
          exact g1 e (by simpa using he) hb
        obtain ⟨_, hlt, _⟩ := factsOk_of _ hB hj
        rw [putsFrom_at vs t (ops.toList.take i) 0 a0 j o' (by rw [List.getElem?_take, if_pos hji]; simpa using hj) hd (hlt t hd) (fun k ok hk hkj => by
          rw [List.getElem?_take] at hk
          split at hk
          · obtain ⟨_, _, h3⟩ := factsOk_of _ hB (show ops[k]? = some ok by simpa using hk)
            exact (h3 j o' t hj hd).1 (Ne.symm hkj)
          · cases hk)]
        rw [I.done j o' t hj hjl hd, Nat.zero_add]
      · rw [putsFrom_other vs t (ops.toList.take i) 0 a0 (fun o' ho' hd => hex (by
          obtain ⟨k, hk, rfl⟩ := List.mem_iff_getElem.1 (List.mem_of_mem_take ho')
          exact ⟨k, _, by rw [← Array.getElem?_toList]; exact List.getElem?_eq_getElem hk, hd⟩))]
        exact (I.base t (fun k ok hk _ hd => hex ⟨k, ok, hk, hd⟩)).symm
    have hok : opok2 P ops C N0 o f a w := by
      refine opok2_congr ?_ ?_ hok
      · refine execOp_congr o (fun cs b => Region.noSelect_spec hsel i o cs b ho) fun x hx => ?_
        cases x with
        | tmp t =>
          have := same t (List.mem_append_left _ (List.mem_filterMap.2 ⟨.tmp t, by simpa using hx, rfl⟩))
          simp only [Act.eval, Array.getD_eq_getD_getElem?, this]
        | _ => rfl
      · unfold Region.wanted
        cases hg : o.guard with
        | none => rfl
        | some gw =>
          obtain ⟨g, want⟩ := gw
          have : yielded ops (putsFrom vs 0 (ops.toList.take i) a0).tmps g = yielded ops a.tmps g := by
            unfold yielded
            cases ht : (ops[g]?).bind (·.dst) with
            | none => rfl
            | some t => rw [Option.bind_some, Option.bind_some, same t (by simp [Oper.looksAt, hg, ht])]
          simp only [this]
    refine wpOp_of_opok2 ho I.cls (hN w I.cls) hok fun v w' hv hC' hG hnew => ?_
    refine ih _ _ _ (fun j => if j = i then v else vs j) ⟨by simp [I.size], hC', ?_, ?_, ?_, ?_, ?_, ?_, ?_, ?_, ?_, ?_⟩ ?_
    · cases hd : o.dst <;> simpa [Act.put] using I.defers
    · cases hd : o.dst <;> simpa [Act.put] using I.tsize
    · intro j fj hj
      by_cases hji : j = i
      · subst hji
        rw [hf] at hj
        injection hj with hj
        subst hj
        simp only [if_true]
        cases f with
        | val c => exact hv
        | ex p hp => trivial
        | new cs t => obtain ⟨g, e1, e2, _⟩ := hv; exact ⟨g, e1, e2⟩
      · simpa [hji] using I.agree j fj hj
    · intro t ht
      have hne : o.dst ≠ some t := ht i o ho (by simp [hls])
      have : (a.put o.dst v).tmps[t]? = a.tmps[t]? := by
        cases hd : o.dst with
        | none => rfl
        | some d =>
          have hne' : d ≠ t := fun e => hne (by rw [hd, e])
          simp [Act.put, Array.getElem?_setIfInBounds_ne hne']
      rw [this]
      exact I.base t fun j oj hj hl => ht j oj hj (getD_set_true hl)
    · intro j oj d hj hl hd
      by_cases hji : j = i
      · subst hji
        rw [ho] at hj
        injection hj with hj
        subst hj
        have := g2 d hd
        rw [← I.tsize] at this
        simp [Act.put, hd, this]
      · rw [getD_set_ne false (Ne.symm hji)] at hl
        have h1 := I.done j oj d hj hl hd
        have hne : o.dst ≠ some d := (g3 j oj d hj hd).1 hji
        have : (a.put o.dst v).tmps[d]? = a.tmps[d]? := by
          cases hd' : o.dst with
          | none => rfl
          | some d' =>
            have hne' : d' ≠ d := fun e => hne (by rw [hd', e])
            simp [Act.put, Array.getElem?_setIfInBounds_ne hne']
        rw [this, h1]
        simp [hji]
    · intro j fj hj hl
      by_cases hji : j = i
      · subst hji
        rw [hf] at hj
        injection hj with hj
        subst hj
        simpa using hv
      · rw [getD_set_ne false (Ne.symm hji)] at hl
        simp only [hji, if_false]
        exact Fct.stay hG (I.facts j fj hj hl)
    · intro j k fj fk hj hk hnj hnk hlj hlk hne
      have ofnew : ∀ (q : Nat) (fq : Fct), fs0[q]? = some fq → fq.isNew = true → q ≠ i → (listed.setIfInBounds i true).getD q false = true → ∃ g, vs q = .pointer (some ⟨g, 0, none⟩) ∧ g < w.heap.size := fun q fq hq hnq hqi hlq => by
        rw [getD_set_ne false (Ne.symm hqi)] at hlq
        exact I.old q fq hq hnq hlq
      by_cases hji : j = i
      · subst hji
        rw [hf] at hj
        injection hj with hj
        subst hj
        obtain ⟨g, e1, e2⟩ := ofnew k fk hk hnk (Ne.symm hne) hlk
        simp only [if_true, (Ne.symm hne), if_false]
        rw [hnew hnj, e1]
        intro e
        injection e with e
        injection e with e
        injection e with e
        omega
      · by_cases hki : k = i
        · subst hki
          rw [hf] at hk
          injection hk with hk
          subst hk
          obtain ⟨g, e1, e2⟩ := ofnew j fj hj hnj hji hlj
          simp only [if_true, hji, if_false]
          rw [hnew hnk, e1]
          intro e
          injection e with e
          injection e with e
          injection e with e
          omega
        · simp only [hji, hki, if_false]
          rw [getD_set_ne false (Ne.symm hji)] at hlj
          rw [getD_set_ne false (Ne.symm hki)] at hlk
          exact I.dist j k fj fk hj hk hnj hnk hlj hlk hne
    · intro j fj hj hnj hlj
      by_cases hji : j = i
      · subst hji
        rw [hf] at hj
        injection hj with hj
        subst hj
        refine ⟨w.heap.size, by simp only [if_true]; exact hnew hnj, ?_⟩
        cases f with
        | new cs t =>
          obtain ⟨g, e1, _, hb⟩ := hv
          rw [hnew rfl] at e1
          injection e1 with e1
          injection e1 with e1
          injection e1 with e1
          subst e1
          exact hb.lt
        | val c => cases hnj
        | ex p hp => cases hnj
      · rw [getD_set_ne false (Ne.symm hji)] at hlj
        obtain ⟨g, e1, e2⟩ := I.old j fj hj hnj hlj
        exact ⟨g, by simpa [hji] using e1, Nat.lt_of_lt_of_le e2 hG.size⟩
    · intro j oj hj hlj q hq
      by_cases hji : j = i
      · subst hji
        rw [ho] at hj
        injection hj with hj
        subst hj
        exact getD_set_true (hpre q hq)
      · rw [getD_set_ne false (Ne.symm hji)] at hlj
        exact getD_set_true (I.down j oj hj hlj q hq)
    · intro j hj
      rw [getD_set_ne false (by omega)]
      exact I.head j hj
    · -- one less
      have hlen' : ((List.range ops.size).filter fun j => !(listed.setIfInBounds i true).getD j false).length < ((List.range ops.size).filter fun j => !listed.getD j false).length := by
        have e1 : ((List.range ops.size).filter fun j => !(listed.setIfInBounds i true).getD j false) = ((List.range ops.size).filter fun j => !listed.getD j false).filter (fun j => j != i) := by
          rw [List.filter_filter]
          refine List.filter_congr fun j hj => ?_
          by_cases hji : j = i
          · subst hji; simp [hls]
          · rw [getD_set_ne false (Ne.symm hji)]; simp [hji]
        rw [e1]
        refine List.length_filter_lt_length_iff_exists.2 ⟨i, ?_, by simp⟩
        simp [List.mem_filter, hil]
        simpa [hls] using hun
      omega

theorem none_listed (n i : Nat) : (Array.replicate n false).getD i false = false := by
  by_cases h : i < n <;> simp [h]
/-- **One walk of the text's order for the head, then the tail.** -/
theorem wp_region_facts2 {id : Nat} {Q : Exit → Act → World → Prop} {a : Act} {w : World} {l tl : List Oper} (fs : List Fct) (N0 : Nat) (hm : P.follows .mixedOrders = true) (hB : factsB (l ++ tl).toArray a.tmps.size = true) (hT : tailB (l ++ tl).toArray l.length = true) (hN : ∀ w, C w → N0 ≤ w.heap.size) (hC : C w.drew)
    (h : fst2 P (l ++ tl).toArray C N0 (wpList P (l ++ tl).toArray Q tl) 0 l fs a [] []) : (Code.region id (l ++ tl).toArray true).wp P Q a w := by
  have e1 : (l ++ tl).toArray.toList.take l.length = l := by simp
  have e2 : (l ++ tl).toArray.toList.drop l.length = tl := by simp
  refine wp_region_any hm (wpAny_of_facts2 (m := l.length) hB hT hN (by simp) (by rw [e1, e2]; exact h) _ _ _ _ (fun i => match fs[i]? with | some (.val c) => c | some (.new _ _) => .pointer (some ⟨N0, 0, none⟩) | _ => undef) ⟨by simp, hC, rfl, rfl, ?_, ?_, ?_, ?_, ?_, ?_, ?_, ?_⟩ ?_)
  · intro i f hf
    cases f with
    | val c => simp [hf]
    | ex p hp => trivial
    | new cs t => exact ⟨N0, by simp [hf], Nat.le_refl _⟩
  · intro t _; rfl
  · intro i o d hi hl; rw [none_listed] at hl; cases hl
  · intro i f hf hl; rw [none_listed] at hl; cases hl
  · intro i j f g _ _ _ _ hl; rw [none_listed] at hl; cases hl
  · intro i f _ _ hl; rw [none_listed] at hl; cases hl
  · intro i o _ hl; rw [none_listed] at hl; cases hl
  · intro i _; exact none_listed _ _
  · refine Nat.le_trans (List.length_filter_le _ _) (by simp)
theorem wp_region_facts2_lit {id : Nat} {Q : Exit → Act → World → Prop} {a : Act} {w : World} {l : List Oper} (m : Nat) (fs : List Fct) (N0 : Nat) (hm : P.follows .mixedOrders = true) (hml : m ≤ l.length) (hB : factsB l.toArray a.tmps.size = true) (hT : tailB l.toArray m = true) (hN : ∀ w, C w → N0 ≤ w.heap.size) (hC : C w.drew)
    (h : fst2 P l.toArray C N0 (wpList P l.toArray Q (l.drop m)) 0 (l.take m) fs a [] []) : (Code.region id l.toArray true).wp P Q a w := by
  have e : l.take m ++ l.drop m = l := List.take_append_drop m l
  have r := wp_region_facts2 (P := P) (C := C) (id := id) (Q := Q) (a := a) (w := w) (l := l.take m) (tl := l.drop m) fs N0 hm
  rw [e, List.length_take, Nat.min_eq_left hml] at r
  exact r hB hT hN hC h
/-! ### One operation at a time -/
section
variable {Q : Act → World → Prop} {i : Nat} {o : Oper} {os : List Oper} {fs : List Fct} {a : Act} {hs : List (Nat × (World → Prop))} {gs : List Nat} {w : World}
theorem fst2_val {c : Value} (h1 : ∀ w, C w → (∀ p ∈ hs, p.1 ∈ predsOf o → p.2 w) → opok2 P ops C N0 o (.val c) a w) (h2 : fst2 P ops C N0 Q (i + 1) os fs (a.put o.dst c) hs gs) : fst2 P ops C N0 Q i (o :: os) (.val c :: fs) a hs gs := ⟨h1, h2⟩
theorem fst2_ex {p : Value → World → Prop} {hp : ∀ v w w', G0 w w' → p v w → p v w'} (h1 : ∀ w, C w → (∀ p ∈ hs, p.1 ∈ predsOf o → p.2 w) → opok2 P ops C N0 o (.ex p hp) a w)
    (h2 : ∀ v, fst2 P ops C N0 Q (i + 1) os fs (a.put o.dst v) ((i, p v) :: hs) gs) : fst2 P ops C N0 Q i (o :: os) (.ex p hp :: fs) a hs gs := ⟨h1, h2⟩
theorem fst2_new {cs : Array Value} {t : TypeId} (h1 : ∀ w, C w → (∀ p ∈ hs, p.1 ∈ predsOf o → p.2 w) → opok2 P ops C N0 o (.new cs t) a w)
    (h2 : ∀ g, N0 ≤ g → fst2 P ops C N0 Q (i + 1) os fs (a.put o.dst (.pointer (some ⟨g, 0, none⟩))) ((i, fun w => Blk w g cs t) :: hs) (g :: gs)) : fst2 P ops C N0 Q i (o :: os) (.new cs t :: fs) a hs gs := ⟨h1, h2⟩
theorem fst2_nil (h : ∀ w, C w → (∀ p ∈ hs, p.2 w) → gs.Nodup → Q a w) : fst2 P ops C N0 Q i [] [] a hs gs := h
theorem ok2_value {v : Value} {w' : World} {c : Value} (hw : Region.wanted o (yielded ops a.tmps) = true) (h : (execOp a.eval o).run P w = .ok (.value v) w') (hf : v = c) (hC : C w') (hG : G0 w w') : opok2 P ops C N0 o (.val c) a w := by
  unfold opok2; rw [if_pos hw]; simp only; rw [h]; exact ⟨hf, hC, hG⟩
theorem ok2_ex {v : Value} {w' : World} {p : Value → World → Prop} {hp : ∀ v w w', G0 w w' → p v w → p v w'} (hw : Region.wanted o (yielded ops a.tmps) = true) (h : (execOp a.eval o).run P w = .ok (.value v) w') (hf : p v w') (hC : C w') (hG : G0 w w') : opok2 P ops C N0 o (.ex p hp) a w := by
  unfold opok2; rw [if_pos hw]; simp only; rw [h]; exact ⟨hf, hC, hG⟩
theorem ok2_call {g : FuncId} {args : Array Value} {c : Value} {w1 : World} (hw : Region.wanted o (yielded ops a.tmps) = true) (h : (execOp a.eval o).run P w = .ok (.enter g args) w1)
    (hc : Calls P g args w1 fun e w' => e = .returned c ∧ C w' ∧ G0 w w') : opok2 P ops C N0 o (.val c) a w := by
  unfold opok2; rw [if_pos hw]; simp only; rw [h]; exact hc.mono fun _ _ ⟨h1, h2, h3⟩ => ⟨c, h1, rfl, h2, h3⟩
theorem ok2_callex {g : FuncId} {args : Array Value} {p : Value → World → Prop} {hp : ∀ v w w', G0 w w' → p v w → p v w'} {w1 : World} (hw : Region.wanted o (yielded ops a.tmps) = true) (h : (execOp a.eval o).run P w = .ok (.enter g args) w1)
    (hc : Calls P g args w1 fun e w' => ∃ v, e = .returned v ∧ p v w' ∧ C w' ∧ G0 w w') : opok2 P ops C N0 o (.ex p hp) a w := by
  unfold opok2; rw [if_pos hw]; simp only; rw [h]; exact hc
theorem ok2_new {cs : Array Value} {t : TypeId} (hw : Region.wanted o (yielded ops a.tmps) = true) (h : (execOp a.eval o).run P w = .ok (.value (.pointer (some ⟨w.heap.size, 0, none⟩))) (w.alloc (.cells cs t))) (hC : C (w.alloc (.cells cs t))) : opok2 P ops C N0 o (.new cs t) a w := by
  unfold opok2; rw [if_pos hw]; exact ⟨h, hC⟩
theorem ok2_not (hw : Region.wanted o (yielded ops a.tmps) = false) : opok2 P ops C N0 o (.val undef) a w := by
  unfold opok2; rw [if_neg (by simp [hw])]; exact ⟨rfl, rfl⟩
end
end
end Go.Proofs.YtackcmlkicjlnaaDoor

/- Memory in walks: frames with blocks that may change; variables and structs in blocks; rows of numbers that are written in place. -/
namespace Go.Proofs.YtackcmlkicjlnaaDoor
open Go.RowKit Go.WideShapes Go.ChangeShapes

/-- w' is w but for new blocks and for those of S. -/
structure Fr (S : List Nat) (w w' : World) : Prop where
  os : w'.os = w.os
  tape : w'.tape = w.tape
  output : w'.output = w.output
  size : w.heap.size ≤ w'.heap.size
  block : ∀ j, j < w.heap.size → j ∉ S → w'.heap[j]? = w.heap[j]?

section
variable {S S' : List Nat} {w0 w w' w1 w2 : World} {g : Nat}
theorem Fr.refl (S : List Nat) (w : World) : Fr S w w := ⟨rfl, rfl, rfl, Nat.le_refl _, fun _ _ _ => rfl⟩
theorem Fr.of_below (h : Below w.heap.size w w') : Fr S w w' := ⟨h.os, h.tape, h.output, h.size, fun j hj _ => h.block j hj⟩
theorem Fr.below (h : Fr [] w w') : Below w.heap.size w w' := ⟨h.os, h.tape, h.output, h.size, fun j hj => h.block j hj (by simp)⟩
theorem fr_step (h : Fr S w w1) (k : Below w1.heap.size w1 w2) : Fr S w w2 :=
  ⟨k.os.trans h.os, k.tape.trans h.tape, k.output.trans h.output, Nat.le_trans h.size k.size, fun j hj hn => (k.block j (Nat.lt_of_lt_of_le hj h.size)).trans (h.block j hj hn)⟩
theorem fr_own (h : Fr S w0 w) (k : w.grownBy w' (some g)) (hg : w0.heap.size ≤ g) : Fr S w0 w' :=
  ⟨k.os.trans h.os, k.tape.trans h.tape, k.output.trans h.output, Nat.le_trans h.size k.size, fun j hj hn => (k.block j (Nat.lt_of_lt_of_le hj h.size) (fun e => by injection e with e; omega)).trans (h.block j hj hn)⟩
theorem fr_in (h : Fr S w0 w) (k : w.grownBy w' (some g)) (hg : g ∈ S) : Fr S w0 w' :=
  ⟨k.os.trans h.os, k.tape.trans h.tape, k.output.trans h.output, Nat.le_trans h.size k.size, fun j hj hn => (k.block j (Nat.lt_of_lt_of_le hj h.size) (fun e => by injection e with e; subst e; exact hn hg)).trans (h.block j hj hn)⟩
theorem fr_call (h : Fr S w0 w) (k : Fr S' w w') (hs : ∀ j, j ∈ S' → j ∈ S ∨ w0.heap.size ≤ j) : Fr S w0 w' :=
  ⟨k.os.trans h.os, k.tape.trans h.tape, k.output.trans h.output, Nat.le_trans h.size k.size, fun j hj hn => (k.block j (Nat.lt_of_lt_of_le hj h.size) (fun e => by rcases hs j e with h | h; exact hn h; omega)).trans (h.block j hj hn)⟩
theorem bl_call (h : Below w0.heap.size w0 w) (k : Fr S' w w') (hs : ∀ j, j ∈ S' → w0.heap.size ≤ j) : Below w0.heap.size w0 w' :=
  ⟨k.os.trans h.os, k.tape.trans h.tape, k.output.trans h.output, Nat.le_trans h.size k.size, fun j hj => (k.block j (Nat.lt_of_lt_of_le hj h.size) (fun e => by have := hs j e; omega)).trans (h.block j hj)⟩
theorem low_fr (h : Fr S w0 w) (hg : w.heap.size ≤ g) : w0.heap.size ≤ g := Nat.le_trans h.size hg
theorem Blk.fr {cs : Array Value} {t : TypeId} (h : Blk w g cs t) (k : Fr S w w') (n : g ∉ S) : Blk w' g cs t := (k.block g h.lt n).trans h
theorem OwnR.fr {α : Type} {base : Nat} {e : TypeId} {E : Enc α} {v : Value} {xs : List α} (h : OwnR w base e E v xs) (k : Fr S w w') (n : ∀ j, j ∈ S → Off v j) : OwnR w' base e E v xs := by
  refine ⟨h.1, ?_⟩
  rcases h.2 with h2 | ⟨q, cap, cur, hv, hq, hc, r⟩
  · exact .inl h2
  · refine .inr ⟨q, cap, cur, hv, hq, ?_, r⟩
    have hq2 : q < w.heap.size := (Array.getElem?_eq_some_iff.1 hc).1
    rw [k.block q hq2 (fun e => n q e (by rw [hv]; rfl))]
    exact hc
theorem fr_app {α : Type} {e : TypeId} {E : Enc α} {v : Value} {xs : List α} (h : Fr S w0 w) (ho : OwnR w w0.heap.size e E v xs) (hg : w.grownBy w' v.ownBlock) : Fr S w0 w' :=
  ⟨hg.os.trans h.os, hg.tape.trans h.tape, hg.output.trans h.output, Nat.le_trans h.size hg.size, fun j hj hn => (hg.block j (Nat.lt_of_lt_of_le hj h.size) (fun e => by have := (ho.lt j e.symm).1; omega)).trans (h.block j hj hn)⟩
theorem ni0 {g : Nat} : g ∉ ([] : List Nat) := by simp
theorem ni1 {g r : Nat} (h : g ≠ r) : g ∉ [r] := by simpa using h
theorem ni2 {g r b : Nat} (h : g ≠ r) (k : g ≠ b) : g ∉ [r, b] := by simp [h, k]
theorem lo1 {m r : Nat} (h : m ≤ r) : ∀ j, j ∈ [r] → m ≤ j := by simpa using h
theorem lo2 {m r b : Nat} (h : m ≤ r) (k : m ≤ b) : ∀ j, j ∈ [r, b] → m ≤ j := by simp [h, k]
theorem of2 {v : Value} {r b : Nat} (h : Off v r) (k : Off v b) : ∀ j, j ∈ [r, b] → Off v j := by intro j hj; simp at hj; rcases hj with rfl | rfl <;> assumption
theorem in20 {r b : Nat} : r ∈ [r, b] := by simp
theorem in21 {r b : Nat} : b ∈ [r, b] := by simp
end

/-! ### closed facts on types -/
def plainT (d : TypeDesc) : Bool := match d with | .struct _ | .array _ _ => false | _ => true
/-- t is laid in one cell. -/
def One (P : Program) (t : TypeId) : Prop := ∃ d i, P.underlying t = some d ∧ plainT d = true ∧ P.info? t = some i ∧ i.size = 1
theorem one_of {P : Program} {t : TypeId} {d : TypeDesc} (h1 : P.underlying t = some d) (h2 : plainT d = true) (h3 : (P.info? t).map (·.size) = some 1) : One P t := by
  cases hi : P.info? t with
  | none => simp [hi] at h3
  | some i => simp [hi] at h3; exact ⟨d, i, h1, h2, hi, h3⟩
/-- The field f of the struct t lies so many cells from its start. -/
def FieldAt (P : Program) (t : TypeId) (f off : Nat) : Prop := ∃ fs fl i, P.underlying t = some (.struct fs) ∧ fs[f]? = some fl ∧ fl.offset = off ∧ P.info? fl.type = some i ∧ i.size ≠ 0
theorem fieldAt_of {P : Program} {t : TypeId} {fs : Array Field} {f off s : Nat} (h1 : P.underlying t = some (.struct fs)) (h2 : (fs[f]?).map (fun fl => (fl.offset, (P.info? fl.type).map (·.size))) = some (off, some (s + 1))) : FieldAt P t f off := by
  cases hf : fs[f]? with
  | none => simp [hf] at h2
  | some fl =>
    simp [hf] at h2
    cases hi : P.info? fl.type with
    | none => simp [hi] at h2
    | some i => simp [hi] at h2; exact ⟨fs, fl, i, h1, hf, h2.1, hi, by omega⟩
/-- The zero value of t is laid so. -/
def ZeroOf (P : Program) (t : TypeId) (cs : Array Value) : Prop := ∃ i z, P.info? t = some i ∧ i.zero = some z ∧ z.cells = cs
theorem zeroOf {P : Program} {t : TypeId} {z : Value} {cs : Array Value} (h : (P.info? t).map (·.zero) = some (some z)) (hc : z.cells = cs) : ZeroOf P t cs := by
  cases hi : P.info? t with
  | none => simp [hi] at h
  | some i => simp [hi] at h; exact ⟨i, z, hi, h, hc⟩

section
variable {P : Program} {o : Oper} {a : Act} (x y : Operand) {t t' : TypeId} {W : World}
theorem run_check (ho : o.op = .nilCheck x) {ad : Addr} (hx : a.eval x = .pointer (some ad)) (W : World) : (execOp a.eval o).run P W = .ok (.value (.pointer (some ad))) W := run_nilCheck x ho hx W
theorem run_fieldA {f off k k' : Nat} (ho : o.op = .fieldAddr t x f) (T : FieldAt P t f off) {g : Nat} (hx : a.eval x = .pointer (some ⟨g, k, none⟩)) (hk : k + off = k') (W : World) :
    (execOp a.eval o).run P W = .ok (.value (.pointer (some ⟨g, k', none⟩))) W := by
  obtain ⟨fs, fl, i, h1, h2, rfl, h4, h5⟩ := T
  subst hk
  exact run_fieldAddr x ho h1 h2 ⟨i, h4, h5⟩ hx W
theorem run_loadB (ho : o.op = .load t x) (T : One P t) {g i : Nat} (hx : a.eval x = .pointer (some ⟨g, i, none⟩)) {cs : Array Value} {t' : TypeId} (hB : Blk W g cs t') {v : Value} (hc : cs[i]? = some v) : (execOp a.eval o).run P W = .ok (.value v) W := by
  obtain ⟨d, z, h1, h2, h3, h4⟩ := T
  exact run_load1 x ho h1 (by cases d <;> first | rfl | cases h2) ⟨z, h3, h4⟩ hx ((hB.cell i).trans hc)
theorem run_storeB (ho : o.op = .store t x y) (T : One P t) {g i : Nat} {cs : Array Value} {t' : TypeId} (hB : Blk W g cs t') (hi : i < cs.size) (hx : a.eval x = .pointer (some ⟨g, i, none⟩)) {v : Value} (hy : a.eval y = v) (hv : v.oneCell' = true) (hc : v.cells = #[v]) :
    (execOp a.eval o).run P W = .ok .skip (W.setCell ⟨g, i, none⟩ v) := by
  obtain ⟨d, z, h1, h2, h3, h4⟩ := T
  exact run_store1 x y ho ⟨z, h3, h4⟩ hB hi hx hy hv hc
theorem run_boxV (ho : o.op = .box t x) {v : Value} {cs : Array Value} (hx : a.eval x = v) (hc : v.cells = cs) (W : World) : (execOp a.eval o).run P W = .ok (.value (.pointer (some ⟨W.heap.size, 0, none⟩))) (W.alloc (.cells cs t)) := by
  subst hx hc
  unfold execOp
  simp only [ho]
  simp [Instr.box, newVar, newRow]
theorem run_allocV (ho : o.op = .alloc t) {cs : Array Value} (T : ZeroOf P t cs) (W : World) : (execOp a.eval o).run P W = .ok (.value (.pointer (some ⟨W.heap.size, 0, none⟩))) (W.alloc (.cells cs t)) := by
  obtain ⟨i, z, h1, h2, rfl⟩ := T
  unfold execOp
  simp only [ho]
  simp [Instr.alloc, newVar, newRow, zeroValue, typeInfo, h1, h2]
theorem run_buildV {parts : Array (Nat × Operand)} (ho : o.op = .build t parts) {cs : Array Value} (h : P.built t (parts.map fun (i, x) => (i, a.eval x)).toList = some cs) (W : World) : (execOp a.eval o).run P W = .ok (.value (.agg cs)) W := by
  unfold execOp
  simp only [ho, Sem.run_bind, run_build W t _ cs h, Result.andThen_ok, Sem.run_pure]
omit x y in
theorem eqIn_func_nil (d : Nat) {t : TypeId} {ps rs : Array TypeId} {vr : Bool} (ht : P.underlying t = some (.func ps rs vr)) (f : Fn) (u c : Array Value) (W : World) : (Op.equalIn (d + 1) t (.func f u c) .nilFunc).run P W = .ok false W := by
  simp [Op.equalIn, run_underlying ht]
omit x y in
theorem eqIn_bool (d : Nat) {t : TypeId} (ht : P.underlying t = some .bool) (b c : Bool) (W : World) : (Op.equalIn (d + 1) t (.bool b) (.bool c)).run P W = .ok (b == c) W := by simp [Op.equalIn, run_underlying ht]
theorem run_eqnil (ho : o.op = .binOp .eql t x y t') {e : TypeId} (ht : P.underlying t = some (.pointer e)) {p : Option Addr} {b : Bool} (hx : a.eval x = .pointer p) (hy : a.eval y = .pointer none) (hb : p.isNone = b) (W : World) : (execOp a.eval o).run P W = .ok (.value (.bool b)) W := by
  subst hb
  have hp : P.pointee t = e := by simp [Program.pointee, ht]
  have h := run_eql_pointer_nil (P := P) W t p (by rw [hp]; exact ht)
  unfold execOp; simp only [ho, hx, hy]
  simp [eqGuard, h]
theorem run_eqnilF (ho : o.op = .binOp .eql t x y t') {ps rs : Array TypeId} {vr : Bool} (ht : P.underlying t = some (.func ps rs vr)) {f : Fn} {u c : Array Value} (hx : a.eval x = .func f u c) (hy : a.eval y = .nilFunc) (W : World) : (execOp a.eval o).run P W = .ok (.value (.bool false)) W := by
  have e : binOp .eql t (.func f u c) .nilFunc = (do pure (.bool (← Op.equal t (.func f u c) .nilFunc))) := rfl
  have r := eqIn_func_nil (P := P) 9999 ht f u c W
  unfold execOp
  simp only [ho, hx, hy, e]
  simp [eqGuard, Op.equal, Op.maxDepth, r]
theorem runm_eql_bool (ho : o.op = .binOp .eql t x y t') (ht : P.underlying t = some .bool) {b c : Bool} (hx : a.eval x = .bool b) (hy : a.eval y = .bool c) (W : World) : (execOp a.eval o).run P W = .ok (.value (.bool (b == c))) W := by
  have e : binOp .eql t (.bool b) (.bool c) = (do pure (.bool (← Op.equal t (.bool b) (.bool c)))) := rfl
  have r := eqIn_bool (P := P) 9999 ht b c W
  unfold execOp
  simp only [ho, hx, hy, e]
  simp [eqGuard, Op.equal, Op.maxDepth, r]
theorem runm_neq_bool (ho : o.op = .binOp .neq t x y t') (ht : P.underlying t = some .bool) {b c : Bool} (hx : a.eval x = .bool b) (hy : a.eval y = .bool c) (W : World) : (execOp a.eval o).run P W = .ok (.value (.bool (b != c))) W := by
  have e : binOp .neq t (.bool b) (.bool c) = (do pure (.bool !(← Op.equal t (.bool b) (.bool c)))) := rfl
  have r := eqIn_bool (P := P) 9999 ht b c W
  unfold execOp
  simp only [ho, hx, hy, e]
  simp [eqGuard, Op.equal, Op.maxDepth, r, bne]
theorem run_remN (ho : o.op = .binOp .rem t x y t') {X : Int} {m n : Nat} (hx : a.eval x = .int .i64 X) (hy : a.eval y = .int .i64 (n : Int)) (hX : X = (m : Int)) (hn : 0 < n) (W : World) : (execOp a.eval o).run P W = .ok (.value (.int .i64 ((m % n : Nat) : Int))) W := by
  subst hX
  unfold execOp; simp only [ho, hx, hy]
  have h0 : (n : Int) ≠ 0 := by omega
  simp [go_sem, eqGuard, h0]
  split
  · omega
  · simp [Int.tmod_eq_emod_of_nonneg (a := (m : Int)) (b := (n : Int)) (by omega)]
theorem run_quoN (ho : o.op = .binOp .quo t x y t') {X Y : Int} {m n : Nat} (hx : a.eval x = .int .i64 X) (hy : a.eval y = .int .i64 Y) (hX : X = (m : Int)) (hY : Y = (n : Int)) (hn : 0 < n) (hm : m ≤ 9223372036854775807) (W : World) : (execOp a.eval o).run P W = .ok (.value (.int .i64 ((m / n : Nat) : Int))) W := by
  subst hX hY
  unfold execOp; simp only [ho, hx, hy]
  have h0 : (n : Int) ≠ 0 := by omega
  have h1 := IntWalk.i64_quo (m : Int) (n : Int) (by omega)
  simp [go_sem, eqGuard, h0]
  split
  · omega
  · rw [← Int.natCast_ediv]
    have h2 := Nat.div_le_self m n
    generalize m / n = q at *
    rw [IntWalk.i64_in (q : Int) (by omega)]
theorem run_index1 (ho : o.op = .indexAddr t x y) {e : TypeId} (ht : P.underlying t = some (.slice e)) (hs : (P.info? e).map (·.size) = some 1) {b l c i : Nat} {X : Int} (hx : a.eval x = .slice (some ⟨b, 0, none⟩) l c) (hy : a.eval y = .int .i64 X) (hX : X = (i : Int)) (h : i < l) (W : World) :
    (execOp a.eval o).run P W = .ok (.value (.pointer (some ⟨b, i, none⟩))) W := by
  subst hX
  cases hi : P.info? e with
  | none => simp [hi] at hs
  | some z =>
    simp [hi] at hs
    have := run_indexAddrN (sz := 1) x y ho ht ⟨z, hi, hs⟩ hx hy h W
    simpa using this
theorem run_func {f : Fn} {c : Array Operand} (ho : o.op = .makeFunc f #[] c) {v : Value} (hv : .func f #[] (c.map a.eval) = v) (W : World) : (execOp a.eval o).run P W = .ok (.value v) W := by
  subst hv
  unfold execOp; simp only [ho]
  simp [Instr.makeFunc]
end

/-! ### rows of numbers in a block -/
@[irreducible] def ints (l : List Int) : Array Value := (l.map (Value.int .i64)).toArray
theorem ints_size (l : List Int) : (ints l).size = l.length := by unfold ints; simp
theorem ints_get (l : List Int) (i : Nat) (h : i < l.length) : (ints l)[i]? = some (.int .i64 (nth l i)) := by unfold ints nth; simp [h]
theorem ints_set (l : List Int) (i : Nat) (x : Int) : (ints l).setIfInBounds i (.int .i64 x) = ints (l.set i x) := by unfold ints; simp [List.map_set]
theorem ints_lt {l : List Int} {i : Nat} (h : i < l.length) : i < (ints l).size := by rw [ints_size]; exact h
theorem nth_set (l : List Int) (i j : Nat) (x : Int) : nth (l.set i x) j = if i = j ∧ i < l.length then x else nth l j := by
  unfold nth
  simp only [List.getD_eq_getElem?_getD, List.getElem?_set]
  by_cases h : i = j
  · subst h
    by_cases h2 : i < l.length <;> simp [h2]
  · simp [h]
theorem run_makeInts {P : Program} {o : Oper} {a : Act} {t e : TypeId} (x : Operand) (ho : o.op = .makeSlice t x x) (ht : P.underlying t = some (.slice e)) (hi : (P.info? e).map (fun i => (i.zero, i.size, i.bytes)) = some (some (.int .i64 0), 1, 8)) {X : Int} {N : Nat} (hx : a.eval x = .int .i64 X) (hX : X = (N : Int)) (hN : N ≤ 1000000) (W : World) :
    (execOp a.eval o).run P W = .ok (.value (.slice (some ⟨W.heap.size, 0, none⟩) N N)) (W.alloc (.cells (ints (List.replicate N 0)) e)) := by
  subst hX
  obtain ⟨i, h1, h2, h3, h4⟩ := info_parts hi
  have hr := run_makeSlice (P := P) W t e i (.int .i64 0) ht h1 h2 .i64 .i64 (N : Int) (N : Int) (by omega) (Int.le_refl _) (by rw [h3]; omega) (by rw [h4]; omega) (by omega)
  have hm : madeCells (Value.int .i64 0).cells (((N : Int)).toNat * i.size) = ints (List.replicate N 0) := by
    rw [h3]
    unfold ints
    apply Array.ext'
    simp [madeCells, Value.cells, Nat.mod_one, List.map_const']
  rw [hm] at hr
  unfold execOp; simp only [ho, hx, Sem.run_bind, hr]
  simp
end Go.Proofs.YtackcmlkicjlnaaDoor

/- Structs in rows and in variables: loads, stores, cuts, '==' field by field. -/
namespace Go.Proofs.YtackcmlkicjlnaaDoor
open Go.RowKit Go.WideShapes Go.ChangeShapes

/-- t is a struct (or an array) of so many cells. -/
def AggT (P : Program) (t : TypeId) (n : Nat) : Prop := ∃ d i, P.underlying t = some d ∧ d.isRow = true ∧ P.info? t = some i ∧ i.size = n
theorem aggT {P : Program} {t : TypeId} {d : TypeDesc} {n : Nat} (h1 : P.underlying t = some d) (h2 : d.isRow = true) (h3 : (P.info? t).map (·.size) = some n) : AggT P t n := by
  cases hi : P.info? t with
  | none => simp [hi] at h3
  | some i => simp [hi] at h3; exact ⟨d, i, h1, h2, hi, h3⟩
section
variable {P : Program} {o : Oper} {a : Act} (x y : Operand) {t : TypeId} {W : World}
theorem run_loadE {α : Type} {E : Enc α} (ho : o.op = .load t x) (T : AggT P t E.sz) {b off i : Nat} {xs : List α} (hx : a.eval x = .pointer (some ⟨b, off + i * E.sz, none⟩)) (hr : Reads W (some ⟨b, off, none⟩) (E.all xs)) {u : α} (hu : xs[i]? = some u) :
    (execOp a.eval o).run P W = .ok (.value (.agg (E.enc u).toArray)) W := by
  obtain ⟨d, z, h1, h2, h3, h4⟩ := T
  have hc : W.rangeAt b (off + i * E.sz) (E.enc u) := fun j v hv => by
    have hj : j < E.sz := by rw [← E.len u]; exact (List.getElem?_eq_some_iff.1 hv).1
    obtain ⟨b', off', e, hc⟩ := hr (i * E.sz + j) v (by rw [E.all_get xs i j u hu hj]; exact hv)
    injection e with e; injection e with e1 e2; subst e1 e2
    rw [Nat.add_assoc]
    exact hc
  have hl := run_loadVar_mid (P := P) W b (off + i * E.sz) t (E.enc u) d hc h1 h2 (by rw [h3, Option.map_some, h4, E.len])
  unfold execOp
  simp only [ho, hx, Instr.loadAt, Instr.sureAddr, Sem.run_bind, Sem.run_pure, Result.andThen_ok, hl]
theorem run_loadW (ho : o.op = .load t x) {cs : Array Value} (T : AggT P t cs.size) {g : Nat} (hx : a.eval x = .pointer (some ⟨g, 0, none⟩)) {t' : TypeId} (hB : Blk W g cs t') : (execOp a.eval o).run P W = .ok (.value (.agg cs)) W := by
  obtain ⟨d, z, h1, h2, h3, h4⟩ := T
  have hc : W.rangeAt g 0 cs.toList := fun j v hv => by rw [Nat.zero_add, hB.cell]; simpa using hv
  have hl := run_loadVar_mid (P := P) W g 0 t cs.toList d hc h1 h2 (by rw [h3, Option.map_some, h4]; simp)
  unfold execOp
  simp only [ho, hx, Instr.loadAt, Instr.sureAddr, Sem.run_bind, Sem.run_pure, Result.andThen_ok, hl, Array.toArray_toList]
theorem run_storeW (ho : o.op = .store t x y) {old cs : Array Value} (T : AggT P t cs.size) {g : Nat} (hx : a.eval x = .pointer (some ⟨g, 0, none⟩)) (hy : a.eval y = .agg cs) {t' : TypeId} (hB : Blk W g old t') (hs : old.size = cs.size) (h1 : cs.all (·.oneCell') = true) :
    (execOp a.eval o).run P W = .ok .skip (W.setRow g cs) := by
  obtain ⟨d, z, _, _, h3, h4⟩ := T
  unfold execOp
  simp only [ho, hx, hy, Instr.storeAt, Instr.sureAddr, Sem.run_bind, Sem.run_pure, Result.andThen_ok]
  rw [run_storeVar_row W g t' t old cs hB (by rw [h3, Option.map_some, h4]) hs h1]
  rfl
end
theorem Reads.takeE {α : Type} {E : Enc α} {w : World} {A : Option Addr} {xs : List α} (h : Reads w A (E.all xs)) (n : Nat) : Reads w A (E.all (xs.take n)) := by rw [E.all_take]; exact h.take _
theorem Reads.posE {α : Type} {E : Enc α} {w : World} {A : Option Addr} {xs : List α} (h : Reads w A (E.all xs)) (hp : 0 < E.sz) (hx : 0 < xs.length) : ∃ b off, A = some ⟨b, off, none⟩ ∧ True := by
  obtain ⟨b, off, hA, _⟩ := h.at_ (by rw [E.all_length]; exact Nat.mul_pos hx hp)
  exact ⟨b, off, hA, trivial⟩

/-! ### '==' field by field -/
def eqL (d : Nat) (xs ys : Array Value) : List (String × TypeId × Nat) → Sem Bool
  | [] => pure true
  | f :: fs =>
    if f.1 ≠ "_" then do
      let a ← part f.2.1 xs f.2.2
      let b ← part f.2.1 ys f.2.2
      let r ← Op.equalIn d f.2.1 a b
      if (!r) = true then pure false else eqL d xs ys fs
    else eqL d xs ys fs
theorem eqFields_eqL (d : Nat) (xs ys : Array Value) : ∀ fs : List Field, Op.eqFields d xs ys fs = eqL d xs ys (fs.map fun f => (f.name, f.type, f.offset))
  | [] => rfl
  | f :: fs => by
    have ih := eqFields_eqL d xs ys fs
    simp only [Op.eqFields, eqL, List.map_cons, ih]
section
variable {P : Program} {d : Nat} {xs ys : Array Value} {fs : List (String × TypeId × Nat)} {n : String} {t : TypeId} {off : Nat} {W : World}
theorem eqL_nil : (eqL d xs ys []).run P W = .ok true W := rfl
theorem eqL_one {v u : Value} {b : Bool} (hn : n ≠ "_") (ha : (isAgg t).run P W = .ok false W) (hv : xs[off]? = some v) (hu : ys[off]? = some u) (he : (Op.equalIn d t v u).run P W = .ok b W) :
    (eqL d xs ys ((n, t, off) :: fs)).run P W = if b = true then (eqL d xs ys fs).run P W else .ok false W := by
  have p1 : (part t xs off).run P W = .ok v W := by simp [part, ha, hv]
  have p2 : (part t ys off).run P W = .ok u W := by simp [part, ha, hu]
  rw [eqL, if_pos (show (n, t, off).1 ≠ "_" from hn)]
  simp only [Sem.run_bind, p1, p2, he, Result.andThen_ok]
  cases b <;> simp
theorem eqL_sub {b : Bool} {s : Nat} (hn : n ≠ "_") (ha : (isAgg t).run P W = .ok true W) (hs : (sizeOf t).run P W = .ok s W) (he : (Op.equalIn d t (.agg (xs.extract off (off + s))) (.agg (ys.extract off (off + s)))).run P W = .ok b W) :
    (eqL d xs ys ((n, t, off) :: fs)).run P W = if b = true then (eqL d xs ys fs).run P W else .ok false W := by
  have p1 : (part t xs off).run P W = .ok (.agg (xs.extract off (off + s))) W := by simp [part, ha, hs]
  have p2 : (part t ys off).run P W = .ok (.agg (ys.extract off (off + s))) W := by simp [part, ha, hs]
  rw [eqL, if_pos (show (n, t, off).1 ≠ "_" from hn)]
  simp only [Sem.run_bind, p1, p2, he, Result.andThen_ok]
  cases b <;> simp
theorem eqI_str (h : P.underlying t = some .string) (l m : List UInt8) : (Op.equalIn (d + 1) t (.string (str l)) (.string (str m))).run P W = .ok (decide (l = m)) W := by
  rw [run_equalIn_string W d t _ _ h, str_toList, str_toList, list_beq]
theorem eqI_int {k : IntKind} (h : P.underlying t = some (.int k)) (a b : Int) : (Op.equalIn (d + 1) t (.int k a) (.int k b)).run P W = .ok (decide (a = b)) W := by
  rw [run_equalIn_int W d t k k a b h]
  congr 1
theorem eqI_bool (h : P.underlying t = some .bool) (a b : Bool) : (Op.equalIn (d + 1) t (.bool a) (.bool b)).run P W = .ok (decide (a = b)) W := by
  rw [run_equalIn_bool' W d t a b h]
  congr 1
theorem eqI_struct {fs : List (String × TypeId × Nat)} {r : Bool} (hu : P.underlying t = some (.struct (P.fieldsOf t))) (hp : P.stoodInHeld t = false) (hf : ((P.fieldsOf t).toList.map fun f => (f.name, f.type, f.offset)) = fs) (h : (eqL d xs ys fs).run P W = .ok r W) :
    (Op.equalIn (d + 1) t (.agg xs) (.agg ys)).run P W = .ok r W := by
  rw [run_equalIn_agg W d t xs ys hu hp, eqFields_eqL, hf, h]
end
/-- Two values of a struct are equal where the things that they stand for are. -/
structure EqA {α : Type} [DecidableEq α] (P : Program) (t : TypeId) (E : Enc α) (ok : α → Prop) : Prop where
  guard : P.eqGuardType P.depth t = false
  eq : ∀ (d : Nat) (p q : α) (W : World), ok p → ok q → (Op.equalIn (d + 5) t (.agg (E.enc p).toArray) (.agg (E.enc q).toArray)).run P W = .ok (decide (p = q)) W
section
variable {P : Program} {o : Oper} {a : Act} (x y : Operand) {t t' : TypeId} {α : Type} [DecidableEq α] {E : Enc α} {ok : α → Prop}
theorem run_eql_agg (ho : o.op = .binOp .eql t x y t') (T : EqA P t E ok) {p q : α} (hx : a.eval x = .agg (E.enc p).toArray) (hy : a.eval y = .agg (E.enc q).toArray) (hp : ok p) (hq : ok q) (W : World) : (execOp a.eval o).run P W = .ok (.value (.bool (decide (p = q)))) W := by
  have h1 := run_eqGuard_agg (P := P) W .eql t x y (E.enc p).toArray (E.enc q).toArray T.guard
  have h2 := run_eql_struct (P := P) W t (E.enc p).toArray (E.enc q).toArray
  rw [show (10000 : Nat) = 9995 + 5 from rfl, T.eq 9995 p q W hp hq] at h2
  unfold execOp
  simp only [ho, hx, hy]
  simp [h1, h2]
theorem run_neq_agg (ho : o.op = .binOp .neq t x y t') (T : EqA P t E ok) {p q : α} (hx : a.eval x = .agg (E.enc p).toArray) (hy : a.eval y = .agg (E.enc q).toArray) (hp : ok p) (hq : ok q) (W : World) : (execOp a.eval o).run P W = .ok (.value (.bool (!decide (p = q)))) W := by
  have h1 := run_eqGuard_agg (P := P) W .neq t x y (E.enc p).toArray (E.enc q).toArray T.guard
  have h2 := run_neq_struct (P := P) W t (E.enc p).toArray (E.enc q).toArray
  rw [show (10000 : Nat) = 9995 + 5 from rfl, T.eq 9995 p q W hp hq] at h2
  unfold execOp
  simp only [ho, hx, hy]
  simp [h1, h2]
end
/-- &a[i] of an array in a variable. -/
theorem run_indexArr {P : Program} {o : Oper} {a : Act} (x y : Operand) {t e : TypeId} {n sz : Nat} (ho : o.op = .indexAddr t x y) (ht : P.underlying t = some (.array n e)) (hs : (P.info? e).map (·.size) = some sz) {b i k k' : Nat} (hx : a.eval x = .pointer (some ⟨b, k, none⟩)) {K : IntKind} {X : Int} (hy : a.eval y = .int K X) (hX : X = (i : Int)) (hk : k + i * sz = k') (h : i < n) (W : World) :
    (execOp a.eval o).run P W = .ok (.value (.pointer (some ⟨b, k', none⟩))) W := by
  subst hX hk
  cases hi : P.info? e with
  | none => simp [hi] at hs
  | some z =>
    simp [hi] at hs
    have h0 : (i : Int) < (n : Int) := by omega
    unfold execOp; simp only [ho, hx, hy]
    simp [Instr.indexAt, asIntOf, run_underlying ht, Instr.sureAddr, sizeOf, typeInfo, hi, h, hs, add_none, Addr.add]
theorem results_cell1t {P : Program} {fn : Func} {p u : Tmp} {ty t : TypeId} (h : fn.results = #[.cell p ty, .tmp u]) (T : One P ty) {tmps : Array Value} {w : World} {g : Nat} {v : Value} (hp : tmps.getD p undef = .pointer (some ⟨g, 0, none⟩)) (hB : Blk w g #[v] t) : (results fn tmps).run P w = .ok (.tuple #[v, tmps.getD u undef]) w := by
  obtain ⟨d, i, h1, h2, h3, h4⟩ := T
  have hagg : (isAgg ty).run P w = .ok false w := by
    unfold isAgg
    rw [Sem.run_bind, run_underlying h1 w]
    cases d <;> simp_all [plainT]
  have hc : w.cell? ⟨g, 0, none⟩ = some v := by rw [hB.cell]; rfl
  have hp' : tmps[p]?.getD undef = .pointer (some ⟨g, 0, none⟩) := by simpa using hp
  simp only [results, h]
  simp [Sem.run_bind, hp', asAddr, loadVar, hagg, hc]
theorem I64_of' {n : Int} (h : (Lit.int .i64 n).wf = true) : -9223372036854775808 ≤ n ∧ n ≤ 9223372036854775807 := by
  simp [Lit.wf, IntKind.min, IntKind.max, IntKind.bits, IntKind.signed] at h
  omega
theorem U64_of {n : Int} (h : (Lit.int .u64 n).wf = true) : 0 ≤ n ∧ n < 18446744073709551616 := by
  simp [Lit.wf, IntKind.min, IntKind.max, IntKind.bits, IntKind.signed] at h
  omega
theorem I32_of {n : Int} (h : (Lit.int .i32 n).wf = true) : -2147483648 ≤ n ∧ n ≤ 2147483647 := by
  simp [Lit.wf, IntKind.min, IntKind.max, IntKind.bits, IntKind.signed] at h
  omega
end Go.Proofs.YtackcmlkicjlnaaDoor

/- Events, entries, rows of such. -/
namespace Go.Proofs.YtackcmlkicjlnaaDoor
open Go.RowKit Go.WideShapes Go.ChangeShapes
set_option linter.unusedSimpArgs false
set_option linter.unusedVariables false

/-! ### api.Event -/
abbrev TEvt := Int × Int × Int × Int × Int
def eEvt : Enc TEvt := ⟨5, fun p => [.int .i64 p.1, .int .i64 p.2.1, .int .i64 p.2.2.1, .int .i64 p.2.2.2.1, .int .i64 p.2.2.2.2], fun _ => rfl, fun _ u hu => by simp at hu; rcases hu with rfl | rfl | rfl | rfl | rfl <;> rfl⟩
def evtAt (l : List TEvt) (i : Nat) : TEvt := l.getD i (0, 0, 0, 0, 0)
theorem evtAt_get {l : List TEvt} {i : Nat} (h : i < l.length) : l[i]? = some (evtAt l i) := by unfold evtAt; simp [h]
theorem evtAt_mem {l : List TEvt} {i : Nat} (h : i < l.length) : evtAt l i ∈ l := by unfold evtAt; simp [h]
def okEvt (p : TEvt) : Prop := (-9223372036854775808 ≤ p.1 ∧ p.1 ≤ 9223372036854775807) ∧ (-9223372036854775808 ≤ p.2.1 ∧ p.2.1 ≤ 9223372036854775807) ∧ (-9223372036854775808 ≤ p.2.2.1 ∧ p.2.2.1 ≤ 9223372036854775807) ∧ (-9223372036854775808 ≤ p.2.2.2.1 ∧ p.2.2.2.1 ≤ 9223372036854775807) ∧ (-9223372036854775808 ≤ p.2.2.2.2 ∧ p.2.2.2.2 ≤ 9223372036854775807)
theorem evt_snoc {l : List TEvt} {k : Nat} (h : k < l.length) : l.take (k + 1) = l.take k ++ [evtAt l k] := by rw [List.take_add_one, evtAt_get h]; rfl
theorem evt_ext {l m : List TEvt} (hl : l.length = m.length) (h : ∀ k, k < l.length → evtAt l k = evtAt m k) : l = m := by
  apply List.ext_getElem hl
  intro i h1 h2
  have := h i h1
  have e1 := evtAt_get h1
  have e2 := evtAt_get h2
  rw [List.getElem?_eq_getElem h1] at e1
  rw [List.getElem?_eq_getElem h2] at e2
  injection e1 with e1; injection e2 with e2
  rw [e1, e2, this]
def rEvt : Nat → List Value → Prop
  | 0, cs => ∃ n, cs = [.int .i64 n] ∧ (Lit.int .i64 n).wf = true
  | 1, cs => ∃ n, cs = [.int .i64 n] ∧ (Lit.int .i64 n).wf = true
  | 2, cs => ∃ n, cs = [.int .i64 n] ∧ (Lit.int .i64 n).wf = true
  | 3, cs => ∃ n, cs = [.int .i64 n] ∧ (Lit.int .i64 n).wf = true
  | 4, cs => ∃ n, cs = [.int .i64 n] ∧ (Lit.int .i64 n).wf = true
  | _, _ => True
/-! ### api.Entry -/
abbrev TEnt := Int × Int × Int × Int × Int
def eEnt : Enc TEnt := ⟨5, fun p => [.int .i64 p.1, .int .i64 p.2.1, .int .i64 p.2.2.1, .int .i64 p.2.2.2.1, .int .u64 p.2.2.2.2], fun _ => rfl, fun _ u hu => by simp at hu; rcases hu with rfl | rfl | rfl | rfl | rfl <;> rfl⟩
theorem aggEnt : AggT Tryd.prog 24 5 := aggT Tryd.underlying24 rfl (by kernel_rfl)
def entAt (l : List TEnt) (i : Nat) : TEnt := l.getD i (0, 0, 0, 0, 0)
theorem entAt_get {l : List TEnt} {i : Nat} (h : i < l.length) : l[i]? = some (entAt l i) := by unfold entAt; simp [h]
theorem entAt_mem {l : List TEnt} {i : Nat} (h : i < l.length) : entAt l i ∈ l := by unfold entAt; simp [h]
def okEnt (p : TEnt) : Prop := (-9223372036854775808 ≤ p.1 ∧ p.1 ≤ 9223372036854775807) ∧ (-9223372036854775808 ≤ p.2.1 ∧ p.2.1 ≤ 9223372036854775807) ∧ (-9223372036854775808 ≤ p.2.2.1 ∧ p.2.2.1 ≤ 9223372036854775807) ∧ (-9223372036854775808 ≤ p.2.2.2.1 ∧ p.2.2.2.1 ≤ 9223372036854775807) ∧ (0 ≤ p.2.2.2.2 ∧ p.2.2.2.2 < 18446744073709551616)
theorem undEnt : Tryd.prog.underlying 24 = some (.struct (Tryd.prog.fieldsOf 24)) := by rw [Program.fieldsOf, Tryd.underlying24]
theorem eqIEnt {d : Nat} (p q : TEnt) (W : World) : (Op.equalIn (d + 4) 24 (.agg (eEnt.enc p).toArray) (.agg (eEnt.enc q).toArray)).run Tryd.prog W = .ok (decide (p = q)) W := by
    refine eqI_struct undEnt (by kernel_rfl) (fs := [("Kind", 3, 0), ("A", 3, 1), ("B", 3, 2), ("C", 3, 3), ("Draw", 22, 4)]) (by kernel_rfl) ?_
    obtain ⟨a0, a1, a2, a3, a4⟩ := p
    obtain ⟨b0, b1, b2, b3, b4⟩ := q
    rw [eqL_one (v := .int .i64 a0) (u := .int .i64 b0) (b := decide (a0 = b0)) (by decide) (by kernel_rfl) (by rfl) (by rfl) (eqI_int Tryd.underlying3 _ _)]
    rw [eqL_one (v := .int .i64 a1) (u := .int .i64 b1) (b := decide (a1 = b1)) (by decide) (by kernel_rfl) (by rfl) (by rfl) (eqI_int Tryd.underlying3 _ _)]
    rw [eqL_one (v := .int .i64 a2) (u := .int .i64 b2) (b := decide (a2 = b2)) (by decide) (by kernel_rfl) (by rfl) (by rfl) (eqI_int Tryd.underlying3 _ _)]
    rw [eqL_one (v := .int .i64 a3) (u := .int .i64 b3) (b := decide (a3 = b3)) (by decide) (by kernel_rfl) (by rfl) (by rfl) (eqI_int Tryd.underlying3 _ _)]
    rw [eqL_one (v := .int .u64 a4) (u := .int .u64 b4) (b := decide (a4 = b4)) (by decide) (by kernel_rfl) (by rfl) (by rfl) (eqI_int Tryd.underlying22 _ _)]
    rw [eqL_nil]
    by_cases h0 : a0 = b0
    rotate_left
    · rw [if_neg (by simpa using h0)]; congr 1; rw [eq_comm, decide_eq_false_iff_not]; intro e; simp only [Prod.mk.injEq] at e; exact h0 (by first | exact e | exact e.1)
    rw [if_pos (by simpa using h0)]
    by_cases h1 : a1 = b1
    rotate_left
    · rw [if_neg (by simpa using h1)]; congr 1; rw [eq_comm, decide_eq_false_iff_not]; intro e; simp only [Prod.mk.injEq] at e; exact h1 (by first | exact e | exact e.2.1)
    rw [if_pos (by simpa using h1)]
    by_cases h2 : a2 = b2
    rotate_left
    · rw [if_neg (by simpa using h2)]; congr 1; rw [eq_comm, decide_eq_false_iff_not]; intro e; simp only [Prod.mk.injEq] at e; exact h2 (by first | exact e | exact e.2.2.1)
    rw [if_pos (by simpa using h2)]
    by_cases h3 : a3 = b3
    rotate_left
    · rw [if_neg (by simpa using h3)]; congr 1; rw [eq_comm, decide_eq_false_iff_not]; intro e; simp only [Prod.mk.injEq] at e; exact h3 (by first | exact e | exact e.2.2.2.1)
    rw [if_pos (by simpa using h3)]
    by_cases h4 : a4 = b4
    rotate_left
    · rw [if_neg (by simpa using h4)]; congr 1; rw [eq_comm, decide_eq_false_iff_not]; intro e; simp only [Prod.mk.injEq] at e; exact h4 (by first | exact e | exact e.2.2.2.2)
    rw [if_pos (by simpa using h4)]
    subst h0 h1 h2 h3 h4; simp
theorem eqEnt : EqA Tryd.prog 24 eEnt (fun _ => True) where
  guard := by kernel_rfl
  eq := fun d p q W _ _ => eqIEnt (d := d + 1) p q W
theorem ent_snoc {l : List TEnt} {k : Nat} (h : k < l.length) : l.take (k + 1) = l.take k ++ [entAt l k] := by rw [List.take_add_one, entAt_get h]; rfl
theorem ent_ext {l m : List TEnt} (hl : l.length = m.length) (h : ∀ k, k < l.length → entAt l k = entAt m k) : l = m := by
  apply List.ext_getElem hl
  intro i h1 h2
  have := h i h1
  have e1 := entAt_get h1
  have e2 := entAt_get h2
  rw [List.getElem?_eq_getElem h1] at e1
  rw [List.getElem?_eq_getElem h2] at e2
  injection e1 with e1; injection e2 with e2
  rw [e1, e2, this]
def rEnt : Nat → List Value → Prop
  | 0, cs => ∃ n, cs = [.int .i64 n] ∧ (Lit.int .i64 n).wf = true
  | 1, cs => ∃ n, cs = [.int .i64 n] ∧ (Lit.int .i64 n).wf = true
  | 2, cs => ∃ n, cs = [.int .i64 n] ∧ (Lit.int .i64 n).wf = true
  | 3, cs => ∃ n, cs = [.int .i64 n] ∧ (Lit.int .i64 n).wf = true
  | 4, cs => ∃ n, cs = [.int .u64 n] ∧ (Lit.int .u64 n).wf = true
  | _, _ => True
theorem flatEnt : Flat Tryd.prog 24 (fun cs => ∃ p, cs = eEnt.enc p ∧ okEnt p) := by
  intro H enc w base spare held fuel cs x hx
  have h3 := flat_struct (P := Tryd.prog) (t := 24) rEnt Tryd.underlying24 (by
    intro i f hf
    match i, hf with
    | 0, hf => simp at hf; subst hf; show Flat Tryd.prog 3 (fun cs => ∃ n, cs = [.int .i64 n] ∧ (Lit.int .i64 n).wf = true); exact flat_int Tryd.underlying3
    | 1, hf => simp at hf; subst hf; show Flat Tryd.prog 3 (fun cs => ∃ n, cs = [.int .i64 n] ∧ (Lit.int .i64 n).wf = true); exact flat_int Tryd.underlying3
    | 2, hf => simp at hf; subst hf; show Flat Tryd.prog 3 (fun cs => ∃ n, cs = [.int .i64 n] ∧ (Lit.int .i64 n).wf = true); exact flat_int Tryd.underlying3
    | 3, hf => simp at hf; subst hf; show Flat Tryd.prog 3 (fun cs => ∃ n, cs = [.int .i64 n] ∧ (Lit.int .i64 n).wf = true); exact flat_int Tryd.underlying3
    | 4, hf => simp at hf; subst hf; show Flat Tryd.prog 22 (fun cs => ∃ n, cs = [.int .u64 n] ∧ (Lit.int .u64 n).wf = true); exact flat_int Tryd.underlying22
    | k + 5, hf => simp at hf) hx
  obtain ⟨hl, hi⟩ := h3
  have hc : Tryd.prog.cellsOf 24 = 5 := by kernel_rfl
  rw [hc] at hl
  have hu0 : Tryd.prog.cellsOf 3 = 1 := by kernel_rfl
  obtain ⟨x0, h0, w0⟩ := hi 0 _ rfl
  change List.take (Tryd.prog.cellsOf 3) (List.drop 0 cs) = _ at h0
  rw [hu0] at h0
  have hu1 : Tryd.prog.cellsOf 3 = 1 := by kernel_rfl
  obtain ⟨x1, h1, w1⟩ := hi 1 _ rfl
  change List.take (Tryd.prog.cellsOf 3) (List.drop 1 cs) = _ at h1
  rw [hu1] at h1
  have hu2 : Tryd.prog.cellsOf 3 = 1 := by kernel_rfl
  obtain ⟨x2, h2, w2⟩ := hi 2 _ rfl
  change List.take (Tryd.prog.cellsOf 3) (List.drop 2 cs) = _ at h2
  rw [hu2] at h2
  have hu3 : Tryd.prog.cellsOf 3 = 1 := by kernel_rfl
  obtain ⟨x3, h3, w3⟩ := hi 3 _ rfl
  change List.take (Tryd.prog.cellsOf 3) (List.drop 3 cs) = _ at h3
  rw [hu3] at h3
  have hu4 : Tryd.prog.cellsOf 22 = 1 := by kernel_rfl
  obtain ⟨x4, h4, w4⟩ := hi 4 _ rfl
  change List.take (Tryd.prog.cellsOf 22) (List.drop 4 cs) = _ at h4
  rw [hu4] at h4
  match cs, hl with
  | [c0, c1, c2, c3, c4], _ =>
    simp only [List.drop_succ_cons, List.drop_zero, List.take_succ_cons, List.take_zero, List.cons.injEq, and_true] at h0
    subst h0
    simp only [List.drop_succ_cons, List.drop_zero, List.take_succ_cons, List.take_zero, List.cons.injEq, and_true] at h1
    subst h1
    simp only [List.drop_succ_cons, List.drop_zero, List.take_succ_cons, List.take_zero, List.cons.injEq, and_true] at h2
    subst h2
    simp only [List.drop_succ_cons, List.drop_zero, List.take_succ_cons, List.take_zero, List.cons.injEq, and_true] at h3
    subst h3
    simp only [List.drop_succ_cons, List.drop_zero, List.take_succ_cons, List.take_zero, List.cons.injEq, and_true] at h4
    subst h4
    exact ⟨(x0, x1, x2, x3, x4), rfl, I64_of' w0, I64_of' w1, I64_of' w2, I64_of' w3, U64_of w4⟩
end Go.Proofs.YtackcmlkicjlnaaDoor

/- Events' lines: the kinds' names, a line's words, what a line's reading yields. -/
namespace Go.Proofs.YtackcmlkicjlnaaDoor
open Go.RowKit Go.WideShapes Go.ChangeShapes

/-- The kinds' names, from 0 on. -/
def nmL : List (List UInt8) := [[], [110, 101, 119], [100, 105, 115, 112, 97, 116, 99, 104], [105, 110, 115], [115, 116, 111, 112], [114, 101, 97, 100, 121], [112, 97, 114, 107], [104, 111, 108, 100], [109, 111, 118, 101], [111, 119, 110], [102, 114, 101, 101], [119, 97, 105, 116], [111, 117, 116], [101, 120, 105, 116], [111, 110, 108, 105, 110, 101], [111, 102, 102, 108, 105, 110, 101], [116, 105, 99, 107], [102, 97, 105, 108], [105, 100, 108, 101], [109, 97, 115, 107], [98, 117, 98, 98, 108, 101], [114, 101, 103]]
def known (k : Int) : Prop := 1 ≤ k ∧ k ≤ 21
def nm (k : Int) : List UInt8 := if 1 ≤ k ∧ k ≤ 21 then nmL.getD k.toNat [] else []
theorem nmL_all : ∀ j : Fin 22, 1 ≤ j.val → (nmL.getD j.val []) ≠ [] ∧ (nmL.getD j.val []).length ≤ 8 ∧ ∀ c ∈ nmL.getD j.val [], 97 ≤ c.toNat := by decide
theorem nmL_inj : ∀ j k : Fin 22, 1 ≤ j.val → 1 ≤ k.val → nmL.getD j.val [] = nmL.getD k.val [] → j = k := by decide
theorem nm_unknown {k : Int} (h : ¬ known k) : nm k = [] := if_neg h
theorem nm_eq {k : Int} (h : known k) : nm k = nmL.getD k.toNat [] := if_pos h
theorem nm_known {k : Int} (h : known k) : nm k ≠ [] ∧ (nm k).length ≤ 8 ∧ ∀ c ∈ nm k, 97 ≤ c.toNat := by
  rw [nm_eq h]
  unfold known at h
  exact nmL_all ⟨k.toNat, by omega⟩ (by show 1 ≤ k.toNat; omega)
theorem nm_inj {j k : Int} (hj : known j) (hk : known k) (h : nm j = nm k) : j = k := by
  rw [nm_eq hj, nm_eq hk] at h
  unfold known at hj hk
  have := nmL_inj ⟨j.toNat, by omega⟩ ⟨k.toNat, by omega⟩ (by show 1 ≤ j.toNat; omega) (by show 1 ≤ k.toNat; omega) h
  injection this with this
  omega
theorem nm_len (k : Int) : (nm k).length ≤ 8 := by
  by_cases h : known k
  · exact (nm_known h).2.1
  · rw [nm_unknown h]; exact Nat.zero_le _
theorem nm_no {k : Int} {c : UInt8} (h : c ∈ nm k) : 97 ≤ c.toNat := by
  by_cases hk : known k
  · exact (nm_known hk).2.2 c h
  · rw [nm_unknown hk] at h; cases h
theorem nm_no32 (k : Int) : (32 : UInt8) ∉ nm k := fun h => absurd (nm_no h) (by decide)
theorem nm_no10 (k : Int) : (10 : UInt8) ∉ nm k := fun h => absurd (nm_no h) (by decide)
theorem dec_no32 (n : Int) : (32 : UInt8) ∉ tdecI n := fun h => by
  rcases tdecI_char h with h | h
  · exact absurd h (by decide)
  · exact absurd h.1 (by decide)
theorem dec_no10 (n : Int) : (10 : UInt8) ∉ tdecI n := fun h => by
  rcases tdecI_char h with h | h
  · exact absurd h (by decide)
  · exact absurd h.1 (by decide)

/-! ### pieces -/
/-- A text cut at each c. -/
def pieces (c : UInt8) : List UInt8 → List (List UInt8)
  | [] => [[]]
  | x :: r => if x = c then [] :: pieces c r else match pieces c r with | p :: ps => (x :: p) :: ps | [] => [[x]]
theorem pieces_ne (c : UInt8) (l : List UInt8) : pieces c l ≠ [] := by
  cases l with
  | nil => simp [pieces]
  | cons x r => rw [pieces]; split; (· simp); (· split <;> simp)
theorem pieces_app {c : UInt8} : ∀ {a : List UInt8} (r : List UInt8), c ∉ a → pieces c (a ++ c :: r) = a :: pieces c r
  | [], r, _ => by rw [List.nil_append, pieces, if_pos rfl]
  | x :: a, r, h => by
    rw [List.cons_append, pieces, if_neg (fun e => h (by rw [e]; exact List.mem_cons_self)), pieces_app r (fun e => h (List.mem_cons_of_mem _ e))]
theorem pieces_one {c : UInt8} : ∀ {a : List UInt8}, c ∉ a → pieces c a = [a]
  | [], _ => rfl
  | x :: a, h => by
    rw [pieces, if_neg (fun e => h (by rw [e]; exact List.mem_cons_self)), pieces_one (fun e => h (List.mem_cons_of_mem _ e))]
theorem pieces_len (c : UInt8) : ∀ l : List UInt8, (pieces c l).length = l.count c + 1
  | [] => rfl
  | x :: r => by
    rw [pieces]
    have ih := pieces_len c r
    by_cases h : x = c
    · rw [if_pos h, List.length_cons, ih, h, List.count_cons_self]
    · rw [if_neg h, List.count_cons_of_ne (by simpa using h), ← ih]
      split
      · rename_i hp; rw [hp]; rfl
      · rename_i hp; exact absurd hp (pieces_ne c r)
theorem pieces_mem {c : UInt8} : ∀ {l p : List UInt8}, p ∈ pieces c l → p.length ≤ l.length
  | [], p, h => by simp [pieces] at h; subst h; exact Nat.le_refl _
  | x :: r, p, h => by
    rw [pieces] at h
    split at h
    · rcases List.mem_cons.1 h with rfl | h
      · exact Nat.zero_le _
      · have := pieces_mem h; rw [List.length_cons]; omega
    · split at h
      · rename_i q ps hq
        rcases List.mem_cons.1 h with rfl | h
        · have : q ∈ pieces c r := by rw [hq]; exact List.mem_cons_self
          have := pieces_mem this
          simp only [List.length_cons]; omega
        · have : p ∈ pieces c r := by rw [hq]; exact List.mem_cons_of_mem _ h
          have := pieces_mem this
          rw [List.length_cons]; omega
      · rename_i hq; exact absurd hq (pieces_ne c r)

/-! ### a line -/
/-- An event's line. -/
def prE (e : TEvt) : List UInt8 := nm e.1 ++ 32 :: (tdecI e.2.1 ++ 32 :: (tdecI e.2.2.1 ++ 32 :: (tdecI e.2.2.2.1 ++ 32 :: tdecI e.2.2.2.2)))
theorem prE_join (e : TEvt) : Lib.join [nm e.1, tdecI e.2.1, tdecI e.2.2.1, tdecI e.2.2.2.1, tdecI e.2.2.2.2] [32] = prE e := by
  simp [Lib.join_cons, Lib.joinTail, prE]
theorem prE_pieces (e : TEvt) : pieces 32 (prE e) = [nm e.1, tdecI e.2.1, tdecI e.2.2.1, tdecI e.2.2.2.1, tdecI e.2.2.2.2] := by
  rw [prE, pieces_app _ (nm_no32 _), pieces_app _ (dec_no32 _), pieces_app _ (dec_no32 _), pieces_app _ (dec_no32 _), pieces_one (dec_no32 _)]
theorem prE_no10 (e : TEvt) : (10 : UInt8) ∉ prE e := by
  unfold prE
  simp only [List.mem_append, List.mem_cons]
  rintro (h | h | h | h | h | h | h | h | h)
  · exact nm_no10 _ h
  all_goals first | exact dec_no10 _ h | exact absurd h (by decide)
theorem prE_len {e : TEvt} (h : okEvt e) : (prE e).length ≤ 92 := by
  have := nm_len e.1
  have h1 := tdecI_len h.2.1
  have h2 := tdecI_len h.2.2.1
  have h3 := tdecI_len h.2.2.2.1
  have h4 := tdecI_len h.2.2.2.2
  unfold prE
  simp only [List.length_append, List.length_cons]
  omega
theorem prE_fields {e f : TEvt} (h : prE e = prE f) : nm e.1 = nm f.1 ∧ e.2 = f.2 := by
  have h1 := prE_pieces e
  rw [h, prE_pieces f] at h1
  simp only [List.cons.injEq, and_true] at h1
  obtain ⟨a, b, c, d, g⟩ := h1
  exact ⟨a.symm, by rw [Prod.ext_iff, Prod.ext_iff, Prod.ext_iff]; exact ⟨(tdecI_inj b).symm, (tdecI_inj c).symm, (tdecI_inj d).symm, (tdecI_inj g).symm⟩⟩
def okEv (e : TEvt) : Prop := known e.1 ∧ okEvt e
theorem prE_inj {e f : TEvt} (he : okEv e) (hf : okEv f) (h : prE e = prE f) : e = f := by
  obtain ⟨h1, h2⟩ := prE_fields h
  exact Prod.ext (nm_inj he.1 hf.1 h1) h2
/-- What the reading of a line yields. -/
noncomputable def pE (l : List UInt8) : TEvt × Bool := open Classical in if h : ∃ e, okEv e ∧ prE e = l then (h.choose, true) else ((0, 0, 0, 0, 0), false)
theorem pE_yes {e : TEvt} {l : List UInt8} (h : okEv e) (hl : prE e = l) : pE l = (e, true) := by
  have hx : ∃ e, okEv e ∧ prE e = l := ⟨e, h, hl⟩
  rw [pE, dif_pos hx]
  have := prE_inj hx.choose_spec.1 h (hx.choose_spec.2.trans hl.symm)
  rw [this]
theorem pE_no {l : List UInt8} (h : ∀ e, okEv e → prE e ≠ l) : pE l = ((0, 0, 0, 0, 0), false) := by
  rw [pE, dif_neg]
  rintro ⟨e, h1, h2⟩
  exact h e h1 h2
theorem pE_ok (l : List UInt8) : ((pE l).2 = true ∧ okEv (pE l).1 ∧ prE (pE l).1 = l) ∨ ((pE l).2 = false ∧ pE l = ((0, 0, 0, 0, 0), false)) := by
  by_cases hx : ∃ e, okEv e ∧ prE e = l
  · obtain ⟨e, h1, h2⟩ := hx
    rw [pE_yes h1 h2]
    exact .inl ⟨rfl, h1, h2⟩
  · have := pE_no (l := l) fun e h1 h2 => hx ⟨e, h1, h2⟩
    rw [this]
    exact .inr ⟨rfl, rfl⟩
theorem pE_I64 (l : List UInt8) : okEvt (pE l).1 := by
  rcases pE_ok l with h | h
  · exact h.2.1.2
  · rw [h.2]; unfold okEvt; simp

/-! ### the kind of a name -/
/-- The first place of a name among the names. -/
def kidx (x : List UInt8) : Int := if x ∈ nmL then (nmL.idxOf x : Int) else -1
theorem kidx_nm {k : Int} (h : known k) : kidx (nm k) = k := by
  have key : ∀ j : Fin 22, nmL.idxOf (nmL.getD j.val []) = j.val ∧ nmL.getD j.val [] ∈ nmL := by decide
  rw [nm_eq h]
  unfold known at h
  have := key ⟨k.toNat, by omega⟩
  rw [kidx, if_pos this.2, this.1]
  show ((k.toNat : Nat) : Int) = k
  omega
theorem kidx_pos {x : List UInt8} (h : 0 < kidx x) : known (kidx x) ∧ nm (kidx x) = x := by
  unfold kidx at h ⊢
  by_cases hx : x ∈ nmL
  · rw [if_pos hx] at h ⊢
    have hl : nmL.idxOf x < 22 := List.idxOf_lt_length_iff.2 hx
    refine ⟨⟨by omega, by omega⟩, ?_⟩
    rw [nm, if_pos ⟨by omega, by omega⟩, Int.toNat_natCast, List.getD_eq_getElem?_getD, List.getElem?_eq_getElem (by exact hl)]
    exact List.getElem_idxOf hl
  · rw [if_neg hx] at h; omega
theorem kidx_rng (x : List UInt8) : -1 ≤ kidx x ∧ kidx x ≤ 21 := by
  unfold kidx
  split
  · rename_i hx
    have hl : nmL.idxOf x < 22 := List.idxOf_lt_length_iff.2 hx
    omega
  · omega

/-! ### a number's value, as the program reads it -/
def numN (t : List UInt8) : Nat := nval 18446744073709551616 0 t
def numV (t : List UInt8) : Int := if t.head? = some 45 then IntKind.i64.wrap (0 - IntKind.i64.wrap (numN (t.drop 1) : Int)) else IntKind.i64.wrap (numN t : Int)
theorem numV_dec {n : Int} (h : -9223372036854775808 ≤ n ∧ n ≤ 9223372036854775807) : numV (tdecI n) = n := by
  unfold numV tdecI
  by_cases hn : n < 0
  · rw [if_pos hn, if_pos (show (45 :: tdec n.natAbs).head? = some 45 from rfl), List.drop_one, List.tail_cons, numN, nval_tdec (by omega), IntKind.wrap_i64, IntKind.wrap_i64]
    omega
  · rw [if_neg hn, if_neg, numN, nval_tdec (by omega), IntKind.wrap_i64]
    · omega
    · intro e
      have hp := tdec_pos n.natAbs
      cases hd : tdec n.natAbs with
      | nil => rw [hd] at hp; simp at hp
      | cons x r =>
        rw [hd] at e
        injection e with e
        have := tdec_digit (n := n.natAbs) (c := x) (by rw [hd]; exact List.mem_cons_self)
        rw [e] at this
        exact absurd this.1 (by decide)
theorem numV_I64 (t : List UInt8) : -9223372036854775808 ≤ numV t ∧ numV t ≤ 9223372036854775807 := by
  unfold numV
  split <;> rw [IntKind.wrap_i64] <;> omega
/-- What the program's reading of a text comes to. -/
theorem pE_words {l : List UInt8} (hp : ∀ e, okEv e → prE e = l → False) : pE l = ((0, 0, 0, 0, 0), false) := pE_no fun e h1 h2 => hp e h1 h2
theorem pE_kind {l : List UInt8} (h : ¬ 0 < kidx ((pieces 32 l).headD [])) : pE l = ((0, 0, 0, 0, 0), false) := pE_words fun e h1 h2 => by
  rw [← h2, prE_pieces] at h
  rw [show ([nm e.1, tdecI e.2.1, tdecI e.2.2.1, tdecI e.2.2.2.1, tdecI e.2.2.2.2].headD []) = nm e.1 from rfl, kidx_nm h1.1] at h
  have := h1.1.1
  omega
theorem pE_five {l : List UInt8} (h : (pieces 32 l).length ≠ 5) : pE l = ((0, 0, 0, 0, 0), false) := pE_words fun e h1 h2 => by
  rw [← h2, prE_pieces] at h
  exact h rfl
theorem pE_read {l : List UInt8} {a b c d g : List UInt8} (h : pieces 32 l = [a, b, c, d, g]) (hk : 0 < kidx a) :
    pE l = if prE (kidx a, numV b, numV c, numV d, numV g) = l then ((kidx a, numV b, numV c, numV d, numV g), true) else ((0, 0, 0, 0, 0), false) := by
  have hka := kidx_pos hk
  have hok : okEv (kidx a, numV b, numV c, numV d, numV g) := ⟨hka.1, by have := hka.1; unfold known at this; exact ⟨⟨by show _ ≤ kidx a; omega, by show kidx a ≤ _; omega⟩, numV_I64 b, numV_I64 c, numV_I64 d, numV_I64 g⟩⟩
  split
  · rename_i he; exact pE_yes hok he
  · rename_i he
    refine pE_words fun e h1 h2 => he ?_
    have h3 := prE_pieces e
    rw [h2, h] at h3
    simp only [List.cons.injEq, and_true] at h3
    obtain ⟨rfl, rfl, rfl, rfl, rfl⟩ := h3
    rw [kidx_nm h1.1, numV_dec h1.2.2.1, numV_dec h1.2.2.2.1, numV_dec h1.2.2.2.2.1, numV_dec h1.2.2.2.2.2]
    exact h2
end Go.Proofs.YtackcmlkicjlnaaDoor

/- Operations on words (whole numbers of 64 bits without a sign), told as natural numbers: at the operation. -/
namespace Go.Proofs.YtackcmlkicjlnaaDoor
open Go.RowKit

theorem wrap_u64 (m : Nat) (h : m < 2 ^ 64) : IntKind.u64.wrap (m : Int) = (m : Int) := by
  simp only [IntKind.wrap, IntKind.bits, IntKind.signed]
  simp
  omega
theorem bv_of (m : Nat) (h : m < 2 ^ 64) : (BitVec.ofInt IntKind.u64.bits (m : Int)).toNat = m := by
  simp [IntKind.bits]
  omega
section
variable {P : Program} {o : Oper} {a : Act} (x y : Operand) {t t' : TypeId} {m n : Nat}
theorem run_shrW (ho : o.op = .binOp .shr t x y t') {k : IntKind} (hx : a.eval x = .int .u64 (m : Int)) (hy : a.eval y = .int k (n : Int)) (h : n ≤ 64) (W : World) : (execOp a.eval o).run P W = .ok (.value (.int .u64 ((m >>> n : Nat) : Int))) W := by
  have e : ((m : Int).fdiv (2 ^ n)) = ((m >>> n : Nat) : Int) := by
    rw [Nat.shiftRight_eq_div_pow, Int.fdiv_eq_ediv_of_nonneg _ (by exact_mod_cast Nat.zero_le _)]
    push_cast
    rfl
  have hb : binOp .shr t (.int .u64 (m : Int)) (.int k (n : Int)) = pure (.int .u64 ((m >>> n : Nat) : Int)) := by
    simp only [binOp, Op.shift]
    rw [if_neg (by omega), Int.toNat_natCast, show min n IntKind.u64.bits = n from Nat.min_eq_left h]
    simp only [e]
  unfold execOp; simp only [ho, hx, hy, hb]
  simp [eqGuard]
theorem run_andW (ho : o.op = .binOp .and t x y t') (hx : a.eval x = .int .u64 (m : Int)) (hy : a.eval y = .int .u64 (n : Int)) (hm : m < 2 ^ 64) (hn : n < 2 ^ 64) (W : World) : (execOp a.eval o).run P W = .ok (.value (.int .u64 ((m &&& n : Nat) : Int))) W := by
  have e : IntKind.u64.wrap ((BitVec.ofInt IntKind.u64.bits (m : Int) &&& BitVec.ofInt IntKind.u64.bits (n : Int)).toNat : Int) = ((m &&& n : Nat) : Int) := by
    rw [BitVec.toNat_and, bv_of m hm, bv_of n hn, wrap_u64 _ (Nat.lt_of_le_of_lt Nat.and_le_left hm)]
  have hb : binOp .and t (.int .u64 (m : Int)) (.int .u64 (n : Int)) = pure (.int .u64 ((m &&& n : Nat) : Int)) := by
    simp only [binOp, Op.intBits]
    rw [e, if_neg (fun h => h rfl)]
  unfold execOp; simp only [ho, hx, hy, hb]
  simp [eqGuard]
theorem run_orW (ho : o.op = .binOp .or t x y t') (hx : a.eval x = .int .u64 (m : Int)) (hy : a.eval y = .int .u64 (n : Int)) (hm : m < 2 ^ 64) (hn : n < 2 ^ 64) (W : World) : (execOp a.eval o).run P W = .ok (.value (.int .u64 ((m ||| n : Nat) : Int))) W := by
  have e : IntKind.u64.wrap ((BitVec.ofInt IntKind.u64.bits (m : Int) ||| BitVec.ofInt IntKind.u64.bits (n : Int)).toNat : Int) = ((m ||| n : Nat) : Int) := by
    rw [BitVec.toNat_or, bv_of m hm, bv_of n hn, wrap_u64 _ (Nat.or_lt_two_pow hm hn)]
  have hb : binOp .or t (.int .u64 (m : Int)) (.int .u64 (n : Int)) = pure (.int .u64 ((m ||| n : Nat) : Int)) := by
    simp only [binOp, Op.intBits]
    rw [e, if_neg (fun h => h rfl)]
  unfold execOp; simp only [ho, hx, hy, hb]
  simp [eqGuard]
theorem run_xorW (ho : o.op = .binOp .xor t x y t') (hx : a.eval x = .int .u64 (m : Int)) (hy : a.eval y = .int .u64 (n : Int)) (hm : m < 2 ^ 64) (hn : n < 2 ^ 64) (W : World) : (execOp a.eval o).run P W = .ok (.value (.int .u64 ((m ^^^ n : Nat) : Int))) W := by
  have e : IntKind.u64.wrap ((BitVec.ofInt IntKind.u64.bits (m : Int) ^^^ BitVec.ofInt IntKind.u64.bits (n : Int)).toNat : Int) = ((m ^^^ n : Nat) : Int) := by
    rw [BitVec.toNat_xor, bv_of m hm, bv_of n hn, wrap_u64 _ (Nat.xor_lt_two_pow hm hn)]
  have hb : binOp .xor t (.int .u64 (m : Int)) (.int .u64 (n : Int)) = pure (.int .u64 ((m ^^^ n : Nat) : Int)) := by
    simp only [binOp, Op.intBits]
    rw [e, if_neg (fun h => h rfl)]
  unfold execOp; simp only [ho, hx, hy, hb]
  simp [eqGuard]
theorem run_addW (ho : o.op = .binOp .add t x y t') (hx : a.eval x = .int .u64 (m : Int)) (hy : a.eval y = .int .u64 (n : Int)) (h : m + n < 2 ^ 64) (W : World) : (execOp a.eval o).run P W = .ok (.value (.int .u64 ((m + n : Nat) : Int))) W := by
  rw [run_add x y ho hx hy W, ← Int.natCast_add, wrap_u64 _ h]
theorem wrap_i64 (m : Nat) (h : m < 2 ^ 63) : IntKind.i64.wrap (m : Int) = (m : Int) := IntWalk.i64_in _ (by omega)
theorem bv_ofI (m : Nat) (h : m < 2 ^ 63) : (BitVec.ofInt IntKind.i64.bits (m : Int)).toNat = m := by
  simp [IntKind.bits]
  omega
theorem run_andI (ho : o.op = .binOp .and t x y t') (hx : a.eval x = .int .i64 (m : Int)) (hy : a.eval y = .int .i64 (n : Int)) (hm : m < 2 ^ 63) (hn : n < 2 ^ 63) (W : World) : (execOp a.eval o).run P W = .ok (.value (.int .i64 ((m &&& n : Nat) : Int))) W := by
  have e : IntKind.i64.wrap ((BitVec.ofInt IntKind.i64.bits (m : Int) &&& BitVec.ofInt IntKind.i64.bits (n : Int)).toNat : Int) = ((m &&& n : Nat) : Int) := by
    rw [BitVec.toNat_and, bv_ofI m hm, bv_ofI n hn, wrap_i64 _ (Nat.lt_of_le_of_lt Nat.and_le_left hm)]
  have hb : binOp .and t (.int .i64 (m : Int)) (.int .i64 (n : Int)) = pure (.int .i64 ((m &&& n : Nat) : Int)) := by
    simp only [binOp, Op.intBits]
    rw [e, if_neg (fun h => h rfl)]
  unfold execOp; simp only [ho, hx, hy, hb]
  simp [eqGuard]
theorem run_convWI (ho : o.op = .convert t t' x) (ht : P.underlying t = some (.int .u64)) (ht' : P.underlying t' = some (.int .i64)) (hx : a.eval x = .int .u64 (m : Int)) (h : m < 2 ^ 63) (W : World) : (execOp a.eval o).run P W = .ok (.value (.int .i64 (m : Int))) W := by
  unfold execOp; simp only [ho, hx]
  simp [convert, run_underlying ht, run_underlying ht', Conv.intToInt, wrap_i64 m h]
end
end Go.Proofs.YtackcmlkicjlnaaDoor

/- Guarded operations that are not done; short forms of what a walk writes down; a region walked once to a relation (as Cut, but for seats without sets). -/
namespace Go.Proofs.YtackcmlkicjlnaaDoor
open Go.RowKit
theorem wp_seq_join {P : Program} {x y : Code} {Q : Exit → Act → World → Prop} {a : Act} {w : World} (R : Act → World → Prop) (h : x.wp P (fun e a' w' => e = .normal ∧ R a' w') a w) (k : ∀ a' w', R a' w' → y.wp P Q a' w') : (Code.seq x y).wp P Q a w :=
  wp_seq (wp_mono h fun e a' w' ⟨h1, h2⟩ => by subst h1; exact k a' w' h2)
/-- What the variables hold. -/
def jk (a : Act) (n : Nat) : Value := a.tmps.getD n undef
section
variable {P : Program} {ops : Array Oper} {Q : Exit → Act → World → Prop} {rest : List Oper} {o : Oper} {a : Act} {w : World}
theorem nf0 (a : Act) (d : Tmp) (v : Value) : a.put (some d) v = { a with tmps := a.tmps.setIfInBounds d v } := rfl
theorem nf1 (l : List Value) (i : Nat) (v : Value) : l.toArray.setIfInBounds i v = (l.set i v).toArray := List.setIfInBounds_toArray ..
theorem nf2 (x v : Value) (l : List Value) : (x :: l).set 0 v = v :: l := rfl
theorem nf3 (x v : Value) (l : List Value) (i : Nat) : (x :: l).set (i + 1) v = x :: l.set i v := rfl
theorem nf4 (a : Act) (v : Value) : a.put none v = a := rfl
/-- A value that is there by computation. -/
theorem st_mv (v : Value) (k : wpList P ops Q rest (a.put o.dst v) w) (hw : Region.wanted o (yielded ops a.tmps) = true := by rfl) (h : (execOp a.eval o).run P w = .ok (.value v) w := by rfl) : wpList P ops Q (o :: rest) a w := st_value hw h k
theorem st_nob {j t : Nat} {b c : Bool} (hg : o.guard = some (j, b)) {p : Oper} (hp : ops[j]? = some p) (hd : p.dst = some t) (hv : a.tmps[t]? = some (.bool c)) (hc : (c == b) = false) (k : wpList P ops Q rest (a.put o.dst undef) w) : wpList P ops Q (o :: rest) a w := by
  refine st_not ?_ k
  simp only [Region.wanted, hg, yielded, hp, Option.bind_some, hd, hv]
  simpa using hc
theorem st_nou {j t : Nat} {b : Bool} (hg : o.guard = some (j, b)) {p : Oper} (hp : ops[j]? = some p) (hd : p.dst = some t) (hv : a.tmps[t]? = some undef) (k : wpList P ops Q rest (a.put o.dst undef) w) : wpList P ops Q (o :: rest) a w := by
  refine st_not ?_ k
  simp only [Region.wanted, hg, yielded, hp, Option.bind_some, hd, hv]
  rfl
end
end Go.Proofs.YtackcmlkicjlnaaDoor

/- append to an empty literal: a row of its own; in a region that draws its order too (the same laws as at the end of RingRef, for seats without rings). -/
namespace Go.Proofs.YtackcmlkicjlnaaDoor
open Go.RowKit Go.WideShapes Go.ChangeShapes

/-- append to an empty literal: a row of its own; nothing else changes. -/
theorem setRow_same {w : World} {g : Nat} {cs : Array Value} {e : TypeId} (hB : Blk w g cs e) : Below w.heap.size w (w.setRow g cs) :=
  ⟨rfl, rfl, rfl, by simp, fun k _ => by
    by_cases h : k = g
    · subst h; rw [setRow_heap w k cs cs e _ hB]; exact hB.symm
    · exact setRow_other w g k _ h⟩
theorem run_append_fresh {α : Type} {P : Program} {o : Oper} {a : Act} {w : World} {t e : TypeId} {E : Enc α} {bytes : Nat} (T : SlT P t e E bytes) (s x : Operand) (ho : o.op = .call { callee := .builtin .append, args := #[s, x], argTypes := #[t, t] })
    {g base : Nat} (hs : a.eval s = .slice (some ⟨g, 0, none⟩) 0 0) (hB : Blk w g #[] e) {A : Option Addr} {m c : Nat} {ys : List α} (hx : a.eval x = .slice A m c) (hm : ys.length = m) (hr : Reads w A (E.all ys)) (hbytes : ys.length * bytes ≤ 140737488355328) (hbase : base ≤ g) (hbs : base ≤ w.heap.size) :
    ∃ v' w', (execOp a.eval o).run P w = .ok (.value v') w' ∧ OwnR w' base e E v' ys ∧ Below w.heap.size w w' := by
  obtain ⟨i, z, h1, h2, h3, h4, h5⟩ := T.info
  have hp := T.pos
  have hbp := T.bpos
  have key : ∀ (v' : Value) (w' : World), (Builtin.append_ #[t, t] o.type #[.slice (some ⟨g, 0, none⟩) 0 0, .slice A m c]).run P w = .ok v' w' → (execOp a.eval o).run P w = .ok (.value v') w' := fun v' w' hrun => by
    unfold execOp
    simp only [ho, resolve, invoke, builtin, Sem.run_bind, Sem.run_pure, Result.andThen_ok, List.map_toArray, List.map_cons, List.map_nil, hs, hx, hrun]
  subst hm
  cases ys with
  | nil =>
    have hO : ∀ W : World, Blk W g #[] e → OwnR W base e E (.slice (some ⟨g, 0, none⟩) 0 0) ([] : List α) := fun W h => OwnR.built h rfl hbase (by simp) (by simp)
    cases A with
    | none =>
      refine ⟨_, w, key _ _ ?_, hO w hB, Below.refl _ _⟩
      simp [Builtin.append_, run_underlying T.under, sizeOf, typeInfo, h1, Builtin.lenOf, Builtin.firstCells, storeCells]
    | some ad =>
      have hr2 := run_append_room (P := P) w t o.type e i T.under h1 g 0 0 #[] hB ad 0 c [] (by simp) (fun j u hj => by simp at hj) (fun u hu => by simp at hu) (by omega) (by simp)
      have e0 : (List.take (0 * i.size) (#[] : Array Value).toList ++ [] ++ List.drop (0 * i.size + ([] : List Value).length) (#[] : Array Value).toList).toArray = #[] := by simp
      rw [e0] at hr2
      exact ⟨_, _, key _ _ hr2, hO _ (setRow_heap w g _ _ e _ hB), setRow_same hB⟩
  | cons y ys =>
    have hlen : 0 < (E.all (y :: ys)).length := by rw [E.all_length, List.length_cons, Nat.succ_mul]; omega
    obtain ⟨b, off, rfl, hc⟩ := hr.at_ hlen
    have hbig : (y :: ys).length ≤ 140737488355328 := Nat.le_trans (Nat.le_mul_of_pos_right _ hbp) hbytes
    have hr2 := run_append_grow (P := P) w t o.type e i z T.under h1 h2 ⟨g, 0, none⟩ 0 0 [] (by simp) (fun j u hj => by simp at hj) ⟨b, off, none⟩ (y :: ys).length c (E.all (y :: ys)) (by rw [h3]; exact E.all_length _) (fun j u hj => by rw [add_none]; exact hc j u hj) (by simp) (by omega) (growslice_fits (by simp) (by rw [h4]; simpa using hbytes))
    refine ⟨_, _, key _ _ hr2, ?_, ?_⟩
    · have hge := grownCap_ge w (0 + (y :: ys).length) 0 e
      have hcm := grownCap_le_maxLen w (0 + (y :: ys).length) 0 e (by unfold maxLen; omega)
      refine ⟨E.all_length _, .inr ⟨w.heap.size, _, _, ?_, hbs, heap_alloc_new w.drew _, by omega, hcm, ?_, ?_⟩⟩
      · simp
      · simp only [Array.size_append, List.size_toArray, size_zeroCells, h5, E.all_length, List.length_nil]
        generalize grownCap w (0 + (y :: ys).length) 0 e = C at *
        generalize (y :: ys).length = n at *
        rw [Nat.zero_add, ← Nat.add_mul]
        congr 1
        omega
      · simp only [Array.toList_append, List.nil_append]
        exact List.take_left' (E.all_length _)
    · exact ⟨rfl, rfl, rfl, by simp, fun k hk => heap_alloc_old w.drew _ hk⟩
theorem ok2_of_ex {P : Program} {ops : Array Oper} {C : World → Prop} {N0 : Nat} {o : Oper} {a : Act} {w : World} {p : Value → World → Prop} {hp : ∀ v w w', G0 w w' → p v w → p v w'} (hw : Region.wanted o (yielded ops a.tmps) = true)
    (H : ∃ v' w', (execOp a.eval o).run P w = .ok (.value v') w' ∧ p v' w' ∧ Below w.heap.size w w') (hC : ∀ w', Below w.heap.size w w' → C w') : opok2 P ops C N0 o (.ex p hp) a w := by
  obtain ⟨v', w', h1, h2, h3⟩ := H
  exact ok2_ex hw h1 h2 (hC _ h3) h3
end Go.Proofs.YtackcmlkicjlnaaDoor

/- Operations on words and bytes, with numbers told as natural ones: shifts, conversions, bits; and a number's bytes (seven bits each). -/
namespace Go.Proofs.YtackcmlkicjlnaaDoor
open Go.RowKit Go.WideShapes Go.ChangeShapes

theorem wrap_u8 (m : Int) : IntKind.u8.wrap m = m % 256 := by
  simp only [IntKind.wrap, IntKind.bits, IntKind.signed]; simp
theorem wrap_u64z (m : Int) : IntKind.u64.wrap m = m % 18446744073709551616 := by
  simp only [IntKind.wrap, IntKind.bits, IntKind.signed]; simp
theorem bv8 (m : Nat) (h : m < 256) : (BitVec.ofInt IntKind.u8.bits (m : Int)).toNat = m := by
  simp [IntKind.bits]
  omega
section
variable {P : Program} {o : Oper} {a : Act} (x y : Operand) {t t' : TypeId} {m n : Nat}
/-! conversions between kinds of whole numbers -/
theorem run_conv_i64_u64 {z z' : Int} (ho : o.op = .convert t t' x) (ht : P.underlying t = some (.int .i64)) (ht' : P.underlying t' = some (.int .u64)) (hx : a.eval x = .int .i64 z) (hz : IntKind.u64.wrap z = z') (W : World) : (execOp a.eval o).run P W = .ok (.value (.int .u64 z')) W := by
  subst hz
  unfold execOp; simp only [ho, hx]
  simp [convert, run_underlying ht, run_underlying ht', Conv.intToInt]
theorem run_conv_u64_i64 {z z' : Int} (ho : o.op = .convert t t' x) (ht : P.underlying t = some (.int .u64)) (ht' : P.underlying t' = some (.int .i64)) (hx : a.eval x = .int .u64 z) (hz : IntKind.i64.wrap z = z') (W : World) : (execOp a.eval o).run P W = .ok (.value (.int .i64 z')) W := by
  subst hz
  unfold execOp; simp only [ho, hx]
  simp [convert, run_underlying ht, run_underlying ht', Conv.intToInt]
theorem run_conv_u64_u8 {z z' : Int} (ho : o.op = .convert t t' x) (ht : P.underlying t = some (.int .u64)) (ht' : P.underlying t' = some (.int .u8)) (hx : a.eval x = .int .u64 z) (hz : IntKind.u8.wrap z = z') (W : World) : (execOp a.eval o).run P W = .ok (.value (.int .u8 z')) W := by
  subst hz
  unfold execOp; simp only [ho, hx]
  simp [convert, run_underlying ht, run_underlying ht', Conv.intToInt]
theorem run_conv_u8_u64 {z z' : Int} (ho : o.op = .convert t t' x) (ht : P.underlying t = some (.int .u8)) (ht' : P.underlying t' = some (.int .u64)) (hx : a.eval x = .int .u8 z) (hz : IntKind.u64.wrap z = z') (W : World) : (execOp a.eval o).run P W = .ok (.value (.int .u64 z')) W := by
  subst hz
  unfold execOp; simp only [ho, hx]
  simp [convert, run_underlying ht, run_underlying ht', Conv.intToInt]
theorem run_shlW (ho : o.op = .binOp .shl t x y t') {k : IntKind} (hx : a.eval x = .int .u64 (m : Int)) (hy : a.eval y = .int k (n : Int)) (hn : n ≤ 64) {r : Nat} (hr : m * 2 ^ n % 18446744073709551616 = r) (W : World) : (execOp a.eval o).run P W = .ok (.value (.int .u64 (r : Int))) W := by
  have e : IntKind.u64.wrap ((m : Int) * 2 ^ n) = (r : Int) := by
    rw [wrap_u64z, ← hr, Int.natCast_emod, Int.natCast_mul, Int.natCast_pow]
    rfl
  have hb : binOp .shl t (.int .u64 (m : Int)) (.int k (n : Int)) = pure (.int .u64 (r : Int)) := by
    simp only [binOp, Op.shift]
    rw [if_neg (by omega), Int.toNat_natCast, show min n IntKind.u64.bits = n from Nat.min_eq_left hn]
    simp only [e]
  unfold execOp; simp only [ho, hx, hy, hb]
  simp [eqGuard]
theorem run_shrZ (ho : o.op = .binOp .shr t x y t') {k : IntKind} {z z' : Int} (hx : a.eval x = .int .i64 z) (hy : a.eval y = .int k (n : Int)) (hn : n ≤ 64) (hz : z.fdiv (2 ^ n) = z') (W : World) : (execOp a.eval o).run P W = .ok (.value (.int .i64 z')) W := by
  have hb : binOp .shr t (.int .i64 z) (.int k (n : Int)) = pure (.int .i64 z') := by
    simp only [binOp, Op.shift]
    rw [if_neg (by omega), Int.toNat_natCast, show min n IntKind.i64.bits = n from Nat.min_eq_left hn]
    simp only [hz]
  unfold execOp; simp only [ho, hx, hy, hb]
  simp [eqGuard]
theorem run_or8 (ho : o.op = .binOp .or t x y t') (hx : a.eval x = .int .u8 (m : Int)) (hy : a.eval y = .int .u8 (n : Int)) (hm : m < 256) (hn : n < 256) {r : Nat} (hr : m ||| n = r) (W : World) : (execOp a.eval o).run P W = .ok (.value (.int .u8 (r : Int))) W := by
  have e : IntKind.u8.wrap ((BitVec.ofInt IntKind.u8.bits (m : Int) ||| BitVec.ofInt IntKind.u8.bits (n : Int)).toNat : Int) = (r : Int) := by
    have hlt : m ||| n < 2 ^ 8 := Nat.or_lt_two_pow hm hn
    rw [BitVec.toNat_or, bv8 m hm, bv8 n hn, wrap_u8, hr]
    omega
  have hb : binOp .or t (.int .u8 (m : Int)) (.int .u8 (n : Int)) = pure (.int .u8 (r : Int)) := by
    simp only [binOp, Op.intBits]
    rw [e, if_neg (fun h => h rfl)]
  unfold execOp; simp only [ho, hx, hy, hb]
  simp [eqGuard]
theorem run_and8 (ho : o.op = .binOp .and t x y t') (hx : a.eval x = .int .u8 (m : Int)) (hy : a.eval y = .int .u8 (n : Int)) (hm : m < 256) (hn : n < 256) {r : Nat} (hr : m &&& n = r) (W : World) : (execOp a.eval o).run P W = .ok (.value (.int .u8 (r : Int))) W := by
  have e : IntKind.u8.wrap ((BitVec.ofInt IntKind.u8.bits (m : Int) &&& BitVec.ofInt IntKind.u8.bits (n : Int)).toNat : Int) = (r : Int) := by
    have hlt : m &&& n ≤ m := Nat.and_le_left
    rw [BitVec.toNat_and, bv8 m hm, bv8 n hn, wrap_u8, hr]
    omega
  have hb : binOp .and t (.int .u8 (m : Int)) (.int .u8 (n : Int)) = pure (.int .u8 (r : Int)) := by
    simp only [binOp, Op.intBits]
    rw [e, if_neg (fun h => h rfl)]
  unfold execOp; simp only [ho, hx, hy, hb]
  simp [eqGuard]
theorem run_negZ (ho : o.op = .unOp .neg t x) {z z' : Int} (hx : a.eval x = .int .i64 z) (hz : IntKind.i64.wrap (0 - z) = z') (W : World) : (execOp a.eval o).run P W = .ok (.value (.int .i64 z')) W := by
  subst hz
  unfold execOp; simp only [ho, hx]
  simp [Op.unary, Op.intArith]
/-- '^' of two numbers of the kind of int, through their patterns. -/
theorem run_xorZ (ho : o.op = .binOp .xor t x y t') {u v z : Int} (hx : a.eval x = .int .i64 u) (hy : a.eval y = .int .i64 v) (hz : IntKind.i64.wrap ((BitVec.ofInt IntKind.i64.bits u ^^^ BitVec.ofInt IntKind.i64.bits v).toNat : Int) = z) (W : World) : (execOp a.eval o).run P W = .ok (.value (.int .i64 z)) W := by
  have hb : binOp .xor t (.int .i64 u) (.int .i64 v) = pure (.int .i64 z) := by
    simp only [binOp, Op.intBits]
    rw [hz, if_neg (fun h => h rfl)]
  unfold execOp; simp only [ho, hx, hy, hb]
  simp [eqGuard]
end

/-! ### a number's bytes -/
/-- What a number stands for. -/
def zig (n : Int) : Nat := if 0 ≤ n then (2 * n).toNat else (-2 * n - 1).toNat
def zag (u : Nat) : Int := if u % 2 = 0 then (u / 2 : Nat) else -(u / 2 : Nat) - 1
theorem zag_zig (n : Int) : zag (zig n) = n := by unfold zag zig; split <;> split <;> omega
theorem zig_zag (u : Nat) : zig (zag u) = u := by unfold zag zig; split <;> split <;> omega
theorem zig_lt {n : Int} (h : -9223372036854775808 ≤ n ∧ n ≤ 9223372036854775807) : zig n < 2 ^ 64 := by unfold zig; split <;> omega
/-- The bytes of a natural number: seven bits each, the last one without the mark. -/
def vb (u : Nat) : List UInt8 := if h : u < 128 then [UInt8.ofNat u] else UInt8.ofNat (u % 128 + 128) :: vb (u / 128)
termination_by u
decreasing_by omega
theorem vb_low {u : Nat} (h : u < 128) : vb u = [UInt8.ofNat u] := by rw [vb, dif_pos h]
theorem vb_high {u : Nat} (h : 128 ≤ u) : vb u = UInt8.ofNat (u % 128 + 128) :: vb (u / 128) := by rw [vb, dif_neg (by omega)]
theorem ofNat_toNat {m : Nat} (h : m < 256) : (UInt8.ofNat m).toNat = m := by simp; omega
/-- ones below 2^64: what is left of it. -/
theorem xor_ones {m : Nat} (h : m < 2 ^ 64) : m ^^^ 18446744073709551615 = 18446744073709551615 - m := by
  apply Nat.eq_of_testBit_eq
  intro i
  rw [Nat.testBit_xor, show (18446744073709551615 : Nat) = 2 ^ 64 - 1 from rfl, Nat.testBit_two_pow_sub_one, show 2 ^ 64 - 1 - m = 2 ^ 64 - (m + 1) by omega, Nat.testBit_two_pow_sub_succ h]
  by_cases hi : i < 64
  · simp [hi]
  · have : m.testBit i = false := Nat.testBit_lt_two_pow (Nat.lt_of_lt_of_le h (Nat.pow_le_pow_right (by omega) (by omega)))
    simp [hi, this]
set_option maxRecDepth 100000 in
theorem or_mark {m : Nat} (h : m < 256) : m ||| 128 = m % 128 + 128 := by
  have key : ∀ k, k < 256 → k ||| 128 = k % 128 + 128 := by decide
  exact key m h
set_option maxRecDepth 100000 in
theorem and_low {m : Nat} (h : m < 256) : m &&& 127 = m % 128 := by
  have key : ∀ k, k < 256 → k &&& 127 = k % 128 := by decide
  exact key m h
end Go.Proofs.YtackcmlkicjlnaaDoor

/- What single operations on texts yield: joined, cut. -/
namespace Go.Proofs.YtackcmlkicjlnaaDoor
open Go.RowKit

section
variable {P : Program} {o : Oper} {a : Act} (x y : Operand) {t t' : TypeId} {k : IntKind} {m n : Int}

theorem run_add_text (ho : o.op = .binOp .add t x y t') {l m : List UInt8} (hx : a.eval x = .string (str l)) (hy : a.eval y = .string (str m)) (h : l.length + m.length ≤ 9223372036854775807) (W : World) : (execOp a.eval o).run P W = .ok (.value (.string (str (l ++ m)))) W := by
  have e : str l ++ str m = str (l ++ m) := by
    apply ByteArray.ext
    rw [ByteArray.data_append]
    simp [str]
  have hb : Op.stringOp .add (str l) (str m) = pure (.string (str (l ++ m))) := by
    unfold Op.stringOp
    simp only
    rw [if_neg (by rw [str_size, str_size, show IntKind.i64.max = 9223372036854775807 from rfl]; omega), e]
  unfold execOp; simp only [ho, hx, hy]
  simp [eqGuard, binOp, hb]
theorem run_cut_text (ho : o.op = .slice t x none (some y) none) (ht : P.underlying t = some .string) {l : List UInt8} (hx : a.eval x = .string (str l)) {N : Int} (n : Nat) (hN : N = (n : Int)) (hy : a.eval y = .int k (min (l.length : Int) N)) (W : World) :
    (execOp a.eval o).run P W = .ok (.value (.string (str (l.take n)))) W := by
  subst hN
  have h0 : (0 : Int) ≤ min (l.length : Int) (n : Int) := by omega
  have h1 : min (l.length : Int) (n : Int) ≤ ((str l).size : Int) := by rw [str_size]; omega
  have e : (str l).extract 0 (min (l.length : Int) (n : Int)).toNat = str (l.take n) := by
    apply ByteArray.ext
    rw [ByteArray.data_extract]
    apply Array.ext'
    rw [Array.toList_extract]
    simp only [str, List.extract_eq_take_drop, List.drop_zero, Nat.sub_zero]
    rw [show (min (l.length : Int) (n : Int)).toNat = min n l.length from by omega, List.take_eq_take_iff]
    omega
  unfold execOp; simp only [ho]; generalize a.eval = ρ at *
  have r2 := run_slice_string_h (P := P) W t (str l) ht k (min (l.length : Int) (n : Int)) h0 h1
  simp only [Option.map_none, Option.map_some, hx, hy, Sem.run_bind]
  rw [run_sliceAt_string W t _ _ _ _ ht, r2, e]
  rfl
end
end Go.Proofs.YtackcmlkicjlnaaDoor

/- The bytes of a text, as numbers. -/
namespace Go.Proofs.YtackcmlkicjlnaaDoor
open Go.RowKit Go.WideShapes Go.ChangeShapes

/-- The byte at a place of a text, as a number. -/
def chr (l : List UInt8) (i : Nat) : Int := ((l.getD i 0).toNat : Int)
theorem chr_range (l : List UInt8) (i : Nat) : 0 ≤ chr l i ∧ chr l i ≤ 255 := by
  have := (l.getD i 0).toNat_lt
  unfold chr
  omega
@[go_sem high] theorem run_index_str {P : Program} (w : World) (t : TypeId) (l : List UInt8) (k : IntKind) (i : Nat) (h : P.underlying t = some .string) (hi : i < l.length) :
    (Instr.index t (.string (str l)) (.int k i)).run P w = .ok (.int .u8 (chr l i)) w := by
  rw [run_index_string w t _ k _ h, dif_pos (by rw [str_size]; omega)]
  congr 2
  simp [chr, str, ByteArray.getElem_eq_getElem_data, hi]
@[go_sem high] theorem run_len_str {P : Program} (w : World) (t ty : TypeId) (l : List UInt8) (h : P.underlying t = some .string) :
    (Builtin.len_ #[t] ty #[.string (str l)]).run P w = .ok (.int .i64 l.length) w := by
  rw [run_len_string w t ty _ h, str_size]
  rfl
end Go.Proofs.YtackcmlkicjlnaaDoor

/- Single operations on the bytes of texts; a loop of two rounds. -/
namespace Go.Proofs.YtackcmlkicjlnaaDoor
open Go.RowKit

section
variable {P : Program} {o : Oper} {a : Act} (x y : Operand) {t t' : TypeId} {k : IntKind} {m n : Int}
theorem run_index_text (ho : o.op = .index t x y) (ht : P.underlying t = some .string) {l : List UInt8} (hx : a.eval x = .string (str l)) {I : Int} (hy : a.eval y = .int k I) (j : Nat) (hI : I = (j : Int)) (hj : j < l.length) (W : World) :
    (execOp a.eval o).run P W = .ok (.value (.int .u8 (chr l j))) W := by
  subst hI
  unfold execOp; simp only [ho]; generalize a.eval = ρ at *
  have r := run_index_str W t l k j ht hj
  simp only [hx, hy, Sem.run_bind]
  rw [r]
  rfl
theorem run_conv_u8 (ho : o.op = .convert t t' x) (ht : P.underlying t = some (.int .u8)) (ht' : P.underlying t' = some (.int .i64)) (hx : a.eval x = .int .u8 m) (h : 0 ≤ m ∧ m ≤ 255) (W : World) : (execOp a.eval o).run P W = .ok (.value (.int .i64 m)) W := by
  unfold execOp; simp only [ho, hx]
  simp [convert, run_underlying ht, run_underlying ht', Conv.intToInt, IntWalk.i64_in _ (show -9223372036854775808 ≤ m ∧ m ≤ 9223372036854775807 by omega)]
end
end Go.Proofs.YtackcmlkicjlnaaDoor

/- Texts cut at both ends; a struct within a struct's variable. -/
namespace Go.Proofs.YtackcmlkicjlnaaDoor
open Go.RowKit Go.WideShapes Go.ChangeShapes

theorem str_extract (l : List UInt8) (p q : Nat) : (str l).extract p q = str ((l.take q).drop p) := by
  apply ByteArray.ext
  rw [ByteArray.data_extract]
  apply Array.ext'
  rw [Array.toList_extract]
  simp only [str, List.extract_eq_take_drop]
  rw [List.drop_take]
theorem bounds_text (P : Program) (W : World) (n p q : Nat) (hpq : p ≤ q) (hq : q ≤ n) (lo hi : Option Value) (hlo : lo = some (.int .i64 (p : Int)) ∨ (lo = none ∧ p = 0)) (hhi : hi = some (.int .i64 (q : Int)) ∨ (hi = none ∧ q = n)) :
    (Instr.sliceBounds false n n lo hi none).run P W = .ok (p, q, n) W := by
  rcases hlo with rfl | ⟨rfl, rfl⟩ <;> rcases hhi with rfl | ⟨rfl, rfl⟩ <;> simp [Instr.sliceBounds, Instr.sliceBound, asIntOf, hpq, hq]
section
variable {P : Program} {o : Oper} {a : Act} (x y z : Operand) {t : TypeId}
theorem run_sub_text (ho : o.op = .slice t x (some y) (some z) none) (ht : P.underlying t = some .string) {l : List UInt8} {p q : Nat} {I J : Int} (hx : a.eval x = .string (str l)) (hy : a.eval y = .int .i64 I) (hz : a.eval z = .int .i64 J) (hI : I = (p : Int)) (hJ : J = (q : Int)) (hpq : p ≤ q) (hq : q ≤ l.length) (W : World) :
    (execOp a.eval o).run P W = .ok (.value (.string (str ((l.take q).drop p)))) W := by
  subst hI hJ
  have r1 := run_sliceAt_string (P := P) W t (.string (str l)) (some (.int .i64 (p : Int))) (some (.int .i64 (q : Int))) none ht
  have hb := bounds_text P W l.length p q hpq hq _ _ (.inl rfl) (.inl rfl)
  unfold execOp; simp only [ho]; generalize a.eval = ρ at *
  simp only [Option.map_none, Option.map_some, hx, hy, hz, Sem.run_bind, r1, Instr.slice, run_underlying ht, Result.andThen_ok, str_size, hb]
  simp [hb, str_extract]
theorem run_from_text (ho : o.op = .slice t x (some y) none none) (ht : P.underlying t = some .string) {l : List UInt8} {p : Nat} {I : Int} (hx : a.eval x = .string (str l)) (hy : a.eval y = .int .i64 I) (hI : I = (p : Int)) (hp : p ≤ l.length) (W : World) :
    (execOp a.eval o).run P W = .ok (.value (.string (str (l.drop p)))) W := by
  subst hI
  have r1 := run_sliceAt_string (P := P) W t (.string (str l)) (some (.int .i64 (p : Int))) none none ht
  have hb := bounds_text P W l.length p l.length hp (Nat.le_refl _) _ _ (.inl rfl) (.inr ⟨rfl, rfl⟩)
  unfold execOp; simp only [ho]; generalize a.eval = ρ at *
  simp only [Option.map_none, Option.map_some, hx, hy, Sem.run_bind, r1, Instr.slice, run_underlying ht, Result.andThen_ok, str_size, hb]
  simp [hb, str_extract]
theorem run_to_text (ho : o.op = .slice t x none (some z) none) (ht : P.underlying t = some .string) {l : List UInt8} {q : Nat} {J : Int} (hx : a.eval x = .string (str l)) (hz : a.eval z = .int .i64 J) (hJ : J = (q : Int)) (hq : q ≤ l.length) (W : World) :
    (execOp a.eval o).run P W = .ok (.value (.string (str (l.take q)))) W := by
  subst hJ
  have r1 := run_sliceAt_string (P := P) W t (.string (str l)) none (some (.int .i64 (q : Int))) none ht
  have hb := bounds_text P W l.length 0 q (Nat.zero_le _) hq _ _ (.inr ⟨rfl, rfl⟩) (.inl rfl)
  unfold execOp; simp only [ho]; generalize a.eval = ρ at *
  simp only [Option.map_none, Option.map_some, hx, hz, Sem.run_bind, r1, Instr.slice, run_underlying ht, Result.andThen_ok, str_size, hb]
  simp [hb, str_extract]
/-- A struct that lies within a variable's. -/
theorem run_loadP {W : World} (ho : o.op = .load t x) {vs : List Value} (T : AggT P t vs.length) {g off : Nat} (hx : a.eval x = .pointer (some ⟨g, off, none⟩)) {cs : Array Value} {t' : TypeId} (hB : Blk W g cs t') (hv : (cs.toList.drop off).take vs.length = vs) :
    (execOp a.eval o).run P W = .ok (.value (.agg vs.toArray)) W := by
  obtain ⟨d, z, h1, h2, h3, h4⟩ := T
  have hc : W.rangeAt g off vs := fun j v hj => by
    rw [← hv] at hj
    rw [List.getElem?_take] at hj
    split at hj
    · rw [List.getElem?_drop] at hj
      rw [hB.cell]; simpa using hj
    · cases hj
  have hl := run_loadVar_mid (P := P) W g off t vs d hc h1 h2 (by rw [h3, Option.map_some, h4])
  unfold execOp
  simp only [ho, hx, Instr.loadAt, Instr.sureAddr, Sem.run_bind, Sem.run_pure, Result.andThen_ok, hl]
end
/-- Results that lie in a variable: a struct. -/
theorem loadVar_agg {P : Program} {ty t : TypeId} {w : World} {g : Nat} {cs : Array Value} (T : AggT P ty cs.size) (hB : Blk w g cs t) : (loadVar ty ⟨g, 0, none⟩).run P w = .ok (.agg cs) w := by
  obtain ⟨d, z, h1, h2, h3, h4⟩ := T
  have hc : w.rangeAt g 0 cs.toList := fun j v hv => by rw [Nat.zero_add, hB.cell]; simpa using hv
  have hl := run_loadVar_mid (P := P) w g 0 ty cs.toList d hc h1 h2 (by rw [h3, Option.map_some, h4]; simp)
  simpa using hl
theorem results_agg1 {P : Program} {fn : Func} {p : Tmp} {ty t : TypeId} (h : fn.results = #[.cell p ty]) {tmps : Array Value} {w : World} {g : Nat} {cs : Array Value} (T : AggT P ty cs.size) (hp : tmps.getD p undef = .pointer (some ⟨g, 0, none⟩)) (hB : Blk w g cs t) : (results fn tmps).run P w = .ok (.agg cs) w := by
  have hp' : tmps[p]?.getD undef = .pointer (some ⟨g, 0, none⟩) := by simpa using hp
  simp only [results, h]
  simp [Sem.run_bind, hp', asAddr, loadVar_agg T hB]
theorem results_agg1t {P : Program} {fn : Func} {p u : Tmp} {ty t : TypeId} (h : fn.results = #[.cell p ty, .tmp u]) {tmps : Array Value} {w : World} {g : Nat} {cs : Array Value} (T : AggT P ty cs.size) (hp : tmps.getD p undef = .pointer (some ⟨g, 0, none⟩)) (hB : Blk w g cs t) : (results fn tmps).run P w = .ok (.tuple #[.agg cs, tmps.getD u undef]) w := by
  have hp' : tmps[p]?.getD undef = .pointer (some ⟨g, 0, none⟩) := by simpa using hp
  simp only [results, h]
  simp [Sem.run_bind, hp', asAddr, loadVar_agg T hB]
theorem results_t2agg {P : Program} {fn : Func} {p u v : Tmp} {ty t : TypeId} (h : fn.results = #[.tmp u, .tmp v, .cell p ty]) {tmps : Array Value} {w : World} {g : Nat} {cs : Array Value} (T : AggT P ty cs.size) (hp : tmps.getD p undef = .pointer (some ⟨g, 0, none⟩)) (hB : Blk w g cs t) : (results fn tmps).run P w = .ok (.tuple #[tmps.getD u undef, tmps.getD v undef, .agg cs]) w := by
  have hp' : tmps[p]?.getD undef = .pointer (some ⟨g, 0, none⟩) := by simpa using hp
  simp only [results, h]
  simp [Sem.run_bind, hp', asAddr, loadVar_agg T hB]
end Go.Proofs.YtackcmlkicjlnaaDoor

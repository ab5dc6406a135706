/- Rows of cells in memory, as lists: what a slice whose elements are of a flat type holds. -/
import Derived.Test.YtkebpmcgmmhifaaOpen
namespace Go.Proofs.Ytkebpmcgmmhifaa
open Go.RowKit Go.WideShapes Go.ChangeShapes

/-- From address A on memory holds these cells. -/
def Reads (w : World) (A : Option Addr) (cells : List Value) : Prop :=
  ∀ j u, cells[j]? = some u → ∃ b off, A = some ⟨b, off, none⟩ ∧ w.cell? ⟨b, off + j, none⟩ = some u

theorem Reads.nil (w : World) (A : Option Addr) : Reads w A [] := fun j u h => by simp at h

theorem Reads.at_ {w : World} {A : Option Addr} {cells : List Value} (h : Reads w A cells) (hp : 0 < cells.length) :
    ∃ b off, A = some ⟨b, off, none⟩ ∧ ∀ j u, cells[j]? = some u → w.cell? ⟨b, off + j, none⟩ = some u := by
  obtain ⟨b, off, hA, _⟩ := h 0 cells[0] (by rw [List.getElem?_eq_getElem hp])
  refine ⟨b, off, hA, fun j u hj => ?_⟩
  obtain ⟨b', off', hA', hc⟩ := h j u hj
  rw [hA] at hA'
  injection hA' with hA'
  injection hA' with h1 h2
  subst h1 h2
  exact hc

theorem Reads.same {w w' : World} {A : Option Addr} {cells : List Value} (h : Reads w A cells) (hb : Below w.heap.size w w') : Reads w' A cells := by
  intro j u hj
  obtain ⟨b, off, hA, hc⟩ := h j u hj
  exact ⟨b, off, hA, (hb.cell (World.block_lt_of_cell? w _ hc)).trans hc⟩

theorem Reads.drewN {w : World} {A : Option Addr} {cells : List Value} (h : Reads w A cells) (n : Nat) : Reads (w.drewN n) A cells := h.same (bl_drewN (Below.refl _ _) n)
theorem Reads.alloc {w : World} {A : Option Addr} {cells : List Value} (h : Reads w A cells) (o : Obj) : Reads (w.alloc o) A cells := h.same (bl_alloc (Below.refl _ _) o)

theorem Reads.take {w : World} {A : Option Addr} {cells : List Value} (h : Reads w A cells) (n : Nat) : Reads w A (cells.take n) := by
  intro j u hj
  rw [List.getElem?_take] at hj
  split at hj
  · exact h j u hj
  · cases hj

theorem Reads.drop {w : World} {b off : Nat} {cells : List Value} (h : Reads w (some ⟨b, off, none⟩) cells) (n : Nat) : Reads w (some ⟨b, off + n, none⟩) (cells.drop n) := by
  intro j u hj
  rw [List.getElem?_drop] at hj
  obtain ⟨b', off', hA, hc⟩ := h _ u hj
  injection hA with hA
  injection hA with h1 h2
  subst h1 h2
  exact ⟨b, off + n, rfl, by rw [← hc, Nat.add_assoc]⟩

theorem add_none (b off n : Nat) : (⟨b, off, none⟩ : Addr).add n = ⟨b, off + n, none⟩ := by unfold Addr.add; split <;> simp_all

theorem cell_spot {w : World} {a : Addr} {u : Value} (h : w.cell? a = some u) : ∃ b off, a = ⟨b, off, none⟩ := by
  obtain ⟨b, off, spot⟩ := a
  cases spot with
  | none => exact ⟨b, off, rfl⟩
  | some s =>
    simp only [World.cell?] at h
    split at h <;> simp at h

/-- How many cells a value has, and which. -/
structure Enc (α : Type) where
  sz : Nat
  enc : α → List Value
  len : ∀ a, (enc a).length = sz
  one : ∀ a, ∀ u ∈ enc a, u.oneCell' = true

def Enc.all {α : Type} (E : Enc α) (xs : List α) : List Value := xs.flatMap E.enc

theorem Enc.all_length {α : Type} (E : Enc α) (xs : List α) : (E.all xs).length = xs.length * E.sz := by
  induction xs with
  | nil => simp [Enc.all]
  | cons x xs ih => simp only [Enc.all, List.flatMap_cons, List.length_append, E.len, List.length_cons] at *; rw [ih, Nat.succ_mul, Nat.add_comm]

theorem Enc.all_get {α : Type} (E : Enc α) : ∀ (xs : List α) (i j : Nat) (x : α), xs[i]? = some x → j < E.sz → (E.all xs)[i * E.sz + j]? = (E.enc x)[j]?
  | [], i, j, x, h, hj => by simp at h
  | y :: ys, 0, j, x, h, hj => by
    simp only [List.getElem?_cons_zero, Option.some.injEq] at h
    subst h
    simp only [Enc.all, List.flatMap_cons, Nat.zero_mul, Nat.zero_add]
    rw [List.getElem?_append_left (by rw [E.len]; exact hj)]
  | y :: ys, i + 1, j, x, h, hj => by
    simp only [List.getElem?_cons_succ] at h
    have := Enc.all_get E ys i j x h hj
    simp only [Enc.all, List.flatMap_cons] at *
    rw [List.getElem?_append_right (by rw [E.len, Nat.succ_mul]; omega), E.len, ← this]
    congr 1
    rw [Nat.succ_mul]
    omega

theorem Enc.all_append {α : Type} (E : Enc α) (xs ys : List α) : E.all (xs ++ ys) = E.all xs ++ E.all ys := by simp [Enc.all]
theorem Enc.all_one {α : Type} (E : Enc α) (x : α) : E.all [x] = E.enc x := by simp [Enc.all]
theorem Enc.all_take {α : Type} (E : Enc α) : ∀ (xs : List α) (n : Nat), E.all (xs.take n) = (E.all xs).take (n * E.sz)
  | [], n => by simp [Enc.all]
  | x :: xs, 0 => by simp [Enc.all]
  | x :: xs, n + 1 => by
    have := Enc.all_take E xs n
    simp only [Enc.all, List.take_succ_cons, List.flatMap_cons] at *
    rw [this, Nat.succ_mul, Nat.add_comm, List.take_append, E.len, Nat.add_sub_cancel_left, List.take_of_length_le (l := E.enc x) (by rw [E.len]; omega)]
theorem Enc.all_drop {α : Type} (E : Enc α) : ∀ (xs : List α) (n : Nat), E.all (xs.drop n) = (E.all xs).drop (n * E.sz)
  | [], n => by simp [Enc.all]
  | x :: xs, 0 => by simp [Enc.all]
  | x :: xs, n + 1 => by
    have := Enc.all_drop E xs n
    simp only [Enc.all, List.drop_succ_cons, List.flatMap_cons] at *
    rw [this, Nat.succ_mul, Nat.add_comm, List.drop_append, E.len, Nat.add_sub_cancel_left, List.drop_of_length_le (l := E.enc x) (by rw [E.len]; omega), List.nil_append]

def eInt (k : IntKind) : Enc Int := ⟨1, fun n => [.int k n], fun _ => rfl, fun _ u hu => by simp at hu; subst hu; rfl⟩
def eStr : Enc ByteArray := ⟨1, fun s => [.string s], fun _ => rfl, fun _ u hu => by simp at hu; subst hu; rfl⟩
def eBool : Enc Bool := ⟨1, fun b => [.bool b], fun _ => rfl, fun _ u hu => by simp at hu; subst hu; rfl⟩
theorem Enc.all_one_cell {α : Type} (E : Enc α) (xs : List α) : ∀ u ∈ E.all xs, u.oneCell' = true := by
  intro u hu
  obtain ⟨x, _, hx⟩ := List.mem_flatMap.1 hu
  exact E.one x u hx

theorem eInt_all (k : IntKind) (xs : List Int) : (eInt k).all xs = xs.map (Value.int k) := by
  induction xs with
  | nil => rfl
  | cons x xs ih => simp only [Enc.all, List.flatMap_cons, eInt, List.map_cons, List.cons_append, List.nil_append] at *; rw [ih]
theorem eStr_all (xs : List ByteArray) : eStr.all xs = xs.map Value.string := by
  induction xs with
  | nil => rfl
  | cons x xs ih => simp only [Enc.all, List.flatMap_cons, eStr, List.map_cons, List.cons_append, List.nil_append] at *; rw [ih]

/-- A slice of flat elements, as a list. -/
theorem slice_list {α : Type} (E : Enc α) (ok : α → Prop) {P : Program} {w : World} {e : TypeId} {A : Option Addr} {len cap : Nat} (hsz : P.cellsOf e = E.sz) (hpos : 0 < E.sz)
    (h : SliceOf P w e (fun cs => ∃ a, cs = E.enc a ∧ ok a) A len cap) : ∃ xs : List α, xs.length = len ∧ (∀ x ∈ xs, ok x) ∧ Reads w A (E.all xs) := by
  obtain ⟨_, _, _, h⟩ := h
  have key : ∀ n, n ≤ len → ∃ xs : List α, xs.length = n ∧ (∀ x ∈ xs, ok x) ∧ Reads w A (E.all xs) := by
    intro n
    induction n with
    | zero => exact fun _ => ⟨[], rfl, by simp, by intro j u hj; simp [Enc.all] at hj⟩
    | succ n ih =>
      intro hn
      obtain ⟨xs, hl, ho, hr⟩ := ih (by omega)
      obtain ⟨ad, cs, rfl, hlen, ⟨a, rfl, hok⟩, hc⟩ := h n (by omega)
      refine ⟨xs ++ [a], by simp [hl], by simpa [or_imp, forall_and] using ⟨ho, hok⟩, ?_⟩
      obtain ⟨b0, off0, e0⟩ := cell_spot (hc 0 (E.enc a)[0] (by rw [List.getElem?_eq_getElem (by rw [E.len]; exact hpos)]))
      intro j u hj
      rw [Enc.all_append, Enc.all_one] at hj
      by_cases hjn : j < (E.all xs).length
      · rw [List.getElem?_append_left hjn] at hj
        exact hr j u hj
      · rw [List.getElem?_append_right (by omega)] at hj
        have hjl := (List.getElem?_eq_some_iff.1 hj).1
        have g := hc _ u hj
        rw [E.all_length, hl] at g hjn
        rw [hsz] at g
        obtain ⟨b, off, spot⟩ := ad
        by_cases hz : n * E.sz = 0
        · by_cases hj0 : j = 0
          · subst hj0
            simp only [hz, Nat.sub_self, Addr.add, if_true] at g
            obtain ⟨b1, off1, e1⟩ := cell_spot g
            injection e1 with h1 h2 h3
            subst h1 h2 h3
            exact ⟨b, off, rfl, g⟩
          · -- the first cell tells that there is no spot
            simp only [hz, Nat.sub_zero] at g
            have g0 := hc 0 (E.enc a)[0] (by rw [List.getElem?_eq_getElem (by rw [E.len]; exact hpos)])
            rw [hsz] at g0
            simp only [hz, Addr.add, if_true] at g0
            obtain ⟨b1, off1, e1⟩ := cell_spot g0
            injection e1 with h1 h2 h3
            subst h1 h2 h3
            refine ⟨b, off, rfl, ?_⟩
            rw [show (Addr.add ⟨b, off, none⟩ 0) = ⟨b, off, none⟩ from rfl, add_none] at g
            exact g
        · have hn0 : 0 < n := by
            rcases Nat.eq_zero_or_pos n with h0 | h0
            · subst h0; simp at hz
            · exact h0
          have hx : 0 < (E.all xs).length := by rw [E.all_length, hl]; exact Nat.mul_pos hn0 hpos
          obtain ⟨b1, off1, e1, _⟩ := hr.at_ hx
          injection e1 with e1
          injection e1 with h1 h2 h3
          subst h1 h2 h3
          refine ⟨b, off, rfl, ?_⟩
          rw [add_none, add_none] at g
          rw [← g]
          congr 2
          omega
  exact key len (Nat.le_refl _)

theorem flat_ints {P : Program} {t : TypeId} {k : IntKind} (ht : P.underlying t = some (.int k)) : Flat P t (fun cs => ∃ n, cs = (eInt k).enc n ∧ (Lit.int k n).wf = true) := flat_int ht

/-- A slice of whole numbers. -/
theorem open_int_list {H : Type} {enc : TypeId × Value → H} {P : Program} {w : World} {r : Reach} {b0 base : Nat} {spare : Nat → Bool} {held : Bool} {t e : TypeId} {k : IntKind} {v : Value} {d : DataW H} {ps : List MemPlace}
    (ht : P.underlying t = some (.slice e)) (he : P.underlying e = some (.int k)) (hc : P.cellsOf e = 1) (hval : Value.okWide P w r b0 t v) (h : DataW.Trod enc P w base spare held t v d ps) :
    ∃ (A : Option Addr) (xs : List Int) (cap : Nat), v = .slice A xs.length cap ∧ xs.length ≤ cap ∧ cap ≤ 9223372036854775807 ∧ (A = none → cap = 0) ∧ (∀ x ∈ xs, (Lit.int k x).wf = true) ∧ Reads w A (xs.map (Value.int k)) := by
  obtain ⟨A, len, cap, rfl, hs⟩ := open_slice_of ht (flat_ints he) hval h
  obtain ⟨xs, rfl, ho, hr⟩ := slice_list (eInt k) _ hc Nat.one_pos hs
  rw [eInt_all] at hr
  exact ⟨A, xs, cap, rfl, hs.1, by have := hs.2.1; unfold maxLen at this; omega, hs.2.2.1, ho, hr⟩

/-- The number at a place (0 beyond the end): by a name that no simp lays open. -/
def nth (xs : List Int) (i : Nat) : Int := xs.getD i 0
theorem nth_eq (xs : List Int) (i : Nat) : nth xs i = xs.getD i 0 := rfl

/-- The cell of an element. -/
theorem Reads.int_at {w : World} {b off : Nat} {k : IntKind} {xs : List Int} (h : ∀ j u, (xs.map (Value.int k))[j]? = some u → w.cell? ⟨b, off + j, none⟩ = some u) (i : Nat) (hi : i < xs.length) :
    w.cell? ⟨b, off + i, none⟩ = some (.int k (nth xs i)) := h i _ (by simp [nth, hi])
end Go.Proofs.Ytkebpmcgmmhifaa

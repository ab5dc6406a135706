/- How the arguments of the laws are laid open: what a value of a flat type (whole numbers, bools, strings, arrays and structs of these) and a slice of such looks like. -/
import Derived.Test.YtkebpmcgmmhifaaKit
import Derived.OpenShut
import Derived.ChangeShapes
namespace Go.Proofs.Ytkebpmcgmmhifaa
open Go.RowKit Go.WideShapes Go.ChangeShapes

/-- What can be read as data of type t looks so. -/
def Flat (P : Program) (t : TypeId) (R : List Value → Prop) : Prop :=
  ∀ {H : Type} {enc : TypeId × Value → H} {w : World} {base : Nat} {spare : Nat → Bool} {held : Bool} {fuel : Nat} {cs : List Value} {x : DataW H × List MemPlace},
    DataW.trod enc P w base spare held fuel t cs = some x → R cs

theorem Flat.imp {P : Program} {t : TypeId} {R R' : List Value → Prop} (h : Flat P t R) (hr : ∀ cs, R cs → R' cs) : Flat P t R' := fun hx => hr _ (h hx)

theorem flat_int {P : Program} {t : TypeId} {k : IntKind} (ht : P.underlying t = some (.int k)) : Flat P t (fun cs => ∃ n, cs = [.int k n] ∧ (Lit.int k n).wf = true) := by
  intro H enc w base spare held fuel cs x h
  cases fuel with
  | zero => simp [DataW.trod] at h
  | succ m =>
    unfold DataW.trod at h
    rw [ht] at h
    split at h <;> simp_all

theorem flat_bool {P : Program} {t : TypeId} (ht : P.underlying t = some .bool) : Flat P t (fun cs => ∃ b, cs = [.bool b]) := by
  intro H enc w base spare held fuel cs x h
  cases fuel with
  | zero => simp [DataW.trod] at h
  | succ m =>
    unfold DataW.trod at h
    rw [ht] at h
    split at h <;> simp_all

theorem flat_string {P : Program} {t : TypeId} (ht : P.underlying t = some .string) : Flat P t (fun cs => ∃ s : ByteArray, cs = [.string s] ∧ s.size ≤ maxLen) := by
  intro H enc w base spare held fuel cs x h
  cases fuel with
  | zero => simp [DataW.trod] at h
  | succ m =>
    unfold DataW.trod at h
    rw [ht] at h
    split at h <;> simp_all

/-- An array: each element's cells look so. -/
theorem flat_array {P : Program} {t e : TypeId} {n : Nat} {R : List Value → Prop} (ht : P.underlying t = some (.array n e)) (he : Flat P e R) :
    Flat P t (fun cs => cs.length = P.cellsOf t ∧ ∀ i, i < n → R ((cs.drop (i * P.cellsOf e)).take (P.cellsOf e))) := by
  intro H enc w base spare held fuel cs x h
  obtain ⟨xs, m, _, _, hl, hx, hi⟩ := DataW.trod_array ht h
  refine ⟨hl, fun i hlt => ?_⟩
  have := hi i hlt
  rw [List.getElem?_eq_getElem (by omega)] at this
  exact he this

theorem mapM_each' {α β : Type} {f : α → Option β} {l : List α} {r : List β} (h : l.mapM f = some r) : ∀ x ∈ l, ∃ y, f x = some y := fun x hx => mapM_each h x hx

/-- A struct: each field's cells look so. -/
theorem flat_struct {P : Program} {t : TypeId} {fs : Array Field} (R : Nat → List Value → Prop) (ht : P.underlying t = some (.struct fs)) (hf : ∀ i f, fs[i]? = some f → Flat P f.type (R i)) :
    Flat P t (fun cs => cs.length = P.cellsOf t ∧ ∀ i f, fs[i]? = some f → R i ((cs.drop f.offset).take (P.cellsOf f.type))) := by
  intro H enc w base spare held fuel cs x h
  cases fuel with
  | zero => simp [DataW.trod] at h
  | succ m =>
    unfold DataW.trod at h
    rw [ht] at h
    split at h <;> simp_all
    obtain ⟨_, xs, hp, _⟩ := h
    intro i f hi
    obtain ⟨y, hy⟩ := mapM_each' hp f (by rw [Array.getElem?_eq_some_iff] at hi; obtain ⟨h1, h2⟩ := hi; simp [← h2])
    exact hf i f hi hy

/-- A value of a flat type: of one cell. -/
theorem open_one {H : Type} {enc : TypeId × Value → H} {P : Program} {w : World} {base : Nat} {spare : Nat → Bool} {held : Bool} {t : TypeId} {v : Value} {d : DataW H} {ps : List MemPlace} {R : List Value → Prop}
    (hf : Flat P t R) (h : DataW.Trod enc P w base spare held t v d ps) : R v.cells.toList := by
  obtain ⟨fuel, hx⟩ := h
  exact hf hx

theorem okWide_array {P : Program} {w : World} {r : Reach} {base : Nat} {t e : TypeId} {n : Nat} {v : Value} (ht : P.underlying t = some (.array n e)) (h : Value.okWide P w r base t v) : ∃ cs, v = .agg cs ∧ cs.size = P.cellsOf t := by
  simp only [Value.okWide, ht] at h
  obtain ⟨cs, h1, h2, _⟩ := h
  exact ⟨cs, h1, h2⟩

/-- A slice whose elements look so: nil, or a row in memory. -/
def SliceOf (P : Program) (w : World) (e : TypeId) (R : List Value → Prop) (A : Option Addr) (len cap : Nat) : Prop :=
  len ≤ cap ∧ cap ≤ maxLen ∧ (A = none → cap = 0) ∧ ∀ i, i < len → ∃ ad cs, A = some ad ∧ cs.length = P.cellsOf e ∧ R cs ∧ ∀ j u, cs[j]? = some u → w.cell? ((ad.add (i * P.cellsOf e)).add j) = some u

theorem mapM_range {β : Type} {f : Nat → Option β} {n : Nat} {r : List β} (h : (List.range n).mapM f = some r) : ∀ i, i < n → ∃ y, f i = some y := fun i hi => mapM_each h i (by simp [hi])

theorem cells?_get {w : World} {base : Nat} {a : Addr} {n : Nat} {cs : List Value} (h : w.cells? base a n = some cs) : cs.length = n ∧ ∀ j u, cs[j]? = some u → w.cell? (a.add j) = some u := by
  unfold World.cells? at h
  split at h
  · have hl := mapM_some_length h
    simp at hl
    refine ⟨hl, fun j u hj => ?_⟩
    have hlt : j < n := by rw [← hl]; exact (List.getElem?_eq_some_iff.1 hj).1
    have := mapM_some_get h j j (by simp [hlt])
    rw [hj] at this
    exact this
  · cases h

theorem open_slice_of {H : Type} {enc : TypeId × Value → H} {P : Program} {w : World} {r : Reach} {b0 base : Nat} {spare : Nat → Bool} {held : Bool} {t e : TypeId} {v : Value} {d : DataW H} {ps : List MemPlace} {R : List Value → Prop}
    (ht : P.underlying t = some (.slice e)) (he : Flat P e R) (hval : Value.okWide P w r b0 t v) (h : DataW.Trod enc P w base spare held t v d ps) :
    ∃ A len cap, v = .slice A len cap ∧ SliceOf P w e R A len cap := by
  obtain ⟨A, len, cap, rfl⟩ := okWide_slice ht hval
  refine ⟨A, len, cap, rfl, ?_⟩
  obtain ⟨fuel, hf⟩ := h
  cases fuel with
  | zero => simp [DataW.trod] at hf
  | succ m =>
    unfold DataW.trod at hf
    rw [ht] at hf
    simp only [Value.cells] at hf
    cases A with
    | none =>
      match len, cap, hf with
      | 0, 0, _ => exact ⟨Nat.le_refl _, Nat.zero_le _, fun _ => rfl, fun i hi => by omega⟩
      | n + 1, _, hf => simp at hf
      | 0, n + 1, hf => simp at hf
    | some ad =>
      by_cases hc0 : base ≤ ad.block ∧ len ≤ cap ∧ cap ≤ maxLen
      · simp only [hc0, and_self, if_true, Option.bind_eq_some_iff] at hf
        obtain ⟨_, h1, h2⟩ := hc0
        obtain ⟨elems, hel, _⟩ := hf
        refine ⟨h1, h2, by simp, fun i hi => ?_⟩
        obtain ⟨y, hy⟩ := mapM_range hel i hi
        simp only [Option.bind_eq_some_iff] at hy
        obtain ⟨cs, hc, hx⟩ := hy
        obtain ⟨g1, g2⟩ := cells?_get hc
        exact ⟨ad, cs, rfl, g1, he hx, g2⟩
      · simp [hc0] at hf
end Go.Proofs.Ytkebpmcgmmhifaa

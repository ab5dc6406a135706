/- Rows that a call makes for itself: slices that it appends to, as lists. -/
import Derived.Test.YtkebpmcgmmhifaaBlk
import Derived.Maps.AppendAt
import Derived.OwnWalk
namespace Go.Proofs.Ytkebpmcgmmhifaa
open Go.RowKit Go.WideShapes Go.ChangeShapes

/-- t is the type of slices of e, whose elements are laid as E says, in so many bytes. -/
structure SlT {α : Type} (P : Program) (t e : TypeId) (E : Enc α) (bytes : Nat) : Prop where
  under : P.underlying t = some (.slice e)
  info : ∃ i z, P.info? e = some i ∧ i.zero = some z ∧ i.size = E.sz ∧ i.bytes = bytes ∧ z.cells.size = E.sz
  pos : 0 < E.sz
  bpos : 0 < bytes

theorem slT_of {α : Type} {P : Program} {t e : TypeId} {E : Enc α} {bytes : Nat} {z : Value} (h1 : P.underlying t = some (.slice e)) (h2 : (P.info? e).map (fun i => (i.zero, i.size, i.bytes)) = some (some z, E.sz, bytes))
    (h3 : z.cells.size = E.sz) (h4 : 0 < E.sz) (h5 : 0 < bytes) : SlT P t e E bytes := by
  obtain ⟨i, a, b, c, d⟩ := info_parts h2
  exact ⟨h1, ⟨i, z, a, b, c, d, h3⟩, h4, h5⟩

/-- The value v is a slice that owns the row of these elements, in a block from base on. -/
def OwnR {α : Type} (w : World) (base : Nat) (e : TypeId) (E : Enc α) (v : Value) (xs : List α) : Prop := w.ownsRow base e E.sz v xs.length (E.all xs)

section
variable {α : Type} {w w' : World} {base : Nat} {e : TypeId} {E : Enc α} {v : Value} {xs : List α}
theorem OwnR.nil (w : World) (base : Nat) (e : TypeId) (E : Enc α) : OwnR w base e E (.slice none 0 0) [] := ⟨by simp [Enc.all], .inl ⟨rfl, rfl⟩⟩
theorem OwnR.lt (h : OwnR w base e E v xs) (k : Nat) (hk : v.ownBlock = some k) : base ≤ k ∧ k < w.heap.size := by
  obtain ⟨_, h | ⟨g, cap, cur, rfl, hb, hg, _⟩⟩ := h
  · rw [h.1] at hk; cases hk
  · injection hk with hk
    subst hk
    exact ⟨hb, (Array.getElem?_eq_some_iff.1 hg).1⟩
theorem OwnR.grown (h : OwnR w base e E v xs) {row : Option Nat} (hg : w.grownBy w' row) (hne : v.ownBlock = none ∨ v.ownBlock ≠ row) : OwnR w' base e E v xs := World.ownsRow.kept h hg hne
theorem OwnR.same (h : OwnR w base e E v xs) (hb : Below w.heap.size w w') : OwnR w' base e E v xs :=
  h.grown (row := none) ⟨hb.os, hb.tape, hb.output, hb.size, fun k hk _ => hb.block k hk⟩ (by cases v.ownBlock <;> simp)
theorem OwnR.alloc (h : OwnR w base e E v xs) (o : Obj) : OwnR (w.alloc o) base e E v xs := h.same (bl_alloc (Below.refl _ _) o)
theorem OwnR.drew (h : OwnR w base e E v xs) : OwnR w.drew base e E v xs := h
/-- A store elsewhere. -/
theorem OwnR.set (h : OwnR w base e E v xs) (a : Addr) (u : Value) (ha : ∀ k, v.ownBlock = some k → k ≠ a.block) : OwnR (w.setCell a u) base e E v xs :=
  h.grown (row := some a.block) ⟨rfl, rfl, rfl, by simp [World.setCell], fun k _ hk => Below.heap_setCell _ _ _ _ (fun e => hk (by rw [e]))⟩ (by
    cases hv : v.ownBlock with
    | none => exact .inl rfl
    | some k => exact .inr (fun e => ha k hv (by injection e)))
theorem OwnR.row (h : OwnR w base e E v xs) (g : Nat) (cs : Array Value) (ha : ∀ k, v.ownBlock = some k → k ≠ g) : OwnR (w.setRow g cs) base e E v xs :=
  h.grown (row := some g) ⟨rfl, rfl, rfl, by simp, fun k _ hk => setRow_other _ _ _ _ (fun e => hk (by rw [e]))⟩ (by
    cases hv : v.ownBlock with
    | none => exact .inl rfl
    | some k => exact .inr (fun e => ha k hv (by injection e)))
theorem OwnR.lower {base' : Nat} (h : OwnR w base e E v xs) (hb : base' ≤ base) : OwnR w base' e E v xs := by
  refine ⟨h.1, ?_⟩
  rcases h.2 with h | ⟨g, cap, cur, hv, hg, r⟩
  · exact .inl h
  · exact .inr ⟨g, cap, cur, hv, Nat.le_trans hb hg, r⟩

/-- It reads as the list. -/
theorem OwnR.reads (h : OwnR w base e E v xs) : ∃ A cap, v = .slice A xs.length cap ∧ xs.length ≤ cap ∧ cap ≤ 9223372036854775807 ∧ (A = none → cap = 0) ∧ Reads w A (E.all xs) := by
  obtain ⟨hl, ⟨rfl, h0⟩ | ⟨g, cap, cur, rfl, _, hg, h1, h2, h3, h4⟩⟩ := h
  · have : xs = [] := List.length_eq_zero_iff.1 h0
    subst this
    exact ⟨none, 0, rfl, Nat.le_refl _, by omega, fun _ => rfl, Reads.nil _ _⟩
  · refine ⟨some ⟨g, 0, none⟩, cap, rfl, h1, by unfold maxLen at h2; omega, by simp, fun j u hj => ⟨g, 0, rfl, ?_⟩⟩
    rw [Nat.zero_add, cell_of_row _ _ _ _ _ _ hg]
    rw [← h4, List.getElem?_take] at hj
    split at hj
    · simpa using hj
    · cases hj

/-- What lay below base is as it was, whatever was done to rows from base on. -/
theorem bl_grown {B : Nat} {w0 : World} (hb : Below B w0 w) (h : OwnR w base e E v xs) (hg : w.grownBy w' v.ownBlock) (hB : B ≤ base) (hw : B ≤ w.heap.size) : Below B w0 w' :=
  hb.grown hg hw fun k hk => Nat.le_trans hB (h.lt k hk).1
end

theorem gb_drew {w w' : World} {row : Option Nat} (h : w.grownBy w' row) : w.grownBy w'.drew row := ⟨h.os, h.tape, h.output, h.size, h.block⟩
theorem World.grownBy.blk {w w' : World} {row : Option Nat} (hg : w.grownBy w' row) {g : Nat} {cs : Array Value} {t : TypeId} (h : Blk w g cs t) (hne : some g ≠ row) : Blk w' g cs t := (hg.block g h.lt hne).trans h
/-- A variable's block ahead of all rows. -/
theorem OwnR.blk {α : Type} {w w' : World} {base : Nat} {e : TypeId} {E : Enc α} {v : Value} {xs : List α} (h : OwnR w base e E v xs) (hg : w.grownBy w' v.ownBlock) {g : Nat} {cs : Array Value} {t : TypeId} (hb : Blk w g cs t) (hlt : g < base) : Blk w' g cs t :=
  World.grownBy.blk hg hb (fun e => by have := (h.lt _ e.symm).1; omega)

/-- append to a row of the call's own: at the operation. -/
theorem own_append {α : Type} {P : Program} {w : World} {ops : Array Oper} {rest : List Oper} {o : Oper} {a : Act} {Q : Exit → Act → World → Prop} {t e : TypeId} {E : Enc α} {bytes : Nat} (T : SlT P t e E bytes) (hgd : o.guard = none) (s x : Operand)
    (ho : o.op = .call { callee := .builtin .append, args := #[s, x], argTypes := #[t, t] })
    (base : Nat) (v : Value) (xs : List α) (hs : a.eval s = v) (hown : OwnR w base e E v xs) (ad : Addr) (m c : Nat) (ys : List α) (hx : a.eval x = .slice (some ad) m c) (hm : ys.length = m)
    (hnews : ∀ j u, (E.all ys)[j]? = some u → w.cell? (ad.add j) = some u) (hbytes : (xs.length + ys.length) * bytes ≤ 140737488355328) (hbase : base ≤ w.heap.size)
    (h : ∀ v' w', OwnR w' base e E v' (xs ++ ys) → w.grownBy w' v.ownBlock → (v'.ownBlock = v.ownBlock ∨ v'.ownBlock = some w.heap.size) → wpList P ops Q rest (a.put o.dst v') w') : wpList P ops Q (o :: rest) a w := by
  obtain ⟨i, z, h1, h2, h3, h4, h5⟩ := T.info
  subst hm
  have hb := T.bpos
  refine wpList_append_own_at _ hgd s x t ho base e i z E.sz bytes T.under h1 h2 h3 h4 h5 T.pos v xs.length (E.all xs) hs hown ad ys.length c (E.all ys) hx (E.all_length ys) hnews (E.all_one_cell ys) ?_ hbytes hbase ?_
  · have : xs.length + ys.length ≤ (xs.length + ys.length) * bytes := Nat.le_mul_of_pos_right _ hb
    unfold maxLen
    omega
  · intro v' w' h2 h3 _ h5
    refine h v' w' ?_ h3 h5
    unfold OwnR
    rw [E.all_append, List.length_append]
    exact h2

theorem news_at (w : World) (x : Value) (t : TypeId) (g : Nat) (hg : g = w.heap.size) : ∀ j u, [x][j]? = some u → (w.alloc (.cells #[x] t)).cell? ((⟨g, 0, none⟩ : Addr).add j) = some u := by
  subst hg; exact cell_one_new w x t
theorem news_one (w : World) (x : Value) (t : TypeId) : ∀ j u, [x][j]? = some u → (w.alloc (.cells #[x] t)).cell? ((⟨w.heap.size, 0, none⟩ : Addr).add j) = some u := cell_one_new w x t
end Go.Proofs.Ytkebpmcgmmhifaa

/- Rows that a call makes for itself, in walks that gen/wx.py prints: append, blocks beside them, and a loop's law by what is left. -/
import Derived.Test.YtkebpmcgmmhifaaStep
namespace Go.Proofs.Ytkebpmcgmmhifaa
open Go.RowKit

/-- A row's block is not this one. -/
def Off (v : Value) (g : Nat) : Prop := v.ownBlock ≠ some g
/-- Two rows lie apart. -/
def Off2 (v u : Value) : Prop := v.ownBlock = none ∨ v.ownBlock ≠ u.ownBlock
theorem Off2.symm {v u : Value} (h : Off2 v u) : Off2 u v := by
  rcases h with h | h
  · cases hu : u.ownBlock with
    | none => exact .inl hu
    | some k => exact .inr (by rw [h, hu]; simp)
  · exact .inr (fun e => h e.symm)
theorem Off.nil (g : Nat) : Off (.slice none 0 0) g := by simp [Off, Value.ownBlock]
theorem Off2.nil (u : Value) : Off2 (.slice none 0 0) u := .inl rfl

section
variable {α : Type} {w w' : World} {base : Nat} {e : TypeId} {E : Enc α} {v v' u : Value} {xs : List α} {g : Nat} {cs : Array Value} {t : TypeId}
theorem OwnR.off (h : OwnR w base e E v xs) (hg : w.heap.size ≤ g) : Off v g := fun k => by have := (h.lt g k).2; omega
/-- A row that a callee made lies apart from what there was. -/
theorem OwnR.offLow {w0 : World} (h : OwnR w w0.heap.size e E v xs) (hb : Blk w0 g cs t) : Off v g := fun k => by have := (h.lt g k).1; have := hb.lt; omega
theorem OwnR.offLow2 {α' : Type} {e' : TypeId} {E' : Enc α'} {ys : List α'} {base' : Nat} {w0 : World} (h : OwnR w w0.heap.size e E v xs) (k : OwnR w0 base' e' E' u ys) : Off2 v u := by
  cases hv : v.ownBlock with
  | none => exact .inl hv
  | some q =>
    refine .inr fun hu => ?_
    have := (h.lt q hv).1
    have := (k.lt q (by rw [← hu, hv])).2
    omega
theorem OwnR.keptB (h : OwnR w base e E v xs) (hg : w.grownBy w' (some g)) (n : Off v g) : OwnR w' base e E v xs := h.grown hg (.inr n)
theorem Blk.keptR (h : Blk w g cs t) (hg : w.grownBy w' v.ownBlock) (n : Off v g) : Blk w' g cs t := World.grownBy.blk hg h (fun k => n k.symm)
theorem Off.app (n : Off v g) (h : Blk w g cs t) (hat : v'.ownBlock = v.ownBlock ∨ v'.ownBlock = some w.heap.size) : Off v' g := by
  have hl := h.lt
  rcases hat with hat | hat
  · rw [Off, hat]; exact n
  · rw [Off, hat]; intro k; injection k with k; omega
theorem Off2.app {α' : Type} {e' : TypeId} {E' : Enc α'} {ys : List α'} {base' : Nat} (n : Off2 v u) (h : OwnR w base' e' E' u ys) (hat : v'.ownBlock = v.ownBlock ∨ v'.ownBlock = some w.heap.size) : Off2 v' u := by
  rcases hat with hat | hat
  · rw [Off2, hat]; exact n
  · refine .inr fun k => ?_
    rw [hat] at k
    have := (h.lt _ k.symm).2
    omega
theorem OwnR.keptR (h : OwnR w base e E v xs) (hg : w.grownBy w' u.ownBlock) (n : Off2 v u) : OwnR w' base e E v xs := h.grown hg n
theorem bl_app {w0 : World} (hb : Below w0.heap.size w0 w) (h : OwnR w w0.heap.size e E v xs) (hg : w.grownBy w' v.ownBlock) : Below w0.heap.size w0 w' := bl_grown hb h hg (Nat.le_refl _) hb.size
/-- A slice that was built of so many elements. -/
theorem OwnR.built (h : Blk w g cs e) (hc : cs.toList = E.all xs) (hB : base ≤ g) (hn : xs.length ≤ 9223372036854775807) (hz : cs.size = xs.length * E.sz) : OwnR w base e E (.slice (some ⟨g, 0, none⟩) xs.length xs.length) xs := by
  refine ⟨E.all_length xs, .inr ⟨g, xs.length, cs, rfl, hB, h, Nat.le_refl _, by unfold maxLen; omega, hz, ?_⟩⟩
  rw [hc, List.take_of_length_le (by rw [E.all_length]; exact Nat.le_refl _)]
end

section
variable {P : Program} {ops : Array Oper} {o : Oper} {rest : List Oper} {a : Act} {w : World} {Q : Exit → Act → World → Prop}
/-- A slice literal. -/
theorem st_lit {cs : Array Value} {t : TypeId} {n : Nat} (hw : Region.wanted o (yielded ops a.tmps) = true) (h : (execOp a.eval o).run P w = .ok (.value (.slice (some ⟨w.heap.size, 0, none⟩) n n)) (w.alloc (.cells cs t)))
    (k : ∀ g w', Blk w' g cs t → Below w.heap.size w w' → w.heap.size ≤ g → wpList P ops Q rest (a.put o.dst (.slice (some ⟨g, 0, none⟩) n n)) w') : wpList P ops Q (o :: rest) a w := by
  unfold wpList
  rw [if_pos hw]
  refine .inl ?_
  unfold Oper.wp
  rw [h]
  exact k _ _ (Blk.new _ _ _ _ rfl) (bl_alloc (Below.refl _ _) _) (Nat.le_refl _)
/-- append of a literal's elements. -/
theorem st_append {α : Type} {t e : TypeId} {E : Enc α} {bytes : Nat} (T : SlT P t e E bytes) (hgd : o.guard = none) (s x : Operand)
    (ho : o.op = .call { callee := .builtin .append, args := #[s, x], argTypes := #[t, t] })
    {base : Nat} {v : Value} {xs : List α} (hs : a.eval s = v) (hown : OwnR w base e E v xs) {g m c : Nat} (ys : List α) (hx : a.eval x = .slice (some ⟨g, 0, none⟩) m c) (hm : ys.length = m)
    {cs : Array Value} {t' : TypeId} (hB : Blk w g cs t') (hc : ∀ (j : Nat) (u : Value), (E.all ys)[j]? = some u → cs[j]? = some u) (hbytes : (xs.length + ys.length) * bytes ≤ 140737488355328) (hbase : base ≤ w.heap.size)
    (h : ∀ v' w', OwnR w' base e E v' (xs ++ ys) → w.grownBy w' v.ownBlock → (v'.ownBlock = v.ownBlock ∨ v'.ownBlock = some w.heap.size) → wpList P ops Q rest (a.put o.dst v') w') : wpList P ops Q (o :: rest) a w :=
  own_append T hgd s x ho base v xs hs hown ⟨g, 0, none⟩ m c ys hx hm (fun j u hj => by rw [add_none, Nat.zero_add, hB.cell]; exact hc j u hj) hbytes hbase h
/-- append of what reads as a list, nil or not. -/
theorem st_appends {α : Type} {t e : TypeId} {E : Enc α} {bytes : Nat} (T : SlT P t e E bytes) (hgd : o.guard = none) (s x : Operand)
    (ho : o.op = .call { callee := .builtin .append, args := #[s, x], argTypes := #[t, t] })
    {base : Nat} {v : Value} {xs : List α} (hs : a.eval s = v) (hown : OwnR w base e E v xs) {A : Option Addr} {m c : Nat} (ys : List α) (hx : a.eval x = .slice A m c) (hm : ys.length = m)
    (hr : Reads w A (E.all ys)) (hbytes : (xs.length + ys.length) * bytes ≤ 140737488355328) (hbase : base ≤ w.heap.size)
    (h : ∀ v' w', OwnR w' base e E v' (xs ++ ys) → w.grownBy w' v.ownBlock → (v'.ownBlock = v.ownBlock ∨ v'.ownBlock = some w.heap.size) → wpList P ops Q rest (a.put o.dst v') w') : wpList P ops Q (o :: rest) a w := by
  cases A with
  | some ad =>
    refine own_append T hgd s x ho base v xs hs hown ad m c ys hx hm (fun j u hj => ?_) hbytes hbase h
    obtain ⟨b, off, e1, hc⟩ := hr j u hj
    injection e1 with e1
    subst e1
    rw [add_none]
    exact hc
  | none =>
    have hy : ys = [] := by
      cases ys with
      | nil => rfl
      | cons y ys =>
        exfalso
        have hp : 0 < (E.all (y :: ys)).length := by rw [E.all_length, List.length_cons, Nat.succ_mul]; have := T.pos; omega
        obtain ⟨b, off, e1, _⟩ := hr.at_ hp
        cases e1
    subst hy
    subst hm
    obtain ⟨i, z, h1, h2, h3, h4, h5⟩ := T.info
    have hrun : (Builtin.append_ #[t, t] o.type #[v, .slice none 0 c]).run P w = .ok v w := by
      rcases hown.2 with ⟨rfl, _⟩ | ⟨g, cap, cur, rfl, _, _, hnc, _⟩
      · simp [Builtin.append_, run_underlying T.under, sizeOf, typeInfo, h1, Builtin.lenOf, Builtin.firstCells]
      · simp [Builtin.append_, run_underlying T.under, sizeOf, typeInfo, h1, Builtin.lenOf, Builtin.firstCells, hnc, storeCells]
    have hw : Region.wanted o (yielded ops a.tmps) = true := by simp [Region.wanted, hgd]
    refine st_value (v := v) hw ?_ (h v w (by simpa using hown) ⟨rfl, rfl, rfl, Nat.le_refl _, fun k _ _ => rfl⟩ (.inl rfl))
    unfold execOp
    simp only [ho, resolve, invoke, builtin, Sem.run_bind, Sem.run_pure, Result.andThen_ok, List.map_toArray, List.map_cons, List.map_nil, hs, hx, List.length_nil, hrun]
end

/-- A loop, by what is left. -/
theorem wp_loop_left {P : Program} {c : Code} {Q : Exit → Act → World → Prop} {a : Act} {w : World} (I : Nat → Act → World → Prop) (n : Nat) (h0 : I n a w)
    (round : ∀ n a w, I n a w → c.wp P (Exit.then (fun a' w' => ∃ m, m < n ∧ I m a' w') Q) a w) : (Code.loop c).wp P Q a w := by
  intro b k cs
  have key : ∀ n a w, I n a w → ∃ e a' w', Q e a' w' ∧ Arrives P (lone (b.at a (.code c :: .inLoop c :: k)) cs w) b k cs e a' w' := by
    intro n
    induction n using Nat.strongRecOn with
    | _ n ih =>
      intro a w hI
      obtain ⟨e, a₁, w₁, hq, harr⟩ := round n a w hI b (.inLoop c :: k) cs
      cases e with
      | normal =>
        obtain ⟨m, hlt, hI₁⟩ := hq
        obtain ⟨e₂, a₂, w₂, hq₂, harr₂⟩ := ih m hlt a₁ w₁ hI₁
        exact ⟨e₂, a₂, w₂, hq₂, .of_steps (Steps.trans harr (.one step_inLoop)) harr₂⟩
      | exit id => exact ⟨_, a₁, w₁, hq, .pass (x := .inLoop c) rfl (fun _ _ => .inl (by simp)) harr⟩
      | goto l => exact ⟨_, a₁, w₁, hq, .pass (x := .inLoop c) rfl (fun _ _ => .inl (by simp)) harr⟩
      | ret => exact ⟨_, a₁, w₁, hq, .pass (x := .inLoop c) rfl (fun _ _ => .inl (by simp)) harr⟩
      | panic ch => exact ⟨_, a₁, w₁, hq, .pass (x := .inLoop c) rfl (fun _ _ => .inl (by simp)) harr⟩
      | outgrown => exact ⟨_, a₁, w₁, hq, .pass (x := .inLoop c) rfl (fun _ _ => .inl (by simp)) harr⟩
  obtain ⟨e, a', w', hq, harr⟩ := key n a w h0
  exact ⟨e, a', w', hq, .of_steps (.one step_loop) harr⟩

/-! ### Elements of what came in -/
theorem Reads.intAt {w : World} {b off : Nat} {k : IntKind} {xs : List Int} (h : Reads w (some ⟨b, off, none⟩) (xs.map (Value.int k))) (i : Nat) (hi : i < xs.length) : w.cell? ⟨b, off + i * 1, none⟩ = some (.int k (nth xs i)) := by
  obtain ⟨b', off', e, hc⟩ := h i (.int k (nth xs i)) (by simp [nth, hi])
  injection e with e
  injection e with e1 e2
  subst e1 e2
  rw [Nat.mul_one]
  exact hc
theorem Reads.int_elem {w : World} {b off : Nat} {k : IntKind} {xs : List Int} (h : ∀ j u, (xs.map (Value.int k))[j]? = some u → w.cell? ⟨b, off + j, none⟩ = some u) (i : Nat) (hi : i < xs.length) :
    w.cell? ⟨b, off + i * 1, none⟩ = some (.int k (nth xs i)) := by rw [Nat.mul_one]; exact Reads.int_at h i hi
theorem Blk.readsAt {w : World} {g : Nat} {cs : Array Value} {t : TypeId} (h : Blk w g cs t) (l : List Value) (hl : cs.toList = l) : Reads w (some ⟨g, 0, none⟩) l := by
  subst hl
  intro j u hj
  exact ⟨g, 0, rfl, by rw [Nat.zero_add, h.cell]; simpa using hj⟩
end Go.Proofs.Ytkebpmcgmmhifaa

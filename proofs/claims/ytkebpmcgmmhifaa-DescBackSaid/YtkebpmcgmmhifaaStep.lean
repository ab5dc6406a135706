/- One operation at a time: laws for walks that a small program (gen/wx.py) prints. -/
import Derived.Test.YtkebpmcgmmhifaaFacts
import Derived.Test.YtkebpmcgmmhifaaOwn
namespace Go.Proofs.Ytkebpmcgmmhifaa
open Go.RowKit

def G0 (w w' : World) : Prop := Below w.heap.size w w'
theorem G0.refl (w : World) : G0 w w := Below.refl _ _
/-- The worlds above one. -/
def Abv (W0 W : World) : Prop := Below W0.heap.size W0 W
theorem Abv.step {W0 W W' : World} (h : Abv W0 W) (k : G0 W W') : Abv W0 W' := bl_step h k
theorem Abv.start (W0 : World) : Abv W0 W0.drew := bl_drew (Below.refl _ _)

section
variable {P : Program} {ops : Array Oper} {o : Oper} {rest : List Oper} {a : Act} {w : World} {Q : Exit → Act → World → Prop}
theorem st_value {v : Value} (hw : Region.wanted o (yielded ops a.tmps) = true) (h : (execOp a.eval o).run P w = .ok (.value v) w) (k : wpList P ops Q rest (a.put o.dst v) w) : wpList P ops Q (o :: rest) a w := by
  unfold wpList
  rw [if_pos hw]
  refine .inl ?_
  unfold Oper.wp
  rw [h]
  exact k
theorem st_not (hw : Region.wanted o (yielded ops a.tmps) = false) (k : wpList P ops Q rest (a.put o.dst undef) w) : wpList P ops Q (o :: rest) a w := by
  unfold wpList
  rw [if_neg (by simp [hw])]
  exact k
/-- A call. -/
theorem st_call {g : FuncId} {args : Array Value} {R : Value → World → Prop} (hw : Region.wanted o (yielded ops a.tmps) = true) (h : (execOp a.eval o).run P w = .ok (.enter g args) w)
    (c : Calls P g args w fun e w' => ∃ v, e = .returned v ∧ R v w') (k : ∀ v w', R v w' → wpList P ops Q rest (a.put o.dst v) w') : wpList P ops Q (o :: rest) a w := by
  unfold wpList
  rw [if_pos hw]
  refine .inl ?_
  unfold Oper.wp
  rw [h]
  exact c.mono fun e w' ⟨v, he, hr⟩ => by subst he; exact k _ _ hr
/-- A call that hands back the value v. -/
theorem st_call1 {g : FuncId} {args : Array Value} {v : Value} {R : World → Prop} (hw : Region.wanted o (yielded ops a.tmps) = true) (h : (execOp a.eval o).run P w = .ok (.enter g args) w)
    (c : Calls P g args w fun e w' => e = .returned v ∧ R w') (k : ∀ w', R w' → wpList P ops Q rest (a.put o.dst v) w') : wpList P ops Q (o :: rest) a w :=
  st_call (R := fun u w' => u = v ∧ R w') hw h (c.mono fun _ _ ⟨h1, h2⟩ => ⟨v, h1, rfl, h2⟩) fun _ w' ⟨h1, h2⟩ => h1 ▸ k w' h2
/-- A new block. -/
theorem st_new {cs : Array Value} {t : TypeId} (hw : Region.wanted o (yielded ops a.tmps) = true) (h : (execOp a.eval o).run P w = .ok (.value (.pointer (some ⟨w.heap.size, 0, none⟩))) (w.alloc (.cells cs t)))
    (k : ∀ g w', Blk w' g cs t → Below w.heap.size w w' → w.heap.size ≤ g → wpList P ops Q rest (a.put o.dst (.pointer (some ⟨g, 0, none⟩))) w') : wpList P ops Q (o :: rest) a w := by
  unfold wpList
  rw [if_pos hw]
  refine .inl ?_
  unfold Oper.wp
  rw [h]
  exact k _ _ (Blk.new _ _ _ _ rfl) (bl_alloc (Below.refl _ _) _) (Nat.le_refl _)
/-- A block of the call's own is written whole. -/
theorem st_row {g : Nat} {new old : Array Value} {t : TypeId} (hw : Region.wanted o (yielded ops a.tmps) = true) (h : (execOp a.eval o).run P w = .ok .skip (w.setRow g new)) (hg : Blk w g old t)
    (k : ∀ w', Blk w' g new t → w.grownBy w' (some g) → wpList P ops Q rest (a.put o.dst undef) w') : wpList P ops Q (o :: rest) a w := by
  unfold wpList
  rw [if_pos hw]
  refine .inl ?_
  unfold Oper.wp
  rw [h]
  exact k _ (hg.row new) ⟨rfl, rfl, rfl, by simp, fun k _ hk => setRow_other _ _ _ _ (fun e => hk (by rw [e]))⟩
/-- A cell of a block of the call's own. -/
theorem st_cell {g i : Nat} {cs : Array Value} {v : Value} {t : TypeId} (hw : Region.wanted o (yielded ops a.tmps) = true) (h : (execOp a.eval o).run P w = .ok .skip (w.setCell ⟨g, i, none⟩ v)) (hg : Blk w g cs t)
    (k : ∀ w', Blk w' g (cs.setIfInBounds i v) t → w.grownBy w' (some g) → wpList P ops Q rest (a.put o.dst undef) w') : wpList P ops Q (o :: rest) a w := by
  unfold wpList
  rw [if_pos hw]
  refine .inl ?_
  unfold Oper.wp
  rw [h]
  exact k _ (hg.set i v) ⟨rfl, rfl, rfl, by simp [World.setCell], fun k _ hk => Below.heap_setCell _ _ _ _ (fun e => hk (by rw [e]))⟩
end

theorem not_true {b : Bool} (h : (!b) = true) : b = false := by simpa using h
theorem not_false {b : Bool} (h : (!b) = false) : b = true := by simpa using h
theorem Blk.ne {w : World} {g g' : Nat} {cs : Array Value} {t : TypeId} (h : Blk w g cs t) (k : w.heap.size ≤ g') : g ≠ g' := by
  have := h.lt
  omega
theorem Blk.kept {w w' : World} {g g' : Nat} {cs : Array Value} {t : TypeId} (h : Blk w g cs t) (hg : w.grownBy w' (some g')) (hne : g ≠ g') : Blk w' g cs t := World.grownBy.blk hg h (fun e => hne (Option.some.inj e))
theorem bl_kept {B : Nat} {w0 w w' : World} {g : Nat} (hb : Below B w0 w) (hg : w.grownBy w' (some g)) (hB : B ≤ g) (hw : B ≤ w.heap.size) : Below B w0 w' :=
  hb.grown hg hw fun k hk => by injection hk with hk; omega
theorem bl_kept0 {w0 w w' : World} {g : Nat} (hb : Below w0.heap.size w0 w) (hg : w.grownBy w' (some g)) (hB : w0.heap.size ≤ g) : Below w0.heap.size w0 w' := bl_kept hb hg hB hb.size
/-- What lay at a place below stays there. -/
theorem low_le {w0 w : World} (hb : Below w0.heap.size w0 w) {g : Nat} (h : w.heap.size ≤ g) : w0.heap.size ≤ g := Nat.le_trans hb.size h
end Go.Proofs.Ytkebpmcgmmhifaa

/- A region that draws its order, whose operations only make new memory: one walk of the text's order, in the class of all worlds that lie above one world. -/
import Derived.Test.YthgamlklpfkkhaaDoorPut
import Derived.Test.YthgamlklpfkkhaaDoorBlk
import Derived.Deep.Quiet
import Derived.Deep.RegionWith
namespace Go.Proofs.YthgamlklpfkkhaaDoor
open Go.RowKit Go.WideShapes Go.ChangeShapes

/-- The worlds above W: what lay in W is as it was. -/
def Up (W W' : World) : Prop := Below W.heap.size W W'
theorem Up.refl (W : World) : Up W W := Below.refl _ _
theorem Up.step {W W1 W2 : World} (h : Up W W1) (k : Below W1.heap.size W1 W2) : Up W W2 := bl_step h k

section
variable {P : Program} {o : Oper} {a : Act} {C : World → Prop} {K : Act → Prop}
theorem quiet_value {v : Value} (h : ∀ W, C W → (execOp a.eval o).run P W = .ok (.value v) W) (hk : K (a.put o.dst v)) : o.quiet P a C K :=
  ⟨v, fun W hW => by unfold Oper.quietAt; rw [h W hW]; exact ⟨rfl, rfl⟩, hk⟩
theorem quiet_call {f : FuncId} {args : Array Value} {v : Value} (h : ∀ W, (execOp a.eval o).run P W = .ok (.enter f args) W) (hc : ∀ W, C W → Calls P f args W fun e W' => e = .returned v ∧ C W') (hk : K (a.put o.dst v)) : o.quiet P a C K :=
  ⟨v, fun W hW => by unfold Oper.quietAt; rw [h W]; exact ⟨rfl, hc W hW⟩, hk⟩
theorem wpQuiet_want {ops : Array Oper} {Q : Act → Prop} {rest : List Oper} (hw : Region.wanted o (yielded ops a.tmps) = true) (h : o.quiet P a C (wpQuiet P ops C Q rest)) : wpQuiet P ops C Q (o :: rest) a := by
  unfold wpQuiet
  rw [if_pos hw]
  exact h
theorem wpQuiet_skip {ops : Array Oper} {Q : Act → Prop} {rest : List Oper} (hw : Region.wanted o (yielded ops a.tmps) = false) (h : wpQuiet P ops C Q rest (a.put o.dst undef)) : wpQuiet P ops C Q (o :: rest) a := by
  unfold wpQuiet
  rw [if_neg (by simp [hw])]
  exact h
end
theorem region_up {P : Program} {id : Nat} {Q : Exit → Act → World → Prop} {a : Act} {w : World} {l : List Oper} (hm : P.follows .mixedOrders = true) (hB : Region.lexB .any l.toArray = true)
    (h : wpQuiet P l.toArray (Up w) (fun a' => ∀ w', Up w w' → Q .normal a' w') l a) : (Code.region id l.toArray true).wp P Q a w :=
  wp_region_quiet (C := Up w) hm hB (bl_drew (Below.refl _ _)) (by simpa using h)

theorem quiet_load_set {o : Oper} {a : Act} {C : World → Prop} {K : Act → Prop} (x : Operand) (ho : o.op = .load 24 x) (g : Nat) (hx : a.eval x = .pointer (some ⟨g, 0, none⟩)) (S : Nat) {t : TypeId} (hg : ∀ W, C W → Blk W g (setA S) t)
    (hk : K (a.put o.dst (.agg (setA S)))) : o.quiet Tryd.prog a C K :=
  quiet_value (fun W hW => by
    unfold execOp
    simp only [ho, hx, Instr.loadAt, Instr.sureAddr, Sem.run_bind, Sem.run_pure, Result.andThen_ok, run_loadVar_row W g t _ _ _ _ (hg W hW) Tryd.underlying24 rfl (info_setA S)]) hk
end Go.Proofs.YthgamlklpfkkhaaDoor

/- append to an empty literal: a row of its own; in a region that draws its order too (the same laws as at the end of RingRef, for seats without rings). -/
import Derived.Test.YtckmihjekgbcmaaDoorCuts
import Derived.Maps.AppendAt
namespace Go.Proofs.YtckmihjekgbcmaaDoor
open Go.RowKit Go.WideShapes Go.ChangeShapes

/-- append to an empty literal: a row of its own; nothing else changes. -/
theorem setRow_same {w : World} {g : Nat} {cs : Array Value} {e : TypeId} (hB : Blk w g cs e) : Below w.heap.size w (w.setRow g cs) :=
  ⟨rfl, rfl, rfl, by simp, fun k _ => by
    by_cases h : k = g
    · subst h; rw [setRow_heap w k cs cs e _ hB]; exact hB.symm
    · exact setRow_other w g k _ h⟩
theorem run_append_fresh {α : Type} {P : Program} {o : Oper} {a : Act} {w : World} {t e : TypeId} {E : Enc α} {bytes : Nat} (T : SlT P t e E bytes) (s x : Operand) (ho : o.op = .call { callee := .builtin .append, args := #[s, x], argTypes := #[t, t] })
    {g base : Nat} (hs : a.eval s = .slice (some ⟨g, 0, none⟩) 0 0) (hB : Blk w g #[] e) {A : Option Addr} {m c : Nat} {ys : List α} (hx : a.eval x = .slice A m c) (hm : ys.length = m) (hr : Reads w A (E.all ys)) (hbytes : ys.length * bytes ≤ 140737488355328) (hbase : base ≤ g) (hbs : base ≤ w.heap.size) :
    ∃ v' w', (execOp a.eval o).run P w = .ok (.value v') w' ∧ OwnR w' base e E v' ys ∧ Below w.heap.size w w' := by
  obtain ⟨i, z, h1, h2, h3, h4, h5⟩ := T.info
  have hp := T.pos
  have hbp := T.bpos
  have key : ∀ (v' : Value) (w' : World), (Builtin.append_ #[t, t] o.type #[.slice (some ⟨g, 0, none⟩) 0 0, .slice A m c]).run P w = .ok v' w' → (execOp a.eval o).run P w = .ok (.value v') w' := fun v' w' hrun => by
    unfold execOp
    simp only [ho, resolve, invoke, builtin, Sem.run_bind, Sem.run_pure, Result.andThen_ok, List.map_toArray, List.map_cons, List.map_nil, hs, hx, hrun]
  subst hm
  cases ys with
  | nil =>
    have hO : ∀ W : World, Blk W g #[] e → OwnR W base e E (.slice (some ⟨g, 0, none⟩) 0 0) ([] : List α) := fun W h => OwnR.built h rfl hbase (by simp) (by simp)
    cases A with
    | none =>
      refine ⟨_, w, key _ _ ?_, hO w hB, Below.refl _ _⟩
      simp [Builtin.append_, run_underlying T.under, sizeOf, typeInfo, h1, Builtin.lenOf, Builtin.firstCells, storeCells]
    | some ad =>
      have hr2 := run_append_room (P := P) w t o.type e i T.under h1 g 0 0 #[] hB ad 0 c [] (by simp) (fun j u hj => by simp at hj) (fun u hu => by simp at hu) (by omega) (by simp)
      have e0 : (List.take (0 * i.size) (#[] : Array Value).toList ++ [] ++ List.drop (0 * i.size + ([] : List Value).length) (#[] : Array Value).toList).toArray = #[] := by simp
      rw [e0] at hr2
      exact ⟨_, _, key _ _ hr2, hO _ (setRow_heap w g _ _ e _ hB), setRow_same hB⟩
  | cons y ys =>
    have hlen : 0 < (E.all (y :: ys)).length := by rw [E.all_length, List.length_cons, Nat.succ_mul]; omega
    obtain ⟨b, off, rfl, hc⟩ := hr.at_ hlen
    have hbig : (y :: ys).length ≤ 140737488355328 := Nat.le_trans (Nat.le_mul_of_pos_right _ hbp) hbytes
    have hr2 := run_append_grow (P := P) w t o.type e i z T.under h1 h2 ⟨g, 0, none⟩ 0 0 [] (by simp) (fun j u hj => by simp at hj) ⟨b, off, none⟩ (y :: ys).length c (E.all (y :: ys)) (by rw [h3]; exact E.all_length _) (fun j u hj => by rw [add_none]; exact hc j u hj) (by simp) (by omega) (growslice_fits (by simp) (by rw [h4]; simpa using hbytes))
    refine ⟨_, _, key _ _ hr2, ?_, ?_⟩
    · have hge := grownCap_ge w (0 + (y :: ys).length) 0 e
      have hcm := grownCap_le_maxLen w (0 + (y :: ys).length) 0 e (by unfold maxLen; omega)
      refine ⟨E.all_length _, .inr ⟨w.heap.size, _, _, ?_, hbs, heap_alloc_new w.drew _, by omega, hcm, ?_, ?_⟩⟩
      · simp
      · simp only [Array.size_append, List.size_toArray, size_zeroCells, h5, E.all_length, List.length_nil]
        generalize grownCap w (0 + (y :: ys).length) 0 e = C at *
        generalize (y :: ys).length = n at *
        rw [Nat.zero_add, ← Nat.add_mul]
        congr 1
        omega
      · simp only [Array.toList_append, List.nil_append]
        exact List.take_left' (E.all_length _)
    · exact ⟨rfl, rfl, rfl, by simp, fun k hk => heap_alloc_old w.drew _ hk⟩
theorem ok2_of_ex {P : Program} {ops : Array Oper} {C : World → Prop} {N0 : Nat} {o : Oper} {a : Act} {w : World} {p : Value → World → Prop} {hp : ∀ v w w', G0 w w' → p v w → p v w'} (hw : Region.wanted o (yielded ops a.tmps) = true)
    (H : ∃ v' w', (execOp a.eval o).run P w = .ok (.value v') w' ∧ p v' w' ∧ Below w.heap.size w w') (hC : ∀ w', Below w.heap.size w w' → C w') : opok2 P ops C N0 o (.ex p hp) a w := by
  obtain ⟨v', w', h1, h2, h3⟩ := H
  exact ok2_ex hw h1 h2 (hC _ h3) h3
end Go.Proofs.YtckmihjekgbcmaaDoor

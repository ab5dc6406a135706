/- Memory in walks: frames with blocks that may change; variables and structs in blocks; rows of numbers that are written in place. -/
import Derived.Test.YtkebpmcgmmhifaaFields
import Derived.Test.YtkebpmcgmmhifaaFacts2
import Derived.Laws.MakeOwn
import Derived.Laws.Tables
namespace Go.Proofs.Ytkebpmcgmmhifaa
open Go.RowKit Go.WideShapes Go.ChangeShapes

/-- w' is w but for new blocks and for those of S. -/
structure Fr (S : List Nat) (w w' : World) : Prop where
  os : w'.os = w.os
  tape : w'.tape = w.tape
  output : w'.output = w.output
  size : w.heap.size ≤ w'.heap.size
  block : ∀ j, j < w.heap.size → j ∉ S → w'.heap[j]? = w.heap[j]?

section
variable {S S' : List Nat} {w0 w w' w1 w2 : World} {g : Nat}
theorem Fr.refl (S : List Nat) (w : World) : Fr S w w := ⟨rfl, rfl, rfl, Nat.le_refl _, fun _ _ _ => rfl⟩
theorem Fr.of_below (h : Below w.heap.size w w') : Fr S w w' := ⟨h.os, h.tape, h.output, h.size, fun j hj _ => h.block j hj⟩
theorem Fr.below (h : Fr [] w w') : Below w.heap.size w w' := ⟨h.os, h.tape, h.output, h.size, fun j hj => h.block j hj (by simp)⟩
theorem fr_step (h : Fr S w w1) (k : Below w1.heap.size w1 w2) : Fr S w w2 :=
  ⟨k.os.trans h.os, k.tape.trans h.tape, k.output.trans h.output, Nat.le_trans h.size k.size, fun j hj hn => (k.block j (Nat.lt_of_lt_of_le hj h.size)).trans (h.block j hj hn)⟩
theorem fr_own (h : Fr S w0 w) (k : w.grownBy w' (some g)) (hg : w0.heap.size ≤ g) : Fr S w0 w' :=
  ⟨k.os.trans h.os, k.tape.trans h.tape, k.output.trans h.output, Nat.le_trans h.size k.size, fun j hj hn => (k.block j (Nat.lt_of_lt_of_le hj h.size) (fun e => by injection e with e; omega)).trans (h.block j hj hn)⟩
theorem fr_in (h : Fr S w0 w) (k : w.grownBy w' (some g)) (hg : g ∈ S) : Fr S w0 w' :=
  ⟨k.os.trans h.os, k.tape.trans h.tape, k.output.trans h.output, Nat.le_trans h.size k.size, fun j hj hn => (k.block j (Nat.lt_of_lt_of_le hj h.size) (fun e => by injection e with e; subst e; exact hn hg)).trans (h.block j hj hn)⟩
theorem fr_call (h : Fr S w0 w) (k : Fr S' w w') (hs : ∀ j, j ∈ S' → j ∈ S ∨ w0.heap.size ≤ j) : Fr S w0 w' :=
  ⟨k.os.trans h.os, k.tape.trans h.tape, k.output.trans h.output, Nat.le_trans h.size k.size, fun j hj hn => (k.block j (Nat.lt_of_lt_of_le hj h.size) (fun e => by rcases hs j e with h | h; exact hn h; omega)).trans (h.block j hj hn)⟩
theorem bl_call (h : Below w0.heap.size w0 w) (k : Fr S' w w') (hs : ∀ j, j ∈ S' → w0.heap.size ≤ j) : Below w0.heap.size w0 w' :=
  ⟨k.os.trans h.os, k.tape.trans h.tape, k.output.trans h.output, Nat.le_trans h.size k.size, fun j hj => (k.block j (Nat.lt_of_lt_of_le hj h.size) (fun e => by have := hs j e; omega)).trans (h.block j hj)⟩
theorem low_fr (h : Fr S w0 w) (hg : w.heap.size ≤ g) : w0.heap.size ≤ g := Nat.le_trans h.size hg
theorem Blk.fr {cs : Array Value} {t : TypeId} (h : Blk w g cs t) (k : Fr S w w') (n : g ∉ S) : Blk w' g cs t := (k.block g h.lt n).trans h
theorem OwnR.fr {α : Type} {base : Nat} {e : TypeId} {E : Enc α} {v : Value} {xs : List α} (h : OwnR w base e E v xs) (k : Fr S w w') (n : ∀ j, j ∈ S → Off v j) : OwnR w' base e E v xs := by
  refine ⟨h.1, ?_⟩
  rcases h.2 with h2 | ⟨q, cap, cur, hv, hq, hc, r⟩
  · exact .inl h2
  · refine .inr ⟨q, cap, cur, hv, hq, ?_, r⟩
    have hq2 : q < w.heap.size := (Array.getElem?_eq_some_iff.1 hc).1
    rw [k.block q hq2 (fun e => n q e (by rw [hv]; rfl))]
    exact hc
theorem fr_app {α : Type} {e : TypeId} {E : Enc α} {v : Value} {xs : List α} (h : Fr S w0 w) (ho : OwnR w w0.heap.size e E v xs) (hg : w.grownBy w' v.ownBlock) : Fr S w0 w' :=
  ⟨hg.os.trans h.os, hg.tape.trans h.tape, hg.output.trans h.output, Nat.le_trans h.size hg.size, fun j hj hn => (hg.block j (Nat.lt_of_lt_of_le hj h.size) (fun e => by have := (ho.lt j e.symm).1; omega)).trans (h.block j hj hn)⟩
theorem ni0 {g : Nat} : g ∉ ([] : List Nat) := by simp
theorem ni1 {g r : Nat} (h : g ≠ r) : g ∉ [r] := by simpa using h
theorem ni2 {g r b : Nat} (h : g ≠ r) (k : g ≠ b) : g ∉ [r, b] := by simp [h, k]
theorem lo1 {m r : Nat} (h : m ≤ r) : ∀ j, j ∈ [r] → m ≤ j := by simpa using h
theorem lo2 {m r b : Nat} (h : m ≤ r) (k : m ≤ b) : ∀ j, j ∈ [r, b] → m ≤ j := by simp [h, k]
theorem of2 {v : Value} {r b : Nat} (h : Off v r) (k : Off v b) : ∀ j, j ∈ [r, b] → Off v j := by intro j hj; simp at hj; rcases hj with rfl | rfl <;> assumption
theorem in20 {r b : Nat} : r ∈ [r, b] := by simp
theorem in21 {r b : Nat} : b ∈ [r, b] := by simp
end

/-! ### closed facts on types -/
def plainT (d : TypeDesc) : Bool := match d with | .struct _ | .array _ _ => false | _ => true
/-- t is laid in one cell. -/
def One (P : Program) (t : TypeId) : Prop := ∃ d i, P.underlying t = some d ∧ plainT d = true ∧ P.info? t = some i ∧ i.size = 1
theorem one_of {P : Program} {t : TypeId} {d : TypeDesc} (h1 : P.underlying t = some d) (h2 : plainT d = true) (h3 : (P.info? t).map (·.size) = some 1) : One P t := by
  cases hi : P.info? t with
  | none => simp [hi] at h3
  | some i => simp [hi] at h3; exact ⟨d, i, h1, h2, hi, h3⟩
/-- The field f of the struct t lies so many cells from its start. -/
def FieldAt (P : Program) (t : TypeId) (f off : Nat) : Prop := ∃ fs fl i, P.underlying t = some (.struct fs) ∧ fs[f]? = some fl ∧ fl.offset = off ∧ P.info? fl.type = some i ∧ i.size ≠ 0
theorem fieldAt_of {P : Program} {t : TypeId} {fs : Array Field} {f off s : Nat} (h1 : P.underlying t = some (.struct fs)) (h2 : (fs[f]?).map (fun fl => (fl.offset, (P.info? fl.type).map (·.size))) = some (off, some (s + 1))) : FieldAt P t f off := by
  cases hf : fs[f]? with
  | none => simp [hf] at h2
  | some fl =>
    simp [hf] at h2
    cases hi : P.info? fl.type with
    | none => simp [hi] at h2
    | some i => simp [hi] at h2; exact ⟨fs, fl, i, h1, hf, h2.1, hi, by omega⟩
/-- The zero value of t is laid so. -/
def ZeroOf (P : Program) (t : TypeId) (cs : Array Value) : Prop := ∃ i z, P.info? t = some i ∧ i.zero = some z ∧ z.cells = cs
theorem zeroOf {P : Program} {t : TypeId} {z : Value} {cs : Array Value} (h : (P.info? t).map (·.zero) = some (some z)) (hc : z.cells = cs) : ZeroOf P t cs := by
  cases hi : P.info? t with
  | none => simp [hi] at h
  | some i => simp [hi] at h; exact ⟨i, z, hi, h, hc⟩

section
variable {P : Program} {o : Oper} {a : Act} (x y : Operand) {t t' : TypeId} {W : World}
theorem run_check (ho : o.op = .nilCheck x) {ad : Addr} (hx : a.eval x = .pointer (some ad)) (W : World) : (execOp a.eval o).run P W = .ok (.value (.pointer (some ad))) W := run_nilCheck x ho hx W
theorem run_fieldA {f off k k' : Nat} (ho : o.op = .fieldAddr t x f) (T : FieldAt P t f off) {g : Nat} (hx : a.eval x = .pointer (some ⟨g, k, none⟩)) (hk : k + off = k') (W : World) :
    (execOp a.eval o).run P W = .ok (.value (.pointer (some ⟨g, k', none⟩))) W := by
  obtain ⟨fs, fl, i, h1, h2, rfl, h4, h5⟩ := T
  subst hk
  exact run_fieldAddr x ho h1 h2 ⟨i, h4, h5⟩ hx W
theorem run_loadB (ho : o.op = .load t x) (T : One P t) {g i : Nat} (hx : a.eval x = .pointer (some ⟨g, i, none⟩)) {cs : Array Value} {t' : TypeId} (hB : Blk W g cs t') {v : Value} (hc : cs[i]? = some v) : (execOp a.eval o).run P W = .ok (.value v) W := by
  obtain ⟨d, z, h1, h2, h3, h4⟩ := T
  exact run_load1 x ho h1 (by cases d <;> first | rfl | cases h2) ⟨z, h3, h4⟩ hx ((hB.cell i).trans hc)
theorem run_storeB (ho : o.op = .store t x y) (T : One P t) {g i : Nat} {cs : Array Value} {t' : TypeId} (hB : Blk W g cs t') (hi : i < cs.size) (hx : a.eval x = .pointer (some ⟨g, i, none⟩)) {v : Value} (hy : a.eval y = v) (hv : v.oneCell' = true) (hc : v.cells = #[v]) :
    (execOp a.eval o).run P W = .ok .skip (W.setCell ⟨g, i, none⟩ v) := by
  obtain ⟨d, z, h1, h2, h3, h4⟩ := T
  exact run_store1 x y ho ⟨z, h3, h4⟩ hB hi hx hy hv hc
theorem run_boxV (ho : o.op = .box t x) {v : Value} {cs : Array Value} (hx : a.eval x = v) (hc : v.cells = cs) (W : World) : (execOp a.eval o).run P W = .ok (.value (.pointer (some ⟨W.heap.size, 0, none⟩))) (W.alloc (.cells cs t)) := by
  subst hx hc
  unfold execOp
  simp only [ho]
  simp [Instr.box, newVar, newRow]
theorem run_allocV (ho : o.op = .alloc t) {cs : Array Value} (T : ZeroOf P t cs) (W : World) : (execOp a.eval o).run P W = .ok (.value (.pointer (some ⟨W.heap.size, 0, none⟩))) (W.alloc (.cells cs t)) := by
  obtain ⟨i, z, h1, h2, rfl⟩ := T
  unfold execOp
  simp only [ho]
  simp [Instr.alloc, newVar, newRow, zeroValue, typeInfo, h1, h2]
theorem run_buildV {parts : Array (Nat × Operand)} (ho : o.op = .build t parts) {cs : Array Value} (h : P.built t (parts.map fun (i, x) => (i, a.eval x)).toList = some cs) (W : World) : (execOp a.eval o).run P W = .ok (.value (.agg cs)) W := by
  unfold execOp
  simp only [ho, Sem.run_bind, run_build W t _ cs h, Result.andThen_ok, Sem.run_pure]
omit x y in
theorem eqIn_func_nil (d : Nat) {t : TypeId} {ps rs : Array TypeId} {vr : Bool} (ht : P.underlying t = some (.func ps rs vr)) (f : Fn) (u c : Array Value) (W : World) : (Op.equalIn (d + 1) t (.func f u c) .nilFunc).run P W = .ok false W := by
  simp [Op.equalIn, run_underlying ht]
omit x y in
theorem eqIn_bool (d : Nat) {t : TypeId} (ht : P.underlying t = some .bool) (b c : Bool) (W : World) : (Op.equalIn (d + 1) t (.bool b) (.bool c)).run P W = .ok (b == c) W := by simp [Op.equalIn, run_underlying ht]
theorem run_eqnil (ho : o.op = .binOp .eql t x y t') {e : TypeId} (ht : P.underlying t = some (.pointer e)) {p : Option Addr} {b : Bool} (hx : a.eval x = .pointer p) (hy : a.eval y = .pointer none) (hb : p.isNone = b) (W : World) : (execOp a.eval o).run P W = .ok (.value (.bool b)) W := by
  subst hb
  have hp : P.pointee t = e := by simp [Program.pointee, ht]
  have h := run_eql_pointer_nil (P := P) W t p (by rw [hp]; exact ht)
  unfold execOp; simp only [ho, hx, hy]
  simp [eqGuard, h]
theorem run_eqnilF (ho : o.op = .binOp .eql t x y t') {ps rs : Array TypeId} {vr : Bool} (ht : P.underlying t = some (.func ps rs vr)) {f : Fn} {u c : Array Value} (hx : a.eval x = .func f u c) (hy : a.eval y = .nilFunc) (W : World) : (execOp a.eval o).run P W = .ok (.value (.bool false)) W := by
  have e : binOp .eql t (.func f u c) .nilFunc = (do pure (.bool (← Op.equal t (.func f u c) .nilFunc))) := rfl
  have r := eqIn_func_nil (P := P) 9999 ht f u c W
  unfold execOp
  simp only [ho, hx, hy, e]
  simp [eqGuard, Op.equal, Op.maxDepth, r]
theorem runm_eql_bool (ho : o.op = .binOp .eql t x y t') (ht : P.underlying t = some .bool) {b c : Bool} (hx : a.eval x = .bool b) (hy : a.eval y = .bool c) (W : World) : (execOp a.eval o).run P W = .ok (.value (.bool (b == c))) W := by
  have e : binOp .eql t (.bool b) (.bool c) = (do pure (.bool (← Op.equal t (.bool b) (.bool c)))) := rfl
  have r := eqIn_bool (P := P) 9999 ht b c W
  unfold execOp
  simp only [ho, hx, hy, e]
  simp [eqGuard, Op.equal, Op.maxDepth, r]
theorem runm_neq_bool (ho : o.op = .binOp .neq t x y t') (ht : P.underlying t = some .bool) {b c : Bool} (hx : a.eval x = .bool b) (hy : a.eval y = .bool c) (W : World) : (execOp a.eval o).run P W = .ok (.value (.bool (b != c))) W := by
  have e : binOp .neq t (.bool b) (.bool c) = (do pure (.bool !(← Op.equal t (.bool b) (.bool c)))) := rfl
  have r := eqIn_bool (P := P) 9999 ht b c W
  unfold execOp
  simp only [ho, hx, hy, e]
  simp [eqGuard, Op.equal, Op.maxDepth, r, bne]
theorem run_remN (ho : o.op = .binOp .rem t x y t') {X : Int} {m n : Nat} (hx : a.eval x = .int .i64 X) (hy : a.eval y = .int .i64 (n : Int)) (hX : X = (m : Int)) (hn : 0 < n) (W : World) : (execOp a.eval o).run P W = .ok (.value (.int .i64 ((m % n : Nat) : Int))) W := by
  subst hX
  unfold execOp; simp only [ho, hx, hy]
  have h0 : (n : Int) ≠ 0 := by omega
  simp [go_sem, eqGuard, h0]
  split
  · omega
  · simp [Int.tmod_eq_emod_of_nonneg (a := (m : Int)) (b := (n : Int)) (by omega)]
theorem run_quoN (ho : o.op = .binOp .quo t x y t') {X Y : Int} {m n : Nat} (hx : a.eval x = .int .i64 X) (hy : a.eval y = .int .i64 Y) (hX : X = (m : Int)) (hY : Y = (n : Int)) (hn : 0 < n) (hm : m ≤ 9223372036854775807) (W : World) : (execOp a.eval o).run P W = .ok (.value (.int .i64 ((m / n : Nat) : Int))) W := by
  subst hX hY
  unfold execOp; simp only [ho, hx, hy]
  have h0 : (n : Int) ≠ 0 := by omega
  have h1 := IntWalk.i64_quo (m : Int) (n : Int) (by omega)
  simp [go_sem, eqGuard, h0]
  split
  · omega
  · rw [← Int.natCast_ediv]
    have h2 := Nat.div_le_self m n
    generalize m / n = q at *
    rw [IntWalk.i64_in (q : Int) (by omega)]
theorem run_index1 (ho : o.op = .indexAddr t x y) {e : TypeId} (ht : P.underlying t = some (.slice e)) (hs : (P.info? e).map (·.size) = some 1) {b l c i : Nat} {X : Int} (hx : a.eval x = .slice (some ⟨b, 0, none⟩) l c) (hy : a.eval y = .int .i64 X) (hX : X = (i : Int)) (h : i < l) (W : World) :
    (execOp a.eval o).run P W = .ok (.value (.pointer (some ⟨b, i, none⟩))) W := by
  subst hX
  cases hi : P.info? e with
  | none => simp [hi] at hs
  | some z =>
    simp [hi] at hs
    have := run_indexAddrN (sz := 1) x y ho ht ⟨z, hi, hs⟩ hx hy h W
    simpa using this
theorem run_func {f : Fn} {c : Array Operand} (ho : o.op = .makeFunc f #[] c) {v : Value} (hv : .func f #[] (c.map a.eval) = v) (W : World) : (execOp a.eval o).run P W = .ok (.value v) W := by
  subst hv
  unfold execOp; simp only [ho]
  simp [Instr.makeFunc]
end

/-! ### rows of numbers in a block -/
@[irreducible] def ints (l : List Int) : Array Value := (l.map (Value.int .i64)).toArray
theorem ints_size (l : List Int) : (ints l).size = l.length := by unfold ints; simp
theorem ints_get (l : List Int) (i : Nat) (h : i < l.length) : (ints l)[i]? = some (.int .i64 (nth l i)) := by unfold ints nth; simp [h]
theorem ints_set (l : List Int) (i : Nat) (x : Int) : (ints l).setIfInBounds i (.int .i64 x) = ints (l.set i x) := by unfold ints; simp [List.map_set]
theorem ints_lt {l : List Int} {i : Nat} (h : i < l.length) : i < (ints l).size := by rw [ints_size]; exact h
theorem nth_set (l : List Int) (i j : Nat) (x : Int) : nth (l.set i x) j = if i = j ∧ i < l.length then x else nth l j := by
  unfold nth
  simp only [List.getD_eq_getElem?_getD, List.getElem?_set]
  by_cases h : i = j
  · subst h
    by_cases h2 : i < l.length <;> simp [h2]
  · simp [h]
theorem run_makeInts {P : Program} {o : Oper} {a : Act} {t e : TypeId} (x : Operand) (ho : o.op = .makeSlice t x x) (ht : P.underlying t = some (.slice e)) (hi : (P.info? e).map (fun i => (i.zero, i.size, i.bytes)) = some (some (.int .i64 0), 1, 8)) {X : Int} {N : Nat} (hx : a.eval x = .int .i64 X) (hX : X = (N : Int)) (hN : N ≤ 1000000) (W : World) :
    (execOp a.eval o).run P W = .ok (.value (.slice (some ⟨W.heap.size, 0, none⟩) N N)) (W.alloc (.cells (ints (List.replicate N 0)) e)) := by
  subst hX
  obtain ⟨i, h1, h2, h3, h4⟩ := info_parts hi
  have hr := run_makeSlice (P := P) W t e i (.int .i64 0) ht h1 h2 .i64 .i64 (N : Int) (N : Int) (by omega) (Int.le_refl _) (by rw [h3]; omega) (by rw [h4]; omega) (by omega)
  have hm : madeCells (Value.int .i64 0).cells (((N : Int)).toNat * i.size) = ints (List.replicate N 0) := by
    rw [h3]
    unfold ints
    apply Array.ext'
    simp [madeCells, Value.cells, Nat.mod_one, List.map_const']
  rw [hm] at hr
  unfold execOp; simp only [ho, hx, Sem.run_bind, hr]
  simp
end Go.Proofs.Ytkebpmcgmmhifaa

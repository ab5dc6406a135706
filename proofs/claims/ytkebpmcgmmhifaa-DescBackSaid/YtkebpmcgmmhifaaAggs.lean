/- Structs in rows and in variables: loads, stores, cuts, '==' field by field. -/
import Derived.Test.YtkebpmcgmmhifaaRowStep
import Derived.Test.YtkebpmcgmmhifaaOpen
import Derived.Test.YtkebpmcgmmhifaaEqs
import Derived.Test.YtkebpmcgmmhifaaMem
import Derived.Deep.MidRow
import Derived.Laws.StructEq
namespace Go.Proofs.Ytkebpmcgmmhifaa
open Go.RowKit Go.WideShapes Go.ChangeShapes

/-- t is a struct (or an array) of so many cells. -/
def AggT (P : Program) (t : TypeId) (n : Nat) : Prop := ∃ d i, P.underlying t = some d ∧ d.isRow = true ∧ P.info? t = some i ∧ i.size = n
theorem aggT {P : Program} {t : TypeId} {d : TypeDesc} {n : Nat} (h1 : P.underlying t = some d) (h2 : d.isRow = true) (h3 : (P.info? t).map (·.size) = some n) : AggT P t n := by
  cases hi : P.info? t with
  | none => simp [hi] at h3
  | some i => simp [hi] at h3; exact ⟨d, i, h1, h2, hi, h3⟩
section
variable {P : Program} {o : Oper} {a : Act} (x y : Operand) {t : TypeId} {W : World}
theorem run_loadE {α : Type} {E : Enc α} (ho : o.op = .load t x) (T : AggT P t E.sz) {b off i : Nat} {xs : List α} (hx : a.eval x = .pointer (some ⟨b, off + i * E.sz, none⟩)) (hr : Reads W (some ⟨b, off, none⟩) (E.all xs)) {u : α} (hu : xs[i]? = some u) :
    (execOp a.eval o).run P W = .ok (.value (.agg (E.enc u).toArray)) W := by
  obtain ⟨d, z, h1, h2, h3, h4⟩ := T
  have hc : W.rangeAt b (off + i * E.sz) (E.enc u) := fun j v hv => by
    have hj : j < E.sz := by rw [← E.len u]; exact (List.getElem?_eq_some_iff.1 hv).1
    obtain ⟨b', off', e, hc⟩ := hr (i * E.sz + j) v (by rw [E.all_get xs i j u hu hj]; exact hv)
    injection e with e; injection e with e1 e2; subst e1 e2
    rw [Nat.add_assoc]
    exact hc
  have hl := run_loadVar_mid (P := P) W b (off + i * E.sz) t (E.enc u) d hc h1 h2 (by rw [h3, Option.map_some, h4, E.len])
  unfold execOp
  simp only [ho, hx, Instr.loadAt, Instr.sureAddr, Sem.run_bind, Sem.run_pure, Result.andThen_ok, hl]
theorem run_loadW (ho : o.op = .load t x) {cs : Array Value} (T : AggT P t cs.size) {g : Nat} (hx : a.eval x = .pointer (some ⟨g, 0, none⟩)) {t' : TypeId} (hB : Blk W g cs t') : (execOp a.eval o).run P W = .ok (.value (.agg cs)) W := by
  obtain ⟨d, z, h1, h2, h3, h4⟩ := T
  have hc : W.rangeAt g 0 cs.toList := fun j v hv => by rw [Nat.zero_add, hB.cell]; simpa using hv
  have hl := run_loadVar_mid (P := P) W g 0 t cs.toList d hc h1 h2 (by rw [h3, Option.map_some, h4]; simp)
  unfold execOp
  simp only [ho, hx, Instr.loadAt, Instr.sureAddr, Sem.run_bind, Sem.run_pure, Result.andThen_ok, hl, Array.toArray_toList]
theorem run_storeW (ho : o.op = .store t x y) {old cs : Array Value} (T : AggT P t cs.size) {g : Nat} (hx : a.eval x = .pointer (some ⟨g, 0, none⟩)) (hy : a.eval y = .agg cs) {t' : TypeId} (hB : Blk W g old t') (hs : old.size = cs.size) (h1 : cs.all (·.oneCell') = true) :
    (execOp a.eval o).run P W = .ok .skip (W.setRow g cs) := by
  obtain ⟨d, z, _, _, h3, h4⟩ := T
  unfold execOp
  simp only [ho, hx, hy, Instr.storeAt, Instr.sureAddr, Sem.run_bind, Sem.run_pure, Result.andThen_ok]
  rw [run_storeVar_row W g t' t old cs hB (by rw [h3, Option.map_some, h4]) hs h1]
  rfl
end
theorem Reads.takeE {α : Type} {E : Enc α} {w : World} {A : Option Addr} {xs : List α} (h : Reads w A (E.all xs)) (n : Nat) : Reads w A (E.all (xs.take n)) := by rw [E.all_take]; exact h.take _
theorem Reads.posE {α : Type} {E : Enc α} {w : World} {A : Option Addr} {xs : List α} (h : Reads w A (E.all xs)) (hp : 0 < E.sz) (hx : 0 < xs.length) : ∃ b off, A = some ⟨b, off, none⟩ ∧ True := by
  obtain ⟨b, off, hA, _⟩ := h.at_ (by rw [E.all_length]; exact Nat.mul_pos hx hp)
  exact ⟨b, off, hA, trivial⟩

/-! ### '==' field by field -/
def eqL (d : Nat) (xs ys : Array Value) : List (String × TypeId × Nat) → Sem Bool
  | [] => pure true
  | f :: fs =>
    if f.1 ≠ "_" then do
      let a ← part f.2.1 xs f.2.2
      let b ← part f.2.1 ys f.2.2
      let r ← Op.equalIn d f.2.1 a b
      if (!r) = true then pure false else eqL d xs ys fs
    else eqL d xs ys fs
theorem eqFields_eqL (d : Nat) (xs ys : Array Value) : ∀ fs : List Field, Op.eqFields d xs ys fs = eqL d xs ys (fs.map fun f => (f.name, f.type, f.offset))
  | [] => rfl
  | f :: fs => by
    have ih := eqFields_eqL d xs ys fs
    simp only [Op.eqFields, eqL, List.map_cons, ih]
section
variable {P : Program} {d : Nat} {xs ys : Array Value} {fs : List (String × TypeId × Nat)} {n : String} {t : TypeId} {off : Nat} {W : World}
theorem eqL_nil : (eqL d xs ys []).run P W = .ok true W := rfl
theorem eqL_one {v u : Value} {b : Bool} (hn : n ≠ "_") (ha : (isAgg t).run P W = .ok false W) (hv : xs[off]? = some v) (hu : ys[off]? = some u) (he : (Op.equalIn d t v u).run P W = .ok b W) :
    (eqL d xs ys ((n, t, off) :: fs)).run P W = if b = true then (eqL d xs ys fs).run P W else .ok false W := by
  have p1 : (part t xs off).run P W = .ok v W := by simp [part, ha, hv]
  have p2 : (part t ys off).run P W = .ok u W := by simp [part, ha, hu]
  rw [eqL, if_pos (show (n, t, off).1 ≠ "_" from hn)]
  simp only [Sem.run_bind, p1, p2, he, Result.andThen_ok]
  cases b <;> simp
theorem eqL_sub {b : Bool} {s : Nat} (hn : n ≠ "_") (ha : (isAgg t).run P W = .ok true W) (hs : (sizeOf t).run P W = .ok s W) (he : (Op.equalIn d t (.agg (xs.extract off (off + s))) (.agg (ys.extract off (off + s)))).run P W = .ok b W) :
    (eqL d xs ys ((n, t, off) :: fs)).run P W = if b = true then (eqL d xs ys fs).run P W else .ok false W := by
  have p1 : (part t xs off).run P W = .ok (.agg (xs.extract off (off + s))) W := by simp [part, ha, hs]
  have p2 : (part t ys off).run P W = .ok (.agg (ys.extract off (off + s))) W := by simp [part, ha, hs]
  rw [eqL, if_pos (show (n, t, off).1 ≠ "_" from hn)]
  simp only [Sem.run_bind, p1, p2, he, Result.andThen_ok]
  cases b <;> simp
theorem eqI_str (h : P.underlying t = some .string) (l m : List UInt8) : (Op.equalIn (d + 1) t (.string (str l)) (.string (str m))).run P W = .ok (decide (l = m)) W := by
  rw [run_equalIn_string W d t _ _ h, str_toList, str_toList, list_beq]
theorem eqI_int {k : IntKind} (h : P.underlying t = some (.int k)) (a b : Int) : (Op.equalIn (d + 1) t (.int k a) (.int k b)).run P W = .ok (decide (a = b)) W := by
  rw [run_equalIn_int W d t k k a b h]
  congr 1
theorem eqI_bool (h : P.underlying t = some .bool) (a b : Bool) : (Op.equalIn (d + 1) t (.bool a) (.bool b)).run P W = .ok (decide (a = b)) W := by
  rw [run_equalIn_bool' W d t a b h]
  congr 1
theorem eqI_struct {fs : List (String × TypeId × Nat)} {r : Bool} (hu : P.underlying t = some (.struct (P.fieldsOf t))) (hp : P.stoodInHeld t = false) (hf : ((P.fieldsOf t).toList.map fun f => (f.name, f.type, f.offset)) = fs) (h : (eqL d xs ys fs).run P W = .ok r W) :
    (Op.equalIn (d + 1) t (.agg xs) (.agg ys)).run P W = .ok r W := by
  rw [run_equalIn_agg W d t xs ys hu hp, eqFields_eqL, hf, h]
end
/-- Two values of a struct are equal where the things that they stand for are. -/
structure EqA {α : Type} [DecidableEq α] (P : Program) (t : TypeId) (E : Enc α) (ok : α → Prop) : Prop where
  guard : P.eqGuardType P.depth t = false
  eq : ∀ (d : Nat) (p q : α) (W : World), ok p → ok q → (Op.equalIn (d + 5) t (.agg (E.enc p).toArray) (.agg (E.enc q).toArray)).run P W = .ok (decide (p = q)) W
section
variable {P : Program} {o : Oper} {a : Act} (x y : Operand) {t t' : TypeId} {α : Type} [DecidableEq α] {E : Enc α} {ok : α → Prop}
theorem run_eql_agg (ho : o.op = .binOp .eql t x y t') (T : EqA P t E ok) {p q : α} (hx : a.eval x = .agg (E.enc p).toArray) (hy : a.eval y = .agg (E.enc q).toArray) (hp : ok p) (hq : ok q) (W : World) : (execOp a.eval o).run P W = .ok (.value (.bool (decide (p = q)))) W := by
  have h1 := run_eqGuard_agg (P := P) W .eql t x y (E.enc p).toArray (E.enc q).toArray T.guard
  have h2 := run_eql_struct (P := P) W t (E.enc p).toArray (E.enc q).toArray
  rw [show (10000 : Nat) = 9995 + 5 from rfl, T.eq 9995 p q W hp hq] at h2
  unfold execOp
  simp only [ho, hx, hy]
  simp [h1, h2]
theorem run_neq_agg (ho : o.op = .binOp .neq t x y t') (T : EqA P t E ok) {p q : α} (hx : a.eval x = .agg (E.enc p).toArray) (hy : a.eval y = .agg (E.enc q).toArray) (hp : ok p) (hq : ok q) (W : World) : (execOp a.eval o).run P W = .ok (.value (.bool (!decide (p = q)))) W := by
  have h1 := run_eqGuard_agg (P := P) W .neq t x y (E.enc p).toArray (E.enc q).toArray T.guard
  have h2 := run_neq_struct (P := P) W t (E.enc p).toArray (E.enc q).toArray
  rw [show (10000 : Nat) = 9995 + 5 from rfl, T.eq 9995 p q W hp hq] at h2
  unfold execOp
  simp only [ho, hx, hy]
  simp [h1, h2]
end
/-- &a[i] of an array in a variable. -/
theorem run_indexArr {P : Program} {o : Oper} {a : Act} (x y : Operand) {t e : TypeId} {n sz : Nat} (ho : o.op = .indexAddr t x y) (ht : P.underlying t = some (.array n e)) (hs : (P.info? e).map (·.size) = some sz) {b i k k' : Nat} (hx : a.eval x = .pointer (some ⟨b, k, none⟩)) {K : IntKind} {X : Int} (hy : a.eval y = .int K X) (hX : X = (i : Int)) (hk : k + i * sz = k') (h : i < n) (W : World) :
    (execOp a.eval o).run P W = .ok (.value (.pointer (some ⟨b, k', none⟩))) W := by
  subst hX hk
  cases hi : P.info? e with
  | none => simp [hi] at hs
  | some z =>
    simp [hi] at hs
    have h0 : (i : Int) < (n : Int) := by omega
    unfold execOp; simp only [ho, hx, hy]
    simp [Instr.indexAt, asIntOf, run_underlying ht, Instr.sureAddr, sizeOf, typeInfo, hi, h, hs, add_none, Addr.add]
theorem results_cell1t {P : Program} {fn : Func} {p u : Tmp} {ty t : TypeId} (h : fn.results = #[.cell p ty, .tmp u]) (T : One P ty) {tmps : Array Value} {w : World} {g : Nat} {v : Value} (hp : tmps.getD p undef = .pointer (some ⟨g, 0, none⟩)) (hB : Blk w g #[v] t) : (results fn tmps).run P w = .ok (.tuple #[v, tmps.getD u undef]) w := by
  obtain ⟨d, i, h1, h2, h3, h4⟩ := T
  have hagg : (isAgg ty).run P w = .ok false w := by
    unfold isAgg
    rw [Sem.run_bind, run_underlying h1 w]
    cases d <;> simp_all [plainT]
  have hc : w.cell? ⟨g, 0, none⟩ = some v := by rw [hB.cell]; rfl
  have hp' : tmps[p]?.getD undef = .pointer (some ⟨g, 0, none⟩) := by simpa using hp
  simp only [results, h]
  simp [Sem.run_bind, hp', asAddr, loadVar, hagg, hc]
theorem I64_of' {n : Int} (h : (Lit.int .i64 n).wf = true) : -9223372036854775808 ≤ n ∧ n ≤ 9223372036854775807 := by
  simp [Lit.wf, IntKind.min, IntKind.max, IntKind.bits, IntKind.signed] at h
  omega
theorem U64_of {n : Int} (h : (Lit.int .u64 n).wf = true) : 0 ≤ n ∧ n < 18446744073709551616 := by
  simp [Lit.wf, IntKind.min, IntKind.max, IntKind.bits, IntKind.signed] at h
  omega
theorem I32_of {n : Int} (h : (Lit.int .i32 n).wf = true) : -2147483648 ≤ n ∧ n ≤ 2147483647 := by
  simp [Lit.wf, IntKind.min, IntKind.max, IntKind.bits, IntKind.signed] at h
  omega
end Go.Proofs.Ytkebpmcgmmhifaa

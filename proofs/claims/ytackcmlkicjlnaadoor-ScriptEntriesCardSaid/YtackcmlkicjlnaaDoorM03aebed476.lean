/- Lemmas that the chapter's laws rest on: EvNumL, Range, Facts6, Facts7, OwnRd, ScNums, EvLib, EvText2, EvText3, ScText, ScText2, ScNames. -/
import Derived.Test.YtackcmlkicjlnaaDoorM359e5e8f9c
import Derived.RangeFuncNested
import Derived.RangeFuncCalls
import Derived.RangeFuncLeaves
import Derived.Shelf.Abstract
import Derived.Test.YtackcmlkicjlnaaDoorShelf
/- Operations on uint64 and int64 that numbers' texts want. -/
namespace Go.Proofs.YtackcmlkicjlnaaDoor
open Go.RowKit Go.WideShapes Go.ChangeShapes

section
variable {P : Program} {o : Oper} {a : Act} (x y z : Operand) {t t' : TypeId}
theorem run_quoU (ho : o.op = .binOp .quo t x y t') {m n : Nat} (hx : a.eval x = .int .u64 (m : Int)) (hy : a.eval y = .int .u64 (n : Int)) (hn : 0 < n) (hm : m < 2 ^ 64) (W : World) : (execOp a.eval o).run P W = .ok (.value (.int .u64 ((m / n : Nat) : Int))) W := by
  unfold execOp; simp only [ho, hx, hy]
  have h0 : (n : Int) ≠ 0 := by omega
  have h2 := Nat.div_le_self m n
  simp [go_sem, eqGuard, h0]
  split
  · omega
  · rw [← Int.natCast_ediv]
    generalize m / n = q at *
    rw [wrap_u64z]
    simp; omega
theorem run_remU (ho : o.op = .binOp .rem t x y t') {m n : Nat} (hx : a.eval x = .int .u64 (m : Int)) (hy : a.eval y = .int .u64 (n : Int)) (hn : 0 < n) (W : World) : (execOp a.eval o).run P W = .ok (.value (.int .u64 ((m % n : Nat) : Int))) W := by
  unfold execOp; simp only [ho, hx, hy]
  have h0 : (n : Int) ≠ 0 := by omega
  simp [go_sem, eqGuard, h0]
  split
  · omega
  · simp [Int.tmod_eq_emod_of_nonneg (a := (m : Int)) (b := (n : Int)) (by omega)]
theorem bounds_textU (P : Program) (W : World) (n p q : Nat) (hpq : p ≤ q) (hq : q ≤ n) : (Instr.sliceBounds false n n (some (.int .u64 (p : Int))) (some (.int .u64 (q : Int))) none).run P W = .ok (p, q, n) W := by
  simp [Instr.sliceBounds, Instr.sliceBound, asIntOf, hpq, hq]
theorem run_sub_textU (ho : o.op = .slice t x (some y) (some z) none) (ht : P.underlying t = some .string) {l : List UInt8} {p q : Nat} {I J : Int} (hx : a.eval x = .string (str l)) (hy : a.eval y = .int .u64 I) (hz : a.eval z = .int .u64 J) (hI : I = (p : Int)) (hJ : J = (q : Int)) (hpq : p ≤ q) (hq : q ≤ l.length) (W : World) :
    (execOp a.eval o).run P W = .ok (.value (.string (str ((l.take q).drop p)))) W := by
  subst hI hJ
  have r1 := run_sliceAt_string (P := P) W t (.string (str l)) (some (.int .u64 (p : Int))) (some (.int .u64 (q : Int))) none ht
  have hb := bounds_textU P W l.length p q hpq hq
  unfold execOp; simp only [ho]; generalize a.eval = ρ at *
  simp only [Option.map_none, Option.map_some, hx, hy, hz, Sem.run_bind, r1, Instr.slice, run_underlying ht, Result.andThen_ok, str_size, hb]
  simp [hb, str_extract]
theorem run_digitU (ho : o.op = .slice t x (some y) (some z) none) (ht : P.underlying t = some .string) {n : Nat} (hx : a.eval x = .string (str [48, 49, 50, 51, 52, 53, 54, 55, 56, 57])) (hy : a.eval y = .int .u64 (n : Int)) (hz : a.eval z = .int .u64 ((n + 1 : Nat) : Int)) (hn : n < 10) (W : World) :
    (execOp a.eval o).run P W = .ok (.value (.string (str (tdec n)))) W := by
  rw [run_sub_textU x y z ho ht hx hy hz rfl rfl (Nat.le_succ n) (by show n + 1 ≤ 10; omega) W, tdec_small hn]
  have key : ∀ n : Fin 10, ((([48, 49, 50, 51, 52, 53, 54, 55, 56, 57] : List UInt8).take (n.val + 1)).drop n.val) = [tdg n.val] := by decide
  rw [key ⟨n, hn⟩]
/-- n / 10 and n % 10 of a whole number, as Go has them. -/
theorem run_quo10 (ho : o.op = .binOp .quo t x y t') {m : Int} (hx : a.eval x = .int .i64 m) (hy : a.eval y = .int .i64 10) (hm : -9223372036854775808 ≤ m ∧ m ≤ 9223372036854775807) (W : World) : (execOp a.eval o).run P W = .ok (.value (.int .i64 (m.tdiv 10))) W := by
  unfold execOp; simp only [ho, hx, hy]
  have h1 : IntKind.i64.wrap (m.tdiv 10) = m.tdiv 10 := by
    rcases Int.le_total 0 m with h | h
    · rw [Int.tdiv_eq_ediv_of_nonneg h]; exact IntWalk.i64_in _ (by omega)
    · obtain ⟨k, rfl⟩ : ∃ k : Nat, m = -(k : Int) := ⟨m.natAbs, by omega⟩
      rw [Int.neg_tdiv, Int.tdiv_eq_ediv_of_nonneg (by omega)]; exact IntWalk.i64_in _ (by omega)
  simp [go_sem, eqGuard, h1]
theorem run_rem10 (ho : o.op = .binOp .rem t x y t') {m : Int} (hx : a.eval x = .int .i64 m) (hy : a.eval y = .int .i64 10) (W : World) : (execOp a.eval o).run P W = .ok (.value (.int .i64 (m.tmod 10))) W := by
  unfold execOp; simp only [ho, hx, hy]
  simp [go_sem, eqGuard]
end
theorem run_convB {o : Oper} {a : Act} {W : World} {base : Nat} {e' : TypeId} {v : Value} {l : List UInt8} (x : Operand) (ho : o.op = .convert 45 9 x) (hx : a.eval x = v) (h : OwnR W base e' eByte v l) : (execOp a.eval o).run Tryd.prog W = .ok (.value (.string (str l))) W := by
  unfold execOp; simp only [ho, hx]
  have e := h.str 45 9 5 Tryd.underlying45 Tryd.underlying5 Tryd.underlying9
  simp [e]
theorem run_conv_i64_u8 {P : Program} {o : Oper} {a : Act} {t t' : TypeId} (x : Operand) {z z' : Int} (ho : o.op = .convert t t' x) (ht : P.underlying t = some (.int .i64)) (ht' : P.underlying t' = some (.int .u8)) (hx : a.eval x = .int .i64 z) (hz : IntKind.u8.wrap z = z') (W : World) : (execOp a.eval o).run P W = .ok (.value (.int .u8 z')) W := by
  subst hz
  unfold execOp; simp only [ho, hx]
  simp [convert, run_underlying ht, run_underlying ht', go_sem]
/-! ### digits from the back -/
theorem tmod_nat (z : Int) : (0 ≤ z → z.tmod 10 = ((z.natAbs % 10 : Nat) : Int)) ∧ (z < 0 → z.tmod 10 = -((z.natAbs % 10 : Nat) : Int)) := by
  constructor
  · intro h
    obtain ⟨k, rfl⟩ : ∃ k : Nat, z = (k : Int) := ⟨z.natAbs, by omega⟩
    rw [Int.tmod_eq_emod_of_nonneg (by omega)]; simp
  · intro h
    obtain ⟨k, rfl⟩ : ∃ k : Nat, z = -(k : Int) := ⟨z.natAbs, by omega⟩
    rw [Int.neg_tmod, Int.tmod_eq_emod_of_nonneg (by omega)]; simp
theorem tdiv_nat (z : Int) : (z.tdiv 10).natAbs = z.natAbs / 10 ∧ (10 ≤ z.natAbs → (z.tdiv 10 < 0 ↔ z < 0)) := by
  rcases Int.le_total 0 z with h | h
  · rw [Int.tdiv_eq_ediv_of_nonneg h]; omega
  · obtain ⟨k, rfl⟩ : ∃ k : Nat, z = -(k : Int) := ⟨z.natAbs, by omega⟩
    rw [Int.neg_tdiv, Int.tdiv_eq_ediv_of_nonneg (by omega)]; omega
theorem tdec_next {m : Nat} {s t : List UInt8} (h : t = tdec m ++ s) (hm : 10 ≤ m) : t = tdec (m / 10) ++ (tdg m :: s) := by
  rw [h, tdec_big hm]; simp
theorem tdec_last {m : Nat} {s t : List UInt8} (h : t = tdec m ++ s) (hm : m < 10) : t = tdg m :: s := by
  rw [h, tdec_small hm]; rfl
theorem pow_next {i m : Nat} (hi : i ≤ 18) (h : m < 10 ^ (19 - i)) : m / 10 < 10 ^ (19 - (i + 1)) := by
  have e : 10 ^ (19 - i) = 10 ^ (19 - (i + 1)) * 10 := by rw [← Nat.pow_succ]; congr 1; omega
  omega
theorem tdg_ofNat (z : Int) : (tdg z.natAbs) = UInt8.ofNat (48 + z.natAbs % 10) := rfl
end Go.Proofs.YtackcmlkicjlnaaDoor

/- Ranges over a function, in walks that gen/wy.py prints: the caller's law at the plain walk, a round's walk, the iterator's call of yield. -/
namespace Go.Proofs.YtackcmlkicjlnaaDoor
open Go.RowKit Go.WideShapes Go.ChangeShapes

/-- The rounds of a loop that has few. -/
def rnds (P : Program) (c : Code) (Q : Exit → Act → World → Prop) : Nat → Act → World → Prop
  | 0, a, w => c.wp P (Exit.then (fun _ _ => False) Q) a w
  | n + 1, a, w => c.wp P (Exit.then (rnds P c Q n) Q) a w
theorem then_mono' {Q : Exit → Act → World → Prop} {f g : Act → World → Prop} (h : ∀ a w, f a w → g a w) : ∀ e a w, Exit.then f Q e a w → Exit.then g Q e a w := by
  intro e a w
  cases e <;> simp only [Exit.then] <;> first | exact h a w | exact id
theorem wp_loop_rnds {P : Program} {c : Code} {Q : Exit → Act → World → Prop} {a : Act} {w : World} (n : Nat) (h : rnds P c Q n a w) : (Code.loop c).wp P Q a w := by
  refine wp_loop_left (rnds P c Q) n h fun n a w hn => ?_
  cases n with
  | zero => exact wp_mono hn (then_mono' fun _ _ f => f.elim)
  | succ n => exact wp_mono hn (then_mono' fun a' w' f => ⟨n, Nat.lt_succ_self n, f⟩)

/-- The wide fence, in a round or not. -/
abbrev FW (ro : Option Nat) : Fence := { fn := fun _ => True, depth := none, alive := false, round := ro }
def nodefer (o : Oper) : Bool := match o.op with | .defer _ => false | _ => true
theorem fw_calls {ro : Option Nat} {n : Nat} {P : Program} {f : FuncId} {args : Array Value} {w : World} {R : Ending → World → Prop} (h : Calls P f args w R) : CallsIn (FW ro) n P f args w R := by
  cases ro with
  | none => exact callsIn_wide.2 h
  | some l => exact CallsIn.inRound l (callsIn_wide.2 h)

/-- All cells' blocks but those of S are as they were. -/
structure Kc (S : List Nat) (w w' : World) : Prop where
  size : w.heap.size ≤ w'.heap.size
  same : ∀ (j : Nat) (o : Obj), j ∉ S → w.heap[j]? = some o → o.isCells = true → w'.heap[j]? = some o
theorem Kc.of_fr {S : List Nat} {w w' : World} (h : Fr S w w') : Kc S w w' := ⟨h.size, fun j o hj ho _ => (h.block j (Array.getElem?_eq_some_iff.1 ho).1 hj).trans ho⟩
theorem Kc.trans {S : List Nat} {a b c : World} (h : Kc S a b) (k : Kc S b c) : Kc S a c := ⟨Nat.le_trans h.size k.size, fun j o hj ho hc => k.same j o hj (h.same j o hj ho hc) hc⟩
theorem Blk.kc {S : List Nat} {w w' : World} {g : Nat} {cs : Array Value} {t : TypeId} (h : Blk w g cs t) (k : Kc S w w') (n : g ∉ S) : Blk w' g cs t := k.same g _ n h rfl
theorem Reads.kc {S : List Nat} {w w' : World} {A : Option Addr} {cells : List Value} (h : Reads w A cells) (k : Kc S w w') (n : ∀ ad, A = some ad → ad.block ∉ S) : Reads w' A cells := by
  intro j u hj
  obtain ⟨b, off, hA, hc⟩ := h j u hj
  refine ⟨b, off, hA, ?_⟩
  have hb := n _ hA
  unfold World.cell? at hc ⊢
  cases ho : w.heap[b]? with
  | none => simp [ho] at hc
  | some o =>
    cases o with
    | cells cs t fr => rw [k.same b _ hb ho rfl]; simpa [ho] using hc
    | _ => simp [ho] at hc

theorem Fr.of_grown {w w' : World} {g : Nat} (h : w.grownBy w' (some g)) : Fr [g] w w' := ⟨h.os, h.tape, h.output, h.size, fun j hj hn => h.block j hj (fun e => hn (by injection e with e; simp [e]))⟩

/-- The block of a range's deferred calls: none. -/
def Dfr (W : World) (D : Nat) : Prop := W.heap[D]? = some (.deferred (some []))
theorem Dfr.below {W W' : World} {D : Nat} (h : Dfr W D) (k : Below W.heap.size W W') : Dfr W' D := (k.block D (Array.getElem?_eq_some_iff.1 h).1).trans h
theorem Dfr.kept {W W' : World} {D g : Nat} {cs : Array Value} {t : TypeId} (h : Dfr W D) (hB : Blk W g cs t) (k : W.grownBy W' (some g)) : Dfr W' D :=
  (k.block D (Array.getElem?_eq_some_iff.1 h).1 (fun e => by injection e with e; subst e; unfold Dfr at h; unfold Blk at hB; rw [hB] at h; injection h with h; cases h)).trans h
theorem Dfr.ne {W : World} {D g : Nat} {cs : Array Value} {t : TypeId} (h : Dfr W D) (hB : Blk W g cs t) : g ≠ D := fun e => by subst e; unfold Dfr at h; unfold Blk at hB; rw [hB] at h; injection h with h; cases h
theorem Dfr.fr {S : List Nat} {W W' : World} {D : Nat} (h : Dfr W D) (k : Fr S W W') (n : D ∉ S) : Dfr W' D := (k.block D (Array.getElem?_eq_some_iff.1 h).1 n).trans h

section
variable {ro : Option Nat} {n : Nat} {P : Program} {ops : Array Oper} {o : Oper} {rest : List Oper} {a : Act} {w : World} {Q : Exit → Act → World → Prop}
theorem si_sem (hd : nodefer o = true) : o.semAt (FW ro).round a.eval = execOp a.eval o := Oper.semAt_eq _ _ _ (fun c h => by simp [nodefer, h] at hd)
theorem si_value {v : Value} (hw : Region.wanted o (yielded ops a.tmps) = true) (h : (execOp a.eval o).run P w = .ok (.value v) w) (k : wpListIn (FW ro) n P ops Q rest (a.put o.dst v) w) (hd : nodefer o = true := by rfl) : wpListIn (FW ro) n P ops Q (o :: rest) a w := by
  unfold wpListIn
  rw [if_pos hw]
  refine ⟨fun _ _ => trivial, ?_⟩
  rw [si_sem hd, h]
  exact k
theorem si_mv (v : Value) (k : wpListIn (FW ro) n P ops Q rest (a.put o.dst v) w) (hw : Region.wanted o (yielded ops a.tmps) = true := by rfl) (h : (execOp a.eval o).run P w = .ok (.value v) w := by rfl) (hd : nodefer o = true := by rfl) : wpListIn (FW ro) n P ops Q (o :: rest) a w := si_value hw h k hd
theorem si_not (hw : Region.wanted o (yielded ops a.tmps) = false) (k : wpListIn (FW ro) n P ops Q rest (a.put o.dst undef) w) : wpListIn (FW ro) n P ops Q (o :: rest) a w := by
  unfold wpListIn
  rw [if_neg (by simp [hw])]
  exact ⟨fun _ _ => trivial, k⟩
theorem si_nob {j t : Nat} {b c : Bool} (hg : o.guard = some (j, b)) {p : Oper} (hp : ops[j]? = some p) (hd : p.dst = some t) (hv : a.tmps[t]? = some (.bool c)) (hc : (c == b) = false) (k : wpListIn (FW ro) n P ops Q rest (a.put o.dst undef) w) : wpListIn (FW ro) n P ops Q (o :: rest) a w := by
  refine si_not ?_ k
  simp only [Region.wanted, hg, yielded, hp, Option.bind_some, hd, hv]
  simpa using hc
theorem si_nou {j t : Nat} {b : Bool} (hg : o.guard = some (j, b)) {p : Oper} (hp : ops[j]? = some p) (hd : p.dst = some t) (hv : a.tmps[t]? = some undef) (k : wpListIn (FW ro) n P ops Q rest (a.put o.dst undef) w) : wpListIn (FW ro) n P ops Q (o :: rest) a w := by
  refine si_not ?_ k
  simp only [Region.wanted, hg, yielded, hp, Option.bind_some, hd, hv]
  rfl
theorem si_call {g : FuncId} {args : Array Value} {R : Value → World → Prop} (hw : Region.wanted o (yielded ops a.tmps) = true) (h : (execOp a.eval o).run P w = .ok (.enter g args) w)
    (c : Calls P g args w fun e w' => ∃ v, e = .returned v ∧ R v w') (k : ∀ v w', R v w' → wpListIn (FW ro) n P ops Q rest (a.put o.dst v) w') (hd : nodefer o = true := by rfl) : wpListIn (FW ro) n P ops Q (o :: rest) a w := by
  unfold wpListIn
  rw [if_pos hw]
  refine ⟨fun _ _ => trivial, ?_⟩
  rw [si_sem hd, h, Oper.uponIn_enter]
  exact ⟨fun h => (by cases h), fw_calls (c.mono fun e w' ⟨v, he, hr⟩ => by subst he; exact k _ _ hr)⟩
theorem si_call1 {g : FuncId} {args : Array Value} {v : Value} {R : World → Prop} (hw : Region.wanted o (yielded ops a.tmps) = true) (h : (execOp a.eval o).run P w = .ok (.enter g args) w)
    (c : Calls P g args w fun e w' => e = .returned v ∧ R w') (k : ∀ w', R w' → wpListIn (FW ro) n P ops Q rest (a.put o.dst v) w') (hd : nodefer o = true := by rfl) : wpListIn (FW ro) n P ops Q (o :: rest) a w :=
  si_call (R := fun u w' => u = v ∧ R w') hw h (c.mono fun _ _ ⟨h1, h2⟩ => ⟨v, h1, rfl, h2⟩) (fun _ w' ⟨h1, h2⟩ => h1 ▸ k w' h2) hd
theorem si_cell {g i : Nat} {cs : Array Value} {v : Value} {t : TypeId} (hw : Region.wanted o (yielded ops a.tmps) = true) (h : (execOp a.eval o).run P w = .ok .skip (w.setCell ⟨g, i, none⟩ v)) (hg : Blk w g cs t)
    (k : ∀ w', Blk w' g (cs.setIfInBounds i v) t → w.grownBy w' (some g) → wpListIn (FW ro) n P ops Q rest (a.put o.dst undef) w') (hd : nodefer o = true := by rfl) : wpListIn (FW ro) n P ops Q (o :: rest) a w := by
  unfold wpListIn
  rw [if_pos hw]
  refine ⟨fun _ _ => trivial, ?_⟩
  rw [si_sem hd, h]
  exact k _ (hg.set i v) ⟨rfl, rfl, rfl, by simp [World.setCell], fun k _ hk => Below.heap_setCell _ _ _ _ (fun e => hk (by rw [e]))⟩
theorem si_new {cs : Array Value} {t : TypeId} (hw : Region.wanted o (yielded ops a.tmps) = true) (h : (execOp a.eval o).run P w = .ok (.value (.pointer (some ⟨w.heap.size, 0, none⟩))) (w.alloc (.cells cs t)))
    (k : ∀ g w', Blk w' g cs t → Below w.heap.size w w' → w.heap.size ≤ g → wpListIn (FW ro) n P ops Q rest (a.put o.dst (.pointer (some ⟨g, 0, none⟩))) w') (hd : nodefer o = true := by rfl) : wpListIn (FW ro) n P ops Q (o :: rest) a w := by
  unfold wpListIn
  rw [if_pos hw]
  refine ⟨fun _ _ => trivial, ?_⟩
  rw [si_sem hd, h]
  exact k _ _ (Blk.new _ _ _ _ rfl) (bl_alloc (Below.refl _ _) _) (Nat.le_refl _)
/-- The iterator's call of yield. -/
theorem run_yield2 {x y z : Operand} {ts : Array TypeId} (ho : o.op = .call { callee := .value x, args := #[y, z], argTypes := ts }) {l : Nat} {u v : Value} (hx : a.eval x = .func (.yield l) #[] #[]) (hy : a.eval y = u) (hz : a.eval z = v) {fn : FuncId} {tmps : Array Value} {assign body : Code}
    (hr : (Instr.yield l #[u, v]).run P w = .ok (.round l fn tmps assign body) w) : (execOp a.eval o).run P w = .ok (.round l fn tmps assign body) w := by
  subst hy hz
  unfold execOp
  simp only [ho]
  generalize a.eval = ρ at *
  simp [go_sem, resolve, hx, hr]
theorem si_yield {x y z : Operand} {ts : Array TypeId} (ho : o.op = .call { callee := .value x, args := #[y, z], argTypes := ts }) {l : Nat} {u v : Value} (hw : Region.wanted o (yielded ops a.tmps) = true) (hx : a.eval x = .func (.yield l) #[] #[]) (hy : a.eval y = u) (hz : a.eval z = v) {R1 R2 : World → Prop}
    (Y : YieldAt Fence.wide n P l #[u, v] w fun e w' => (e = .returned (.bool true) ∧ R1 w') ∨ (e = .returned (.bool false) ∧ R2 w'))
    (k1 : ∀ w', R1 w' → wpListIn (FW none) (n + 1) P ops Q rest (a.put o.dst (.bool true)) w') (k2 : ∀ w', R2 w' → wpListIn (FW none) (n + 1) P ops Q rest (a.put o.dst (.bool false)) w') (hd : nodefer o = true := by rfl) : wpListIn (FW none) (n + 1) P ops Q (o :: rest) a w := by
  obtain ⟨fn, tmps, assign, body, h1, h2⟩ := Y
  unfold wpListIn
  rw [if_pos hw]
  refine ⟨fun _ _ => trivial, ?_⟩
  rw [si_sem hd, run_yield2 ho hx hy hz h1, Oper.uponIn_round]
  refine ⟨fun h => (by cases h), ?_⟩
  rw [Nat.add_sub_cancel]
  refine RoundIn.mono (F := FW none) h2 ?_
  rintro e w' (⟨rfl, h⟩ | ⟨rfl, h⟩)
  · exact k1 _ h
  · exact k2 _ h
theorem wp_region_wide {id : Nat} {l : List Oper} (n : Nat) (h : wpListIn (FW none) n P l.toArray Q l a w) : (Code.region id l.toArray false).wp P Q a w := (wpIn_wide (n := n)).1 (wpIn_region_lit h)
end

/-- How a round may be left: it goes on, or it leaves the function. -/
def rPost (S : List Nat) (I Ix : World → Prop) (W : World) : Exit → Act → World → Prop
  | .normal, _, W' => Fr S W W' ∧ I W'
  | .ret, _, W' => Fr S W W' ∧ Ix W'
  | _, _, _ => False

/-- What is said of a world bears whatever is done to what is no cells, from B on; or new blocks. -/
def Abd (B : Nat) (I : World → Prop) : Prop := ∀ (A A' : World) (row : Option Nat), I A → A.grownBy A' row → (∀ r, row = some r → B ≤ r ∧ ∃ o : Obj, A.heap[r]? = some o ∧ o.isCells = false) → I A'
theorem Abd.alloc {B : Nat} {I : World → Prop} (h : Abd B I) {W : World} (o : Obj) (hi : I W) : I (W.alloc o) := h W _ none hi (World.grownBy_alloc W o none) (fun r e => by cases e)
theorem Abd.put {B : Nat} {I : World → Prop} (h : Abd B I) {W : World} {l : Nat} {o : Obj} (o' : Obj) (hi : I W) (hB : B ≤ l) (hl : W.heap[l]? = some o) (ho : o.isCells = false) : I (W.putObj l o') :=
  h W _ (some l) hi (grownBy_putObj' W l o') (fun r e => by cases e; exact ⟨hB, o, hl, ho⟩)

/-- An iterator: it hands yield the values ev 0, ev 1, .. up to ev m; a round may change the blocks of S and make new ones. -/
def SeqAt (P : Program) (gf : FuncId) (lb : Array Value) (m : Nat) (ev : Nat → Array Value) (S : List Nat) (w : World) : Prop :=
  ∀ (l : Nat) (J : Nat → World → Prop) (Jx : World → Prop) (W : World), Below w.heap.size w W → (∀ k A B, J k A → Below A.heap.size A B → J k B) →
    (∀ k A, J k A → k < m → YieldAt Fence.wide 1 P l (ev k) A fun e W' => (e = .returned (.bool true) ∧ J (k + 1) W' ∧ Kc S A W') ∨ (e = .returned (.bool false) ∧ Jx W')) →
    J 0 W → Calls P gf (#[.func (.yield l) #[] #[]] ++ lb) W fun e W' => (∃ v, e = .returned v) ∧ (J m W' ∨ Jx W')

abbrev mark (D : Nat) : Deferred := { target := .collected D, args := #[] }
/-- The caller's law. -/
theorem wp_range {P : Program} {g : Operand} {ps : Array Tmp} {assign body : Code} {Q : Exit → Act → World → Prop} {a : Act} {w : World} {gf : Nat} {lb : Array Value}
    (hg : a.eval g = .func (.func gf) #[] lb) (hdf : a.defers = []) (eg : ∀ args w, (callFunc gf args).run P w = .ok (.enter gf args) w) {m : Nat} {ev : Nat → Array Value} {S : List Nat} (hS : ∀ j, j ∈ S → j < w.heap.size)
    (hseq : SeqAt P gf lb m ev S w) (hps : ∀ k, (ev k).size = ps.size) (I Ix : Nat → World → Prop) (hI : ∀ k, Abd w.heap.size (I k)) (hIx : ∀ k, Abd w.heap.size (Ix k)) (h0 : I 0 w) (a₁ : Nat → Act)
    (hassign : ∀ (l k : Nat) (W : World) (K : Act → World → Prop), K (a₁ k) W → assign.wpIn (FW (some l)) 1 P (Exit.then K (fun _ _ _ => False)) { tmps := (ps.zip (ev k)).foldl (fun t (p, v) => t.setIfInBounds p v) a.tmps, defers := [] } W)
    (hbody : ∀ (l k : Nat) (W : World), I k W → k < m → body.wpIn (FW (some l)) 1 P (rPost S (I (k + 1)) (Ix k) W) (a₁ k) W)
    (hdone : ∀ (D : Nat) (W : World), w.heap.size ≤ D → I m W → Dfr W D → Q .normal { tmps := a.tmps, defers := [mark D] } W)
    (hstop : ∀ (D k : Nat) (W : World), w.heap.size ≤ D → k < m → Ix k W → Dfr W D → Q .ret { tmps := a.tmps, defers := [mark D] } W) :
    (Code.rangeFunc g ps assign body).wp P Q a w := by
  refine (wpIn_wide (n := 3)).1 (wpIn_rangeFunc ?_)
  intro fn _
  obtain ⟨rec, hrec⟩ : ∃ rec : LoopState → Option Code → Loop, rec = fun st pe => { state := st, pending := pe, fn, tmps := a.tmps, params := ps, assign, body, defers := w.heap.size } := ⟨_, rfl⟩
  obtain ⟨W1, hW1⟩ : ∃ W1, (w.alloc (.deferred (some []))).alloc (.loop (rec .ready none)) = W1 := ⟨_, rfl⟩
  have hL1 : W1.heap[w.heap.size + 1]? = some (.loop (rec .ready none)) := by
    rw [← hW1]; have := World.alloc_heap_new (w.alloc (.deferred (some []))) (.loop (rec .ready none)); rwa [World.size_alloc] at this
  have hK1 : Dfr W1 w.heap.size := by
    rw [← hW1]; exact (Below.heap_alloc _ _ _ (by simp)).trans (World.alloc_heap_new w _)
  have hI1 : I 0 W1 := by rw [← hW1]; exact (hI 0).alloc _ ((hI 0).alloc _ h0)
  have hb1 : Below w.heap.size w W1 := by rw [← hW1]; exact ((Below.refl _ w).alloc (Nat.le_refl _) _).alloc (by simp) _
  refine ⟨w.heap.size + 1, [mark w.heap.size], W1, { target := .fn (.func gf) lb, args := #[.func (.yield (w.heap.size + 1)) #[] #[]] }, W1, gf, #[.func (.yield (w.heap.size + 1)) #[] #[]] ++ lb, W1, ?_, ?_, fun _ _ => trivial, ?_, fun h => (by cases h), ?_⟩
  · rw [← hW1, hrec]; exact run_enterLoop_outer _ _ _ _ _
  · simp only [resolve, hg]
    simp [go_sem]
  · simp [invoke, go_sem, eg]
  · refine fw_calls (ro := none) ?_
    refine (hseq (w.heap.size + 1) (fun k W => I k W ∧ W.heap[w.heap.size + 1]? = some (.loop (rec .ready none)) ∧ Dfr W w.heap.size)
      (fun W => ∃ k, k < m ∧ Ix k W ∧ W.heap[w.heap.size + 1]? = some (.loop (rec .done (some .ret))) ∧ Dfr W w.heap.size) W1 hb1 ?_ ?_ ⟨hI1, hL1, hK1⟩).mono ?_
    · rintro k A B ⟨hi, hl, hk⟩ hb
      exact ⟨hI k A B none hi ⟨hb.os, hb.tape, hb.output, hb.size, fun j hj _ => hb.block j hj⟩ (fun r e => by cases e), (hb.block _ (Array.getElem?_eq_some_iff.1 hl).1).trans hl, hk.below hb⟩
    · rintro k W ⟨hi, hl, hk⟩ hlt
      have hy := run_yield (P := P) (args := ev k) hl (by rw [hrec]; exact hps k)
      rw [hrec] at hy
      refine ⟨fn, _, assign, body, hy, roundIn_of_wpIn trivial (hassign _ k W _ ⟨_, run_beginRound hl (by rw [hrec]), ?_⟩)⟩
      have hlW : w.heap.size + 1 < W.heap.size := (Array.getElem?_eq_some_iff.1 hl).1
      have hl2 : (W.putObj (w.heap.size + 1) (.loop { rec .ready none with state := .busy })).heap[w.heap.size + 1]? = some (.loop { rec .ready none with state := .busy }) := World.putObj_heap_same hlW
      have hk2 : Dfr (W.putObj (w.heap.size + 1) (.loop { rec .ready none with state := .busy })) w.heap.size := (World.putObj_heap_other (by omega)).trans hk
      have kcp : ∀ (V : World) (r : Loop) (o : Obj), V.heap[w.heap.size + 1]? = some (.loop r) → Kc S V (V.putObj (w.heap.size + 1) o) := fun V r o hv => ⟨by simp, fun j o2 _ hj hc => (World.putObj_heap_other (fun e => by subst e; rw [hv] at hj; injection hj with hj; subst hj; cases hc)).trans hj⟩
      have fin : ∀ (jump : Option Code) (W3 : World), Fr S (W.putObj (w.heap.size + 1) (.loop { rec .ready none with state := .busy })) W3 →
          (Instr.endRound (w.heap.size + 1) jump).run P W3 = .ok (.bool jump.isNone) (W3.putObj (w.heap.size + 1) (.loop (rec (if jump.isNone then .ready else .done) jump))) ∧
          W3.heap[w.heap.size + 1]? = some (.loop { rec .ready none with state := .busy }) ∧
          (W3.putObj (w.heap.size + 1) (.loop (rec (if jump.isNone then .ready else .done) jump))).heap[w.heap.size + 1]? = some (.loop (rec (if jump.isNone then .ready else .done) jump)) ∧
          Dfr (W3.putObj (w.heap.size + 1) (.loop (rec (if jump.isNone then .ready else .done) jump))) w.heap.size := fun jump W3 hf => by
        have hl3 := (hf.block (w.heap.size + 1) (by simpa using hlW) (fun e => by have := hS _ e; omega)).trans hl2
        have hk3 := hk2.fr hf (fun e => by have := hS _ e; omega)
        have := run_endRound (P := P) jump hl3
        rw [hrec] at this ⊢
        exact ⟨this, by rw [hrec] at hl3; exact hl3, World.putObj_heap_same (Array.getElem?_eq_some_iff.1 hl3).1, (World.putObj_heap_other (by omega)).trans hk3⟩
      refine wpIn_mono (hbody _ k _ ((hI k).put _ hi (by omega) hl rfl) hlt) ?_
      intro e a3 W3 hp
      cases e with
      | normal =>
        obtain ⟨hf, hi3⟩ := hp
        obtain ⟨hr, hl3, hl4, hk4⟩ := fin none W3 hf
        exact ⟨_, _, hr, .inl ⟨rfl, ⟨(hI _).put _ hi3 (by omega) hl3 rfl, hl4, hk4⟩, ((kcp W _ _ hl).trans (Kc.of_fr hf)).trans (kcp W3 _ _ hl3)⟩⟩
      | ret =>
        obtain ⟨hf, hi3⟩ := hp
        obtain ⟨hr, hl3, hl4, hk4⟩ := fin (some .ret) W3 hf
        exact ⟨_, _, hr, .inr ⟨rfl, k, hlt, (hIx _).put _ hi3 (by omega) hl3 rfl, hl4, hk4⟩⟩
      | exit id => exact hp.elim
      | goto t => exact hp.elim
      | panic c => exact hp.elim
      | outgrown => exact hp.elim
    · rintro e W2 ⟨⟨v, rfl⟩, (⟨hi, hl, hk⟩ | ⟨k, hlt, hi, hl, hk⟩)⟩
      · refine ⟨none, _, by have := run_endLoop (P := P) hl (by rw [hrec]; simp); rw [hrec] at this; exact this, ?_⟩
        rw [hdf]
        exact hdone _ _ (Nat.le_refl _) ((hI m).put _ hi (by omega) hl rfl) ((World.putObj_heap_other (by omega)).trans hk)
      · refine ⟨some .ret, _, by have := run_endLoop (P := P) hl (by rw [hrec]; simp); rw [hrec] at this; exact this, ?_⟩
        rw [hdf]
        exact wpIn_ret (hstop _ k _ (Nat.le_refl _) hlt ((hIx k).put _ hi (by omega) hl rfl) ((World.putObj_heap_other (by omega)).trans hk))

/-! ### a function that holds such a loop, as it is left -/
theorem calls_marks {P : Program} {f : FuncId} {fn : Func} {c : Code} {args : Array Value} {w : World} {R : Ending → World → Prop} (hf : P.funcs[f]? = some fn) (hb : fn.body = some c)
    (h : c.wp P (bodyPostM Fence.wide 3 P fn R) { tmps := args ++ Array.replicate (fn.ntmps - args.size) undef, defers := [] } w) : Calls P f args w R := callsIn_wide.1 (callsIn_of_wp_marks (n := 3) hf hb trivial (wpIn_wide.2 h))
theorem results_cell1 {P : Program} {fn : Func} {p : Tmp} {ty t : TypeId} (h : fn.results = #[.cell p ty]) (T : One P ty) {tmps : Array Value} {w : World} {g : Nat} {v : Value} (hp : tmps.getD p undef = .pointer (some ⟨g, 0, none⟩)) (hB : Blk w g #[v] t) : (results fn tmps).run P w = .ok v w := by
  obtain ⟨d, i, h1, h2, h3, h4⟩ := T
  have hagg : (isAgg ty).run P w = .ok false w := by
    unfold isAgg
    rw [Sem.run_bind, run_underlying h1 w]
    cases d <;> simp_all [plainT]
  have hc : w.cell? ⟨g, 0, none⟩ = some v := by rw [hB.cell]; rfl
  have hp' : tmps[p]?.getD undef = .pointer (some ⟨g, 0, none⟩) := by simpa using hp
  simp only [results, h]
  simp [Sem.run_bind, hp', asAddr, loadVar, hagg, hc]
theorem postM_ret {P : Program} {fn : Func} {R : Ending → World → Prop} {a : Act} {w : World} {v : Value} (hr : (results fn a.tmps).run P w = .ok v w) (hd : a.defers = []) (hR : R (.returned v) w) : bodyPostM Fence.wide 3 P fn R .ret a w := by
  show LeavesInM _ _ _ _ _ _ _ _ _
  rw [hd]
  exact ⟨v, hr, hR⟩
theorem postM_mark {P : Program} {fn : Func} {R : Ending → World → Prop} {a : Act} {w : World} {v : Value} {D : Nat} (hd : a.defers = [mark D]) (hD : Dfr w D) (hr : (results fn a.tmps).run P (w.putObj D (.deferred none)) = .ok v (w.putObj D (.deferred none))) (hR : R (.returned v) (w.putObj D (.deferred none))) : bodyPostM Fence.wide 3 P fn R .ret a w := by
  show LeavesInM _ _ _ _ _ _ _ _ _
  rw [hd]
  refine ⟨by simp, .inl ⟨_, _, rfl, run_takeDeferred hD, ?_⟩⟩
  exact ⟨v, hr, hR⟩
theorem Blk.putD {w : World} {D g : Nat} {cs : Array Value} {t : TypeId} (h : Blk w g cs t) (hD : Dfr w D) (o : Obj) : Blk (w.putObj D o) g cs t := (World.putObj_heap_other (hD.ne h)).trans h
theorem bl_putD {B : Nat} {w0 w : World} {D : Nat} (h : Below B w0 w) (hD : B ≤ D) (o : Obj) : Below B w0 (w.putObj D o) :=
  ⟨h.os, h.tape, h.output, by simpa using h.size, fun k hk => (World.putObj_heap_other (by omega)).trans (h.block k hk)⟩
theorem fr_putD {S : List Nat} {w0 w : World} {D : Nat} (h : Fr S w0 w) (hD : w0.heap.size ≤ D) (o : Obj) : Fr S w0 (w.putObj D o) :=
  ⟨h.os, h.tape, h.output, by simpa using h.size, fun k hk hn => (World.putObj_heap_other (by omega)).trans (h.block k hk hn)⟩
/-- What came in is read on, whatever happens to blocks that came later. -/
theorem Reads.frS {S : List Nat} {w0 W W' : World} {A : Option Addr} {cells : List Value} (h0 : Reads w0 A cells) (hS : ∀ j, j ∈ S → w0.heap.size ≤ j) (h : Reads W A cells) (k : Fr S W W') : Reads W' A cells := by
  intro j u hj
  obtain ⟨b, off, hA, hc⟩ := h j u hj
  refine ⟨b, off, hA, ?_⟩
  obtain ⟨b', off', hA', hc'⟩ := h0 j u hj
  rw [hA] at hA'; injection hA' with e; injection e with e1 e2; subst e1 e2
  have hb := World.block_lt_of_cell? w0 _ hc'
  have hb2 := World.block_lt_of_cell? W _ hc
  have : b ∉ S := fun e => by have := hS b e; simp at hb; omega
  exact (World.cell?_of_block (k.block b (by simpa using hb2) this)).trans hc
theorem lt1 {m r : Nat} (h : r < m) : ∀ j, j ∈ [r] → j < m := by simpa using h
theorem lt2 {m r b : Nat} (h : r < m) (k : b < m) : ∀ j, j ∈ [r, b] → j < m := by simp [h, k]
theorem lt3 {m r b c : Nat} (h : r < m) (k : b < m) (l : c < m) : ∀ j, j ∈ [r, b, c] → j < m := by simp [h, k, l]
theorem lt4 {m r b c d : Nat} (h : r < m) (k : b < m) (l : c < m) (q : d < m) : ∀ j, j ∈ [r, b, c, d] → j < m := by simp [h, k, l, q]
theorem lo3 {m r b c : Nat} (h : m ≤ r) (k : m ≤ b) (l : m ≤ c) : ∀ j, j ∈ [r, b, c] → m ≤ j := by simp [h, k, l]
theorem lo4 {m r b c d : Nat} (h : m ≤ r) (k : m ≤ b) (l : m ≤ c) (q : m ≤ d) : ∀ j, j ∈ [r, b, c, d] → m ≤ j := by simp [h, k, l, q]
theorem ni3 {g r b c : Nat} (h : g ≠ r) (k : g ≠ b) (l : g ≠ c) : g ∉ [r, b, c] := by simp [h, k, l]
theorem ni4 {g r b c d : Nat} (h : g ≠ r) (k : g ≠ b) (l : g ≠ c) (q : g ≠ d) : g ∉ [r, b, c, d] := by simp [h, k, l, q]
/-- What holds of cells holds behind a turn of what is no cells. -/
theorem Blk.own {W W' : World} {row : Option Nat} {g : Nat} {cs : Array Value} {t : TypeId} (h : Blk W g cs t) (hg : W.grownBy W' row) (hr : ∀ r, row = some r → ∃ o : Obj, W.heap[r]? = some o ∧ o.isCells = false) : Blk W' g cs t :=
  (hg.block g h.lt (fun e => by obtain ⟨o, ho, hc⟩ := hr g e.symm; unfold Blk at h; rw [h] at ho; injection ho with ho; subst ho; cases hc)).trans h
theorem Reads.own {W W' : World} {row : Option Nat} {A : Option Addr} {cells : List Value} (h : Reads W A cells) (hg : W.grownBy W' row) (hr : ∀ r, row = some r → ∃ o : Obj, W.heap[r]? = some o ∧ o.isCells = false) : Reads W' A cells := by
  intro j u hj
  obtain ⟨b, off, hA, hc⟩ := h j u hj
  exact ⟨b, off, hA, cell_kept hc hg hr⟩
theorem bl_own {w0 w W W' : World} {row : Option Nat} (h : Below w0.heap.size w0 W) (hs : w0.heap.size ≤ w.heap.size) (hg : W.grownBy W' row) (hr : ∀ r, row = some r → w.heap.size ≤ r) : Below w0.heap.size w0 W' := h.grown hg h.size (fun k e => Nat.le_trans hs (hr k e))
theorem fr_own' {S : List Nat} {w0 w W W' : World} {row : Option Nat} (h : Fr S w0 W) (hs : w0.heap.size ≤ w.heap.size) (hg : W.grownBy W' row) (hr : ∀ r, row = some r → w.heap.size ≤ r) : Fr S w0 W' :=
  ⟨hg.os.trans h.os, hg.tape.trans h.tape, hg.output.trans h.output, Nat.le_trans h.size hg.size, fun j hj hn => (hg.block j (Nat.lt_of_lt_of_le hj h.size) (fun e => by have := hr j e.symm; omega)).trans (h.block j hj hn)⟩
/-- A row of the iterator's own lies beyond what rounds may change. -/
theorem OwnR.notin {α : Type} {w : World} {base : Nat} {e : TypeId} {E : Enc α} {A : Option Addr} {l c : Nat} {xs : List α} (h : OwnR w base e E (.slice A l c) xs) {S : List Nat} (hS : ∀ j, j ∈ S → j < base) : ∀ ad, A = some ad → ad.block ∉ S := by
  rintro ad rfl hb
  have := (h.lt ad.block rfl).1
  have := hS _ hb
  omega
theorem gb_none {w w' : World} (h : Below w.heap.size w w') : w.grownBy w' none := ⟨h.os, h.tape, h.output, h.size, fun j hj _ => h.block j hj⟩
theorem Below.own {B : Nat} {w W W' : World} {row : Option Nat} (h : Below B w W) (hB : B ≤ W.heap.size) (hg : W.grownBy W' row) (hr : ∀ r, row = some r → B ≤ r) : Below B w W' := h.grown hg hB (fun k e => hr k e)
theorem Fr.own {S : List Nat} {w W W' : World} {row : Option Nat} (h : Fr S w W) (hg : W.grownBy W' row) (hr : ∀ r, row = some r → w.heap.size ≤ r) : Fr S w W' :=
  ⟨hg.os.trans h.os, hg.tape.trans h.tape, hg.output.trans h.output, Nat.le_trans h.size hg.size, fun j hj hn => (hg.block j (Nat.lt_of_lt_of_le hj h.size) (fun e => by have := hr j e.symm; omega)).trans (h.block j hj hn)⟩
end Go.Proofs.YtackcmlkicjlnaaDoor

/- The law of a region that draws its order (Facts2), for tails that wait for what lies farther back. -/
namespace Go.Proofs.YtackcmlkicjlnaaDoor
open Go.RowKit

def tailB6 (ops : Array Oper) (m : Nat) : Bool := (List.range ops.size).all fun i => i < m || (List.range i).all fun j => (downs ops 6 i).contains j
section
variable {P : Program} {ops : Array Oper} {C : World → Prop} {N0 : Nat}
theorem wpAny_tailD {Q : Exit → Act → World → Prop} (hB : ∀ (i : Nat) (o : Oper), ops[i]? = some o → ∀ e ∈ o.after, Region.binds .any e = true → e.on < i) (m : Nat) (hT : ∀ i, m ≤ i → i < ops.size → ∀ j, j < i → j ∈ downs ops 6 i) :
    ∀ (d : Nat) (fuel : Nat) (listed : Array Bool) (a : Act) (w : World), m ≤ ops.size - d → d ≤ fuel → d ≤ ops.size → listed.size = ops.size → (∀ j, j < ops.size → listed.getD j false = decide (j < ops.size - d)) →
      wpList P ops Q (ops.toList.drop (ops.size - d)) a w → wpAny P .any ops Q fuel listed a w := by
  intro d
  induction d with
  | zero =>
    intro fuel listed a w _ _ _ hs hl h
    have hq : Q .normal a w := by
      rw [Nat.sub_zero, ← Array.length_toList, List.drop_length] at h
      exact h
    have hr : Region.ready .any ops listed = [] := by
      cases hr : Region.ready .any ops listed with
      | nil => rfl
      | cons j js =>
        exfalso
        obtain ⟨h0, o, ho, _⟩ := mem_ready.1 (show j ∈ Region.ready .any ops listed by rw [hr]; simp)
        have hj := (Array.getElem?_eq_some_iff.1 ho).1
        have := hl j hj
        have hlt : j < listed.size := by omega
        simp [hlt] at h0 this
        rw [h0] at this
        have := this.symm
        simp at this
        omega
    cases fuel with
    | zero => exact ⟨hr, hq⟩
    | succ fuel => exact ⟨fun _ => hq, fun i hi => by rw [hr] at hi; cases hi⟩
  | succ d ih =>
    intro fuel listed a w hm hf hd hs hl h
    obtain ⟨fuel, rfl⟩ : ∃ k, fuel = k + 1 := ⟨fuel - 1, by omega⟩
    have hi : ops.size - (d + 1) < ops.size := by omega
    have hdrop : ops.toList.drop (ops.size - (d + 1)) = ops[ops.size - (d + 1)] :: ops.toList.drop (ops.size - d) := by
      rw [List.drop_eq_getElem_cons (by simpa using hi)]
      simp [show ops.size - (d + 1) + 1 = ops.size - d from by omega]
    rw [hdrop] at h
    generalize hi0 : ops.size - (d + 1) = i at *
    have hge : ops[i]? = some ops[i] := by simp [hi]
    have hready : ∀ j ∈ Region.ready .any ops listed, j = i := by
      intro j hj
      obtain ⟨h0, o, ho, hall⟩ := mem_ready.1 hj
      have hjl := (Array.getElem?_eq_some_iff.1 ho).1
      have hlt : j < listed.size := by omega
      have hlj := hl j hjl
      simp [hlt] at h0 hlj
      rw [h0] at hlj
      have hji : ¬ j < i := by have := hlj.symm; simpa using this
      by_cases hij : i < j
      · exfalso
        have hdown : ∀ (q : Nat) (oq : Oper), ops[q]? = some oq → listed.getD q false = true → ∀ r ∈ predsOf oq, listed.getD r false = true := by
          intro q oq hoq hlq r hr
          have hql := (Array.getElem?_eq_some_iff.1 hoq).1
          simp only [predsOf, List.mem_map, List.mem_filter] at hr
          obtain ⟨e, ⟨he, hb⟩, rfl⟩ := hr
          have h1 := hB q oq hoq e (by simpa using he) hb
          rw [hl q hql] at hlq
          rw [hl e.on (by omega)]
          simp at hlq ⊢
          omega
        have := downs_listed listed hdown 6 j o ho (fun r hr => by
          simp only [predsOf, List.mem_map, List.mem_filter] at hr
          obtain ⟨e, ⟨he, hb⟩, rfl⟩ := hr
          exact hall e (by simpa using he) hb) i (hT j (by omega) hjl i hij)
        rw [hl i hi] at this
        simp at this
      · omega
    refine ⟨fun hr => ?_, fun j hj => ?_⟩
    · exfalso
      have : i ∈ Region.ready .any ops listed := by
        refine mem_ready.2 ⟨?_, ops[i], hge, fun e he hb => ?_⟩
        · have hlt : i < listed.size := by omega
          have := hl i hi
          simp [hlt] at this ⊢
          exact this
        · have h1 := hB i _ hge e he hb
          rw [hl e.on (by omega)]
          simp; omega
      rw [hr] at this
      cases this
    · obtain rfl := hready j hj
      have hnext : ∀ a w, wpList P ops Q (ops.toList.drop (ops.size - d)) a w → wpAny P .any ops Q fuel (listed.setIfInBounds j true) a w := fun a w hh => by
        refine ih fuel _ a w (by omega) (by omega) (by omega) (by simp [hs]) (fun q hq => ?_) hh
        by_cases hqj : q = j
        · subst hqj
          have hlt : q < listed.size := by omega
          simp [hlt]; omega
        · rw [getD_set_ne false (fun e => hqj e.symm), hl q hq]
          rw [decide_eq_decide]
          omega
      unfold wpOp
      simp only [hge]
      unfold wpList at h
      split
      · rename_i hw
        rw [if_pos hw] at h
        exact h.imp (Oper.wp_mono hnext) id
      · rename_i hw
        rw [if_neg hw] at h
        exact hnext _ _ h

theorem wpAny_of_facts2D {Q : Exit → Act → World → Prop} {fs0 : List Fct} {a0 : Act} {m : Nat} (hB : factsB ops a0.tmps.size = true) (hT : tailB6 ops m = true) (hN : ∀ w, C w → N0 ≤ w.heap.size) (hm : m ≤ ops.size)
    (h : fst2 P ops C N0 (wpList P ops Q (ops.toList.drop m)) 0 (ops.toList.take m) fs0 a0 [] []) : ∀ (fuel : Nat) (listed : Array Bool) (a : Act) (w : World) (vs : Nat → Value), FI2 ops C N0 fs0 m a0 listed a w vs →
    ((List.range ops.size).filter fun i => !listed.getD i false).length ≤ fuel → wpAny P .any ops Q fuel listed a w := by
  have hsel : Region.noSelect ops = true := by simp only [factsB, Bool.and_eq_true] at hB; exact hB.1
  have hedge : ∀ (i : Nat) (o : Oper), ops[i]? = some o → ∀ e ∈ o.after, Region.binds .any e = true → e.on < i := fun i o ho e he hb => (factsOk_of _ hB ho).1 e he hb
  have htail : ∀ i, m ≤ i → i < ops.size → ∀ j, j < i → j ∈ downs ops 6 i := by
    intro i hi hlt j hj
    simp only [tailB6, List.all_eq_true, List.mem_range, Bool.or_eq_true, decide_eq_true_eq] at hT
    have := (hT i hlt).resolve_left (by omega) j hj
    simpa using this
  have use : ∀ vs, Agr N0 fs0 vs → _ := fun vs hv => fst2_use (P := P) (ops := ops) (C := C) (N0 := N0) hv (ops.toList.take m) 0 fs0 a0 [] [] (by simp) (by simp) (by simp) (by simp) h
  have hlen : fs0.length = m := by
    have hv : ∃ vs, Agr N0 fs0 vs := ⟨fun i => match fs0[i]? with | some (.val c) => c | some (.new _ _) => .pointer (some ⟨N0, 0, none⟩) | _ => undef, fun i f hf => by
      cases f with
      | val c => simp [hf]
      | ex p hp => trivial
      | new cs t => exact ⟨N0, by simp [hf], Nat.le_refl _⟩⟩
    obtain ⟨vs, hv⟩ := hv
    have := (use vs hv).2.2
    rw [this, List.length_take, Array.length_toList]
    omega
  have fin : ∀ (fuel : Nat) (listed : Array Bool) (a : Act) (w : World) (vs : Nat → Value), FI2 ops C N0 fs0 m a0 listed a w vs → ops.size - m ≤ fuel → (∀ i, i < m → listed.getD i false = true) → wpAny P .any ops Q fuel listed a w := by
    intro fuel listed a w vs I hfuel hall
    obtain ⟨r1, r2, _⟩ := use vs I.agree
    have ea : a = putsFrom vs 0 (ops.toList.take m) a0 := by
      obtain ⟨ts, ds⟩ := a
      have e1 : ds = (putsFrom vs 0 (ops.toList.take m) a0).defers := by rw [putsFrom_defers]; exact I.defers
      have e2 : ts = (putsFrom vs 0 (ops.toList.take m) a0).tmps := by
        apply Array.ext_getElem?
        intro t
        by_cases hex : ∃ (j : Nat) (o : Oper), j < m ∧ ops[j]? = some o ∧ o.dst = some t
        · obtain ⟨j, o, hjm, hj, hd⟩ := hex
          have h1 := I.done j o t hj (hall j hjm) hd
          obtain ⟨_, hlt, _⟩ := factsOk_of _ hB hj
          rw [putsFrom_at vs t (ops.toList.take m) 0 a0 j o (by rw [List.getElem?_take, if_pos hjm]; simpa using hj) hd (hlt t hd) (fun i o' hi hij => by
            rw [List.getElem?_take] at hi
            split at hi
            · obtain ⟨_, _, h3⟩ := factsOk_of _ hB (show ops[i]? = some o' by simpa using hi)
              exact (h3 j o t hj hd).1 (Ne.symm hij)
            · cases hi)]
          simpa using h1
        · rw [putsFrom_other vs t (ops.toList.take m) 0 a0 (fun o ho hd => hex (by
            obtain ⟨i, hi, rfl⟩ := List.mem_iff_getElem.1 ho
            have him : i < m := by simp at hi; omega
            have his : i < ops.size := by simp at hi; omega
            exact ⟨i, _, him, by simp [his], hd⟩))]
          exact I.base t (fun i o hi hl hd => by
            by_cases him : i < m
            · exact hex ⟨i, o, him, hi, hd⟩
            · rw [I.head i (by omega)] at hl; cases hl)
      rw [e1, e2]
    rw [ea]
    have hl : ∀ i f, fs0[i]? = some f → listed.getD i false = true := fun i f hf => hall i (by have := (List.getElem?_eq_some_iff.1 hf).1; omega)
    refine wpAny_tailD hedge m htail (ops.size - m) fuel listed _ _ (by omega) hfuel (by omega) I.size (fun j hj => ?_) ?_
    · by_cases hjm : j < m
      · rw [hall j hjm]; simp; omega
      · rw [I.head j (by omega)]; simp; omega
    · rw [show ops.size - (ops.size - m) = m from by omega]
      exact r2 w I.cls (fun i f hf _ => I.facts i f hf (hl i f hf)) (fun i j f g hi hj hf hg _ _ hne => I.dist i j f g hi hj hf hg (hl i f hi) (hl j g hj) hne)
  -- one of the head that has not come up, the lowest, may come up
  have some_ready : ∀ (listed : Array Bool), listed.size = ops.size → Region.ready .any ops listed = [] → ∀ i, i < ops.size → listed.getD i false = true := by
    intro listed hs hr i
    induction i using Nat.strongRecOn with
    | _ i ih =>
      intro hi
      by_cases hl : listed.getD i false = true
      · exact hl
      · exfalso
        have hl' : listed.getD i true = false := by
          have : i < listed.size := by omega
          simp [this] at hl ⊢
          exact hl
        have hm : i ∈ Region.ready .any ops listed := by
          refine mem_ready.2 ⟨hl', ops[i], by simp [hi], fun e he hb => ?_⟩
          have := hedge i _ (show ops[i]? = some ops[i] by simp [hi]) e he hb
          exact ih e.on this (by omega)
        rw [hr] at hm
        cases hm
  intro fuel
  induction fuel with
  | zero =>
    intro listed a w vs I hc
    have hall : ∀ i, i < ops.size → listed.getD i false = true := by
      intro i hi
      have : (List.range ops.size).filter (fun i => !listed.getD i false) = [] := List.length_eq_zero_iff.1 (by omega)
      rw [List.filter_eq_nil_iff] at this
      have := this i (by simp [hi])
      simpa using this
    have hms : m = ops.size := by
      by_cases hlt : m < ops.size
      · have := hall m hlt; rw [I.head m (Nat.le_refl _)] at this; cases this
      · omega
    exact fin 0 listed a w vs I (by omega) fun i hi => hall i (by omega)
  | succ fuel ih =>
    intro listed a w vs I hc
    by_cases hdone : ∀ i, i < m → listed.getD i false = true
    · refine fin (fuel + 1) listed a w vs I ?_ hdone
      -- what is left is the tail
      have : ((List.range ops.size).filter fun i => !listed.getD i false).length ≥ ops.size - m := by
        have h1 : ((List.range ops.size).filter fun i => !listed.getD i false) = (List.range ops.size).filter (fun i => decide (m ≤ i)) := by
          refine List.filter_congr fun i hi => ?_
          by_cases him : i < m
          · rw [hdone i him]; simp; omega
          · rw [I.head i (by omega)]; simp; omega
        rw [h1]
        have h2 : ∀ n, ((List.range n).filter (fun i => decide (m ≤ i))).length = n - m := by
          intro n
          induction n with
          | zero => simp
          | succ n ihn =>
            rw [List.range_succ, List.filter_append, List.length_append, ihn]
            by_cases hmn : m ≤ n
            · simp [hmn]; omega
            · simp [hmn]; omega
        rw [h2]
        exact Nat.le_refl _
      omega
    refine ⟨fun hr => absurd (fun i hi => some_ready listed I.size hr i (by omega)) hdone, fun i hi => ?_⟩
    obtain ⟨h0, o, ho, hall⟩ := mem_ready.1 hi
    have hil := (Array.getElem?_eq_some_iff.1 ho).1
    have hls : i < listed.size := by rw [I.size]; exact hil
    have hun : listed.getD i false = false := by simp [hls] at h0 ⊢; exact h0
    obtain ⟨g1, g2, g3⟩ := factsOk_of _ hB ho
    have hpre : ∀ j ∈ predsOf o, listed.getD j false = true := by
      intro j hj
      simp only [predsOf, List.mem_map, List.mem_filter] at hj
      obtain ⟨e, ⟨he, hb⟩, rfl⟩ := hj
      exact hall e (by simpa using he) hb
    have him : i < m := by
      by_cases h' : i < m
      · exact h'
      · exfalso
        refine hdone fun j hj => ?_
        exact downs_listed listed I.down 6 i o ho hpre j (htail i (by omega) hil j (by omega))
    obtain ⟨r1, _, _⟩ := use vs I.agree
    obtain ⟨f, hf, hok⟩ := r1 i o (by rw [List.getElem?_take, if_pos him]; simpa using ho)
    rw [Nat.zero_add] at hf
    have hok := hok w I.cls fun j f hjf hj => I.facts j f hjf (hpre j hj)
    have htk : (ops.toList.take m).take i = ops.toList.take i := by rw [List.take_take, Nat.min_eq_left (by omega)]
    rw [htk] at hok
    -- the two states are alike at what the operation looks at
    have same : ∀ t ∈ o.looksAt ops, (putsFrom vs 0 (ops.toList.take i) a0).tmps[t]? = a.tmps[t]? := by
      intro t ht
      by_cases hex : ∃ (j : Nat) (o' : Oper), ops[j]? = some o' ∧ o'.dst = some t
      · obtain ⟨j, o', hj, hd⟩ := hex
        have hjp := (g3 j o' t hj hd).2 ht
        have hjl := hpre j hjp
        have hji : j < i := by
          simp only [predsOf, List.mem_map, List.mem_filter] at hjp
          obtain ⟨e, ⟨he, hb⟩, rfl⟩ := hjp
          exact g1 e (by simpa using he) hb
        obtain ⟨_, hlt, _⟩ := factsOk_of _ hB hj
        rw [putsFrom_at vs t (ops.toList.take i) 0 a0 j o' (by rw [List.getElem?_take, if_pos hji]; simpa using hj) hd (hlt t hd) (fun k ok hk hkj => by
          rw [List.getElem?_take] at hk
          split at hk
          · obtain ⟨_, _, h3⟩ := factsOk_of _ hB (show ops[k]? = some ok by simpa using hk)
            exact (h3 j o' t hj hd).1 (Ne.symm hkj)
          · cases hk)]
        rw [I.done j o' t hj hjl hd, Nat.zero_add]
      · rw [putsFrom_other vs t (ops.toList.take i) 0 a0 (fun o' ho' hd => hex (by
          obtain ⟨k, hk, rfl⟩ := List.mem_iff_getElem.1 (List.mem_of_mem_take ho')
          exact ⟨k, _, by rw [← Array.getElem?_toList]; exact List.getElem?_eq_getElem hk, hd⟩))]
        exact (I.base t (fun k ok hk _ hd => hex ⟨k, ok, hk, hd⟩)).symm
    have hok : opok2 P ops C N0 o f a w := by
      refine opok2_congr ?_ ?_ hok
      · refine execOp_congr o (fun cs b => Region.noSelect_spec hsel i o cs b ho) fun x hx => ?_
        cases x with
        | tmp t =>
          have := same t (List.mem_append_left _ (List.mem_filterMap.2 ⟨.tmp t, by simpa using hx, rfl⟩))
          simp only [Act.eval, Array.getD_eq_getD_getElem?, this]
        | _ => rfl
      · unfold Region.wanted
        cases hg : o.guard with
        | none => rfl
        | some gw =>
          obtain ⟨g, want⟩ := gw
          have : yielded ops (putsFrom vs 0 (ops.toList.take i) a0).tmps g = yielded ops a.tmps g := by
            unfold yielded
            cases ht : (ops[g]?).bind (·.dst) with
            | none => rfl
            | some t => rw [Option.bind_some, Option.bind_some, same t (by simp [Oper.looksAt, hg, ht])]
          simp only [this]
    refine wpOp_of_opok2 ho I.cls (hN w I.cls) hok fun v w' hv hC' hG hnew => ?_
    refine ih _ _ _ (fun j => if j = i then v else vs j) ⟨by simp [I.size], hC', ?_, ?_, ?_, ?_, ?_, ?_, ?_, ?_, ?_, ?_⟩ ?_
    · cases hd : o.dst <;> simpa [Act.put] using I.defers
    · cases hd : o.dst <;> simpa [Act.put] using I.tsize
    · intro j fj hj
      by_cases hji : j = i
      · subst hji
        rw [hf] at hj
        injection hj with hj
        subst hj
        simp only [if_true]
        cases f with
        | val c => exact hv
        | ex p hp => trivial
        | new cs t => obtain ⟨g, e1, e2, _⟩ := hv; exact ⟨g, e1, e2⟩
      · simpa [hji] using I.agree j fj hj
    · intro t ht
      have hne : o.dst ≠ some t := ht i o ho (by simp [hls])
      have : (a.put o.dst v).tmps[t]? = a.tmps[t]? := by
        cases hd : o.dst with
        | none => rfl
        | some d =>
          have hne' : d ≠ t := fun e => hne (by rw [hd, e])
          simp [Act.put, Array.getElem?_setIfInBounds_ne hne']
      rw [this]
      exact I.base t fun j oj hj hl => ht j oj hj (getD_set_true hl)
    · intro j oj d hj hl hd
      by_cases hji : j = i
      · subst hji
        rw [ho] at hj
        injection hj with hj
        subst hj
        have := g2 d hd
        rw [← I.tsize] at this
        simp [Act.put, hd, this]
      · rw [getD_set_ne false (Ne.symm hji)] at hl
        have h1 := I.done j oj d hj hl hd
        have hne : o.dst ≠ some d := (g3 j oj d hj hd).1 hji
        have : (a.put o.dst v).tmps[d]? = a.tmps[d]? := by
          cases hd' : o.dst with
          | none => rfl
          | some d' =>
            have hne' : d' ≠ d := fun e => hne (by rw [hd', e])
            simp [Act.put, Array.getElem?_setIfInBounds_ne hne']
        rw [this, h1]
        simp [hji]
    · intro j fj hj hl
      by_cases hji : j = i
      · subst hji
        rw [hf] at hj
        injection hj with hj
        subst hj
        simpa using hv
      · rw [getD_set_ne false (Ne.symm hji)] at hl
        simp only [hji, if_false]
        exact Fct.stay hG (I.facts j fj hj hl)
    · intro j k fj fk hj hk hnj hnk hlj hlk hne
      have ofnew : ∀ (q : Nat) (fq : Fct), fs0[q]? = some fq → fq.isNew = true → q ≠ i → (listed.setIfInBounds i true).getD q false = true → ∃ g, vs q = .pointer (some ⟨g, 0, none⟩) ∧ g < w.heap.size := fun q fq hq hnq hqi hlq => by
        rw [getD_set_ne false (Ne.symm hqi)] at hlq
        exact I.old q fq hq hnq hlq
      by_cases hji : j = i
      · subst hji
        rw [hf] at hj
        injection hj with hj
        subst hj
        obtain ⟨g, e1, e2⟩ := ofnew k fk hk hnk (Ne.symm hne) hlk
        simp only [if_true, (Ne.symm hne), if_false]
        rw [hnew hnj, e1]
        intro e
        injection e with e
        injection e with e
        injection e with e
        omega
      · by_cases hki : k = i
        · subst hki
          rw [hf] at hk
          injection hk with hk
          subst hk
          obtain ⟨g, e1, e2⟩ := ofnew j fj hj hnj hji hlj
          simp only [if_true, hji, if_false]
          rw [hnew hnk, e1]
          intro e
          injection e with e
          injection e with e
          injection e with e
          omega
        · simp only [hji, hki, if_false]
          rw [getD_set_ne false (Ne.symm hji)] at hlj
          rw [getD_set_ne false (Ne.symm hki)] at hlk
          exact I.dist j k fj fk hj hk hnj hnk hlj hlk hne
    · intro j fj hj hnj hlj
      by_cases hji : j = i
      · subst hji
        rw [hf] at hj
        injection hj with hj
        subst hj
        refine ⟨w.heap.size, by simp only [if_true]; exact hnew hnj, ?_⟩
        cases f with
        | new cs t =>
          obtain ⟨g, e1, _, hb⟩ := hv
          rw [hnew rfl] at e1
          injection e1 with e1
          injection e1 with e1
          injection e1 with e1
          subst e1
          exact hb.lt
        | val c => cases hnj
        | ex p hp => cases hnj
      · rw [getD_set_ne false (Ne.symm hji)] at hlj
        obtain ⟨g, e1, e2⟩ := I.old j fj hj hnj hlj
        exact ⟨g, by simpa [hji] using e1, Nat.lt_of_lt_of_le e2 hG.size⟩
    · intro j oj hj hlj q hq
      by_cases hji : j = i
      · subst hji
        rw [ho] at hj
        injection hj with hj
        subst hj
        exact getD_set_true (hpre q hq)
      · rw [getD_set_ne false (Ne.symm hji)] at hlj
        exact getD_set_true (I.down j oj hj hlj q hq)
    · intro j hj
      rw [getD_set_ne false (by omega)]
      exact I.head j hj
    · -- one less
      have hlen' : ((List.range ops.size).filter fun j => !(listed.setIfInBounds i true).getD j false).length < ((List.range ops.size).filter fun j => !listed.getD j false).length := by
        have e1 : ((List.range ops.size).filter fun j => !(listed.setIfInBounds i true).getD j false) = ((List.range ops.size).filter fun j => !listed.getD j false).filter (fun j => j != i) := by
          rw [List.filter_filter]
          refine List.filter_congr fun j hj => ?_
          by_cases hji : j = i
          · subst hji; simp [hls]
          · rw [getD_set_ne false (Ne.symm hji)]; simp [hji]
        rw [e1]
        refine List.length_filter_lt_length_iff_exists.2 ⟨i, ?_, by simp⟩
        simp [List.mem_filter, hil]
        simpa [hls] using hun
      omega

theorem wp_region_facts2D {id : Nat} {Q : Exit → Act → World → Prop} {a : Act} {w : World} {l tl : List Oper} (fs : List Fct) (N0 : Nat) (hm : P.follows .mixedOrders = true) (hB : factsB (l ++ tl).toArray a.tmps.size = true) (hT : tailB6 (l ++ tl).toArray l.length = true) (hN : ∀ w, C w → N0 ≤ w.heap.size) (hC : C w.drew)
    (h : fst2 P (l ++ tl).toArray C N0 (wpList P (l ++ tl).toArray Q tl) 0 l fs a [] []) : (Code.region id (l ++ tl).toArray true).wp P Q a w := by
  have e1 : (l ++ tl).toArray.toList.take l.length = l := by simp
  have e2 : (l ++ tl).toArray.toList.drop l.length = tl := by simp
  refine wp_region_any hm (wpAny_of_facts2D (m := l.length) hB hT hN (by simp) (by rw [e1, e2]; exact h) _ _ _ _ (fun i => match fs[i]? with | some (.val c) => c | some (.new _ _) => .pointer (some ⟨N0, 0, none⟩) | _ => undef) ⟨by simp, hC, rfl, rfl, ?_, ?_, ?_, ?_, ?_, ?_, ?_, ?_⟩ ?_)
  · intro i f hf
    cases f with
    | val c => simp [hf]
    | ex p hp => trivial
    | new cs t => exact ⟨N0, by simp [hf], Nat.le_refl _⟩
  · intro t _; rfl
  · intro i o d hi hl; rw [none_listed] at hl; cases hl
  · intro i f hf hl; rw [none_listed] at hl; cases hl
  · intro i j f g _ _ _ _ hl; rw [none_listed] at hl; cases hl
  · intro i f _ _ hl; rw [none_listed] at hl; cases hl
  · intro i o _ hl; rw [none_listed] at hl; cases hl
  · intro i _; exact none_listed _ _
  · refine Nat.le_trans (List.length_filter_le _ _) (by simp)
theorem wp_region_facts2_litD {id : Nat} {Q : Exit → Act → World → Prop} {a : Act} {w : World} {l : List Oper} (m : Nat) (fs : List Fct) (N0 : Nat) (hm : P.follows .mixedOrders = true) (hml : m ≤ l.length) (hB : factsB l.toArray a.tmps.size = true) (hT : tailB6 l.toArray m = true) (hN : ∀ w, C w → N0 ≤ w.heap.size) (hC : C w.drew)
    (h : fst2 P l.toArray C N0 (wpList P l.toArray Q (l.drop m)) 0 (l.take m) fs a [] []) : (Code.region id l.toArray true).wp P Q a w := by
  have e : l.take m ++ l.drop m = l := List.take_append_drop m l
  have r := wp_region_facts2D (P := P) (C := C) (id := id) (Q := Q) (a := a) (w := w) (l := l.take m) (tl := l.drop m) fs N0 hm
  rw [e, List.length_take, Nat.min_eq_left hml] at r
  exact r hB hT hN hC h
/-! ### One operation at a time -/
end
end Go.Proofs.YtackcmlkicjlnaaDoor

/- A region that draws its order and writes, at its end, variables that it reads (XFacts, one step more). -/
namespace Go.Proofs.YtackcmlkicjlnaaDoor
open Go.RowKit
def factsOk7 (ops : Array Oper) (n : Nat) (i : Nat) (o : Oper) : Bool :=
  (o.after.all fun e => !Region.binds .any e || decide (e.on < i)) &&
  (match o.dst with | some d => decide (d < n) | none => true) &&
  (List.range ops.size).all fun j => match ops[j]? with
    | some o' => match o'.dst with
      | some d => (i == j || o.dst != some d) && (!(o.looksAt ops).contains d || (predsOf o).contains j || (decide (i < j) && (predsOf o').contains i))
      | none => true
    | none => true
def factsB7 (ops : Array Oper) (n : Nat) : Bool :=
  Region.noSelect ops && (List.range ops.size).all fun i => match ops[i]? with | some o => factsOk7 ops n i o | none => true
section
variable {P : Program} {ops : Array Oper} {C : World → Prop} {G : World → World → Prop}
theorem factsOk7_of (n : Nat) (h : factsB7 ops n = true) {i : Nat} {o : Oper} (hi : ops[i]? = some o) :
    (∀ e ∈ o.after, Region.binds .any e = true → e.on < i) ∧ (∀ d, o.dst = some d → d < n) ∧ (∀ j o' d, ops[j]? = some o' → o'.dst = some d → (j ≠ i → o.dst ≠ some d) ∧ (d ∈ o.looksAt ops → j ∈ predsOf o ∨ (i < j ∧ i ∈ predsOf o'))) := by
  have hlt := (Array.getElem?_eq_some_iff.1 hi).1
  simp only [factsB7, Bool.and_eq_true, List.all_eq_true, List.mem_range] at h
  have h1 := h.2 i hlt
  simp only [hi, factsOk7, Bool.and_eq_true, List.all_eq_true, List.mem_range] at h1
  obtain ⟨⟨h1, h2⟩, h3⟩ := h1
  refine ⟨fun e he hb => ?_, fun d hd => ?_, fun j o' d hj hd => ?_⟩
  · rw [Array.all_eq_true_iff_forall_mem] at h1
    have := h1 e he
    simpa [hb] using this
  · simpa [hd] using h2
  · have hjl := (Array.getElem?_eq_some_iff.1 hj).1
    have := h3 j hjl
    simp only [hj, hd, Bool.and_eq_true, Bool.or_eq_true] at this
    refine ⟨fun hne => ?_, fun hin => ?_⟩
    · have := this.1.resolve_left (by simp; omega)
      simpa using this
    · have := this.2
      simp only [Bool.or_eq_true, Bool.not_eq_true', Bool.and_eq_true, decide_eq_true_eq] at this
      rcases this with (h4 | h4) | h4
      · exact absurd hin (by simpa using h4)
      · exact .inl (by simpa using h4)
      · exact .inr ⟨h4.1, by simpa using h4.2⟩

structure FInv7 (ops : Array Oper) (C : World → Prop) (fs0 : List (Fact G)) (a0 : Act) (listed : Array Bool) (a : Act) (w : World) (vs : Nat → Value) : Prop where
  size : listed.size = ops.size
  cls : C w
  closed : ∀ j oj, ops[j]? = some oj → listed.getD j false = true → ∀ k ∈ predsOf oj, listed.getD k false = true
  defers : a.defers = a0.defers
  tsize : a.tmps.size = a0.tmps.size
  agree : Agree fs0 vs
  base : ∀ t, (∀ i o, ops[i]? = some o → listed.getD i false = true → o.dst ≠ some t) → a.tmps[t]? = a0.tmps[t]?
  done : ∀ i o d, ops[i]? = some o → listed.getD i false = true → o.dst = some d → a.tmps[d]? = some (vs i)
  facts : ∀ (i : Nat) (q : Value → World → Prop) (hq : _), fs0[i]? = some (Fact.ex q hq) → listed.getD i false = true → q (vs i) w

theorem wpAny_of_facts7 {Q : Exit → Act → World → Prop} {fs0 : List (Fact G)} {a0 : Act} (hB : factsB7 ops a0.tmps.size = true)
    (h : fsteps P ops C G (Q .normal) 0 ops.toList fs0 a0 []) : ∀ (fuel : Nat) (listed : Array Bool) (a : Act) (w : World) (vs : Nat → Value), FInv7 ops C fs0 a0 listed a w vs →
    ((List.range ops.size).filter fun i => !listed.getD i false).length ≤ fuel → wpAny P .any ops Q fuel listed a w := by
  have hsel : Region.noSelect ops = true := by simp only [factsB7, Bool.and_eq_true] at hB; exact hB.1
  -- all have come up
  have fin : ∀ (listed : Array Bool) (a : Act) (w : World) (vs : Nat → Value), FInv7 ops C fs0 a0 listed a w vs → (∀ i, i < ops.size → listed.getD i false = true) → Q .normal a w := by
    intro listed a w vs I hall
    obtain ⟨r1, r2⟩ := fsteps_use (ops := ops) I.agree ops.toList 0 fs0 a0 [] (by simp) (by simp) h
    have ea : a = putsFrom vs 0 ops.toList a0 := by
      obtain ⟨ts, ds⟩ := a
      have e1 : ds = (putsFrom vs 0 ops.toList a0).defers := by rw [putsFrom_defers]; exact I.defers
      have e2 : ts = (putsFrom vs 0 ops.toList a0).tmps := by
        apply Array.ext_getElem?
        intro t
        by_cases hex : ∃ (j : Nat) (o : Oper), ops[j]? = some o ∧ o.dst = some t
        · obtain ⟨j, o, hj, hd⟩ := hex
          have hjl := (Array.getElem?_eq_some_iff.1 hj).1
          have h1 := I.done j o t hj (hall j hjl) hd
          obtain ⟨_, hlt, _⟩ := factsOk7_of _ hB hj
          rw [putsFrom_at vs t ops.toList 0 a0 j o (by simpa using hj) hd (hlt t hd) (fun i o' hi hij => by
            obtain ⟨_, _, h3⟩ := factsOk7_of _ hB (show ops[i]? = some o' by simpa using hi)
            exact (h3 j o t hj hd).1 (Ne.symm hij))]
          simpa using h1
        · rw [putsFrom_other vs t ops.toList 0 a0 (fun o ho hd => hex (by
            obtain ⟨i, hi, rfl⟩ := List.mem_iff_getElem.1 ho
            exact ⟨i, _, by rw [← Array.getElem?_toList]; exact List.getElem?_eq_getElem hi, hd⟩))]
          exact I.base t (fun i o hi _ hd => hex ⟨i, o, hi, hd⟩)
      rw [e1, e2]
    rw [ea]
    refine r2 w I.cls fun i q hq hi => I.facts i q hq hi ?_
    -- a fact's number is an operation's
    have hl : fs0.length = ops.size := by
      have : ∀ (os : List Oper) (k : Nat) (fs : List (Fact G)) (a : Act) (hs : List (Nat × (World → Prop))), fsteps P ops C G (Q .normal) k os fs a hs → fs.length = os.length := by
        intro os
        induction os with
        | nil => intro k fs a hs h; cases fs with
          | nil => rfl
          | cons f fs => exact h.elim
        | cons o os ih => intro k fs a hs h; cases fs with
          | nil => exact h.elim
          | cons f fs =>
            cases f with
            | val c => simp [ih _ _ _ _ h.2]
            | ex p hp => simp [ih _ _ _ _ (h.2 undef)]
      simpa using this _ _ _ _ _ h
    have := (List.getElem?_eq_some_iff.1 hi).1
    exact hall i (by omega)
  -- if none can come up, all have
  have none_ready : ∀ (listed : Array Bool), listed.size = ops.size → Region.ready .any ops listed = [] → ∀ i, i < ops.size → listed.getD i false = true := by
    intro listed hs hr i
    induction i using Nat.strongRecOn with
    | _ i ih =>
      intro hi
      by_cases hl : listed.getD i false = true
      · exact hl
      · exfalso
        have hl' : listed.getD i true = false := by
          have : i < listed.size := by omega
          simp [this] at hl ⊢
          exact hl
        have hm : i ∈ Region.ready .any ops listed := by
          refine mem_ready.2 ⟨hl', ops[i], by simp [hi], fun e he hb => ?_⟩
          obtain ⟨h1, _, _⟩ := factsOk7_of _ hB (show ops[i]? = some ops[i] by simp [hi])
          have := h1 e he hb
          exact ih e.on this (by omega)
        rw [hr] at hm
        cases hm
  intro fuel
  induction fuel with
  | zero =>
    intro listed a w vs I hc
    have hall : ∀ i, i < ops.size → listed.getD i false = true := by
      intro i hi
      have : (List.range ops.size).filter (fun i => !listed.getD i false) = [] := List.length_eq_zero_iff.1 (by omega)
      rw [List.filter_eq_nil_iff] at this
      have := this i (by simp [hi])
      simpa using this
    refine ⟨?_, fin listed a w vs I hall⟩
    cases hr : Region.ready .any ops listed with
    | nil => rfl
    | cons j js =>
      exfalso
      have hj : j ∈ Region.ready .any ops listed := by rw [hr]; simp
      obtain ⟨h0, o, ho, _⟩ := mem_ready.1 hj
      have := hall j (Array.getElem?_eq_some_iff.1 ho).1
      have hlt : j < listed.size := by rw [I.size]; exact (Array.getElem?_eq_some_iff.1 ho).1
      simp [hlt] at h0 this
      rw [h0] at this; cases this
  | succ fuel ih =>
    intro listed a w vs I hc
    refine ⟨fun hr => fin listed a w vs I (none_ready listed I.size hr), fun i hi => ?_⟩
    obtain ⟨h0, o, ho, hall⟩ := mem_ready.1 hi
    have hil := (Array.getElem?_eq_some_iff.1 ho).1
    have hls : i < listed.size := by rw [I.size]; exact hil
    have hun : listed.getD i false = false := by simp [hls] at h0 ⊢; exact h0
    obtain ⟨g1, g2, g3⟩ := factsOk7_of _ hB ho
    obtain ⟨r1, _⟩ := fsteps_use (ops := ops) I.agree ops.toList 0 fs0 a0 [] (by simp) (by simp) h
    obtain ⟨f, hf, hok⟩ := r1 i o (by simpa using ho)
    rw [Nat.zero_add] at hf
    have hpre : ∀ j ∈ predsOf o, listed.getD j false = true := by
      intro j hj
      simp only [predsOf, List.mem_map, List.mem_filter] at hj
      obtain ⟨e, ⟨he, hb⟩, rfl⟩ := hj
      exact hall e (by simpa using he) hb
    have hok := hok w I.cls fun j hj q hq hjf => I.facts j q hq hjf (hpre j hj)
    -- the two states are alike at what the operation looks at
    have same : ∀ t ∈ o.looksAt ops, (putsFrom vs 0 (ops.toList.take i) a0).tmps[t]? = a.tmps[t]? := by
      intro t ht
      by_cases hex : ∃ (j : Nat) (o' : Oper), ops[j]? = some o' ∧ o'.dst = some t
      · obtain ⟨j, o', hj, hd⟩ := hex
        rcases (g3 j o' t hj hd).2 ht with hjp | ⟨hlate, hwait⟩
        · have hjl := hpre j hjp
          have hji : j < i := by
            simp only [predsOf, List.mem_map, List.mem_filter] at hjp
            obtain ⟨e, ⟨he, hb⟩, rfl⟩ := hjp
            exact g1 e (by simpa using he) hb
          obtain ⟨_, hlt, _⟩ := factsOk7_of _ hB hj
          rw [putsFrom_at vs t (ops.toList.take i) 0 a0 j o' (by rw [List.getElem?_take, if_pos hji]; simpa using hj) hd (hlt t hd) (fun k ok hk hkj => by
            rw [List.getElem?_take] at hk
            split at hk
            · obtain ⟨_, _, h3⟩ := factsOk7_of _ hB (show ops[k]? = some ok by simpa using hk)
              exact (h3 j o' t hj hd).1 (Ne.symm hkj)
            · cases hk)]
          rw [I.done j o' t hj hjl hd, Nat.zero_add]
        · have honly : ∀ k ok, ops[k]? = some ok → ok.dst = some t → k = j := fun k ok hk hkd => by
            by_cases hkj : k = j
            · exact hkj
            · obtain ⟨_, _, h3⟩ := factsOk7_of _ hB hk
              exact absurd hkd ((h3 j o' t hj hd).1 (Ne.symm hkj))
          rw [putsFrom_other vs t (ops.toList.take i) 0 a0 (fun ok hok' hkd => by
            obtain ⟨k, hk, rfl⟩ := List.mem_iff_getElem.1 hok'
            have hk2 : k < i := by have := hk; simp at this; omega
            have hk3 : ops[k]? = some (ops.toList.take i)[k] := by
              rw [List.getElem_take, ← Array.getElem?_toList]; exact List.getElem?_eq_getElem _
            have := honly k _ hk3 hkd
            omega)]
          exact (I.base t (fun k ok hk hkl hkd => by
            have := honly k ok hk hkd
            subst this
            rw [hj] at hk; injection hk with hk; subst hk
            have := I.closed k o' hj hkl i hwait
            rw [hun] at this; cases this)).symm
      · rw [putsFrom_other vs t (ops.toList.take i) 0 a0 (fun o' ho' hd => hex (by
          obtain ⟨k, hk, rfl⟩ := List.mem_iff_getElem.1 (List.mem_of_mem_take ho')
          exact ⟨k, _, by rw [← Array.getElem?_toList]; exact List.getElem?_eq_getElem hk, hd⟩))]
        exact (I.base t (fun k ok hk _ hd => hex ⟨k, ok, hk, hd⟩)).symm
    have hok : opok P ops C G o f a w := by
      refine opok_congr ?_ ?_ hok
      · refine execOp_congr o (fun cs b => Region.noSelect_spec hsel i o cs b ho) fun x hx => ?_
        cases x with
        | tmp t =>
          have := same t (List.mem_append_left _ (List.mem_filterMap.2 ⟨.tmp t, by simpa using hx, rfl⟩))
          simp only [Act.eval, Array.getD_eq_getD_getElem?, this]
        | _ => rfl
      · unfold Region.wanted
        cases hg : o.guard with
        | none => rfl
        | some gw =>
          obtain ⟨g, want⟩ := gw
          have : yielded ops (putsFrom vs 0 (ops.toList.take i) a0).tmps g = yielded ops a.tmps g := by
            unfold yielded
            cases ht : (ops[g]?).bind (·.dst) with
            | none => rfl
            | some t => rw [Option.bind_some, Option.bind_some, same t (by simp [Oper.looksAt, hg, ht])]
          simp only [this]
    refine wpOp_of_opok ho I.cls hok fun v w' hv hC' hG => ?_
    refine ih _ _ _ (fun j => if j = i then v else vs j) ⟨by simp [I.size], hC', ?_, ?_, ?_, ?_, ?_, ?_, ?_⟩ ?_
    · intro j oj hj hl k hk
      by_cases hji : j = i
      · subst hji
        rw [ho] at hj; injection hj with hj; subst hj
        exact getD_set_true (hpre k hk)
      · rw [getD_set_ne false (Ne.symm hji)] at hl
        exact getD_set_true (I.closed j oj hj hl k hk)
    · cases hd : o.dst <;> simpa [Act.put] using I.defers
    · cases hd : o.dst <;> simpa [Act.put] using I.tsize
    · intro j c hj
      by_cases hji : j = i
      · subst hji
        rw [hf] at hj
        injection hj with hj
        subst hj
        simpa [Fact.holds] using hv
      · simpa [hji] using I.agree j c hj
    · intro t ht
      have hne : o.dst ≠ some t := ht i o ho (by simp [hls])
      have : (a.put o.dst v).tmps[t]? = a.tmps[t]? := by
        cases hd : o.dst with
        | none => rfl
        | some d =>
          have hne' : d ≠ t := fun e => hne (by rw [hd, e])
          simp [Act.put, Array.getElem?_setIfInBounds_ne hne']
      rw [this]
      exact I.base t fun j oj hj hl => ht j oj hj (getD_set_true hl)
    · intro j oj d hj hl hd
      by_cases hji : j = i
      · subst hji
        rw [ho] at hj
        injection hj with hj
        subst hj
        have := g2 d hd
        rw [← I.tsize] at this
        simp [Act.put, hd, this]
      · rw [getD_set_ne false (Ne.symm hji)] at hl
        have h1 := I.done j oj d hj hl hd
        have hne : o.dst ≠ some d := (g3 j oj d hj hd).1 hji
        have : (a.put o.dst v).tmps[d]? = a.tmps[d]? := by
          cases hd' : o.dst with
          | none => rfl
          | some d' =>
            have hne' : d' ≠ d := fun e => hne (by rw [hd', e])
            simp [Act.put, Array.getElem?_setIfInBounds_ne hne']
        rw [this, h1]
        simp [hji]
    · intro j q hq hj hl
      by_cases hji : j = i
      · subst hji
        rw [hf] at hj
        injection hj with hj
        subst hj
        simpa [Fact.holds] using hv
      · rw [getD_set_ne false (Ne.symm hji)] at hl
        simp only [hji, if_false]
        exact hq _ _ _ hG (I.facts j q hq hj hl)
    · -- one less
      have hlen : ((List.range ops.size).filter fun j => !(listed.setIfInBounds i true).getD j false).length < ((List.range ops.size).filter fun j => !listed.getD j false).length := by
        have e1 : ((List.range ops.size).filter fun j => !(listed.setIfInBounds i true).getD j false) = ((List.range ops.size).filter fun j => !listed.getD j false).filter (fun j => j != i) := by
          rw [List.filter_filter]
          refine List.filter_congr fun j hj => ?_
          by_cases hji : j = i
          · subst hji; simp [hls]
          · rw [getD_set_ne false (Ne.symm hji)]; simp [hji]
        rw [e1]
        refine List.length_filter_lt_length_iff_exists.2 ⟨i, ?_, by simp⟩
        simp [List.mem_filter, hil]
        simpa [hls] using hun
      omega

theorem wp_region_facts7 {id : Nat} {Q : Exit → Act → World → Prop} {a : Act} {w : World} (fs : List (Fact G)) (hm : P.follows .mixedOrders = true) (hB : factsB7 ops a.tmps.size = true) (hC : C w.drew)
    (h : fsteps P ops C G (Q .normal) 0 ops.toList fs a []) : (Code.region id ops true).wp P Q a w := by
  refine wp_region_any hm (wpAny_of_facts7 hB h _ _ _ _ (fun i => match fs[i]? with | some (.val c) => c | _ => undef) ⟨by simp, hC, ?_, rfl, rfl, ?_, ?_, ?_, ?_⟩ ?_)
  · intro j oj hj hl; exfalso
    by_cases h' : j < ops.size <;> simp [h'] at hl
  · intro i c hi; simp [hi]
  · intro t _; rfl
  · intro i o d hi hl; exfalso
    by_cases h' : i < ops.size <;> simp [h'] at hl
  · intro i q hq hi hl; exfalso
    by_cases h' : i < ops.size <;> simp [h'] at hl
  · refine Nat.le_trans (List.length_filter_le _ _) (by simp)

theorem wp_region_facts7_lit {id : Nat} {Q : Exit → Act → World → Prop} {a : Act} {w : World} {l : List Oper} (fs : List (Fact G)) (hm : P.follows .mixedOrders = true) (hB : factsB7 l.toArray a.tmps.size = true) (hC : C w.drew)
    (h : fsteps P l.toArray C G (Q .normal) 0 l fs a []) : (Code.region id l.toArray true).wp P Q a w :=
  wp_region_facts7 fs hm hB hC (by simpa using h)

end
end Go.Proofs.YtackcmlkicjlnaaDoor

/- A row of the call's own, read where it lies. -/
namespace Go.Proofs.YtackcmlkicjlnaaDoor
open Go.RowKit Go.WideShapes Go.ChangeShapes
theorem OwnR.rdE {α : Type} {w : World} {base : Nat} {e : TypeId} {E : Enc α} {A : Option Addr} {c : Nat} {xs : List α} (h : OwnR w base e E (.slice A xs.length c) xs) : Reads w A (E.all xs) := by
  obtain ⟨A', c', hv, _, _, _, R⟩ := h.reads
  injection hv with h1 h2 h3
  subst h1
  exact R
theorem OwnR.rdN {w : World} {base : Nat} {e : TypeId} {A : Option Addr} {c : Nat} {xs : List Int} (h : OwnR w base e (eInt .i64) (.slice A xs.length c) xs) : Reads w A (xs.map (Value.int .i64)) := by
  have R := h.rdE
  rw [eInt_all] at R
  exact R
theorem OwnR.cell1 {α : Type} {w : World} {base : Nat} {e : TypeId} {E : Enc α} {v : Value} {xs : List α} (h : OwnR w base e E v xs) : v.oneCell' = true ∧ v.cells = #[v] := by
  obtain ⟨A, c, rfl, _⟩ := h.reads
  exact ⟨rfl, rfl⟩
theorem of1 {v : Value} {s : Nat} (h : Off v s) : ∀ j, j ∈ [s] → Off v j := fun j hj => by
  rw [List.mem_singleton] at hj; subst hj; exact h
/-- xs[:p], p a natural number; elements of any size. -/
theorem run_cutq {P : Program} {o : Oper} {a : Act} (x y : Operand) {t e : TypeId} (ho : o.op = .slice t x none (some y) none) (ht : P.underlying t = some (.slice e)) {s : Nat} (hs : ∃ i, P.info? e = some i ∧ i.size = s) {α : Type} {xs : List α} {A : Option Addr} {c p : Nat} {X : Int} (hx : a.eval x = .slice A xs.length c) (hy : a.eval y = .int .i64 X) (hX : X = (p : Int)) (hp : p ≤ xs.length) (hc : xs.length ≤ c) (W : World) :
    (execOp a.eval o).run P W = .ok (.value (.slice A (xs.take p).length c)) W := by
  subst hX
  obtain ⟨i, hi, _⟩ := hs
  have := run_cut x y ho ht ⟨i, hi⟩ hx hy ⟨by omega, by omega⟩ W
  rwa [show ((p : Nat) : Int).toNat = (xs.take p).length from by rw [List.length_take]; omega] at this
end Go.Proofs.YtackcmlkicjlnaaDoor

/- Numbers' texts: the program's and the document's. -/
namespace Go.Proofs.YtackcmlkicjlnaaDoor
open Go.RowKit Go.WideShapes Go.ChangeShapes
set_option linter.unusedSimpArgs false
set_option linter.unusedVariables false

theorem a_run_call_17_1 {o : Oper} {a : Act} (x0 : Operand) {ts : Array TypeId} (ho : o.op = .call { callee := .value (.func 17), args := #[x0], argTypes := ts }) {v0 : Value} (h0 : a.eval x0 = v0) (W : World) : (execOp a.eval o).run Tryd.prog W = .ok (.enter 17 #[v0]) W := by
  unfold execOp
  simp only [ho]
  subst h0
  go_simp
theorem a_run_lit_45_1 {o : Oper} {a : Act} (x0 : Operand) (ho : o.op = .buildSlice 45 1 #[(0, x0)]) {m0 : Int} (h0 : a.eval x0 = (.int .u8 m0)) (W : World) : (execOp a.eval o).run Tryd.prog W = .ok (.value (.slice (some ⟨W.heap.size, 0, none⟩) 1 1)) (W.alloc (.cells #[(.int .u8 m0)] 5)) := by
  unfold execOp
  simp only [ho, List.map_toArray, List.map_cons, List.map_nil, h0]
  go_simp

attribute [local irreducible] Go.wpList Go.Code.wp
set_option maxRecDepth 100000 in
set_option maxHeartbeats 4000000 in
theorem digits_small {n : Nat} (hn : n < 2 ^ 64) (h10 : n < 10) (w : World) : Calls Tryd.prog 17 #[.int .u64 (n : Int)] w fun e w' => e = .returned (.string (str (tdec n))) ∧ Below w.heap.size w w' := by
  have bel : Below w.heap.size w w := Below.refl _ _
  go_enter Tryd.func17, Tryd.ntmps17
  refine wp_seq ?_
  refine wp_region_lit ?_
  refine st_mv (.string (str [])) ?_
  simp only [nf0, nf1, nf2, nf3, nf4]
  refine wpList_nil ?_
  show Code.wp _ _ _ _ _
  refine wp_seq ?_
  refine wp_seq ?_
  refine wp_region_lit ?_
  refine st_mv (.int .u64 ((n : Nat) : Int)) ?_
  simp only [nf0, nf1, nf2, nf3, nf4]
  refine st_value (v := (.bool true)) (by rfl) ((run_lss (.tmp 3) (.const (.int .u64 10)) rfl rfl rfl w).trans (by rw [decide_eq_true (by omega)])) ?_
  simp only [nf0, nf1, nf2, nf3, nf4]
  refine wpList_nil ?_
  show Code.wp _ _ _ _ _
  refine wp_cond_true rfl ?_
  refine wp_seq ?_
  refine wp_region_lit ?_
  refine st_mv (.int .u64 ((n : Nat) : Int)) ?_
  simp only [nf0, nf1, nf2, nf3, nf4]
  refine st_mv (.int .u64 ((n : Nat) : Int)) ?_
  simp only [nf0, nf1, nf2, nf3, nf4]
  refine st_value (v := (.int .u64 ((n + 1 : Nat) : Int))) (by rfl) ((run_add (.tmp 6) (.const (.int .u64 1)) rfl rfl rfl w).trans (by rw [wrap_u64z, show ((n : Int) + 1) % 18446744073709551616 = ((n + 1 : Nat) : Int) by omega])) ?_
  simp only [nf0, nf1, nf2, nf3, nf4]
  refine st_value (v := (.string (str (tdec n)))) (by rfl) (run_digitU (.const (.string ⟨#[48, 49, 50, 51, 52, 53, 54, 55, 56, 57]⟩)) (.tmp 5) (.tmp 7) rfl Tryd.underlying9 (n := n) rfl rfl rfl (by omega) w) ?_
  simp only [nf0, nf1, nf2, nf3, nf4]
  refine st_mv (.string (str (tdec n))) ?_
  simp only [nf0, nf1, nf2, nf3, nf4]
  refine wpList_nil ?_
  show Code.wp _ _ _ _ _
  refine wp_ret ?_
  first | show bodyPost _ _ _ _ _ _ | (simp only [Exit.then, Exit.inBlock]; show bodyPost _ _ _ _ _ _)
  exact bodyPost_ret (results_tmp rfl _ _ _) rfl ⟨rfl, bel⟩
set_option maxRecDepth 100000 in
set_option maxHeartbeats 4000000 in
theorem digits_big {n : Nat} (hn : n < 2 ^ 64) (h10 : 10 ≤ n) (ih : ∀ m, m < n → ∀ w, Calls Tryd.prog 17 #[.int .u64 (m : Int)] w fun e w' => e = .returned (.string (str (tdec m))) ∧ Below w.heap.size w w') (w : World) : Calls Tryd.prog 17 #[.int .u64 (n : Int)] w fun e w' => e = .returned (.string (str (tdec n))) ∧ Below w.heap.size w w' := by
  have bel : Below w.heap.size w w := Below.refl _ _
  have hl1 := tdec_len 19 (n / 10) (by omega)
  have hl2 := tdec_len 0 (n % 10) (by omega)
  go_enter Tryd.func17, Tryd.ntmps17
  refine wp_seq ?_
  refine wp_region_lit ?_
  refine st_mv (.string (str [])) ?_
  simp only [nf0, nf1, nf2, nf3, nf4]
  refine wpList_nil ?_
  show Code.wp _ _ _ _ _
  refine wp_seq ?_
  refine wp_seq ?_
  refine wp_region_lit ?_
  refine st_mv (.int .u64 ((n : Nat) : Int)) ?_
  simp only [nf0, nf1, nf2, nf3, nf4]
  refine st_value (v := (.bool false)) (by rfl) ((run_lss (.tmp 3) (.const (.int .u64 10)) rfl rfl rfl w).trans (by rw [decide_eq_false (by omega)])) ?_
  simp only [nf0, nf1, nf2, nf3, nf4]
  refine wpList_nil ?_
  show Code.wp _ _ _ _ _
  refine wp_cond_false rfl ?_
  refine wp_skip ?_
  show Code.wp _ _ _ _ _
  refine wp_seq ?_
  refine wp_region_lit ?_
  refine st_mv (.int .u64 ((n : Nat) : Int)) ?_
  simp only [nf0, nf1, nf2, nf3, nf4]
  refine st_value (v := (.int .u64 ((n / 10 : Nat) : Int))) (by rfl) (run_quoU (.tmp 9) (.const (.int .u64 10)) rfl (m := n) (n := 10) rfl rfl (by omega) hn w) ?_
  simp only [nf0, nf1, nf2, nf3, nf4]
  refine st_call1 (v := (.string (str (tdec (n / 10))))) (by rfl) (a_run_call_17_1 (.tmp 10) rfl rfl _) (ih (n / 10) (by omega) w) ?_
  intro w1 hb2
  simp only [nf0, nf1, nf2, nf3, nf4]
  replace bel := bl_step bel hb2
  clear hb2
  refine st_mv (.int .u64 ((n : Nat) : Int)) ?_
  simp only [nf0, nf1, nf2, nf3, nf4]
  refine st_value (v := (.int .u64 ((n % 10 : Nat) : Int))) (by rfl) (run_remU (.tmp 12) (.const (.int .u64 10)) rfl (m := n) (n := 10) rfl rfl (by omega) w1) ?_
  simp only [nf0, nf1, nf2, nf3, nf4]
  refine st_call1 (v := (.string (str (tdec (n % 10))))) (by rfl) (a_run_call_17_1 (.tmp 13) rfl rfl _) (ih (n % 10) (by omega) w1) ?_
  intro w3 hb4
  simp only [nf0, nf1, nf2, nf3, nf4]
  replace bel := bl_step bel hb4
  clear hb4
  refine st_value (v := (.string (str ((tdec (n / 10)) ++ (tdec (n % 10)))))) (by rfl) (run_add_text (.tmp 11) (.tmp 14) (l := (tdec (n / 10))) (m := (tdec (n % 10))) rfl rfl rfl (by (try simp only [List.length_append, List.length_cons, List.length_nil]); omega) w3) ?_
  simp only [nf0, nf1, nf2, nf3, nf4]
  refine st_mv (.string (str ((tdec (n / 10)) ++ (tdec (n % 10))))) ?_
  simp only [nf0, nf1, nf2, nf3, nf4]
  refine wpList_nil ?_
  show Code.wp _ _ _ _ _
  refine wp_ret ?_
  first | show bodyPost _ _ _ _ _ _ | (simp only [Exit.then, Exit.inBlock]; show bodyPost _ _ _ _ _ _)
  exact bodyPost_ret (results_tmp rfl _ _ _) rfl ⟨by have h_ := tdec_big (n := n) h10; rw [show [tdg n] = tdec (n % 10) by rw [tdec_small (by omega)]; unfold tdg; rw [Nat.mod_mod]] at h_; rw [h_]; rfl, bel⟩
theorem digits_calls {n : Nat} (hn : n < 2 ^ 64) : ∀ w : World, Calls Tryd.prog 17 #[.int .u64 (n : Int)] w fun e w' => e = .returned (.string (str (tdec n))) ∧ Below w.heap.size w w' := by
  induction n using Nat.strongRecOn with
  | _ n ih =>
    intro w
    by_cases h : n < 10
    · exact digits_small hn h w
    · exact digits_big hn (by omega) (fun m hm => ih m hm (by omega)) w
set_option maxRecDepth 100000 in
set_option maxHeartbeats 4000000 in
theorem dec_calls {n : Int} (hn : -9223372036854775808 ≤ n ∧ n ≤ 9223372036854775807) (w : World) : Calls Tryd.prog 16 #[.int .i64 n] w fun e w' => e = .returned (.string (str (tdecI n))) ∧ Below w.heap.size w w' := by
  have bel : Below w.heap.size w w := Below.refl _ _
  have hl1 := tdec_len 19 n.natAbs (by omega)
  go_enter Tryd.func16, Tryd.ntmps16
  refine wp_seq ?_
  refine wp_region_lit ?_
  refine st_mv (.string (str [])) ?_
  simp only [nf0, nf1, nf2, nf3, nf4]
  refine wpList_nil ?_
  show Code.wp _ _ _ _ _
  refine wp_seq ?_
  refine wp_seq ?_
  refine wp_region_lit ?_
  refine st_mv (.int .i64 n) ?_
  simp only [nf0, nf1, nf2, nf3, nf4]
  refine st_value (v := (.bool (decide (n < 0)))) (by rfl) (run_lss (.tmp 3) (.const (.int .i64 0)) rfl rfl rfl w) ?_
  simp only [nf0, nf1, nf2, nf3, nf4]
  refine wpList_nil ?_
  show Code.wp _ _ _ _ _
  cases hg1 : decide (n < 0)
  · have hp2 := of_decide_eq_false hg1
    refine wp_cond_false rfl ?_
    refine wp_skip ?_
    show Code.wp _ _ _ _ _
    refine wp_seq ?_
    refine wp_region_lit ?_
    refine st_mv (.int .i64 n) ?_
    simp only [nf0, nf1, nf2, nf3, nf4]
    refine st_value (v := (.int .u64 ((n.natAbs : Nat) : Int))) (by rfl) (run_conv_i64_u64 (.tmp 12) rfl Tryd.underlying3 Tryd.underlying34 (z := n) (z' := ((n.natAbs : Nat) : Int)) rfl (by rw [wrap_u64z]; omega) w) ?_
    simp only [nf0, nf1, nf2, nf3, nf4]
    refine st_call1 (v := (.string (str (tdec n.natAbs)))) (by rfl) (a_run_call_17_1 (.tmp 13) rfl rfl _) (digits_calls (n := n.natAbs) (by omega) w) ?_
    intro w3 hb4
    simp only [nf0, nf1, nf2, nf3, nf4]
    replace bel := bl_step bel hb4
    clear hb4
    refine st_mv (.string (str (tdec n.natAbs))) ?_
    simp only [nf0, nf1, nf2, nf3, nf4]
    refine wpList_nil ?_
    show Code.wp _ _ _ _ _
    refine wp_ret ?_
    first | show bodyPost _ _ _ _ _ _ | (simp only [Exit.then, Exit.inBlock]; show bodyPost _ _ _ _ _ _)
    exact bodyPost_ret (results_tmp rfl _ _ _) rfl ⟨by unfold tdecI; rw [if_neg (by omega)]; rfl, bel⟩
  have hp5 := of_decide_eq_true hg1
  refine wp_cond_true rfl ?_
  refine wp_seq ?_
  refine wp_region_lit ?_
  refine st_mv (.int .i64 n) ?_
  simp only [nf0, nf1, nf2, nf3, nf4]
  refine st_value (v := (.int .i64 (n + 1))) (by rfl) (run_add_in (.tmp 5) (.const (.int .i64 1)) rfl rfl rfl (by omega) w) ?_
  simp only [nf0, nf1, nf2, nf3, nf4]
  refine st_value (v := (.int .i64 (-(n + 1)))) (by rfl) (run_negZ (.tmp 6) rfl (z := n + 1) (z' := -(n + 1)) rfl (by rw [IntWalk.i64_in _ (by omega)]; omega) w) ?_
  simp only [nf0, nf1, nf2, nf3, nf4]
  refine st_value (v := (.int .u64 (-(n + 1)))) (by rfl) (run_conv_i64_u64 (.tmp 7) rfl Tryd.underlying3 Tryd.underlying34 (z := -(n + 1)) (z' := -(n + 1)) rfl (by rw [wrap_u64z]; omega) w) ?_
  simp only [nf0, nf1, nf2, nf3, nf4]
  refine st_value (v := (.int .u64 ((n.natAbs : Nat) : Int))) (by rfl) ((run_add (.tmp 8) (.const (.int .u64 1)) rfl rfl rfl w).trans (by rw [wrap_u64z, show (-(n + 1) + 1) % 18446744073709551616 = ((n.natAbs : Nat) : Int) by omega])) ?_
  simp only [nf0, nf1, nf2, nf3, nf4]
  refine st_call1 (v := (.string (str (tdec n.natAbs)))) (by rfl) (a_run_call_17_1 (.tmp 9) rfl rfl _) (digits_calls (n := n.natAbs) (by omega) w) ?_
  intro w6 hb7
  simp only [nf0, nf1, nf2, nf3, nf4]
  replace bel := bl_step bel hb7
  clear hb7
  refine st_value (v := (.string (str ([45] ++ (tdec n.natAbs))))) (by rfl) (run_add_text (.const (.string ⟨#[45]⟩)) (.tmp 10) (l := [45]) (m := (tdec n.natAbs)) rfl rfl rfl (by (try simp only [List.length_append, List.length_cons, List.length_nil]); omega) w6) ?_
  simp only [nf0, nf1, nf2, nf3, nf4]
  refine st_mv (.string (str ([45] ++ (tdec n.natAbs)))) ?_
  simp only [nf0, nf1, nf2, nf3, nf4]
  refine wpList_nil ?_
  show Code.wp _ _ _ _ _
  refine wp_ret ?_
  first | show bodyPost _ _ _ _ _ _ | (simp only [Exit.then, Exit.inBlock]; show bodyPost _ _ _ _ _ _)
  exact bodyPost_ret (results_tmp rfl _ _ _) rfl ⟨by unfold tdecI; rw [if_pos (by omega)]; rfl, bel⟩
set_option maxRecDepth 100000 in
set_option maxHeartbeats 4000000 in
theorem refDec_calls {n : Int} (hn : -9223372036854775808 ≤ n ∧ n ≤ 9223372036854775807) (w : World) : Calls Tryd.prog 18 #[.int .i64 n] w fun e w' => e = .returned (.string (str (tdecI n))) ∧ Below w.heap.size w w' := by
  have bel : Below w.heap.size w w := Below.refl _ _
  go_enter Tryd.func18, Tryd.ntmps18
  refine wp_seq ?_
  refine wp_region_lit ?_
  refine st_mv (.string (str [])) ?_
  simp only [nf0, nf1, nf2, nf3, nf4]
  refine wpList_nil ?_
  show Code.wp _ _ _ _ _
  refine wp_seq ?_
  refine wp_region_lit ?_
  refine st_mv (.string (str [])) ?_
  simp only [nf0, nf1, nf2, nf3, nf4]
  refine wpList_nil ?_
  show Code.wp _ _ _ _ _
  refine wp_seq ?_
  refine wp_seq ?_
  refine wp_region_lit ?_
  refine st_mv (.int .i64 0) ?_
  simp only [nf0, nf1, nf2, nf3, nf4]
  refine wpList_nil ?_
  show Code.wp _ _ _ _ _
  refine wp_block ?_
  refine wp_loop_left (fun n_ a_ wr_ => (fun J1 => ∃ (i : Nat) (z : Int) (s : List UInt8), n_ = 19 - i ∧ a_ = ⟨#[.int .i64 z, J1 1, .string (str []), .string (str s), .int .i64 (i : Int), J1 5, J1 6, J1 7, J1 8, J1 9, J1 10, J1 11, J1 12, J1 13, J1 14, J1 15, J1 16, J1 17, J1 18, J1 19, J1 20, J1 21, J1 22, J1 23, J1 24, J1 25, J1 26, J1 27, J1 28, J1 29, J1 30, J1 31, J1 32, J1 33, J1 34, J1 35, J1 36, J1 37, J1 38, J1 39], []⟩ ∧ Below w.heap.size w wr_ ∧ (i ≤ 18) ∧ (z.natAbs < 10 ^ (19 - i)) ∧ (tdec n.natAbs = tdec z.natAbs ++ s) ∧ (z < 0 ↔ n < 0) ∧ (s.length ≤ i) ∧ (z.natAbs ≤ n.natAbs)) (jk a_)) (19 - 0) ⟨0, n, [], rfl, rfl, bel, (by omega), (by show n.natAbs < 10000000000000000000; omega), (by rw [List.append_nil]), Iff.rfl, (by simp), (Nat.le_refl _)⟩ ?_
  clear bel
  intro n_ a_ w2 h_
  revert h_
  generalize jk a_ = J1
  rintro ⟨i, z, s, hms, rfl, bel, hi, hz, hs, hg, hsl, hb⟩
  have htm := tmod_nat z
  have htd := tdiv_nat z
  have hzz : i = 18 → z.natAbs < 10 := fun h => by subst h; exact hz
  refine wp_seq ?_
  refine wp_seq ?_
  cases hg3 : decide ((i : Int) < 19)
  · have hp4 := of_decide_eq_false hg3
    exfalso
    omega
  have hp5 := of_decide_eq_true hg3
  refine wp_region_lit ?_
  refine st_mv (.int .i64 (i : Int)) ?_
  simp only [nf0, nf1, nf2, nf3, nf4]
  refine st_value (v := (.bool true)) (by rfl) ((run_lss (.tmp 6) (.const (.int .i64 19)) rfl rfl rfl w2).trans (by rw [hg3])) ?_
  simp only [nf0, nf1, nf2, nf3, nf4]
  refine st_mv (.bool true) ?_
  simp only [nf0, nf1, nf2, nf3, nf4]
  refine st_nob (j := 2) (t := 8) (c := true) rfl rfl rfl rfl rfl ?_
  simp only [nf0, nf1, nf2, nf3, nf4]
  refine st_nob (j := 2) (t := 8) (c := true) rfl rfl rfl rfl rfl ?_
  simp only [nf0, nf1, nf2, nf3, nf4]
  refine st_mv (.bool true) ?_
  simp only [nf0, nf1, nf2, nf3, nf4]
  refine wpList_nil ?_
  show Code.wp _ _ _ _ _
  refine wp_cond_true rfl ?_
  refine wp_skip ?_
  show Code.wp _ _ _ _ _
  refine wp_seq ?_
  refine wp_block ?_
  refine wp_seq ?_
  refine wp_region_lit ?_
  refine st_mv (.int .i64 z) ?_
  simp only [nf0, nf1, nf2, nf3, nf4]
  refine st_value (v := (.int .i64 (z.tmod 10))) (by rfl) (run_rem10 (.tmp 14) (.const (.int .i64 10)) rfl (m := z) rfl rfl w2) ?_
  simp only [nf0, nf1, nf2, nf3, nf4]
  refine st_mv (.int .i64 (z.tmod 10)) ?_
  simp only [nf0, nf1, nf2, nf3, nf4]
  refine wpList_nil ?_
  show Code.wp _ _ _ _ _
  refine wp_seq ?_
  refine wp_seq ?_
  refine wp_region_lit ?_
  refine st_mv (.int .i64 (z.tmod 10)) ?_
  simp only [nf0, nf1, nf2, nf3, nf4]
  refine st_value (v := (.bool (decide ((z.tmod 10) < 0)))) (by rfl) (run_lss (.tmp 16) (.const (.int .i64 0)) rfl rfl rfl w2) ?_
  simp only [nf0, nf1, nf2, nf3, nf4]
  refine wpList_nil ?_
  show Code.wp _ _ _ _ _
  cases hg6 : decide ((z.tmod 10) < 0)
  · have hp7 := of_decide_eq_false hg6
    refine wp_cond_false rfl ?_
    refine wp_skip ?_
    show Code.wp _ _ _ _ _
    refine wp_seq ?_
    refine wp_region_lit ?_
    refine st_mv (.int .i64 (z.tmod 10)) ?_
    simp only [nf0, nf1, nf2, nf3, nf4]
    refine st_value (v := (.int .i64 (48 + ((z.natAbs % 10 : Nat) : Int)))) (by rfl) ((run_add_in (.const (.int .i64 48)) (.tmp 20) rfl rfl rfl (by omega) w2).trans (by rw [show z.tmod 10 = ((z.natAbs % 10 : Nat) : Int) by omega])) ?_
    simp only [nf0, nf1, nf2, nf3, nf4]
    refine st_value (v := (.int .u8 ((tdg z.natAbs).toNat : Int))) (by rfl) (run_conv_i64_u8 (.tmp 21) rfl Tryd.underlying2 Tryd.underlying5 (z := 48 + ((z.natAbs % 10 : Nat) : Int)) (z' := ((tdg z.natAbs).toNat : Int)) rfl (by rw [tdg_val, wrap_u8]; omega) w2) ?_
    simp only [nf0, nf1, nf2, nf3, nf4]
    refine st_lit (by rfl) (a_run_lit_45_1 (.tmp 22) rfl rfl _) ?_
    intro g8 w9 B10 hb11 lo12
    simp only [nf0, nf1, nf2, nf3, nf4]
    replace lo12 := low_le bel lo12
    replace bel := bl_step bel hb11
    clear hb11
    refine st_value (v := (.string (str ([tdg z.natAbs] : List UInt8)))) (by rfl) (run_convB (.tmp 23) rfl rfl (OwnR.built (xs := ([tdg z.natAbs] : List UInt8)) B10 (by rfl) (Nat.zero_le _) (by simp) rfl)) ?_
    simp only [nf0, nf1, nf2, nf3, nf4]
    refine st_mv (.string (str s)) ?_
    simp only [nf0, nf1, nf2, nf3, nf4]
    refine st_value (v := (.string (str (([tdg z.natAbs] : List UInt8) ++ s)))) (by rfl) (run_add_text (.tmp 24) (.tmp 25) (l := ([tdg z.natAbs] : List UInt8)) (m := s) rfl rfl rfl (by (try simp only [List.length_append, List.length_cons, List.length_nil]); omega) w9) ?_
    simp only [nf0, nf1, nf2, nf3, nf4]
    refine st_mv (.string (str (([tdg z.natAbs] : List UInt8) ++ s))) ?_
    simp only [nf0, nf1, nf2, nf3, nf4]
    refine wpList_nil ?_
    show Code.wp _ _ _ _ _
    refine wp_seq ?_
    refine wp_seq ?_
    cases hg13 : decide ((-10) < z)
    · have hp14 := of_decide_eq_false hg13
      refine wp_region_lit ?_
      refine st_mv (.int .i64 z) ?_
      simp only [nf0, nf1, nf2, nf3, nf4]
      refine st_value (v := (.bool false)) (by rfl) ((run_gtr (.tmp 27) (.const (.int .i64 (-10))) rfl rfl rfl w9).trans (by rw [hg13])) ?_
      simp only [nf0, nf1, nf2, nf3, nf4]
      refine st_mv (.bool false) ?_
      simp only [nf0, nf1, nf2, nf3, nf4]
      refine st_nob (j := 2) (t := 29) (c := false) rfl rfl rfl rfl rfl ?_
      simp only [nf0, nf1, nf2, nf3, nf4]
      refine st_nob (j := 2) (t := 29) (c := false) rfl rfl rfl rfl rfl ?_
      simp only [nf0, nf1, nf2, nf3, nf4]
      refine st_mv (.bool false) ?_
      simp only [nf0, nf1, nf2, nf3, nf4]
      refine wpList_nil ?_
      show Code.wp _ _ _ _ _
      refine wp_cond_false rfl ?_
      refine wp_skip ?_
      show Code.wp _ _ _ _ _
      refine wp_region_lit ?_
      refine st_mv (.int .i64 z) ?_
      simp only [nf0, nf1, nf2, nf3, nf4]
      refine st_value (v := (.int .i64 (z.tdiv 10))) (by rfl) (run_quo10 (.tmp 33) (.const (.int .i64 10)) rfl (m := z) rfl rfl (by omega) w9) ?_
      simp only [nf0, nf1, nf2, nf3, nf4]
      refine st_mv (.int .i64 (z.tdiv 10)) ?_
      simp only [nf0, nf1, nf2, nf3, nf4]
      refine wpList_nil ?_
      show Code.wp _ _ _ _ _
      refine wp_region_lit ?_
      refine st_mv (.int .i64 (i : Int)) ?_
      simp only [nf0, nf1, nf2, nf3, nf4]
      refine st_value (v := (.int .i64 ((i : Int) + 1))) (by rfl) (run_add_in (.tmp 12) (.const (.int .i64 1)) rfl rfl rfl (by omega) w9) ?_
      simp only [nf0, nf1, nf2, nf3, nf4]
      refine st_mv (.int .i64 ((i : Int) + 1)) ?_
      simp only [nf0, nf1, nf2, nf3, nf4]
      refine wpList_nil ?_
      show ∃ m, m < _ ∧ _
      exact ⟨_, (by omega), (i + 1), (z.tdiv 10), (tdg z.natAbs :: s), rfl, rfl, bel, (by omega), (by rw [htd.1]; exact pow_next hi hz), (by rw [htd.1]; exact tdec_next hs (by omega)), ((htd.2 (by omega)).trans hg), (by simp only [List.length_cons, List.length_append]; omega), (by rw [htd.1]; omega)⟩
    have hp15 := of_decide_eq_true hg13
    refine wp_region_lit ?_
    refine st_mv (.int .i64 z) ?_
    simp only [nf0, nf1, nf2, nf3, nf4]
    refine st_value (v := (.bool true)) (by rfl) ((run_gtr (.tmp 27) (.const (.int .i64 (-10))) rfl rfl rfl w9).trans (by rw [hg13])) ?_
    simp only [nf0, nf1, nf2, nf3, nf4]
    refine st_mv (.bool true) ?_
    simp only [nf0, nf1, nf2, nf3, nf4]
    refine st_mv (.int .i64 z) ?_
    simp only [nf0, nf1, nf2, nf3, nf4]
    refine st_value (v := (.bool (decide (z < 10)))) (by rfl) (run_lss (.tmp 30) (.const (.int .i64 10)) rfl rfl rfl w9) ?_
    simp only [nf0, nf1, nf2, nf3, nf4]
    refine st_mv (.bool (decide (z < 10))) ?_
    simp only [nf0, nf1, nf2, nf3, nf4]
    refine wpList_nil ?_
    show Code.wp _ _ _ _ _
    cases hg16 : decide (z < 10)
    · have hp17 := of_decide_eq_false hg16
      refine wp_cond_false rfl ?_
      refine wp_skip ?_
      show Code.wp _ _ _ _ _
      refine wp_region_lit ?_
      refine st_mv (.int .i64 z) ?_
      simp only [nf0, nf1, nf2, nf3, nf4]
      refine st_value (v := (.int .i64 (z.tdiv 10))) (by rfl) (run_quo10 (.tmp 33) (.const (.int .i64 10)) rfl (m := z) rfl rfl (by omega) w9) ?_
      simp only [nf0, nf1, nf2, nf3, nf4]
      refine st_mv (.int .i64 (z.tdiv 10)) ?_
      simp only [nf0, nf1, nf2, nf3, nf4]
      refine wpList_nil ?_
      show Code.wp _ _ _ _ _
      refine wp_region_lit ?_
      refine st_mv (.int .i64 (i : Int)) ?_
      simp only [nf0, nf1, nf2, nf3, nf4]
      refine st_value (v := (.int .i64 ((i : Int) + 1))) (by rfl) (run_add_in (.tmp 12) (.const (.int .i64 1)) rfl rfl rfl (by omega) w9) ?_
      simp only [nf0, nf1, nf2, nf3, nf4]
      refine st_mv (.int .i64 ((i : Int) + 1)) ?_
      simp only [nf0, nf1, nf2, nf3, nf4]
      refine wpList_nil ?_
      show ∃ m, m < _ ∧ _
      exact ⟨_, (by omega), (i + 1), (z.tdiv 10), (tdg z.natAbs :: s), rfl, rfl, bel, (by omega), (by rw [htd.1]; exact pow_next hi hz), (by rw [htd.1]; exact tdec_next hs (by omega)), ((htd.2 (by omega)).trans hg), (by simp only [List.length_cons, List.length_append]; omega), (by rw [htd.1]; omega)⟩
    have hp18 := of_decide_eq_true hg16
    refine wp_cond_true rfl ?_
    refine wp_exit ?_
    show Code.wp _ _ _ _ _
    refine wp_seq ?_
    refine wp_seq ?_
    refine wp_region_lit ?_
    refine st_mv (.int .i64 z) ?_
    simp only [nf0, nf1, nf2, nf3, nf4]
    refine st_value (v := (.bool (decide (z < 0)))) (by rfl) (run_lss (.tmp 35) (.const (.int .i64 0)) rfl rfl rfl w9) ?_
    simp only [nf0, nf1, nf2, nf3, nf4]
    refine wpList_nil ?_
    show Code.wp _ _ _ _ _
    cases hg19 : decide (z < 0)
    · have hp20 := of_decide_eq_false hg19
      refine wp_cond_false rfl ?_
      refine wp_skip ?_
      show Code.wp _ _ _ _ _
      refine wp_seq ?_
      refine wp_region_lit ?_
      refine st_mv (.string (str (([tdg z.natAbs] : List UInt8) ++ s))) ?_
      simp only [nf0, nf1, nf2, nf3, nf4]
      refine st_mv (.string (str (([tdg z.natAbs] : List UInt8) ++ s))) ?_
      simp only [nf0, nf1, nf2, nf3, nf4]
      refine wpList_nil ?_
      show Code.wp _ _ _ _ _
      refine wp_ret ?_
      first | show bodyPost _ _ _ _ _ _ | (simp only [Exit.then, Exit.inBlock]; show bodyPost _ _ _ _ _ _)
      have hE : tdecI n = (([tdg z.natAbs] : List UInt8) ++ s) := by unfold tdecI; rw [if_neg (by omega), tdec_last hs (by omega)]; rfl
      exact bodyPost_ret (results_tmp rfl _ _ _) rfl ⟨by rw [hE]; rfl, bel⟩
    have hp21 := of_decide_eq_true hg19
    refine wp_cond_true rfl ?_
    refine wp_region_lit ?_
    refine st_mv (.string (str (([tdg z.natAbs] : List UInt8) ++ s))) ?_
    simp only [nf0, nf1, nf2, nf3, nf4]
    refine st_value (v := (.string (str ([45] ++ (([tdg z.natAbs] : List UInt8) ++ s))))) (by rfl) (run_add_text (.const (.string ⟨#[45]⟩)) (.tmp 37) (l := [45]) (m := (([tdg z.natAbs] : List UInt8) ++ s)) rfl rfl rfl (by (try simp only [List.length_append, List.length_cons, List.length_nil]); omega) w9) ?_
    simp only [nf0, nf1, nf2, nf3, nf4]
    refine st_mv (.string (str ([45] ++ (([tdg z.natAbs] : List UInt8) ++ s)))) ?_
    simp only [nf0, nf1, nf2, nf3, nf4]
    refine wpList_nil ?_
    show Code.wp _ _ _ _ _
    refine wp_seq ?_
    refine wp_region_lit ?_
    refine st_mv (.string (str ([45] ++ (([tdg z.natAbs] : List UInt8) ++ s)))) ?_
    simp only [nf0, nf1, nf2, nf3, nf4]
    refine st_mv (.string (str ([45] ++ (([tdg z.natAbs] : List UInt8) ++ s)))) ?_
    simp only [nf0, nf1, nf2, nf3, nf4]
    refine wpList_nil ?_
    show Code.wp _ _ _ _ _
    refine wp_ret ?_
    first | show bodyPost _ _ _ _ _ _ | (simp only [Exit.then, Exit.inBlock]; show bodyPost _ _ _ _ _ _)
    have hE : tdecI n = ([45] ++ (([tdg z.natAbs] : List UInt8) ++ s)) := by unfold tdecI; rw [if_pos (by omega), tdec_last hs (by omega)]; rfl
    exact bodyPost_ret (results_tmp rfl _ _ _) rfl ⟨by rw [hE]; rfl, bel⟩
  have hp22 := of_decide_eq_true hg6
  refine wp_cond_true rfl ?_
  refine wp_region_lit ?_
  refine st_mv (.int .i64 (z.tmod 10)) ?_
  simp only [nf0, nf1, nf2, nf3, nf4]
  refine st_value (v := (.int .i64 ((z.natAbs % 10 : Nat) : Int))) (by rfl) (run_negZ (.tmp 18) rfl (z := z.tmod 10) (z' := ((z.natAbs % 10 : Nat) : Int)) rfl (by rw [IntWalk.i64_in _ (by omega)]; omega) w2) ?_
  simp only [nf0, nf1, nf2, nf3, nf4]
  refine st_mv (.int .i64 ((z.natAbs % 10 : Nat) : Int)) ?_
  simp only [nf0, nf1, nf2, nf3, nf4]
  refine wpList_nil ?_
  show Code.wp _ _ _ _ _
  refine wp_seq ?_
  refine wp_region_lit ?_
  refine st_mv (.int .i64 ((z.natAbs % 10 : Nat) : Int)) ?_
  simp only [nf0, nf1, nf2, nf3, nf4]
  refine st_value (v := (.int .i64 (48 + ((z.natAbs % 10 : Nat) : Int)))) (by rfl) ((run_add_in (.const (.int .i64 48)) (.tmp 20) rfl rfl rfl (by omega) w2)) ?_
  simp only [nf0, nf1, nf2, nf3, nf4]
  refine st_value (v := (.int .u8 ((tdg z.natAbs).toNat : Int))) (by rfl) (run_conv_i64_u8 (.tmp 21) rfl Tryd.underlying2 Tryd.underlying5 (z := 48 + ((z.natAbs % 10 : Nat) : Int)) (z' := ((tdg z.natAbs).toNat : Int)) rfl (by rw [tdg_val, wrap_u8]; omega) w2) ?_
  simp only [nf0, nf1, nf2, nf3, nf4]
  refine st_lit (by rfl) (a_run_lit_45_1 (.tmp 22) rfl rfl _) ?_
  intro g23 w24 B25 hb26 lo27
  simp only [nf0, nf1, nf2, nf3, nf4]
  replace lo27 := low_le bel lo27
  replace bel := bl_step bel hb26
  clear hb26
  refine st_value (v := (.string (str ([tdg z.natAbs] : List UInt8)))) (by rfl) (run_convB (.tmp 23) rfl rfl (OwnR.built (xs := ([tdg z.natAbs] : List UInt8)) B25 (by rfl) (Nat.zero_le _) (by simp) rfl)) ?_
  simp only [nf0, nf1, nf2, nf3, nf4]
  refine st_mv (.string (str s)) ?_
  simp only [nf0, nf1, nf2, nf3, nf4]
  refine st_value (v := (.string (str (([tdg z.natAbs] : List UInt8) ++ s)))) (by rfl) (run_add_text (.tmp 24) (.tmp 25) (l := ([tdg z.natAbs] : List UInt8)) (m := s) rfl rfl rfl (by (try simp only [List.length_append, List.length_cons, List.length_nil]); omega) w24) ?_
  simp only [nf0, nf1, nf2, nf3, nf4]
  refine st_mv (.string (str (([tdg z.natAbs] : List UInt8) ++ s))) ?_
  simp only [nf0, nf1, nf2, nf3, nf4]
  refine wpList_nil ?_
  show Code.wp _ _ _ _ _
  refine wp_seq ?_
  refine wp_seq ?_
  cases hg28 : decide ((-10) < z)
  · have hp29 := of_decide_eq_false hg28
    refine wp_region_lit ?_
    refine st_mv (.int .i64 z) ?_
    simp only [nf0, nf1, nf2, nf3, nf4]
    refine st_value (v := (.bool false)) (by rfl) ((run_gtr (.tmp 27) (.const (.int .i64 (-10))) rfl rfl rfl w24).trans (by rw [hg28])) ?_
    simp only [nf0, nf1, nf2, nf3, nf4]
    refine st_mv (.bool false) ?_
    simp only [nf0, nf1, nf2, nf3, nf4]
    refine st_nob (j := 2) (t := 29) (c := false) rfl rfl rfl rfl rfl ?_
    simp only [nf0, nf1, nf2, nf3, nf4]
    refine st_nob (j := 2) (t := 29) (c := false) rfl rfl rfl rfl rfl ?_
    simp only [nf0, nf1, nf2, nf3, nf4]
    refine st_mv (.bool false) ?_
    simp only [nf0, nf1, nf2, nf3, nf4]
    refine wpList_nil ?_
    show Code.wp _ _ _ _ _
    refine wp_cond_false rfl ?_
    refine wp_skip ?_
    show Code.wp _ _ _ _ _
    refine wp_region_lit ?_
    refine st_mv (.int .i64 z) ?_
    simp only [nf0, nf1, nf2, nf3, nf4]
    refine st_value (v := (.int .i64 (z.tdiv 10))) (by rfl) (run_quo10 (.tmp 33) (.const (.int .i64 10)) rfl (m := z) rfl rfl (by omega) w24) ?_
    simp only [nf0, nf1, nf2, nf3, nf4]
    refine st_mv (.int .i64 (z.tdiv 10)) ?_
    simp only [nf0, nf1, nf2, nf3, nf4]
    refine wpList_nil ?_
    show Code.wp _ _ _ _ _
    refine wp_region_lit ?_
    refine st_mv (.int .i64 (i : Int)) ?_
    simp only [nf0, nf1, nf2, nf3, nf4]
    refine st_value (v := (.int .i64 ((i : Int) + 1))) (by rfl) (run_add_in (.tmp 12) (.const (.int .i64 1)) rfl rfl rfl (by omega) w24) ?_
    simp only [nf0, nf1, nf2, nf3, nf4]
    refine st_mv (.int .i64 ((i : Int) + 1)) ?_
    simp only [nf0, nf1, nf2, nf3, nf4]
    refine wpList_nil ?_
    show ∃ m, m < _ ∧ _
    exact ⟨_, (by omega), (i + 1), (z.tdiv 10), (tdg z.natAbs :: s), rfl, rfl, bel, (by omega), (by rw [htd.1]; exact pow_next hi hz), (by rw [htd.1]; exact tdec_next hs (by omega)), ((htd.2 (by omega)).trans hg), (by simp only [List.length_cons, List.length_append]; omega), (by rw [htd.1]; omega)⟩
  have hp30 := of_decide_eq_true hg28
  refine wp_region_lit ?_
  refine st_mv (.int .i64 z) ?_
  simp only [nf0, nf1, nf2, nf3, nf4]
  refine st_value (v := (.bool true)) (by rfl) ((run_gtr (.tmp 27) (.const (.int .i64 (-10))) rfl rfl rfl w24).trans (by rw [hg28])) ?_
  simp only [nf0, nf1, nf2, nf3, nf4]
  refine st_mv (.bool true) ?_
  simp only [nf0, nf1, nf2, nf3, nf4]
  refine st_mv (.int .i64 z) ?_
  simp only [nf0, nf1, nf2, nf3, nf4]
  refine st_value (v := (.bool (decide (z < 10)))) (by rfl) (run_lss (.tmp 30) (.const (.int .i64 10)) rfl rfl rfl w24) ?_
  simp only [nf0, nf1, nf2, nf3, nf4]
  refine st_mv (.bool (decide (z < 10))) ?_
  simp only [nf0, nf1, nf2, nf3, nf4]
  refine wpList_nil ?_
  show Code.wp _ _ _ _ _
  cases hg31 : decide (z < 10)
  · have hp32 := of_decide_eq_false hg31
    refine wp_cond_false rfl ?_
    refine wp_skip ?_
    show Code.wp _ _ _ _ _
    refine wp_region_lit ?_
    refine st_mv (.int .i64 z) ?_
    simp only [nf0, nf1, nf2, nf3, nf4]
    refine st_value (v := (.int .i64 (z.tdiv 10))) (by rfl) (run_quo10 (.tmp 33) (.const (.int .i64 10)) rfl (m := z) rfl rfl (by omega) w24) ?_
    simp only [nf0, nf1, nf2, nf3, nf4]
    refine st_mv (.int .i64 (z.tdiv 10)) ?_
    simp only [nf0, nf1, nf2, nf3, nf4]
    refine wpList_nil ?_
    show Code.wp _ _ _ _ _
    refine wp_region_lit ?_
    refine st_mv (.int .i64 (i : Int)) ?_
    simp only [nf0, nf1, nf2, nf3, nf4]
    refine st_value (v := (.int .i64 ((i : Int) + 1))) (by rfl) (run_add_in (.tmp 12) (.const (.int .i64 1)) rfl rfl rfl (by omega) w24) ?_
    simp only [nf0, nf1, nf2, nf3, nf4]
    refine st_mv (.int .i64 ((i : Int) + 1)) ?_
    simp only [nf0, nf1, nf2, nf3, nf4]
    refine wpList_nil ?_
    show ∃ m, m < _ ∧ _
    exact ⟨_, (by omega), (i + 1), (z.tdiv 10), (tdg z.natAbs :: s), rfl, rfl, bel, (by omega), (by rw [htd.1]; exact pow_next hi hz), (by rw [htd.1]; exact tdec_next hs (by omega)), ((htd.2 (by omega)).trans hg), (by simp only [List.length_cons, List.length_append]; omega), (by rw [htd.1]; omega)⟩
  have hp33 := of_decide_eq_true hg31
  refine wp_cond_true rfl ?_
  refine wp_exit ?_
  show Code.wp _ _ _ _ _
  refine wp_seq ?_
  refine wp_seq ?_
  refine wp_region_lit ?_
  refine st_mv (.int .i64 z) ?_
  simp only [nf0, nf1, nf2, nf3, nf4]
  refine st_value (v := (.bool (decide (z < 0)))) (by rfl) (run_lss (.tmp 35) (.const (.int .i64 0)) rfl rfl rfl w24) ?_
  simp only [nf0, nf1, nf2, nf3, nf4]
  refine wpList_nil ?_
  show Code.wp _ _ _ _ _
  cases hg34 : decide (z < 0)
  · have hp35 := of_decide_eq_false hg34
    refine wp_cond_false rfl ?_
    refine wp_skip ?_
    show Code.wp _ _ _ _ _
    refine wp_seq ?_
    refine wp_region_lit ?_
    refine st_mv (.string (str (([tdg z.natAbs] : List UInt8) ++ s))) ?_
    simp only [nf0, nf1, nf2, nf3, nf4]
    refine st_mv (.string (str (([tdg z.natAbs] : List UInt8) ++ s))) ?_
    simp only [nf0, nf1, nf2, nf3, nf4]
    refine wpList_nil ?_
    show Code.wp _ _ _ _ _
    refine wp_ret ?_
    first | show bodyPost _ _ _ _ _ _ | (simp only [Exit.then, Exit.inBlock]; show bodyPost _ _ _ _ _ _)
    have hE : tdecI n = (([tdg z.natAbs] : List UInt8) ++ s) := by unfold tdecI; rw [if_neg (by omega), tdec_last hs (by omega)]; rfl
    exact bodyPost_ret (results_tmp rfl _ _ _) rfl ⟨by rw [hE]; rfl, bel⟩
  have hp36 := of_decide_eq_true hg34
  refine wp_cond_true rfl ?_
  refine wp_region_lit ?_
  refine st_mv (.string (str (([tdg z.natAbs] : List UInt8) ++ s))) ?_
  simp only [nf0, nf1, nf2, nf3, nf4]
  refine st_value (v := (.string (str ([45] ++ (([tdg z.natAbs] : List UInt8) ++ s))))) (by rfl) (run_add_text (.const (.string ⟨#[45]⟩)) (.tmp 37) (l := [45]) (m := (([tdg z.natAbs] : List UInt8) ++ s)) rfl rfl rfl (by (try simp only [List.length_append, List.length_cons, List.length_nil]); omega) w24) ?_
  simp only [nf0, nf1, nf2, nf3, nf4]
  refine st_mv (.string (str ([45] ++ (([tdg z.natAbs] : List UInt8) ++ s)))) ?_
  simp only [nf0, nf1, nf2, nf3, nf4]
  refine wpList_nil ?_
  show Code.wp _ _ _ _ _
  refine wp_seq ?_
  refine wp_region_lit ?_
  refine st_mv (.string (str ([45] ++ (([tdg z.natAbs] : List UInt8) ++ s)))) ?_
  simp only [nf0, nf1, nf2, nf3, nf4]
  refine st_mv (.string (str ([45] ++ (([tdg z.natAbs] : List UInt8) ++ s)))) ?_
  simp only [nf0, nf1, nf2, nf3, nf4]
  refine wpList_nil ?_
  show Code.wp _ _ _ _ _
  refine wp_ret ?_
  first | show bodyPost _ _ _ _ _ _ | (simp only [Exit.then, Exit.inBlock]; show bodyPost _ _ _ _ _ _)
  have hE : tdecI n = ([45] ++ (([tdg z.natAbs] : List UInt8) ++ s)) := by unfold tdecI; rw [if_pos (by omega), tdec_last hs (by omega)]; rfl
  exact bodyPost_ret (results_tmp rfl _ _ _) rfl ⟨by rw [hE]; rfl, bel⟩
end Go.Proofs.YtackcmlkicjlnaaDoor

/- What the library's CutPrefix, Split and Join do at the texts that the program hands them (the kit's laid contracts). -/
namespace Go.Proofs.YtackcmlkicjlnaaDoor
open Go.RowKit Go.WideShapes Go.ChangeShapes

/-- A text without its first '-'. -/
def cutD (l : List UInt8) : List UInt8 := if l.head? = some 45 then l.drop 1 else l
theorem pre45 (l : List UInt8) : Lib.hasPrefix l [45] = decide (l.head? = some 45) := by
  cases l with
  | nil => rfl
  | cons x r =>
    show ((45 : UInt8) == x && List.isPrefixOf [] r) = _
    rw [List.isPrefixOf_nil_left, Bool.and_true, Bool.eq_iff_iff, beq_iff_eq, decide_eq_true_iff]
    simp [eq_comm]
theorem split_hit {c : UInt8} {l : List UInt8} {o : Nat} (h : Lib.indexByte l c = (o : Int)) : l = l.take o ++ c :: l.drop (o + 1) ∧ c ∉ l.take o := by
  obtain ⟨h1, h2⟩ := Lib.indexByte_some h
  obtain ⟨ho, he⟩ := List.getElem?_eq_some_iff.1 h1
  refine ⟨?_, ?_⟩
  · conv => lhs; rw [← List.take_append_drop o l]
    rw [List.drop_eq_getElem_cons ho, he]
  · intro hm
    obtain ⟨k, hk, hek⟩ := List.getElem_of_mem hm
    rw [List.length_take] at hk
    refine h2 k (by omega) ?_
    rw [List.getElem?_eq_getElem (by omega)]
    rw [List.getElem_take] at hek
    exact congrArg some hek
theorem splitB_pieces {c : UInt8} : ∀ (k : Nat) (l : List UInt8), l.count c = k → Lib.splitB ⟨#[c]⟩ 0 k (str l) = (pieces c l).map str
  | 0, l, h => by
    rw [pieces_one (List.count_eq_zero.1 h)]
    rfl
  | k + 1, l, h => by
    have hi : Lib.indexB (str l) ⟨#[c]⟩ = Lib.indexByte l c := Lib.index_one l c
    have hge := Lib.indexByte_ge l c
    have hne : Lib.indexByte l c ≠ -1 := fun e => by
      have h0 : c ∈ l := List.count_pos_iff.1 (by omega)
      obtain ⟨j, hj, hje⟩ := List.getElem_of_mem h0
      exact Lib.indexByte_none e j (by rw [List.getElem?_eq_getElem hj, hje])
    obtain ⟨o, ho⟩ : ∃ o : Nat, Lib.indexByte l c = (o : Int) := ⟨(Lib.indexByte l c).toNat, by omega⟩
    obtain ⟨e, hn⟩ := split_hit ho
    have hlt : o < l.length := by
      have := congrArg List.length e
      rw [List.length_append, List.length_cons, List.length_take, List.length_drop] at this
      omega
    have hc : (l.drop (o + 1)).count c = k := by
      have := congrArg (List.count c) e
      rw [List.count_append, List.count_cons_self, List.count_eq_zero.2 hn, h] at this
      omega
    have hs1 : (str l).extract 0 (o + 0) = str (l.take o) := by rw [str_extract]; simp
    have hs2 : (str l).extract (o + 1) (str l).size = str (l.drop (o + 1)) := by
      rw [str_extract, show (str l).size = l.length from rfl, List.take_length]
    rw [Lib.splitB_hit _ _ _ _ o (by rw [hi, ho]), show (⟨#[c]⟩ : ByteArray).size = 1 from rfl, hs1, hs2, splitB_pieces k _ hc]
    conv => rhs; rw [e, pieces_app _ hn]
    rfl
theorem slStr : SlT Tryd.prog 31 9 eStr 16 := slT_of Tryd.underlying31 (z := .string ⟨#[]⟩) (by kernel_rfl) rfl Nat.one_pos (by omega)
theorem ev_run_gen {o : Oper} {a : Act} (x0 x1 x2 x3 : Operand) {ts : Array TypeId} (ho : o.op = .call { callee := .value (.func 20), args := #[x0, x1, x2, x3], argTypes := ts }) {v0 : Value} (h0 : a.eval x0 = v0) {v1 : Value} (h1 : a.eval x1 = v1) {v2 : Value} (h2 : a.eval x2 = v2) {v3 : Value} (h3 : a.eval x3 = v3) (W : World) : (execOp a.eval o).run Tryd.prog W = .ok (.enter 20 #[v0, v1, v2, v3]) W := by
  unfold execOp
  simp only [ho]
  subst h0 h1 h2 h3
  go_simp
attribute [local irreducible] Go.wpList Go.Code.wp
set_option maxRecDepth 100000 in
set_option maxHeartbeats 1000000 in
/-- strings.Split at one byte. -/
theorem split_calls (l : List UInt8) (c : UInt8) (hl : l.length ≤ 1000000) (w : World) : Calls Tryd.prog 11 #[.string (str l), .string ⟨#[c]⟩] w fun e w' => ∃ v, e = .returned v ∧ OwnR w' w.heap.size 9 eStr v ((pieces c l).map str) ∧ Below w.heap.size w w' := by
  have hcB : Lib.countB (str l) ⟨#[c]⟩ = l.count c := Lib.count_one c l
  have hcl : l.count c ≤ l.length := List.count_le_length
  have core := Any.strings_genSplit_core Tryd.lays221 (by kernel_rfl) (str l) ⟨#[c]⟩ 0 (-1) (l.count c + 1) w (by show l.length < _; omega) (Nat.le_refl _) (Nat.zero_le _)
    (fun x cs _ => (Tryd.strings_Index_one x c _).mono fun e w' ⟨h1, h2⟩ => ⟨by rw [h1]; exact congrArg (fun z : Int => Ending.returned (.int .i64 z)) (Lib.index_one x.data.toList c).symm, h2⟩)
    ((Tryd.strings_Count_one (str l) c w).mono fun e w' ⟨h1, h2⟩ => ⟨by rw [h1, hcB]; rfl, h2⟩) (by decide) (by decide) (by rw [if_pos (by decide), hcB, show (str l).size = l.length from rfl]; omega)
  rw [Nat.add_sub_cancel, splitB_pieces _ l rfl] at core
  have core2 : Calls Tryd.prog 20 #[.string (str l), .string ⟨#[c]⟩, .int .i64 0, .int .i64 (-1)] w fun e w' => ∃ v, e = .returned v ∧ v = .slice (some ⟨w.heap.size, 0, none⟩) ((pieces c l).map str).length (l.count c + 1) ∧ w' = w.alloc (.cells (Lib.cellsOf ((pieces c l).map str) (l.count c + 1)) 9) := core.mono fun e w' ⟨h1, h2⟩ => ⟨_, h1, rfl, h2⟩
  go_enter Tryd.func11, Tryd.ntmps11
  refine wp_seq ?_
  refine wp_region_lit ?_
  refine st_mv (.slice none 0 0) ?_
  simp only [nf0, nf1, nf2, nf3, nf4]
  refine wpList_nil ?_
  show Code.wp _ _ _ _ _
  refine wp_seq ?_
  refine wp_region_lit ?_
  refine st_mv (.string (str l)) ?_
  simp only [nf0, nf1, nf2, nf3, nf4]
  refine st_mv (.string ⟨#[c]⟩) ?_
  simp only [nf0, nf1, nf2, nf3, nf4]
  refine st_call (by rfl) (ev_run_gen (.tmp 5) (.tmp 6) (.const (.int .i64 0)) (.const (.int .i64 (-1))) rfl rfl rfl rfl rfl _) core2 ?_
  rintro _ w1 ⟨rfl, rfl⟩
  simp only [nf0, nf1, nf2, nf3, nf4]
  refine st_mv (.slice (some ⟨w.heap.size, 0, none⟩) ((pieces c l).map str).length (l.count c + 1)) ?_
  simp only [nf0, nf1, nf2, nf3, nf4]
  refine wpList_nil ?_
  show Code.wp _ _ _ _ _
  refine wp_ret ?_
  first | show bodyPost _ _ _ _ _ _ | (simp only [Exit.then, Exit.inBlock]; show bodyPost _ _ _ _ _ _)
  refine bodyPost_ret (results_tmp rfl _ _ _) rfl ⟨_, rfl, ?_, bl_alloc (Below.refl _ _) _⟩
  have hlen : ((pieces c l).map str).length = l.count c + 1 := by rw [List.length_map, pieces_len]
  have e2 : Lib.cellsOf ((pieces c l).map str) (l.count c + 1) = (((pieces c l).map str).map Value.string).toArray := by rw [← hlen]; exact Lib.cellsOf_full _
  rw [e2]
  have hO : OwnR (w.alloc (.cells (((pieces c l).map str).map Value.string).toArray 9)) w.heap.size 9 eStr (.slice (some ⟨w.heap.size, 0, none⟩) ((pieces c l).map str).length ((pieces c l).map str).length) ((pieces c l).map str) :=
    OwnR.built (Blk.new _ _ _ _ rfl) (by rw [eStr_all]) (Nat.le_refl _) (by rw [hlen]; omega) (by simp [eStr])
  rw [hlen] at hO ⊢
  exact hO
/-- strings.Join. -/
theorem join_calls {w : World} {base : Nat} {v : Value} {xs : List (List UInt8)} (sep : List UInt8) (h : OwnR w base 9 eStr v (xs.map str)) (h1 : xs.length ≤ 140737488355328) (h2 : (Lib.join xs sep).length ≤ 140737488355328) :
    Calls Tryd.prog 22 #[v, .string (str sep)] w fun e w' => e = .returned (.string (str (Lib.join xs sep))) ∧ Below w.heap.size w w' := by
  have hr := h.reads
  rcases h.2 with ⟨rfl, h0⟩ | ⟨g, cap, cur, rfl, hb, hg, h3, h4, h5⟩
  · obtain rfl : xs = [] := by simpa using h0
    refine (Tryd.strings_Join_none none 0 (str sep) w).mono ?_
    rintro e w' ⟨rfl, rfl⟩
    exact ⟨rfl, Below.refl _ _⟩
  · obtain ⟨A, cap', e1, e2, _, _, hr⟩ := hr
    injection e1 with e1 _ e3
    subst e1 e3
    have hd : (xs.map str).map (·.data.toList) = xs := by rw [List.map_map, show ((fun x : ByteArray => x.data.toList) ∘ str) = id from funext str_data, List.map_id]
    have := Tryd.strings_Join g 0 cap (xs.map str) (str sep) w (fun j x hj => by
      obtain ⟨b', off', e', hc⟩ := hr j (.string x) (by rw [eStr_all, List.getElem?_map, hj]; rfl)
      injection e' with e'
      injection e' with h1 h2
      subst h1 h2
      exact hc) (Array.getElem?_eq_some_iff.1 hg).1 (by simpa using h1) e2 (by rw [hd, str_data]; exact h2)
    rw [hd, str_data] at this
    exact this

/-! ### rows of texts -/
def eTx : Enc (List UInt8) := ⟨1, fun l => [.string (str l)], fun _ => rfl, fun _ u hu => by simp at hu; subst hu; rfl⟩
theorem eTx_all (xs : List (List UInt8)) : eTx.all xs = eStr.all (xs.map str) := by
  rw [eStr_all, List.map_map]
  induction xs with
  | nil => rfl
  | cons x r ih =>
    show [Value.string (str x)] ++ eTx.all r = _
    rw [ih]
    rfl
theorem own_tx {w : World} {base : Nat} {e : TypeId} {v : Value} {xs : List (List UInt8)} : OwnR w base e eStr v (xs.map str) ↔ OwnR w base e eTx v xs := by
  unfold OwnR
  rw [eTx_all, List.length_map]
  exact Iff.rfl
theorem slTx : SlT Tryd.prog 31 9 eTx 16 := slT_of Tryd.underlying31 (z := .string ⟨#[]⟩) (by kernel_rfl) rfl Nat.one_pos (by omega)
def tx (xs : List (List UInt8)) (i : Nat) : List UInt8 := xs.getD i []
theorem tx_get {xs : List (List UInt8)} {i : Nat} (h : i < xs.length) : xs[i]? = some (tx xs i) := by unfold tx; simp [h]
theorem Reads.txAt {w : World} {b off : Nat} {xs : List (List UInt8)} (h : Reads w (some ⟨b, off, none⟩) (eTx.all xs)) (i : Nat) (hi : i < xs.length) : w.cell? ⟨b, off + i * 1, none⟩ = some (.string (str (tx xs i))) := by
  rw [eTx_all, eStr_all, List.map_map] at h
  obtain ⟨b', off', e, hc⟩ := h i (.string (str (tx xs i))) (by rw [List.getElem?_map, tx_get hi]; rfl)
  injection e with e
  injection e with e1 e2
  subst e1 e2
  rw [Nat.mul_one]
  exact hc
theorem splits_calls (l : List UInt8) (c : UInt8) (hl : l.length ≤ 1000000) (w : World) : Calls Tryd.prog 11 #[.string (str l), .string ⟨#[c]⟩] w fun e w' => ∃ v, e = .returned v ∧ OwnR w' w.heap.size 9 eTx v (pieces c l) ∧ Below w.heap.size w w' :=
  (split_calls l c hl w).mono fun e w' ⟨v, h1, h2, h3⟩ => ⟨v, h1, own_tx.1 h2, h3⟩
theorem joins_calls {w : World} {base : Nat} {v : Value} {xs : List (List UInt8)} (sep : List UInt8) (h : OwnR w base 9 eTx v xs) (h1 : xs.length ≤ 140737488355328) (h2 : (Lib.join xs sep).length ≤ 140737488355328) :
    Calls Tryd.prog 22 #[v, .string (str sep)] w fun e w' => e = .returned (.string (str (Lib.join xs sep))) ∧ Below w.heap.size w w' := join_calls sep (own_tx.2 h) h1 h2
/-- The first place of a text in a row. -/
def idxT (xs : List (List UInt8)) (x : List UInt8) : Int := if x ∈ xs then (xs.idxOf x : Int) else -1
theorem idxT_yes {xs : List (List UInt8)} {x : List UInt8} {k : Nat} (hk : k < xs.length) (h : ∀ j, j < k → tx xs j ≠ x) (he : tx xs k = x) : idxT xs x = (k : Int) := by
  have hg := tx_get hk
  have hx : x ∈ xs := by rw [← he]; exact List.mem_of_getElem? hg
  have hi := List.idxOf_lt_length_iff.2 hx
  have e : xs.idxOf x = k := by
    rcases Nat.lt_trichotomy (xs.idxOf x) k with g | g | g
    · exfalso
      refine h _ g ?_
      have := tx_get hi
      rw [List.getElem?_eq_getElem hi, List.getElem_idxOf hi] at this
      injection this with this
      exact this.symm
    · exact g
    · exfalso
      have := List.not_of_lt_findIdx (p := (· == x)) (xs := xs) (i := k) g
      rw [List.getElem?_eq_getElem hk] at hg
      injection hg with hg
      rw [hg, he] at this
      simp at this
  unfold idxT
  rw [if_pos hx, e]
theorem idxT_no {xs : List (List UInt8)} {x : List UInt8} (h : ∀ j, j < xs.length → tx xs j ≠ x) : idxT xs x = -1 := by
  unfold idxT
  rw [if_neg]
  intro hx
  obtain ⟨j, hj, e⟩ := List.getElem_of_mem hx
  refine h j hj ?_
  have := tx_get hj
  rw [List.getElem?_eq_getElem hj] at this
  injection this with this
  rw [← this, e]
/-! ### xs[p:] -/
def cutA (A : Option Addr) (cap p : Nat) : Option Addr := if cap = p then A else A.map (fun a => a.add p)
theorem Reads.cutA {w : World} {A : Option Addr} {cap p : Nat} {xs : List (List UInt8)} (h : Reads w A (eTx.all xs)) (hc : xs.length ≤ cap) : Reads w (cutA A cap p) (eTx.all (xs.drop p)) := by
  rw [eTx_all, eStr_all, List.map_map] at h ⊢
  unfold Proofs.YtackcmlkicjlnaaDoor.cutA
  split
  · have : xs.drop p = [] := List.drop_eq_nil_of_le (by omega)
    rw [this]; exact Reads.nil _ _
  · rw [List.map_drop]
    intro j u hj
    rw [List.getElem?_drop] at hj
    obtain ⟨b, off, rfl, hcell⟩ := h _ u hj
    exact ⟨b, off + p, by rw [Option.map_some, add_none], by rw [← hcell, Nat.add_assoc]⟩
section
variable {P : Program} {o : Oper} {a : Act} (x y : Operand) {t e : TypeId}
theorem run_cutlo (ho : o.op = .slice t x (some y) none none) (ht : P.underlying t = some (.slice e)) (hs : ∃ i, P.info? e = some i ∧ i.size = 1) {α : Type} {xs : List α} {A : Option Addr} {c p : Nat} {X : Int} (hx : a.eval x = .slice A xs.length c) (hy : a.eval y = .int .i64 X) (hX : X = (p : Int)) (hp : p ≤ xs.length) (hc : xs.length ≤ c) (W : World) :
    (execOp a.eval o).run P W = .ok (.value (.slice (cutA A c p) (xs.drop p).length (c - p))) W := by
  subst hX
  obtain ⟨i, hi, h1⟩ := hs
  have hel : P.elem t = e := by simp [Program.elem, ht]
  have he : P.underlying t = some (.slice (P.elem t)) := by rw [hel]; exact ht
  have r1 := run_sliceAt_slice (P := P) W t (.slice A xs.length c) (some (.int .i64 (p : Int))) none none he
  have h2 : ¬ ((p : Int) > (xs.length : Int)) := by omega
  have hb : (Instr.sliceBounds true xs.length c (some (.int .i64 (p : Int))) none none).run P W = .ok (p, xs.length, c) W := by
    simp [Instr.sliceBounds, Instr.sliceBound, asIntOf, hp]
  unfold execOp; simp only [ho]; generalize a.eval = ρ at *
  simp only [Option.map_none, Option.map_some, hx, hy, Sem.run_bind, r1, Instr.slice, run_underlying ht, Result.andThen_ok, hb]
  simp [sizeOf, typeInfo, hi, h1, cutA]
end
theorem cutA_one {b o c : Nat} (h : c ≠ 1) : cutA (some ⟨b, o, none⟩) c 1 = some ⟨b, o + 1, none⟩ := by
  unfold Proofs.YtackcmlkicjlnaaDoor.cutA
  rw [if_neg h, Option.map_some, add_none]
theorem rd_cut {w : World} {base : Nat} {e : TypeId} {b o c : Nat} {xs : List (List UInt8)} (h : OwnR w base e eTx (.slice (some ⟨b, o, none⟩) xs.length c) xs) : Reads w (some ⟨b, o + 1, none⟩) (eTx.all (xs.drop 1)) := by
  have R := h.rdE
  rw [eTx_all, eStr_all, List.map_map] at R ⊢
  rw [List.map_drop]
  intro j u hj
  rw [List.getElem?_drop] at hj
  obtain ⟨b', o', e1, hcell⟩ := R _ u hj
  injection e1 with e1
  injection e1 with e2 e3
  subst e2 e3
  exact ⟨b, o + 1, rfl, by rw [← hcell, Nat.add_assoc]⟩
end Go.Proofs.YtackcmlkicjlnaaDoor

/- How the document reads and writes lines: names cut of one text, numbers read digit by digit. -/
namespace Go.Proofs.YtackcmlkicjlnaaDoor
open Go.RowKit Go.WideShapes Go.ChangeShapes

def allN : List UInt8 := [110, 101, 119, 32, 32, 32, 32, 32, 100, 105, 115, 112, 97, 116, 99, 104, 105, 110, 115, 32, 32, 32, 32, 32, 115, 116, 111, 112, 32, 32, 32, 32, 114, 101, 97, 100, 121, 32, 32, 32, 112, 97, 114, 107, 32, 32, 32, 32, 104, 111, 108, 100, 32, 32, 32, 32, 109, 111, 118, 101, 32, 32, 32, 32, 111, 119, 110, 32, 32, 32, 32, 32, 102, 114, 101, 101, 32, 32, 32, 32, 119, 97, 105, 116, 32, 32, 32, 32, 111, 117, 116, 32, 32, 32, 32, 32, 101, 120, 105, 116, 32, 32, 32, 32, 111, 110, 108, 105, 110, 101, 32, 32, 111, 102, 102, 108, 105, 110, 101, 32, 116, 105, 99, 107, 32, 32, 32, 32, 102, 97, 105, 108, 32, 32, 32, 32, 105, 100, 108, 101, 32, 32, 32, 32, 109, 97, 115, 107, 32, 32, 32, 32, 98, 117, 98, 98, 108, 101, 32, 32, 114, 101, 103, 32, 32, 32, 32, 32]
theorem allN_cut : ∀ j : Fin 22, 1 ≤ j.val → (allN.take (8 * j.val)).drop (8 * j.val - 8) = nmL.getD j.val [] ++ List.replicate (8 - (nmL.getD j.val []).length) 32 := by decide
/-- A name and so many blanks. -/
def sp (m j : Nat) : List UInt8 := nm (m : Int) ++ List.replicate j 32
theorem sp_start {m : Nat} (h : 1 ≤ m ∧ m ≤ 21) : (allN.take (8 * m)).drop (8 * m - 8) = sp m (8 - (nm (m : Int)).length) := by
  have hk : known (m : Int) := by unfold known; omega
  rw [sp, nm_eq hk]
  exact allN_cut ⟨m, by omega⟩ h.1
theorem sp_len (m j : Nat) : (sp m j).length = (nm (m : Int)).length + j := by simp [sp]
theorem sp_last {m j : Nat} (h : 0 < j) : chr (sp m j) ((sp m j).length - 1) = 32 := by
  have hl := sp_len m j
  unfold chr
  rw [List.getD_eq_getElem?_getD, sp, List.getElem?_append_right (by rw [← sp]; omega), List.getElem?_replicate, if_pos (by rw [← sp]; omega)]
  rfl
theorem sp_end {m : Nat} (h : known (m : Int)) : chr (sp m 0) ((sp m 0).length - 1) ≠ 32 := by
  have hn := nm_known h
  have e : sp m 0 = nm (m : Int) := by simp [sp]
  rw [e]
  have hp : 0 < (nm (m : Int)).length := List.length_pos_iff.2 hn.1
  unfold chr
  rw [List.getD_eq_getElem?_getD, List.getElem?_eq_getElem (by omega)]
  have := hn.2.2 _ (List.getElem_mem (l := nm (m : Int)) (n := (nm (m : Int)).length - 1) (by omega))
  rw [Option.getD_some]
  omega
theorem sp_take {m j : Nat} (h : 0 < j) : (sp m j).take ((sp m j).length - 1) = sp m (j - 1) := by
  have hl := sp_len m j
  rw [hl]
  unfold sp
  rw [List.take_append, List.take_of_length_le (by omega), List.take_replicate]
  congr 2
  omega

/-! ### numbers, as the document reads them -/
def rstep (m : Bool) (n : Int) (c : Int) : Int := IntKind.i64.wrap (if m = true then n * 10 - c + 48 else n * 10 + c - 48)
/-- What digits come to behind n, and how many there are. -/
def rgo (m : Bool) : List UInt8 → Int → Int × Nat
  | [], n => (n, 0)
  | c :: r, n => if 48 ≤ c.toNat ∧ c.toNat ≤ 57 then ((rgo m r (rstep m n (c.toNat : Int))).1, (rgo m r (rstep m n (c.toNat : Int))).2 + 1) else (n, 0)
def rnum (l : List UInt8) : Int × Nat := if l.head? = some 45 then ((rgo true (l.drop 1) 0).1, 1 + (rgo true (l.drop 1) 0).2) else rgo false l 0
theorem rgo_end {m : Bool} {l : List UInt8} {i : Nat} {n : Int} (h : i < l.length → ¬ (48 ≤ chr l i ∧ chr l i ≤ 57)) : rgo m (l.drop i) n = (n, 0) := by
  by_cases hi : i < l.length
  · have h2 := h hi
    have e : chr l i = (l[i].toNat : Int) := by unfold chr; rw [List.getD_eq_getElem?_getD, List.getElem?_eq_getElem hi]; rfl
    rw [List.drop_eq_getElem_cons hi, rgo, if_neg (by rw [e] at h2; omega)]
  · rw [List.drop_of_length_le (by omega)]; rfl
theorem rgo_next {m : Bool} {l : List UInt8} {i : Nat} {n : Int} (hi : i < l.length) (h : 48 ≤ chr l i ∧ chr l i ≤ 57) : rgo m (l.drop i) n = ((rgo m (l.drop (i + 1)) (rstep m n (chr l i))).1, (rgo m (l.drop (i + 1)) (rstep m n (chr l i))).2 + 1) := by
  have e : chr l i = (l[i].toNat : Int) := by unfold chr; rw [List.getD_eq_getElem?_getD, List.getElem?_eq_getElem hi]; rfl
  rw [List.drop_eq_getElem_cons hi, rgo, if_pos (by rw [e] at h; omega), e]
theorem rgo_digits {m : Bool} {r : List UInt8} (hr : r = [] ∨ r.head? = some 32) : ∀ (ds : List UInt8) (n : Int), (∀ c ∈ ds, 48 ≤ c.toNat ∧ c.toNat ≤ 57) → rgo m (ds ++ r) n = (ds.foldl (fun n c => rstep m n (c.toNat : Int)) n, ds.length)
  | [], n, _ => by
    rcases hr with rfl | hr
    · rfl
    · cases r with
      | nil => rfl
      | cons x r =>
        injection hr with hr
        subst hr
        rw [List.nil_append, rgo, if_neg (by decide)]
        rfl
  | c :: ds, n, h => by
    rw [List.cons_append, rgo, if_pos (h c List.mem_cons_self), rgo_digits hr ds _ (fun x hx => h x (List.mem_cons_of_mem _ hx))]
    rfl
theorem wrap_in {n : Int} (h : -9223372036854775808 ≤ n ∧ n ≤ 9223372036854775807) : IntKind.i64.wrap n = n := IntWalk.i64_in _ h
theorem fold_pos : ∀ {k : Nat}, k ≤ 9223372036854775807 → (tdec k).foldl (fun n c => rstep false n (c.toNat : Int)) 0 = (k : Int) := by
  intro k
  induction k using Nat.strongRecOn with
  | _ k ih =>
    intro hk
    by_cases hn : k < 10
    · rw [tdec_small hn]
      show rstep false 0 ((tdg k).toNat : Int) = _
      rw [tdg_val, rstep, if_neg (by decide), wrap_in (by omega)]; omega
    · rw [tdec_big (by omega), List.foldl_append, ih (k / 10) (by omega) (by omega)]
      show rstep false _ ((tdg k).toNat : Int) = _
      rw [tdg_val, rstep, if_neg (by decide), wrap_in (by omega)]; omega
theorem fold_neg' : ∀ {k : Nat}, k ≤ 9223372036854775808 → (tdec k).foldl (fun n c => rstep true n (c.toNat : Int)) 0 = -(k : Int) := by
  intro k
  induction k using Nat.strongRecOn with
  | _ k ih =>
    intro hk
    by_cases hn : k < 10
    · rw [tdec_small hn]
      show rstep true 0 ((tdg k).toNat : Int) = _
      rw [tdg_val, rstep, if_pos rfl, wrap_in (by omega)]; omega
    · rw [tdec_big (by omega), List.foldl_append, ih (k / 10) (by omega) (by omega)]
      show rstep true _ ((tdg k).toNat : Int) = _
      rw [tdg_val, rstep, if_pos rfl, wrap_in (by omega)]; omega
theorem rnum_dec {n : Int} {r : List UInt8} (h : -9223372036854775808 ≤ n ∧ n ≤ 9223372036854775807) (hr : r = [] ∨ r.head? = some 32) : rnum (tdecI n ++ r) = (n, (tdecI n).length) := by
  have hd : ∀ c ∈ tdec n.natAbs, 48 ≤ c.toNat ∧ c.toNat ≤ 57 := fun c hc => tdec_digit hc
  unfold rnum tdecI
  by_cases hn : n < 0
  · rw [if_pos hn, if_pos (by rfl), List.cons_append, List.drop_one, List.tail_cons, rgo_digits hr _ _ hd, fold_neg' (by omega)]
    refine Prod.ext ?_ ?_
    · show -((n.natAbs : Nat) : Int) = n; omega
    · show 1 + _ = _; rw [List.length_cons]; omega
  · rw [if_neg hn, if_neg, rgo_digits hr _ _ hd, fold_pos (by omega)]
    · refine Prod.ext ?_ rfl
      show ((n.natAbs : Nat) : Int) = n; omega
    · intro e
      have hp := tdec_pos n.natAbs
      cases hdd : tdec n.natAbs with
      | nil => rw [hdd] at hp; simp at hp
      | cons x s =>
        rw [hdd] at e
        injection e with e
        have := hd x (by rw [hdd]; exact List.mem_cons_self)
        rw [e] at this
        exact absurd this.1 (by decide)
theorem rgo_I64 {m : Bool} : ∀ (l : List UInt8) (n : Int), (-9223372036854775808 ≤ n ∧ n ≤ 9223372036854775807) → (-9223372036854775808 ≤ (rgo m l n).1 ∧ (rgo m l n).1 ≤ 9223372036854775807) ∧ (rgo m l n).2 ≤ l.length
  | [], n, h => ⟨h, Nat.le_refl _⟩
  | c :: r, n, h => by
    rw [rgo]
    split
    · have ih := rgo_I64 (m := m) r (rstep m n (c.toNat : Int)) (by unfold rstep; rw [IntKind.wrap_i64]; omega)
      refine ⟨ih.1, ?_⟩
      show (rgo m r (rstep m n (c.toNat : Int))).2 + 1 ≤ _
      rw [List.length_cons]; omega
    · exact ⟨h, Nat.zero_le _⟩
theorem rnum_I64 (l : List UInt8) : (-9223372036854775808 ≤ (rnum l).1 ∧ (rnum l).1 ≤ 9223372036854775807) ∧ (rnum l).2 ≤ l.length := by
  unfold rnum
  by_cases h : l.head? = some 45
  · rw [if_pos h]
    have := rgo_I64 (m := true) (l.drop 1) 0 (by omega)
    rw [List.length_drop] at this
    have hl : 0 < l.length := by cases l with | nil => cases h | cons x r => simp
    exact ⟨this.1, by show 1 + (rgo true (l.drop 1) 0).2 ≤ _; omega⟩
  · rw [if_neg h]
    exact rgo_I64 (m := false) l 0 (by omega)
theorem head45 {l : List UInt8} : l.head? = some 45 ↔ (0 < l.length ∧ chr l 0 = 45) := by
  cases l with
  | nil => simp
  | cons x r =>
    simp only [List.head?_cons, Option.some.injEq, List.length_cons, Nat.succ_pos, true_and]
    show x = 45 ↔ (x.toNat : Int) = 45
    constructor
    · rintro rfl; rfl
    · intro h
      apply UInt8.toNat_inj.1
      show x.toNat = 45
      omega
/-- The program's: a digit more. -/
theorem num_step {t : List UInt8} {k : Nat} (hk : k < t.length) : IntKind.u64.wrap (IntKind.u64.wrap (10 * ((nval 18446744073709551616 0 (t.take k) : Nat) : Int)) + IntKind.u64.wrap (IntKind.u8.wrap (chr t k - 48))) = ((nval 18446744073709551616 0 (t.take (k + 1)) : Nat) : Int) := by
  have e : chr t k = (t[k].toNat : Int) := by unfold chr; rw [List.getD_eq_getElem?_getD, List.getElem?_eq_getElem hk]; rfl
  have h2 : nval 18446744073709551616 0 (t.take (k + 1)) = (10 * nval 18446744073709551616 0 (t.take k) + (t[k].toNat + 208) % 256) % 18446744073709551616 := by
    rw [List.take_add_one, List.getElem?_eq_getElem hk, nval_append]
    rfl
  rw [h2, e, wrap_u64z, wrap_u64z, wrap_u64z, wrap_u8]
  have := t[k].toNat_lt
  generalize nval 18446744073709551616 0 (t.take k) = N at *
  generalize t[k].toNat = c at *
  omega
end Go.Proofs.YtackcmlkicjlnaaDoor

/- The document's reading of a line, name by name; lines of a text. -/
namespace Go.Proofs.YtackcmlkicjlnaaDoor
open Go.RowKit Go.WideShapes Go.ChangeShapes

def tails : List Int → List UInt8
  | [] => []
  | n :: r => 32 :: (tdecI n ++ tails r)
theorem tails_head (r : List Int) : tails r = [] ∨ (tails r).head? = some 32 := by
  cases r with
  | nil => exact .inl rfl
  | cons n r => exact .inr rfl
theorem prE_tails (e : TEvt) : prE e = nm e.1 ++ tails [e.2.1, e.2.2.1, e.2.2.2.1, e.2.2.2.2] := by
  simp [prE, tails]
def I64L (r : List Int) : Prop := ∀ n ∈ r, -9223372036854775808 ≤ n ∧ n ≤ 9223372036854775807
/-- So far as a line of the kind k has been read: behind the place at stands what is left. -/
def Mt (l : List UInt8) (k : Int) (at_ : Nat) (zs : List Int) : Prop := ∀ e, okEv e → e.1 = k → prE e = l → ∃ r, l.drop at_ = tails r ∧ [e.2.1, e.2.2.1, e.2.2.2.1, e.2.2.2.2] = zs ++ r
theorem mt_start (l : List UInt8) (k : Int) : Mt l k (nm k).length [] := by
  intro e _ hk hl
  refine ⟨_, ?_, rfl⟩
  subst hk hl
  rw [prE_tails, List.drop_left]
theorem mt_next {l : List UInt8} {k : Int} {at_ q : Nat} {zs : List Int} {z : Int} (h : Mt l k at_ zs) (hz : zs.length < 4) (hq : rnum (l.drop (at_ + 1)) = (z, q)) : Mt l k (at_ + (1 + q)) (zs ++ [z]) := by
  intro e he hk hl
  obtain ⟨r, h1, h2⟩ := h e he hk hl
  cases r with
  | nil =>
    have := congrArg List.length h2
    rw [List.append_nil] at this
    simp at this
    omega
  | cons x r =>
    have hx : -9223372036854775808 ≤ x ∧ x ≤ 9223372036854775807 := by
      have hm : x ∈ [e.2.1, e.2.2.1, e.2.2.2.1, e.2.2.2.2] := by rw [h2]; simp
      simp only [List.mem_cons, List.not_mem_nil, or_false] at hm
      rcases hm with rfl | rfl | rfl | rfl
      · exact he.2.2.1
      · exact he.2.2.2.1
      · exact he.2.2.2.2.1
      · exact he.2.2.2.2.2
    have e1 : l.drop (at_ + 1) = tdecI x ++ tails r := by
      rw [← List.drop_drop, h1]; rfl
    rw [e1, rnum_dec hx (tails_head r)] at hq
    injection hq with hq1 hq2
    subst hq1 hq2
    refine ⟨r, ?_, by rw [h2, List.append_assoc]; rfl⟩
    rw [← Nat.add_assoc, ← List.drop_drop, e1, List.drop_left]
theorem mt_break {l : List UInt8} {k : Int} {at_ : Nat} {zs : List Int} (h : Mt l k at_ zs) (hz : zs.length < 4) (hl : l.length ≤ at_) : ∀ e, okEv e → e.1 = k → prE e ≠ l := by
  intro e he hk he2
  obtain ⟨r, h1, h2⟩ := h e he hk he2
  rw [List.drop_of_length_le hl] at h1
  cases r with
  | nil =>
    have := congrArg List.length h2
    rw [List.append_nil] at this
    simp at this
    omega
  | cons x r => cases h1
theorem mt_end {l : List UInt8} {k : Int} {at_ : Nat} {z1 z2 z3 z4 : Int} (h : Mt l k at_ [z1, z2, z3, z4]) (hn : prE (k, z1, z2, z3, z4) ≠ l) : ∀ e, okEv e → e.1 = k → prE e ≠ l := by
  intro e he hk he2
  obtain ⟨r, h1, h2⟩ := h e he hk he2
  simp only [List.cons_append, List.nil_append, List.cons.injEq] at h2
  obtain ⟨a, b, c, d, _⟩ := h2
  refine hn ?_
  rw [← he2]
  congr 1
  exact Prod.ext hk.symm (Prod.ext a.symm (Prod.ext b.symm (Prod.ext c.symm d.symm)))
theorem mt_pre {l : List UInt8} {k : Int} (h : ¬ ((nm k).length ≤ l.length ∧ l.take (nm k).length = nm k)) : ∀ e, okEv e → e.1 = k → prE e ≠ l := by
  intro e _ hk hl
  refine h ?_
  subst hk hl
  rw [prE_tails]
  exact ⟨by rw [List.length_append]; omega, List.take_left⟩
theorem past {l : List UInt8} {k : Nat} (h : ∀ e, okEv e → prE e = l → (k : Int) ≤ e.1) (h2 : ∀ e, okEv e → e.1 = (k : Int) → prE e ≠ l) : ∀ e, okEv e → prE e = l → ((k + 1 : Nat) : Int) ≤ e.1 := by
  intro e he hl
  have h3 := h e he hl
  have h4 : e.1 ≠ (k : Int) := fun hk => h2 e he hk hl
  omega

/-! ### the lines of a text -/
/-- What the reading of lines yields: the events, or the first line that is wrong. -/
noncomputable def goL : List (List UInt8) → Nat → List TEvt → List TEvt × Int
  | [], _, acc => (acc, 0)
  | [t], i, acc => if t = [] then (acc, 0) else ([], (i : Int) + 1)
  | t :: u :: r, i, acc => if (pE t).2 = true then goL (u :: r) (i + 1) (acc ++ [(pE t).1]) else ([], (i : Int) + 1)
noncomputable def paA (l : List UInt8) : List TEvt × Int := goL (pieces 10 l) 0 []
/-- The text of a row of events. -/
def prA (xs : List TEvt) : List UInt8 := xs.flatMap fun e => prE e ++ [10]
theorem prA_cons (e : TEvt) (xs : List TEvt) : prA (e :: xs) = prE e ++ 10 :: prA xs := by simp [prA]
theorem prA_snoc (xs : List TEvt) (e : TEvt) : prA (xs ++ [e]) = prA xs ++ (prE e ++ [10]) := by simp [prA]
theorem prA_pieces : ∀ xs : List TEvt, pieces 10 (prA xs) = xs.map prE ++ [[]]
  | [] => rfl
  | e :: xs => by rw [prA_cons, pieces_app _ (prE_no10 e), prA_pieces xs]; rfl
theorem prA_len {xs : List TEvt} (h : ∀ e ∈ xs, okEvt e) : (prA xs).length ≤ 93 * xs.length := by
  induction xs with
  | nil => exact Nat.le_refl _
  | cons e xs ih =>
    have h1 := prE_len (h e List.mem_cons_self)
    have h2 := ih fun x hx => h x (List.mem_cons_of_mem _ hx)
    rw [prA_cons, List.length_append, List.length_cons, List.length_cons]
    omega
theorem goL_all : ∀ (xs : List TEvt) (i : Nat) (acc : List TEvt), (∀ e ∈ xs, okEv e) → goL (xs.map prE ++ [[]]) i acc = (acc ++ xs, 0)
  | [], i, acc, _ => by rw [List.map_nil, List.nil_append, goL, if_pos rfl, List.append_nil]
  | e :: xs, i, acc, h => by
    obtain ⟨u, r, hu⟩ : ∃ u r, xs.map prE ++ [[]] = u :: r := by cases hx : xs.map prE with | nil => exact ⟨_, _, rfl⟩ | cons a b => exact ⟨_, _, rfl⟩
    rw [List.map_cons, List.cons_append, hu, goL, pE_yes (h e List.mem_cons_self) rfl, if_pos rfl, ← hu, goL_all xs _ _ (fun x hx => h x (List.mem_cons_of_mem _ hx))]
    simp
theorem paA_all {xs : List TEvt} (h : ∀ e ∈ xs, okEv e) : paA (prA xs) = (xs, 0) := by
  rw [paA, prA_pieces, goL_all xs 0 [] h, List.nil_append]
theorem pE_unknown {e : TEvt} (h : ¬ known e.1) : (pE (prE e)).2 = false := by
  rw [pE_no]
  intro f hf hl
  have := (prE_fields hl).1
  rw [nm_unknown h] at this
  exact (nm_known hf.1).1 this
theorem goL_bad : ∀ (xs : List TEvt) (i : Nat) (acc : List TEvt), (∀ e ∈ xs, okEvt e) → (∃ e ∈ xs, ¬ known e.1) → (goL (xs.map prE ++ [[]]) i acc).2 ≠ 0
  | [], i, acc, _, h => by obtain ⟨e, h, _⟩ := h; cases h
  | e :: xs, i, acc, hI, h => by
    obtain ⟨u, r, hu⟩ : ∃ u r, xs.map prE ++ [[]] = u :: r := by cases hx : xs.map prE with | nil => exact ⟨_, _, rfl⟩ | cons a b => exact ⟨_, _, rfl⟩
    rw [List.map_cons, List.cons_append, hu, goL]
    by_cases hk : known e.1
    · rw [pE_yes ⟨hk, hI e List.mem_cons_self⟩ rfl, if_pos rfl, ← hu]
      refine goL_bad xs _ _ (fun x hx => hI x (List.mem_cons_of_mem _ hx)) ?_
      obtain ⟨f, hf, hfk⟩ := h
      rcases List.mem_cons.1 hf with rfl | hf
      · exact absurd hk hfk
      · exact ⟨f, hf, hfk⟩
    · rw [if_neg (by rw [pE_unknown hk]; decide)]
      show (i : Int) + 1 ≠ 0
      omega
theorem paA_bad {xs : List TEvt} (hI : ∀ e ∈ xs, okEvt e) (h : ∃ e ∈ xs, ¬ known e.1) : (paA (prA xs)).2 ≠ 0 := by
  rw [paA, prA_pieces]
  exact goL_bad xs 0 [] hI h
theorem goL_ok : ∀ (ts : List (List UInt8)) (i : Nat) (acc : List TEvt), (∀ e ∈ acc, okEvt e) → (∀ e ∈ (goL ts i acc).1, okEvt e) ∧ (goL ts i acc).1.length ≤ acc.length + ts.length
  | [], i, acc, h => ⟨h, Nat.le_add_right _ _⟩
  | [t], i, acc, h => by
    rw [goL]
    split
    · exact ⟨h, Nat.le_add_right _ _⟩
    · exact ⟨fun e he => (by cases he), Nat.zero_le _⟩
  | t :: u :: r, i, acc, h => by
    rw [goL]
    split
    · have ih := goL_ok (u :: r) (i + 1) (acc ++ [(pE t).1]) (fun e he => by
        rcases List.mem_append.1 he with he | he
        · exact h e he
        · rw [List.mem_singleton] at he; subst he; exact pE_I64 t)
      refine ⟨ih.1, ?_⟩
      have := ih.2
      simp only [List.length_append, List.length_cons, List.length_nil] at this ⊢
      omega
    · exact ⟨fun e he => (by cases he), Nat.zero_le _⟩
theorem paA_ok (l : List UInt8) : (∀ e ∈ (paA l).1, okEvt e) ∧ (paA l).1.length ≤ l.length + 1 := by
  have h := goL_ok (pieces 10 l) 0 [] (fun e he => by cases he)
  have h2 := pieces_len 10 l
  have h3 : l.count 10 ≤ l.length := List.count_le_length
  refine ⟨h.1, ?_⟩
  have := h.2
  unfold paA
  simp only [List.length_nil] at this
  omega
end Go.Proofs.YtackcmlkicjlnaaDoor

/- Entries' lines: the kinds' names, what each has, a line's words, what a line's reading yields. -/
namespace Go.Proofs.YtackcmlkicjlnaaDoor
open Go.RowKit Go.WideShapes Go.ChangeShapes

def nmSL : List (List UInt8) := [[], [115, 116, 101, 112], [116, 105, 99, 107], [110, 101, 119], [109, 97, 115, 107], [112, 105, 110], [117, 110, 112, 105, 110], [111, 110, 108, 105, 110, 101], [111, 102, 102, 108, 105, 110, 101], [98, 117, 98, 98, 108, 101], [112, 117, 116], [115, 101, 97, 108], [112, 108, 97, 99, 101], [98, 117, 114, 115, 116], [114, 101, 103, 101, 110], [98, 97, 108, 97, 110, 99, 101]]
theorem nmSL_len : nmSL.length = 16 := rfl
def knS (k : Int) : Prop := 1 ≤ k ∧ k ≤ 15
def nmS (k : Int) : List UInt8 := if 1 ≤ k ∧ k ≤ 15 then nmSL.getD k.toNat [] else []
theorem nmSL_all : ∀ j : Fin 16, 1 ≤ j.val → (nmSL.getD j.val []) ≠ [] ∧ (nmSL.getD j.val []).length ≤ 7 ∧ ∀ c ∈ nmSL.getD j.val [], 97 ≤ c.toNat := by decide
theorem nmSL_inj : ∀ j k : Fin 16, 1 ≤ j.val → 1 ≤ k.val → nmSL.getD j.val [] = nmSL.getD k.val [] → j = k := by decide
theorem nmS_unknown {k : Int} (h : ¬ knS k) : nmS k = [] := if_neg h
theorem nmS_eq {k : Int} (h : knS k) : nmS k = nmSL.getD k.toNat [] := if_pos h
theorem nmS_known {k : Int} (h : knS k) : nmS k ≠ [] ∧ (nmS k).length ≤ 7 ∧ ∀ c ∈ nmS k, 97 ≤ c.toNat := by
  rw [nmS_eq h]
  unfold knS at h
  exact nmSL_all ⟨k.toNat, by omega⟩ (by show 1 ≤ k.toNat; omega)
theorem nmS_inj {j k : Int} (hj : knS j) (hk : knS k) (h : nmS j = nmS k) : j = k := by
  rw [nmS_eq hj, nmS_eq hk] at h
  unfold knS at hj hk
  have := nmSL_inj ⟨j.toNat, by omega⟩ ⟨k.toNat, by omega⟩ (by show 1 ≤ j.toNat; omega) (by show 1 ≤ k.toNat; omega) h
  injection this with this
  omega
theorem nmS_len (k : Int) : (nmS k).length ≤ 7 := by
  by_cases h : knS k
  · exact (nmS_known h).2.1
  · rw [nmS_unknown h]; exact Nat.zero_le _
theorem nmS_no32 (k : Int) : (32 : UInt8) ∉ nmS k := fun h => by
  by_cases hk : knS k
  · exact absurd ((nmS_known hk).2.2 _ h) (by decide)
  · rw [nmS_unknown hk] at h; cases h
def shSL : List (List UInt8) := [[], [65, 68], [], [65, 66, 67], [65, 66], [65, 66], [65], [65], [65], [65, 66], [65, 66], [65], [65, 66], [65], [65], [65]]
def shS (k : Int) : List UInt8 := if 1 ≤ k ∧ k ≤ 15 then shSL.getD k.toNat [] else [65]
theorem shSL_all : ∀ j : Fin 16, (shSL.getD j.val []).length ≤ 3 ∧ (shSL.getD j.val []).Nodup ∧ ∀ c ∈ shSL.getD j.val [], c = 65 ∨ c = 66 ∨ c = 67 ∨ c = 68 := by decide
theorem shS_ok (k : Int) : (shS k).length ≤ 3 ∧ (shS k).Nodup ∧ ∀ c ∈ shS k, c = 65 ∨ c = 66 ∨ c = 67 ∨ c = 68 := by
  unfold shS
  by_cases h : 1 ≤ k ∧ k ≤ 15
  · rw [if_pos h]; exact shSL_all ⟨k.toNat, by omega⟩
  · rw [if_neg h]; decide
/-- An entry's letter. -/
def fld (e : TEnt) (c : UInt8) : Int := if c = 65 then e.2.1 else if c = 66 then e.2.2.1 else if c = 67 then e.2.2.2.1 else e.2.2.2.2
theorem entS_ext {e f : TEnt} (h : e.1 = f.1) (ha : fld e 65 = fld f 65) (hb : fld e 66 = fld f 66) (hc : fld e 67 = fld f 67) (hd : fld e 68 = fld f 68) : e = f :=
  Prod.ext h (Prod.ext ha (Prod.ext hb (Prod.ext hc hd)))
/-- An entry's line. -/
def prS (e : TEnt) : List UInt8 := nmS e.1 ++ tails ((shS e.1).map (fld e))
theorem pieces_tails : ∀ (ns : List Int) {a : List UInt8}, (32 : UInt8) ∉ a → pieces 32 (a ++ tails ns) = a :: ns.map tdecI
  | [], a, h => by rw [tails, List.append_nil, pieces_one h]; rfl
  | n :: ns, a, h => by rw [tails, pieces_app _ h, pieces_tails ns (dec_no32 n)]; rfl
theorem prS_pieces (e : TEnt) : pieces 32 (prS e) = nmS e.1 :: ((shS e.1).map (fld e)).map tdecI := pieces_tails _ (nmS_no32 _)
/-- It has no more than its kind has. -/
def okS (e : TEnt) : Prop := knS e.1 ∧ okEnt e ∧ ∀ c, (c = 65 ∨ c = 66 ∨ c = 67 ∨ c = 68) → c ∉ shS e.1 → fld e c = 0
theorem okS_agree {e f : TEnt} (he : okS e) (hf : okS f) (h : e.1 = f.1) (ha : ∀ c ∈ shS e.1, fld e c = fld f c) : e = f := by
  have key : ∀ c, (c = 65 ∨ c = 66 ∨ c = 67 ∨ c = 68) → fld e c = fld f c := fun c hc => by
    by_cases hm : c ∈ shS e.1
    · exact ha c hm
    · rw [he.2.2 c hc hm, hf.2.2 c hc (by rw [← h]; exact hm)]
  exact entS_ext h (key 65 (.inl rfl)) (key 66 (.inr (.inl rfl))) (key 67 (.inr (.inr (.inl rfl)))) (key 68 (.inr (.inr (.inr rfl))))
theorem map_dec_inj {f g : UInt8 → Int} : ∀ {l : List UInt8}, (l.map f).map tdecI = (l.map g).map tdecI → ∀ c ∈ l, f c = g c
  | [], _, c, h => by cases h
  | x :: l, h, c, hc => by
    simp only [List.map_cons, List.cons.injEq] at h
    rcases List.mem_cons.1 hc with rfl | hc
    · exact tdecI_inj h.1
    · exact map_dec_inj (l := l) (by simpa using h.2) c hc
theorem prS_inj {e f : TEnt} (he : okS e) (hf : okS f) (h : prS e = prS f) : e = f := by
  have h1 := prS_pieces e
  rw [h, prS_pieces f, List.cons.injEq] at h1
  have hk := nmS_inj hf.1 he.1 h1.1
  refine okS_agree he hf hk.symm fun c hc => ?_
  have h2 := h1.2
  rw [hk] at h2
  exact (map_dec_inj h2 c hc).symm
/-- What the reading of a line yields. -/
noncomputable def pS (l : List UInt8) : TEnt × Bool := open Classical in if h : ∃ e, okS e ∧ prS e = l then (h.choose, true) else ((0, 0, 0, 0, 0), false)
theorem pS_yes {e : TEnt} {l : List UInt8} (h : okS e) (hl : prS e = l) : pS l = (e, true) := by
  have hx : ∃ e, okS e ∧ prS e = l := ⟨e, h, hl⟩
  rw [pS, dif_pos hx]
  have := prS_inj hx.choose_spec.1 h (hx.choose_spec.2.trans hl.symm)
  rw [this]
theorem pS_no {l : List UInt8} (h : ∀ e, okS e → prS e ≠ l) : pS l = ((0, 0, 0, 0, 0), false) := by
  rw [pS, dif_neg]
  rintro ⟨e, h1, h2⟩
  exact h e h1 h2
theorem tails_len : ∀ {ns : List Int} {m : Nat}, (∀ n ∈ ns, (tdecI n).length ≤ m) → (tails ns).length ≤ ns.length * (m + 1)
  | [], m, _ => Nat.zero_le _
  | n :: ns, m, h => by
    have h1 := h n List.mem_cons_self
    have h2 := tails_len (ns := ns) (m := m) fun x hx => h x (List.mem_cons_of_mem _ hx)
    rw [tails, List.length_cons, List.length_append, List.length_cons, Nat.succ_mul]
    omega
theorem dec_len_ent {e : TEnt} (h : okEnt e) (c : UInt8) : (tdecI (fld e c)).length ≤ 20 := by
  unfold okEnt at h
  unfold fld
  split
  · exact tdecI_len h.2.1
  · split
    · exact tdecI_len h.2.2.1
    · split
      · exact tdecI_len h.2.2.2.1
      · have h5 := h.2.2.2.2
        have := tdec_len 19 e.2.2.2.2.natAbs (by omega)
        unfold tdecI
        rw [if_neg (by omega)]
        exact this
theorem prS_len {e : TEnt} (h : okEnt e) : (prS e).length ≤ 70 := by
  have h1 := nmS_len e.1
  have h2 := tails_len (ns := (shS e.1).map (fld e)) (m := 20) fun n hn => by
    obtain ⟨c, _, rfl⟩ := List.mem_map.1 hn; exact dec_len_ent h c
  have h3 := (shS_ok e.1).1
  rw [List.length_map] at h2
  unfold prS
  rw [List.length_append]
  omega

/-! ### the kind of a name -/
def kS (x : List UInt8) : Nat := if x ∈ nmSL then nmSL.idxOf x else 0
theorem kS_nm {k : Int} (h : knS k) : (kS (nmS k) : Int) = k := by
  have key : ∀ j : Fin 16, nmSL.idxOf (nmSL.getD j.val []) = j.val ∧ nmSL.getD j.val [] ∈ nmSL := by decide
  rw [nmS_eq h]
  unfold knS at h
  have := key ⟨k.toNat, by omega⟩
  rw [kS, if_pos this.2, this.1]
  show ((k.toNat : Nat) : Int) = k
  omega
theorem kS_le (x : List UInt8) : kS x ≤ 15 := by
  unfold kS
  split
  · rename_i hx
    have hl : nmSL.idxOf x < 16 := List.idxOf_lt_length_iff.2 hx
    omega
  · omega
theorem kS_pos {x : List UInt8} (h : 0 < kS x) : knS (kS x : Int) ∧ nmS (kS x : Int) = x := by
  have h15 := kS_le x
  unfold kS at h h15 ⊢
  by_cases hx : x ∈ nmSL
  · rw [if_pos hx] at h h15 ⊢
    have hl : nmSL.idxOf x < 16 := List.idxOf_lt_length_iff.2 hx
    refine ⟨⟨by omega, by omega⟩, ?_⟩
    rw [nmS, if_pos ⟨by omega, by omega⟩, Int.toNat_natCast, List.getD_eq_getElem?_getD, List.getElem?_eq_getElem (by exact hl)]
    exact List.getElem_idxOf hl
  · rw [if_neg hx] at h; omega
def opS (o i : Nat) : Nat := if o < i then o else 0
theorem opS_yes {x : List UInt8} {i : Nat} (hi : 1 ≤ i ∧ i ≤ 15) (h : nmS (i : Int) = x) : opS (kS x) (i + 1) = i := by
  have := kS_nm (k := (i : Int)) (by unfold knS; omega)
  rw [h] at this
  unfold opS
  rw [if_pos (by omega)]
  omega
theorem opS_no {x : List UInt8} {i : Nat} (hi : 1 ≤ i ∧ i ≤ 15) (h : ¬ nmS (i : Int) = x) : opS (kS x) (i + 1) = opS (kS x) i := by
  have : kS x ≠ i := fun e => h (by have := (kS_pos (x := x) (by omega)).2; rw [e] at this; exact this)
  unfold opS
  by_cases h1 : kS x < i
  · rw [if_pos h1, if_pos (by omega)]
  · rw [if_neg h1, if_neg (by omega)]
theorem opS_end (x : List UInt8) : opS (kS x) 16 = kS x := by
  have := kS_le x
  unfold opS
  rw [if_pos (by omega)]

/-! ### a number's value, as the program reads it -/
theorem nval_lt {M : Nat} (hM : 0 < M) : ∀ (l : List UInt8) (n : Nat), n < M → nval M n l < M
  | [], n, h => h
  | c :: l, n, _ => nval_lt hM l _ (Nat.mod_lt _ hM)
theorem numN_lt (t : List UInt8) : numN t < 18446744073709551616 := nval_lt (by decide) t 0 (by decide)
def numU (t : List UInt8) : Int := if t.head? = some 45 then IntKind.u64.wrap (-(numN (t.drop 1) : Int)) else (numN t : Int)
theorem numU_rng (t : List UInt8) : 0 ≤ numU t ∧ numU t < 18446744073709551616 := by
  have := numN_lt t
  unfold numU
  split
  · rw [wrap_u64z]; omega
  · omega
theorem tdec_head (m : Nat) : (tdec m).head? ≠ some 45 := fun e => by
  have hp := tdec_pos m
  cases hd : tdec m with
  | nil => rw [hd] at hp; simp at hp
  | cons x r =>
    rw [hd] at e
    injection e with e
    have := tdec_digit (n := m) (c := x) (by rw [hd]; exact List.mem_cons_self)
    rw [e] at this
    exact absurd this.1 (by decide)
theorem numU_dec {n : Int} (h : -9223372036854775808 ≤ n ∧ n < 18446744073709551616) : numU (tdecI n) = IntKind.u64.wrap n := by
  unfold numU tdecI
  by_cases hn : n < 0
  · rw [if_pos hn, if_pos (show (45 :: tdec n.natAbs).head? = some 45 from rfl), List.drop_one, List.tail_cons, numN, nval_tdec (by omega)]
    congr 1; omega
  · rw [if_neg hn, if_neg (tdec_head _), numN, nval_tdec (by omega), wrap_u64z]; omega
theorem wrap_wrap {n : Int} (h : -9223372036854775808 ≤ n ∧ n ≤ 9223372036854775807) : IntKind.i64.wrap (IntKind.u64.wrap n) = n := by
  rw [wrap_u64z, IntKind.wrap_i64]; omega
theorem numU_I {n : Int} (h : -9223372036854775808 ≤ n ∧ n ≤ 9223372036854775807) : IntKind.i64.wrap (numU (tdecI n)) = n := by
  rw [numU_dec (by omega), wrap_wrap h]
theorem numU_D {n : Int} (h : 0 ≤ n ∧ n < 18446744073709551616) : numU (tdecI n) = n := by
  rw [numU_dec (by omega), wrap_u64z]; omega
theorem wrap_I64 (n : Int) : -9223372036854775808 ≤ IntKind.i64.wrap n ∧ IntKind.i64.wrap n ≤ 9223372036854775807 := by rw [IntKind.wrap_i64]; omega
/-- What the program makes of words. -/
def eW (ws : List (List UInt8)) : TEnt :=
  ((kS (ws.getD 0 []) : Int), IntKind.i64.wrap (numU (ws.getD 1 [])), (if kS (ws.getD 0 []) = 1 then 0 else IntKind.i64.wrap (numU (ws.getD 2 []))), (if kS (ws.getD 0 []) = 1 then 0 else IntKind.i64.wrap (numU (ws.getD 3 []))), (if kS (ws.getD 0 []) = 1 then numU (ws.getD 2 []) else 0))
theorem numU_nil : numU [] = 0 := rfl
theorem eW_pr {e : TEnt} (h : okS e) : eW (pieces 32 (prS e)) = e := by
  rw [prS_pieces]
  obtain ⟨k, a, b, c, d⟩ := e
  obtain ⟨hk, ⟨h0, ha, hb, hc, hd⟩, hz⟩ := h
  have hkk := kS_nm hk
  simp only at ha hb hc hd hk hkk
  have z65 := hz 65 (.inl rfl)
  have z66 := hz 66 (.inr (.inl rfl))
  have z67 := hz 67 (.inr (.inr (.inl rfl)))
  have z68 := hz 68 (.inr (.inr (.inr rfl)))
  have na := numU_I ha
  have nb := numU_I hb
  have nc := numU_I hc
  have nd := numU_D (n := d) ⟨hd.1, by have := hd.2; omega⟩
  have n0 : IntKind.i64.wrap (numU []) = 0 := rfl
  unfold knS at hk
  simp only [fld, if_true, show ((66 : UInt8) = 65) = False from by decide, show ((67 : UInt8) = 65) = False from by decide, show ((68 : UInt8) = 65) = False from by decide, show ((67 : UInt8) = 66) = False from by decide, show ((68 : UInt8) = 66) = False from by decide, show ((68 : UInt8) = 67) = False from by decide, if_false] at z65 z66 z67 z68
  have hn0 : kS (nmS k) = k.toNat := by omega
  have step : k = 1 ∨ k = 2 ∨ k = 3 ∨ k = 4 ∨ k = 5 ∨ k = 6 ∨ k = 7 ∨ k = 8 ∨ k = 9 ∨ k = 10 ∨ k = 11 ∨ k = 12 ∨ k = 13 ∨ k = 14 ∨ k = 15 := by omega
  rcases step with rfl | rfl | rfl | rfl | rfl | rfl | rfl | rfl | rfl | rfl | rfl | rfl | rfl | rfl | rfl <;>
    (simp only [eW, List.getD_cons_zero, hn0]
     simp [shS, shSL, fld, na, nb, nc, nd, numU_nil, n0] at z65 z66 z67 z68 ⊢
     try simp_all)
theorem eW_ok (ws : List (List UInt8)) : okEnt (eW ws) := by
  have h1 := kS_le (ws.getD 0 [])
  have h2 := numU_rng (ws.getD 2 [])
  unfold okEnt eW
  refine ⟨⟨by show _ ≤ (kS _ : Int); omega, by show (kS _ : Int) ≤ _; omega⟩, wrap_I64 _, ?_, ?_, ?_⟩
  · show -9223372036854775808 ≤ (if kS (ws.getD 0 []) = 1 then (0 : Int) else _) ∧ (if kS (ws.getD 0 []) = 1 then (0 : Int) else _) ≤ _
    split
    · omega
    · exact wrap_I64 _
  · show -9223372036854775808 ≤ (if kS (ws.getD 0 []) = 1 then (0 : Int) else _) ∧ (if kS (ws.getD 0 []) = 1 then (0 : Int) else _) ≤ _
    split
    · omega
    · exact wrap_I64 _
  · show 0 ≤ (if kS (ws.getD 0 []) = 1 then numU (ws.getD 2 []) else 0) ∧ (if kS (ws.getD 0 []) = 1 then numU (ws.getD 2 []) else 0) < _
    split
    · omega
    · omega
/-- What its kind has, no more. -/
def canS (e : TEnt) : TEnt := (e.1, if 65 ∈ shS e.1 then e.2.1 else 0, if 66 ∈ shS e.1 then e.2.2.1 else 0, if 67 ∈ shS e.1 then e.2.2.2.1 else 0, if 68 ∈ shS e.1 then e.2.2.2.2 else 0)
theorem canS_fld (e : TEnt) {c : UInt8} (hc : c = 65 ∨ c = 66 ∨ c = 67 ∨ c = 68) : fld (canS e) c = if c ∈ shS e.1 then fld e c else 0 := by
  rcases hc with rfl | rfl | rfl | rfl <;> rfl
theorem canS_pr (e : TEnt) : prS (canS e) = prS e := by
  unfold prS
  show nmS e.1 ++ tails ((shS e.1).map (fld (canS e))) = _
  rw [List.map_congr_left (g := fld e) fun c hc => by rw [canS_fld e ((shS_ok e.1).2.2 c hc), if_pos hc]]
theorem canS_ok {e : TEnt} (hk : knS e.1) (h : okEnt e) : okS (canS e) := by
  refine ⟨hk, ?_, fun c hc hn => by rw [canS_fld e hc, if_neg (show c ∉ shS e.1 from hn)]⟩
  unfold okEnt canS at *
  obtain ⟨h0, h1, h2, h3, h4⟩ := h
  refine ⟨h0, ?_, ?_, ?_, ?_⟩ <;> (simp only; split <;> first | assumption | omega)
theorem pS_read (l : List UInt8) : pS l = if kS ((pieces 32 l).getD 0 []) = 0 ∨ prS (eW (pieces 32 l)) ≠ l then ((0, 0, 0, 0, 0), false) else (eW (pieces 32 l), true) := by
  by_cases hx : ∃ e, okS e ∧ prS e = l
  · obtain ⟨e, h1, rfl⟩ := hx
    have h2 := eW_pr h1
    rw [if_neg, h2]
    · exact pS_yes h1 rfl
    · rw [h2]
      rintro (h | h)
      · have h3 : (eW (pieces 32 (prS e))).1 = e.1 := by rw [h2]
        have h4 : (eW (pieces 32 (prS e))).1 = (kS ((pieces 32 (prS e)).getD 0 []) : Int) := rfl
        rw [h4, h] at h3
        have := h1.1.1
        omega
      · exact h rfl
  · rw [pS_no fun e h1 h2 => hx ⟨e, h1, h2⟩]
    split
    · rfl
    · rename_i h
      exfalso
      have h1 : 0 < kS ((pieces 32 l).getD 0 []) := by omega
      have h2 : prS (eW (pieces 32 l)) = l := Classical.byContradiction fun h3 => h (.inr h3)
      exact hx ⟨canS (eW (pieces 32 l)), canS_ok (kS_pos h1).1 (eW_ok _), (canS_pr _).trans h2⟩
theorem pS_ok (l : List UInt8) : okEnt (pS l).1 := by
  by_cases hx : ∃ e, okS e ∧ prS e = l
  · obtain ⟨e, h1, h2⟩ := hx
    rw [pS_yes h1 h2]; exact h1.2.1
  · rw [pS_no fun e h1 h2 => hx ⟨e, h1, h2⟩]; unfold okEnt; simp
end Go.Proofs.YtackcmlkicjlnaaDoor

/- How the document reads and writes entries' lines. -/
namespace Go.Proofs.YtackcmlkicjlnaaDoor
open Go.RowKit Go.WideShapes Go.ChangeShapes

def allS : List UInt8 := [115, 116, 101, 112, 32, 32, 32, 32, 116, 105, 99, 107, 32, 32, 32, 32, 110, 101, 119, 32, 32, 32, 32, 32, 109, 97, 115, 107, 32, 32, 32, 32, 112, 105, 110, 32, 32, 32, 32, 32, 117, 110, 112, 105, 110, 32, 32, 32, 111, 110, 108, 105, 110, 101, 32, 32, 111, 102, 102, 108, 105, 110, 101, 32, 98, 117, 98, 98, 108, 101, 32, 32, 112, 117, 116, 32, 32, 32, 32, 32, 115, 101, 97, 108, 32, 32, 32, 32, 112, 108, 97, 99, 101, 32, 32, 32, 98, 117, 114, 115, 116, 32, 32, 32, 114, 101, 103, 101, 110, 32, 32, 32, 98, 97, 108, 97, 110, 99, 101, 32]
theorem allS_cut : ∀ j : Fin 16, 1 ≤ j.val → (allS.take (8 * j.val)).drop (8 * j.val - 8) = nmSL.getD j.val [] ++ List.replicate (8 - (nmSL.getD j.val []).length) 32 := by decide
/-- A name and so many blanks. -/
def spS (m j : Nat) : List UInt8 := nmS (m : Int) ++ List.replicate j 32
theorem spS_start {m : Nat} (h : 1 ≤ m ∧ m ≤ 15) : (allS.take (8 * m)).drop (8 * m - 8) = spS m (8 - (nmS (m : Int)).length) := by
  have hk : knS (m : Int) := by unfold knS; omega
  rw [spS, nmS_eq hk]
  exact allS_cut ⟨m, by omega⟩ h.1
theorem spS_len (m j : Nat) : (spS m j).length = (nmS (m : Int)).length + j := by simp [spS]
theorem spS_last {m j : Nat} (h : 0 < j) : chr (spS m j) ((spS m j).length - 1) = 32 := by
  have hl := spS_len m j
  unfold chr
  rw [List.getD_eq_getElem?_getD, spS, List.getElem?_append_right (by rw [← spS]; omega), List.getElem?_replicate, if_pos (by rw [← spS]; omega)]
  rfl
theorem spS_end {m : Nat} (h : knS (m : Int)) : chr (spS m 0) ((spS m 0).length - 1) ≠ 32 := by
  have hn := nmS_known h
  have e : spS m 0 = nmS (m : Int) := by simp [spS]
  rw [e]
  have hp : 0 < (nmS (m : Int)).length := List.length_pos_iff.2 hn.1
  unfold chr
  rw [List.getD_eq_getElem?_getD, List.getElem?_eq_getElem (by omega)]
  have := hn.2.2 _ (List.getElem_mem (l := nmS (m : Int)) (n := (nmS (m : Int)).length - 1) (by omega))
  rw [Option.getD_some]
  omega
theorem spS_take {m j : Nat} (h : 0 < j) : (spS m j).take ((spS m j).length - 1) = spS m (j - 1) := by
  have hl := spS_len m j
  rw [hl]
  unfold spS
  rw [List.take_append, List.take_of_length_le (by omega), List.take_replicate]
  congr 2
  omega

/-! ### numbers, as the document reads them -/
def rstepU (n : Int) (c : Int) : Int := IntKind.u64.wrap (n * 10 + c - 48)
def rgoU : List UInt8 → Int → Int × Nat
  | [], n => (n, 0)
  | c :: r, n => if 48 ≤ c.toNat ∧ c.toNat ≤ 57 then ((rgoU r (rstepU n (c.toNat : Int))).1, (rgoU r (rstepU n (c.toNat : Int))).2 + 1) else (n, 0)
def rnumU (l : List UInt8) : Int × Nat := if l.head? = some 45 then (IntKind.u64.wrap (0 - (rgoU (l.drop 1) 0).1), 1 + (rgoU (l.drop 1) 0).2) else rgoU l 0
theorem rgoU_end {l : List UInt8} {i : Nat} {n : Int} (h : i < l.length → ¬ (48 ≤ chr l i ∧ chr l i ≤ 57)) : rgoU (l.drop i) n = (n, 0) := by
  by_cases hi : i < l.length
  · have h2 := h hi
    have e : chr l i = (l[i].toNat : Int) := by unfold chr; rw [List.getD_eq_getElem?_getD, List.getElem?_eq_getElem hi]; rfl
    rw [List.drop_eq_getElem_cons hi, rgoU, if_neg (by rw [e] at h2; omega)]
  · rw [List.drop_of_length_le (by omega)]; rfl
theorem rgoU_next {l : List UInt8} {i : Nat} {n : Int} (hi : i < l.length) (h : 48 ≤ chr l i ∧ chr l i ≤ 57) : rgoU (l.drop i) n = ((rgoU (l.drop (i + 1)) (rstepU n (chr l i))).1, (rgoU (l.drop (i + 1)) (rstepU n (chr l i))).2 + 1) := by
  have e : chr l i = (l[i].toNat : Int) := by unfold chr; rw [List.getD_eq_getElem?_getD, List.getElem?_eq_getElem hi]; rfl
  rw [List.drop_eq_getElem_cons hi, rgoU, if_pos (by rw [e] at h; omega), e]
theorem rgoU_digits {r : List UInt8} (hr : r = [] ∨ r.head? = some 32) : ∀ (ds : List UInt8) (n : Int), (∀ c ∈ ds, 48 ≤ c.toNat ∧ c.toNat ≤ 57) → rgoU (ds ++ r) n = (ds.foldl (fun n c => rstepU n (c.toNat : Int)) n, ds.length)
  | [], n, _ => by
    rcases hr with rfl | hr
    · rfl
    · cases r with
      | nil => rfl
      | cons x r =>
        injection hr with hr
        subst hr
        rw [List.nil_append, rgoU, if_neg (by decide)]
        rfl
  | c :: ds, n, h => by
    rw [List.cons_append, rgoU, if_pos (h c List.mem_cons_self), rgoU_digits hr ds _ (fun x hx => h x (List.mem_cons_of_mem _ hx))]
    rfl
theorem foldU : ∀ {k : Nat}, k < 18446744073709551616 → (tdec k).foldl (fun n c => rstepU n (c.toNat : Int)) 0 = (k : Int) := by
  intro k
  induction k using Nat.strongRecOn with
  | _ k ih =>
    intro hk
    by_cases hn : k < 10
    · rw [tdec_small hn]
      show rstepU 0 ((tdg k).toNat : Int) = _
      rw [tdg_val, rstepU, wrap_u64z]; omega
    · rw [tdec_big (by omega), List.foldl_append, ih (k / 10) (by omega) (by omega)]
      show rstepU _ ((tdg k).toNat : Int) = _
      rw [tdg_val, rstepU, wrap_u64z]; omega
theorem rnumU_dec {n : Int} {r : List UInt8} (h : -9223372036854775808 ≤ n ∧ n < 18446744073709551616) (hr : r = [] ∨ r.head? = some 32) : rnumU (tdecI n ++ r) = (IntKind.u64.wrap n, (tdecI n).length) := by
  have hd : ∀ c ∈ tdec n.natAbs, 48 ≤ c.toNat ∧ c.toNat ≤ 57 := fun c hc => tdec_digit hc
  unfold rnumU tdecI
  by_cases hn : n < 0
  · rw [if_pos hn, if_pos (by rfl), List.cons_append, List.drop_one, List.tail_cons, rgoU_digits hr _ _ hd, foldU (by omega)]
    refine Prod.ext ?_ ?_
    · show IntKind.u64.wrap (0 - ((n.natAbs : Nat) : Int)) = _; rw [show (0 : Int) - ((n.natAbs : Nat) : Int) = n by omega]
    · show 1 + _ = _; rw [List.length_cons]; omega
  · rw [if_neg hn, if_neg, rgoU_digits hr _ _ hd, foldU (by omega)]
    · refine Prod.ext ?_ rfl
      show ((n.natAbs : Nat) : Int) = _; rw [wrap_u64z]; omega
    · intro e
      have hp := tdec_pos n.natAbs
      cases hdd : tdec n.natAbs with
      | nil => rw [hdd] at hp; simp at hp
      | cons x s =>
        rw [hdd] at e
        injection e with e
        have := hd x (by rw [hdd]; exact List.mem_cons_self)
        rw [e] at this
        exact absurd this.1 (by decide)
theorem rgoU_rng : ∀ (l : List UInt8) (n : Int), (0 ≤ n ∧ n < 18446744073709551616) → (0 ≤ (rgoU l n).1 ∧ (rgoU l n).1 < 18446744073709551616) ∧ (rgoU l n).2 ≤ l.length
  | [], n, h => ⟨h, Nat.le_refl _⟩
  | c :: r, n, h => by
    rw [rgoU]
    split
    · have ih := rgoU_rng r (rstepU n (c.toNat : Int)) (by unfold rstepU; rw [wrap_u64z]; omega)
      refine ⟨ih.1, ?_⟩
      show (rgoU r (rstepU n (c.toNat : Int))).2 + 1 ≤ _
      rw [List.length_cons]; omega
    · exact ⟨h, Nat.zero_le _⟩
theorem rnumU_rng (l : List UInt8) : (0 ≤ (rnumU l).1 ∧ (rnumU l).1 < 18446744073709551616) ∧ (rnumU l).2 ≤ l.length := by
  unfold rnumU
  by_cases h : l.head? = some 45
  · rw [if_pos h]
    have := rgoU_rng (l.drop 1) 0 (by omega)
    rw [List.length_drop] at this
    have hl : 0 < l.length := by cases l with | nil => cases h | cons x r => simp
    exact ⟨by show 0 ≤ IntKind.u64.wrap _ ∧ IntKind.u64.wrap _ < _; rw [wrap_u64z]; omega, by show 1 + (rgoU (l.drop 1) 0).2 ≤ _; omega⟩
  · rw [if_neg h]
    exact rgoU_rng l 0 (by omega)

/-! ### the document's reading of a line, name by name -/
def setf (e : TEnt) (c : UInt8) (n : Int) : TEnt := (e.1, if c = 65 then IntKind.i64.wrap n else e.2.1, if c = 66 then IntKind.i64.wrap n else e.2.2.1, if c = 67 then IntKind.i64.wrap n else e.2.2.2.1, if c = 68 then n else e.2.2.2.2)
def letter (c : UInt8) : Prop := c = 65 ∨ c = 66 ∨ c = 67 ∨ c = 68
theorem setf_other (e : TEnt) {c b : UInt8} (n : Int) (hb : letter b) (h : b ≠ c) : fld (setf e c n) b = fld e b := by
  rcases hb with rfl | rfl | rfl | rfl
  · show (if c = 65 then _ else _) = _; rw [if_neg (Ne.symm h)]; rfl
  · show (if c = 66 then _ else _) = _; rw [if_neg (Ne.symm h)]; rfl
  · show (if c = 67 then _ else _) = _; rw [if_neg (Ne.symm h)]; rfl
  · show (if c = 68 then _ else _) = _; rw [if_neg (Ne.symm h)]; rfl
theorem setf_it (e f : TEnt) {c : UInt8} (hf : okEnt f) (hc : letter c) : fld (setf e c (IntKind.u64.wrap (fld f c))) c = fld f c := by
  unfold okEnt at hf
  rcases hc with rfl | rfl | rfl | rfl
  · exact wrap_wrap hf.2.1
  · exact wrap_wrap hf.2.2.1
  · exact wrap_wrap hf.2.2.2.1
  · show IntKind.u64.wrap f.2.2.2.2 = f.2.2.2.2
    have := hf.2.2.2.2
    rw [wrap_u64z]; omega
theorem setf_ok {e : TEnt} (h : okEnt e) (c : UInt8) {n : Int} (hn : 0 ≤ n ∧ n < 18446744073709551616) : okEnt (setf e c n) := by
  unfold okEnt setf at *
  obtain ⟨h0, h1, h2, h3, h4⟩ := h
  refine ⟨h0, ?_, ?_, ?_, ?_⟩ <;> (simp only; split <;> first | exact wrap_I64 _ | assumption)
structure MtS (l : List UInt8) (k : Int) (at_ i : Nat) (z : TEnt) : Prop where
  kind : z.1 = k
  ok : okEnt z
  rest : ∀ e, okS e → e.1 = k → prS e = l → l.drop at_ = tails (((shS k).drop i).map (fld e)) ∧ ∀ c ∈ (shS k).take i, fld z c = fld e c
  zero : ∀ c, letter c → c ∉ (shS k).take i → fld z c = 0
theorem mtS_start (l : List UInt8) {k : Int} (hk : knS k) : MtS l k (nmS k).length 0 (k, 0, 0, 0, 0) := by
  unfold knS at hk
  refine ⟨rfl, by unfold okEnt; refine ⟨⟨?_, ?_⟩, ?_⟩ <;> first | omega | simp, ?_, fun c hc _ => by rcases hc with rfl | rfl | rfl | rfl <;> rfl⟩
  intro e _ he hl
  refine ⟨?_, fun c hc => by simp at hc⟩
  subst he hl
  rw [prS, List.drop_left, List.drop_zero]
theorem mtS_next {l : List UInt8} {k : Int} {at_ i q : Nat} {z : TEnt} {n : Int} {c : UInt8} (h : MtS l k at_ i z) (hi : i < (shS k).length) (hc : (shS k)[i] = c) (hq : rnumU (l.drop (at_ + 1)) = (n, q)) : MtS l k (at_ + (1 + q)) (i + 1) (setf z c n) := by
  have hs := shS_ok k
  have hcm : c ∈ shS k := by rw [← hc]; exact List.getElem_mem hi
  have hcl : letter c := hs.2.2 c hcm
  have htk : (shS k).take (i + 1) = (shS k).take i ++ [c] := by rw [List.take_add_one, List.getElem?_eq_getElem hi, hc]; rfl
  have hcn : c ∉ (shS k).take i := by
    intro hm
    have h1 : ((shS k).take (i + 1)).Nodup := hs.2.1.sublist (List.take_sublist _ _)
    rw [htk, List.nodup_append] at h1
    exact h1.2.2 c hm c (by simp) rfl
  have hn := (rnumU_rng (l.drop (at_ + 1))).1
  rw [hq] at hn
  refine ⟨h.kind, setf_ok h.ok c hn, ?_, ?_⟩
  · intro e he hk hl
    obtain ⟨h1, h2⟩ := h.rest e he hk hl
    rw [List.drop_eq_getElem_cons hi, hc, List.map_cons, tails] at h1
    have e1 : l.drop (at_ + 1) = tdecI (fld e c) ++ tails (((shS k).drop (i + 1)).map (fld e)) := by rw [← List.drop_drop, h1]; rfl
    have hr : -9223372036854775808 ≤ fld e c ∧ fld e c < 18446744073709551616 := by
      have ho := he.2.1
      unfold okEnt at ho
      rcases hcl with rfl | rfl | rfl | rfl
      · show _ ≤ e.2.1 ∧ e.2.1 < _; omega
      · show _ ≤ e.2.2.1 ∧ e.2.2.1 < _; omega
      · show _ ≤ e.2.2.2.1 ∧ e.2.2.2.1 < _; omega
      · show _ ≤ e.2.2.2.2 ∧ e.2.2.2.2 < _; omega
    rw [e1, rnumU_dec hr (tails_head _)] at hq
    injection hq with hq1 hq2
    subst hq1 hq2
    refine ⟨?_, ?_⟩
    · rw [← Nat.add_assoc, ← List.drop_drop, e1, List.drop_left]
    · intro b hb
      rw [htk, List.mem_append, List.mem_singleton] at hb
      rcases hb with hb | rfl
      · rw [setf_other z _ (hs.2.2 b (List.mem_of_mem_take hb)) (fun e => hcn (by rw [← e]; exact hb))]
        exact h2 b hb
      · exact setf_it z e he.2.1 hcl
  · intro b hb hn
    rw [htk, List.mem_append, List.mem_singleton, not_or] at hn
    rw [setf_other z _ hb hn.2]
    exact h.zero b hb hn.1
theorem shS_chr {k : Int} {i : Nat} (hi : i < (shS k).length) {c : UInt8} (h : chr (shS k) i = (c.toNat : Int)) : (shS k)[i] = c := by
  have e : chr (shS k) i = ((shS k)[i].toNat : Int) := by unfold chr; rw [List.getD_eq_getElem?_getD, List.getElem?_eq_getElem hi]; rfl
  rw [e] at h
  exact UInt8.toNat_inj.1 (by omega)
theorem shS_else {k : Int} {i : Nat} (hi : i < (shS k).length) (ha : ¬ chr (shS k) i = 65) (hb : ¬ chr (shS k) i = 66) (hc : ¬ chr (shS k) i = 67) : (shS k)[i] = 68 := by
  have e : chr (shS k) i = ((shS k)[i].toNat : Int) := by unfold chr; rw [List.getD_eq_getElem?_getD, List.getElem?_eq_getElem hi]; rfl
  rw [e] at ha hb hc
  rcases (shS_ok k).2.2 _ (List.getElem_mem hi) with h | h | h | h
  · rw [h] at ha; exact absurd rfl ha
  · rw [h] at hb; exact absurd rfl hb
  · rw [h] at hc; exact absurd rfl hc
  · exact h
theorem mtS_A {l : List UInt8} {k : Int} {at_ i q : Nat} {x a b c d n : Int} (h : MtS l k at_ i (x, a, b, c, d)) (hi : i < (shS k).length) (hc : chr (shS k) i = 65) (hq : rnumU (l.drop (at_ + 1)) = (n, q)) : MtS l k (at_ + (1 + q)) (i + 1) (x, IntKind.i64.wrap n, b, c, d) := mtS_next h hi (shS_chr hi (c := 65) hc) hq
theorem mtS_B {l : List UInt8} {k : Int} {at_ i q : Nat} {x a b c d n : Int} (h : MtS l k at_ i (x, a, b, c, d)) (hi : i < (shS k).length) (hc : chr (shS k) i = 66) (hq : rnumU (l.drop (at_ + 1)) = (n, q)) : MtS l k (at_ + (1 + q)) (i + 1) (x, a, IntKind.i64.wrap n, c, d) := mtS_next h hi (shS_chr hi (c := 66) hc) hq
theorem mtS_C {l : List UInt8} {k : Int} {at_ i q : Nat} {x a b c d n : Int} (h : MtS l k at_ i (x, a, b, c, d)) (hi : i < (shS k).length) (hc : chr (shS k) i = 67) (hq : rnumU (l.drop (at_ + 1)) = (n, q)) : MtS l k (at_ + (1 + q)) (i + 1) (x, a, b, IntKind.i64.wrap n, d) := mtS_next h hi (shS_chr hi (c := 67) hc) hq
theorem mtS_D {l : List UInt8} {k : Int} {at_ i q : Nat} {x a b c d n : Int} (h : MtS l k at_ i (x, a, b, c, d)) (hi : i < (shS k).length) (ha : ¬ chr (shS k) i = 65) (hb : ¬ chr (shS k) i = 66) (hc : ¬ chr (shS k) i = 67) (hq : rnumU (l.drop (at_ + 1)) = (n, q)) : MtS l k (at_ + (1 + q)) (i + 1) (x, a, b, c, n) := mtS_next h hi (shS_else hi ha hb hc) hq
theorem mtS_okS {l : List UInt8} {k : Int} {at_ i : Nat} {z : TEnt} (h : MtS l k at_ i z) (hk : knS k) : okS z := by
  refine ⟨by rw [h.kind]; exact hk, h.ok, fun c hc hn => h.zero c hc fun hm => hn ?_⟩
  rw [h.kind]; exact List.mem_of_mem_take hm
theorem mtS_end {l : List UInt8} {k : Int} {at_ i : Nat} {z : TEnt} (h : MtS l k at_ i z) (hk : knS k) (hi : (shS k).length ≤ i ∨ (i < (shS k).length ∧ l.length ≤ at_)) (hn : prS z ≠ l) : ∀ e, okS e → e.1 = k → prS e ≠ l := by
  intro e he hek hel
  obtain ⟨h1, h2⟩ := h.rest e he hek hel
  rcases hi with hi | ⟨hi, hl⟩
  · rw [List.take_of_length_le hi] at h2
    have : z = e := okS_agree (mtS_okS h hk) he (by rw [h.kind, hek]) (by rw [h.kind]; exact h2)
    exact hn (by rw [this]; exact hel)
  · rw [List.drop_of_length_le hl, List.drop_eq_getElem_cons hi, List.map_cons, tails] at h1
    cases h1
theorem mtS_pre {l : List UInt8} {k : Int} (h : ¬ ((nmS k).length ≤ l.length ∧ l.take (nmS k).length = nmS k)) : ∀ e, okS e → e.1 = k → prS e ≠ l := by
  intro e _ hk hl
  refine h ?_
  subst hk hl
  rw [prS]
  exact ⟨by rw [List.length_append]; omega, List.take_left⟩
theorem pastS {l : List UInt8} {k : Nat} (h : ∀ e, okS e → prS e = l → (k : Int) ≤ e.1) (h2 : ∀ e, okS e → e.1 = (k : Int) → prS e ≠ l) : ∀ e, okS e → prS e = l → ((k + 1 : Nat) : Int) ≤ e.1 := by
  intro e he hl
  have h3 := h e he hl
  have h4 : e.1 ≠ (k : Int) := fun hk => h2 e he hk hl
  omega
/-- The text of an entry, letter by letter. -/
theorem tails_snoc : ∀ (ns : List Int) (n : Int), tails (ns ++ [n]) = tails ns ++ (32 :: tdecI n)
  | [], n => by simp [tails]
  | m :: ns, n => by rw [List.cons_append, tails, tails_snoc ns n, tails]; simp
def prI_ (e : TEnt) (i : Nat) : List UInt8 := nmS e.1 ++ tails (((shS e.1).take i).map (fld e))
theorem prI_start (e : TEnt) : prI_ e 0 = nmS e.1 := by simp [prI_, tails]
theorem prI_end (e : TEnt) : prI_ e (shS e.1).length = prS e := by rw [prI_, List.take_length]; rfl
theorem prI_next {e : TEnt} {i : Nat} (hi : i < (shS e.1).length) {c : UInt8} (hc : (shS e.1)[i] = c) : prI_ e (i + 1) = prI_ e i ++ (32 :: tdecI (fld e c)) := by
  rw [prI_, List.take_add_one, List.getElem?_eq_getElem hi, hc]
  show nmS e.1 ++ tails (((shS e.1).take i ++ [c]).map (fld e)) = _
  rw [List.map_append, List.map_cons, List.map_nil, tails_snoc, ← List.append_assoc]
  rfl
theorem prI_len {e : TEnt} (h : okEnt e) (i : Nat) : (prI_ e i).length ≤ 70 := by
  have h1 := nmS_len e.1
  have h2 := tails_len (ns := ((shS e.1).take i).map (fld e)) (m := 20) fun n hn => by
    obtain ⟨c, _, rfl⟩ := List.mem_map.1 hn; exact dec_len_ent h c
  have h3 := (shS_ok e.1).1
  rw [List.length_map, List.length_take] at h2
  unfold prI_
  rw [List.length_append]
  have h4 : min i (shS e.1).length * (20 + 1) ≤ 3 * 21 := Nat.mul_le_mul_right _ (by omega)
  omega
theorem shS_val {k : Int} {l : List UInt8} (h : 1 ≤ k ∧ k ≤ 15) (hl : shSL.getD k.toNat [] = l) : shS k = l := by unfold shS; rw [if_pos h]; exact hl
theorem shS_A {k : Int} (h1 : ¬ k = 1) (h2 : ¬ k = 2) (h3 : ¬ k = 3) (h4 : ¬ k = 4) (h5 : ¬ k = 5) (h9 : ¬ k = 9) (h10 : ¬ k = 10) (h12 : ¬ k = 12) : shS k = [65] := by
  unfold shS
  by_cases h : 1 ≤ k ∧ k ≤ 15
  · rw [if_pos h]
    have step : k = 6 ∨ k = 7 ∨ k = 8 ∨ k = 11 ∨ k = 13 ∨ k = 14 ∨ k = 15 := by omega
    rcases step with rfl | rfl | rfl | rfl | rfl | rfl | rfl <;> rfl
  · rw [if_neg h]
end Go.Proofs.YtackcmlkicjlnaaDoor

/- The kinds' names, and what each has. -/
namespace Go.Proofs.YtackcmlkicjlnaaDoor
open Go.RowKit Go.WideShapes Go.ChangeShapes
set_option linter.unusedSimpArgs false
set_option linter.unusedVariables false



attribute [local irreducible] Go.wpList Go.Code.wp
theorem sc_run_names {o : Oper} {a : Act} (ho : o.op = .buildSlice 31 16 #[(0, .const (.string ⟨#[]⟩)), (1, .const (.string ⟨#[115, 116, 101, 112]⟩)), (2, .const (.string ⟨#[116, 105, 99, 107]⟩)), (3, .const (.string ⟨#[110, 101, 119]⟩)), (4, .const (.string ⟨#[109, 97, 115, 107]⟩)), (5, .const (.string ⟨#[112, 105, 110]⟩)), (6, .const (.string ⟨#[117, 110, 112, 105, 110]⟩)), (7, .const (.string ⟨#[111, 110, 108, 105, 110, 101]⟩)), (8, .const (.string ⟨#[111, 102, 102, 108, 105, 110, 101]⟩)), (9, .const (.string ⟨#[98, 117, 98, 98, 108, 101]⟩)), (10, .const (.string ⟨#[112, 117, 116]⟩)), (11, .const (.string ⟨#[115, 101, 97, 108]⟩)), (12, .const (.string ⟨#[112, 108, 97, 99, 101]⟩)), (13, .const (.string ⟨#[98, 117, 114, 115, 116]⟩)), (14, .const (.string ⟨#[114, 101, 103, 101, 110]⟩)), (15, .const (.string ⟨#[98, 97, 108, 97, 110, 99, 101]⟩))]) (W : World) : (execOp a.eval o).run Tryd.prog W = .ok (.value (.slice (some ⟨W.heap.size, 0, none⟩) 16 16)) (W.alloc (.cells (eTx.all nmSL).toArray 9)) := by
  unfold execOp
  simp only [ho, List.map_toArray, List.map_cons, List.map_nil]
  go_simp
  rfl
set_option maxRecDepth 100000 in
set_option maxHeartbeats 4000000 in
theorem sname_yes {m : Nat} (hk : 1 ≤ m ∧ m ≤ 15) (w : World) : Calls Tryd.prog 9 #[.int .i64 (m : Int)] w fun e w' => e = .returned (.string (str (nmS (m : Int)))) ∧ Below w.heap.size w w' := by
  have bel : Below w.heap.size w w := Below.refl _ _
  have hnl := nmSL_len
  go_enter Tryd.func9, Tryd.ntmps9
  refine wp_seq ?_
  refine wp_region_lit ?_
  refine st_mv (.string (str [])) ?_
  simp only [nf0, nf1, nf2, nf3, nf4]
  refine wpList_nil ?_
  show Code.wp _ _ _ _ _
  refine wp_seq ?_
  refine wp_region_lit ?_
  refine st_lit (n := 16) (by rfl) (sc_run_names rfl _) ?_
  intro g1 w2 B3 hb4 lo5
  simp only [nf0, nf1, nf2, nf3, nf4]
  replace bel := bl_step bel hb4
  have O6 : OwnR w2 w.heap.size 9 eTx (.slice (some ⟨g1, 0, none⟩) nmSL.length nmSL.length) nmSL := OwnR.built (xs := nmSL) B3 rfl lo5 (by rw [nmSL_len]; omega) (by rfl)
  rw [nmSL_len] at O6
  obtain ⟨v7, hv8⟩ : ∃ v, v = Value.slice (some ⟨g1, 0, none⟩) 16 16 := ⟨_, rfl⟩
  rw [← hv8] at O6 ⊢
  clear hv8
  refine st_mv v7 ?_
  simp only [nf0, nf1, nf2, nf3, nf4]
  refine wpList_nil ?_
  show Code.wp _ _ _ _ _
  refine wp_seq ?_
  refine wp_seq ?_
  cases hg16 : decide ((m : Int) < 1)
  rotate_left
  · have hp30 := of_decide_eq_true hg16
    exfalso
    omega
  have hp17 := of_decide_eq_false hg16
  obtain ⟨A18, c19, hv20, h21, h22, h23, R24⟩ := O6.reads
  subst hv20
  refine wp_region_lit ?_
  refine st_mv (.int .i64 (m : Int)) ?_
  simp only [nf0, nf1, nf2, nf3, nf4]
  refine st_value (v := (.bool false)) (by rfl) ((run_lss (.tmp 5) (.const (.int .i64 1)) rfl rfl rfl w2).trans (by rw [hg16])) ?_
  simp only [nf0, nf1, nf2, nf3, nf4]
  refine st_mv (.bool false) ?_
  simp only [nf0, nf1, nf2, nf3, nf4]
  refine st_mv (.int .i64 (m : Int)) ?_
  simp only [nf0, nf1, nf2, nf3, nf4]
  refine st_mv (.slice A18 nmSL.length c19) ?_
  simp only [nf0, nf1, nf2, nf3, nf4]
  refine st_value (v := (.int .i64 (nmSL.length : Int))) (by rfl) (run_len (.tmp 9) rfl ⟨_, Tryd.underlying31⟩ rfl w2) ?_
  simp only [nf0, nf1, nf2, nf3, nf4]
  refine st_value (v := (.bool (decide ((nmSL.length : Int) ≤ (m : Int))))) (by rfl) (run_geq (.tmp 8) (.tmp 10) rfl rfl rfl w2) ?_
  simp only [nf0, nf1, nf2, nf3, nf4]
  refine st_mv (.bool (decide ((nmSL.length : Int) ≤ (m : Int)))) ?_
  simp only [nf0, nf1, nf2, nf3, nf4]
  refine wpList_nil ?_
  show Code.wp _ _ _ _ _
  cases hg25 : decide ((nmSL.length : Int) ≤ (m : Int))
  rotate_left
  · have hp29 := of_decide_eq_true hg25
    exfalso
    omega
  have hp26 := of_decide_eq_false hg25
  refine wp_cond_false rfl ?_
  refine wp_skip ?_
  show Code.wp _ _ _ _ _
  refine wp_seq ?_
  obtain ⟨b27, o28, rfl, _⟩ := R24.at_ (by rw [Enc.all_length]; exact Nat.mul_pos (by omega) (by decide))
  refine wp_region_lit ?_
  refine st_mv (.slice (some ⟨b27, o28, none⟩) nmSL.length c19) ?_
  simp only [nf0, nf1, nf2, nf3, nf4]
  refine st_mv (.int .i64 (m : Int)) ?_
  simp only [nf0, nf1, nf2, nf3, nf4]
  refine st_value (v := (.pointer (some ⟨b27, o28 + m * 1, none⟩))) (by rfl) (run_indexAddrN (.tmp 13) (.tmp 14) rfl Tryd.underlying31 slTx.sz (i := m) rfl rfl (by omega) w2) ?_
  simp only [nf0, nf1, nf2, nf3, nf4]
  refine st_value (v := (.string (str (tx nmSL m)))) (by rfl) (run_load1 (.tmp 15) rfl Tryd.underlying9 rfl slTx.sz rfl (Reads.txAt R24 m (by omega))) ?_
  simp only [nf0, nf1, nf2, nf3, nf4]
  refine st_mv (.string (str (tx nmSL m))) ?_
  simp only [nf0, nf1, nf2, nf3, nf4]
  refine wpList_nil ?_
  show Code.wp _ _ _ _ _
  refine wp_ret ?_
  first | show bodyPost _ _ _ _ _ _ | (simp only [Exit.then, Exit.inBlock]; show bodyPost _ _ _ _ _ _)
  have hE : nmS (m : Int) = tx nmSL m := by rw [nmS_eq (by unfold knS; omega)]; rfl
  exact bodyPost_ret (results_tmp rfl _ _ _) rfl ⟨by rw [hE]; rfl, bel⟩
set_option maxRecDepth 100000 in
set_option maxHeartbeats 4000000 in
theorem sname_no {k : Int} (hk : ¬ knS k) (w : World) : Calls Tryd.prog 9 #[.int .i64 k] w fun e w' => e = .returned (.string (str (nmS k))) ∧ Below w.heap.size w w' := by
  have bel : Below w.heap.size w w := Below.refl _ _
  have hnl := nmSL_len
  have hk2 : ¬ knS k := hk
  unfold knS at hk
  go_enter Tryd.func9, Tryd.ntmps9
  refine wp_seq ?_
  refine wp_region_lit ?_
  refine st_mv (.string (str [])) ?_
  simp only [nf0, nf1, nf2, nf3, nf4]
  refine wpList_nil ?_
  show Code.wp _ _ _ _ _
  refine wp_seq ?_
  refine wp_region_lit ?_
  refine st_lit (n := 16) (by rfl) (sc_run_names rfl _) ?_
  intro g1 w2 B3 hb4 lo5
  simp only [nf0, nf1, nf2, nf3, nf4]
  replace bel := bl_step bel hb4
  have O6 : OwnR w2 w.heap.size 9 eTx (.slice (some ⟨g1, 0, none⟩) nmSL.length nmSL.length) nmSL := OwnR.built (xs := nmSL) B3 rfl lo5 (by rw [nmSL_len]; omega) (by rfl)
  rw [nmSL_len] at O6
  obtain ⟨v7, hv8⟩ : ∃ v, v = Value.slice (some ⟨g1, 0, none⟩) 16 16 := ⟨_, rfl⟩
  rw [← hv8] at O6 ⊢
  clear hv8
  refine st_mv v7 ?_
  simp only [nf0, nf1, nf2, nf3, nf4]
  refine wpList_nil ?_
  show Code.wp _ _ _ _ _
  refine wp_seq ?_
  refine wp_seq ?_
  cases hg16 : decide (k < 1)
  rotate_left
  · have hp28 := of_decide_eq_true hg16
    obtain ⟨A29, c30, hv31, h32, h33, h34, R35⟩ := O6.reads
    subst hv31
    refine wp_region_lit ?_
    refine st_mv (.int .i64 k) ?_
    simp only [nf0, nf1, nf2, nf3, nf4]
    refine st_value (v := (.bool true)) (by rfl) ((run_lss (.tmp 5) (.const (.int .i64 1)) rfl rfl rfl w2).trans (by rw [hg16])) ?_
    simp only [nf0, nf1, nf2, nf3, nf4]
    refine st_mv (.bool true) ?_
    simp only [nf0, nf1, nf2, nf3, nf4]
    refine st_nob (j := 2) (t := 7) (c := true) rfl rfl rfl rfl rfl ?_
    simp only [nf0, nf1, nf2, nf3, nf4]
    refine st_nob (j := 2) (t := 7) (c := true) rfl rfl rfl rfl rfl ?_
    simp only [nf0, nf1, nf2, nf3, nf4]
    refine st_nob (j := 2) (t := 7) (c := true) rfl rfl rfl rfl rfl ?_
    simp only [nf0, nf1, nf2, nf3, nf4]
    refine st_nob (j := 2) (t := 7) (c := true) rfl rfl rfl rfl rfl ?_
    simp only [nf0, nf1, nf2, nf3, nf4]
    refine st_mv (.bool true) ?_
    simp only [nf0, nf1, nf2, nf3, nf4]
    refine wpList_nil ?_
    show Code.wp _ _ _ _ _
    refine wp_cond_true rfl ?_
    refine wp_seq ?_
    refine wp_region_lit ?_
    refine st_mv (.string (str [])) ?_
    simp only [nf0, nf1, nf2, nf3, nf4]
    refine wpList_nil ?_
    show Code.wp _ _ _ _ _
    refine wp_ret ?_
    first | show bodyPost _ _ _ _ _ _ | (simp only [Exit.then, Exit.inBlock]; show bodyPost _ _ _ _ _ _)
    exact bodyPost_ret (results_tmp rfl _ _ _) rfl ⟨by rw [nmS_unknown hk2]; rfl, bel⟩
  have hp17 := of_decide_eq_false hg16
  obtain ⟨A18, c19, hv20, h21, h22, h23, R24⟩ := O6.reads
  subst hv20
  refine wp_region_lit ?_
  refine st_mv (.int .i64 k) ?_
  simp only [nf0, nf1, nf2, nf3, nf4]
  refine st_value (v := (.bool false)) (by rfl) ((run_lss (.tmp 5) (.const (.int .i64 1)) rfl rfl rfl w2).trans (by rw [hg16])) ?_
  simp only [nf0, nf1, nf2, nf3, nf4]
  refine st_mv (.bool false) ?_
  simp only [nf0, nf1, nf2, nf3, nf4]
  refine st_mv (.int .i64 k) ?_
  simp only [nf0, nf1, nf2, nf3, nf4]
  refine st_mv (.slice A18 nmSL.length c19) ?_
  simp only [nf0, nf1, nf2, nf3, nf4]
  refine st_value (v := (.int .i64 (nmSL.length : Int))) (by rfl) (run_len (.tmp 9) rfl ⟨_, Tryd.underlying31⟩ rfl w2) ?_
  simp only [nf0, nf1, nf2, nf3, nf4]
  refine st_value (v := (.bool (decide ((nmSL.length : Int) ≤ k)))) (by rfl) (run_geq (.tmp 8) (.tmp 10) rfl rfl rfl w2) ?_
  simp only [nf0, nf1, nf2, nf3, nf4]
  refine st_mv (.bool (decide ((nmSL.length : Int) ≤ k))) ?_
  simp only [nf0, nf1, nf2, nf3, nf4]
  refine wpList_nil ?_
  show Code.wp _ _ _ _ _
  cases hg25 : decide ((nmSL.length : Int) ≤ k)
  · have hp26 := of_decide_eq_false hg25
    exfalso
    omega
  have hp27 := of_decide_eq_true hg25
  refine wp_cond_true rfl ?_
  refine wp_seq ?_
  refine wp_region_lit ?_
  refine st_mv (.string (str [])) ?_
  simp only [nf0, nf1, nf2, nf3, nf4]
  refine wpList_nil ?_
  show Code.wp _ _ _ _ _
  refine wp_ret ?_
  first | show bodyPost _ _ _ _ _ _ | (simp only [Exit.then, Exit.inBlock]; show bodyPost _ _ _ _ _ _)
  exact bodyPost_ret (results_tmp rfl _ _ _) rfl ⟨by rw [nmS_unknown hk2]; rfl, bel⟩
set_option maxRecDepth 100000 in
set_option maxHeartbeats 4000000 in
theorem refSName_yes {m : Nat} (hk : 1 ≤ m ∧ m ≤ 15) (w : World) : Calls Tryd.prog 10 #[.int .i64 (m : Int)] w fun e w' => e = .returned (.string (str (nmS (m : Int)))) ∧ Below w.heap.size w w' := by
  have bel : Below w.heap.size w w := Below.refl _ _
  have hnl := nmS_len (m : Int)
  have hk2 : knS (m : Int) := by unfold knS; omega
  have hn0 : 0 < (nmS (m : Int)).length := List.length_pos_iff.2 (nmS_known hk2).1
  go_enter Tryd.func10, Tryd.ntmps10
  refine wp_seq ?_
  refine wp_region_lit ?_
  refine st_mv (.string (str [])) ?_
  simp only [nf0, nf1, nf2, nf3, nf4]
  refine wpList_nil ?_
  show Code.wp _ _ _ _ _
  refine wp_seq ?_
  refine wp_region_lit ?_
  refine st_mv (.string (str allS)) ?_
  simp only [nf0, nf1, nf2, nf3, nf4]
  refine wpList_nil ?_
  show Code.wp _ _ _ _ _
  refine wp_seq ?_
  refine wp_seq ?_
  cases hg1 : decide ((m : Int) < 1)
  rotate_left
  · have hp11 := of_decide_eq_true hg1
    exfalso
    omega
  have hp2 := of_decide_eq_false hg1
  refine wp_region_lit ?_
  refine st_mv (.int .i64 (m : Int)) ?_
  simp only [nf0, nf1, nf2, nf3, nf4]
  refine st_value (v := (.bool false)) (by rfl) ((run_lss (.tmp 5) (.const (.int .i64 1)) rfl rfl rfl w).trans (by rw [hg1])) ?_
  simp only [nf0, nf1, nf2, nf3, nf4]
  refine st_mv (.bool false) ?_
  simp only [nf0, nf1, nf2, nf3, nf4]
  refine st_mv (.int .i64 (m : Int)) ?_
  simp only [nf0, nf1, nf2, nf3, nf4]
  refine st_value (v := (.bool (decide (15 < (m : Int))))) (by rfl) (run_gtr (.tmp 8) (.const (.int .i64 15)) rfl rfl rfl w) ?_
  simp only [nf0, nf1, nf2, nf3, nf4]
  refine st_mv (.bool (decide (15 < (m : Int)))) ?_
  simp only [nf0, nf1, nf2, nf3, nf4]
  refine wpList_nil ?_
  show Code.wp _ _ _ _ _
  cases hg3 : decide (15 < (m : Int))
  rotate_left
  · have hp10 := of_decide_eq_true hg3
    exfalso
    omega
  have hp4 := of_decide_eq_false hg3
  refine wp_cond_false rfl ?_
  refine wp_skip ?_
  show Code.wp _ _ _ _ _
  refine wp_seq ?_
  refine wp_region_lit ?_
  refine st_mv (.string (str allS)) ?_
  simp only [nf0, nf1, nf2, nf3, nf4]
  refine st_mv (.int .i64 (m : Int)) ?_
  simp only [nf0, nf1, nf2, nf3, nf4]
  refine st_value (v := (.int .i64 (8 * (m : Int)))) (by rfl) (run_mul_in (.const (.int .i64 8)) (.tmp 12) rfl rfl rfl (by omega) w) ?_
  simp only [nf0, nf1, nf2, nf3, nf4]
  refine st_value (v := (.int .i64 ((8 * (m : Int)) - 8))) (by rfl) (run_sub_in (.tmp 13) (.const (.int .i64 8)) rfl rfl rfl (by omega) w) ?_
  simp only [nf0, nf1, nf2, nf3, nf4]
  refine st_mv (.int .i64 (m : Int)) ?_
  simp only [nf0, nf1, nf2, nf3, nf4]
  refine st_value (v := (.int .i64 (8 * (m : Int)))) (by rfl) (run_mul_in (.const (.int .i64 8)) (.tmp 15) rfl rfl rfl (by omega) w) ?_
  simp only [nf0, nf1, nf2, nf3, nf4]
  refine st_value (v := (.string (str (spS m (8 - (nmS (m : Int)).length))))) (by rfl) ((run_sub_text (.tmp 11) (.tmp 14) (.tmp 16) rfl Tryd.underlying9 (l := allS) (p := 8 * m - 8) (q := 8 * m) rfl rfl rfl (by omega) (by omega) (by omega) (by show 8 * m ≤ 120; omega) w).trans (by rw [spS_start hk])) ?_
  simp only [nf0, nf1, nf2, nf3, nf4]
  refine st_mv (.string (str (spS m (8 - (nmS (m : Int)).length)))) ?_
  simp only [nf0, nf1, nf2, nf3, nf4]
  refine wpList_nil ?_
  show Code.wp _ _ _ _ _
  refine wp_seq ?_
  refine wp_block ?_
  refine wp_loop_left (fun n_ a_ wr_ => (fun J5 => ∃ (j : Nat), n_ = j ∧ a_ = ⟨#[.int .i64 (m : Int), J5 1, .string (str []), J5 3, .string (str (spS m j)), J5 5, J5 6, J5 7, J5 8, J5 9, J5 10, J5 11, J5 12, J5 13, J5 14, J5 15, J5 16, J5 17, J5 18, J5 19, J5 20, J5 21, J5 22, J5 23, J5 24, J5 25, J5 26, J5 27, J5 28, J5 29], []⟩ ∧ Below w.heap.size w wr_ ∧ (j ≤ 8)) (jk a_)) ((8 - (nmS (m : Int)).length)) ⟨(8 - (nmS (m : Int)).length), rfl, rfl, bel, (by omega)⟩ ?_
  clear bel
  intro n_ a_ w6 h_
  revert h_
  generalize jk a_ = J5
  rintro ⟨j, hms, rfl, bel, hj⟩
  have hsl := spS_len m j
  refine wp_seq ?_
  refine wp_seq ?_
  refine wp_region_lit ?_
  refine st_mv (.string (str (spS m j))) ?_
  simp only [nf0, nf1, nf2, nf3, nf4]
  refine st_mv (.string (str (spS m j))) ?_
  simp only [nf0, nf1, nf2, nf3, nf4]
  refine st_value (v := (.int .i64 ((spS m j).length : Int))) (by rfl) (run_len_text (.tmp 19) rfl Tryd.underlying9 (l := (spS m j)) rfl w6) ?_
  simp only [nf0, nf1, nf2, nf3, nf4]
  refine st_value (v := (.int .i64 (((spS m j).length : Int) - 1))) (by rfl) (run_sub_in (.tmp 20) (.const (.int .i64 1)) rfl rfl rfl (by omega) w6) ?_
  simp only [nf0, nf1, nf2, nf3, nf4]
  refine st_value (v := (.int .u8 (chr (spS m j) ((spS m j).length - 1)))) (by rfl) (run_index_text (.tmp 18) (.tmp 21) rfl Tryd.underlying9 (l := spS m j) rfl rfl (j := (spS m j).length - 1) (by omega) (by omega) w6) ?_
  simp only [nf0, nf1, nf2, nf3, nf4]
  refine st_value (v := (.bool (decide ((chr (spS m j) ((spS m j).length - 1)) = 32)))) (by rfl) (run_eql_int (.tmp 22) (.const (.int .u8 32)) rfl rfl rfl w6) ?_
  simp only [nf0, nf1, nf2, nf3, nf4]
  refine wpList_nil ?_
  show Code.wp _ _ _ _ _
  cases hg7 : decide ((chr (spS m j) ((spS m j).length - 1)) = 32)
  · have hp8 := of_decide_eq_false hg7
    refine wp_cond_false rfl ?_
    refine wp_exit ?_
    show Code.wp _ _ _ _ _
    refine wp_seq ?_
    have hj0 : j = 0 := by rcases Nat.eq_zero_or_pos j with e | e; exact e; exact absurd (spS_last e) (by assumption)
    subst hj0
    refine wp_region_lit ?_
    refine st_mv (.string (str (spS m 0))) ?_
    simp only [nf0, nf1, nf2, nf3, nf4]
    refine st_mv (.string (str (spS m 0))) ?_
    simp only [nf0, nf1, nf2, nf3, nf4]
    refine wpList_nil ?_
    show Code.wp _ _ _ _ _
    refine wp_ret ?_
    first | show bodyPost _ _ _ _ _ _ | (simp only [Exit.then, Exit.inBlock]; show bodyPost _ _ _ _ _ _)
    have hE : nmS (m : Int) = spS m 0 := by simp [spS]
    exact bodyPost_ret (results_tmp rfl _ _ _) rfl ⟨by rw [hE]; rfl, bel⟩
  have hp9 := of_decide_eq_true hg7
  refine wp_cond_true rfl ?_
  refine wp_skip ?_
  show Code.wp _ _ _ _ _
  refine wp_block ?_
  have hj0 : 0 < j := by rcases Nat.eq_zero_or_pos j with e | e; (· subst e; exact absurd (by assumption) (spS_end hk2)); exact e
  refine wp_region_lit ?_
  refine st_mv (.string (str (spS m j))) ?_
  simp only [nf0, nf1, nf2, nf3, nf4]
  refine st_mv (.string (str (spS m j))) ?_
  simp only [nf0, nf1, nf2, nf3, nf4]
  refine st_value (v := (.int .i64 ((spS m j).length : Int))) (by rfl) (run_len_text (.tmp 25) rfl Tryd.underlying9 (l := (spS m j)) rfl w6) ?_
  simp only [nf0, nf1, nf2, nf3, nf4]
  refine st_value (v := (.int .i64 (((spS m j).length : Int) - 1))) (by rfl) (run_sub_in (.tmp 26) (.const (.int .i64 1)) rfl rfl rfl (by omega) w6) ?_
  simp only [nf0, nf1, nf2, nf3, nf4]
  refine st_value (v := (.string (str (spS m (j - 1))))) (by rfl) ((run_to_text (.tmp 24) (.tmp 27) rfl Tryd.underlying9 (l := spS m j) (q := (spS m j).length - 1) rfl rfl (by omega) (by omega) w6).trans (by rw [spS_take hj0])) ?_
  simp only [nf0, nf1, nf2, nf3, nf4]
  refine st_mv (.string (str (spS m (j - 1)))) ?_
  simp only [nf0, nf1, nf2, nf3, nf4]
  refine wpList_nil ?_
  show ∃ m, m < _ ∧ _
  exact ⟨_, (by omega), (j - 1), rfl, rfl, bel, (by omega)⟩
set_option maxRecDepth 100000 in
set_option maxHeartbeats 4000000 in
theorem refSName_no {k : Int} (hk : ¬ knS k) (w : World) : Calls Tryd.prog 10 #[.int .i64 k] w fun e w' => e = .returned (.string (str (nmS k))) ∧ Below w.heap.size w w' := by
  have bel : Below w.heap.size w w := Below.refl _ _
  have hk2 : ¬ knS k := hk
  unfold knS at hk
  go_enter Tryd.func10, Tryd.ntmps10
  refine wp_seq ?_
  refine wp_region_lit ?_
  refine st_mv (.string (str [])) ?_
  simp only [nf0, nf1, nf2, nf3, nf4]
  refine wpList_nil ?_
  show Code.wp _ _ _ _ _
  refine wp_seq ?_
  refine wp_region_lit ?_
  refine st_mv (.string (str allS)) ?_
  simp only [nf0, nf1, nf2, nf3, nf4]
  refine wpList_nil ?_
  show Code.wp _ _ _ _ _
  refine wp_seq ?_
  refine wp_seq ?_
  cases hg1 : decide (k < 1)
  rotate_left
  · have hp6 := of_decide_eq_true hg1
    refine wp_region_lit ?_
    refine st_mv (.int .i64 k) ?_
    simp only [nf0, nf1, nf2, nf3, nf4]
    refine st_value (v := (.bool true)) (by rfl) ((run_lss (.tmp 5) (.const (.int .i64 1)) rfl rfl rfl w).trans (by rw [hg1])) ?_
    simp only [nf0, nf1, nf2, nf3, nf4]
    refine st_mv (.bool true) ?_
    simp only [nf0, nf1, nf2, nf3, nf4]
    refine st_nob (j := 2) (t := 7) (c := true) rfl rfl rfl rfl rfl ?_
    simp only [nf0, nf1, nf2, nf3, nf4]
    refine st_nob (j := 2) (t := 7) (c := true) rfl rfl rfl rfl rfl ?_
    simp only [nf0, nf1, nf2, nf3, nf4]
    refine st_mv (.bool true) ?_
    simp only [nf0, nf1, nf2, nf3, nf4]
    refine wpList_nil ?_
    show Code.wp _ _ _ _ _
    refine wp_cond_true rfl ?_
    refine wp_seq ?_
    refine wp_region_lit ?_
    refine st_mv (.string (str [])) ?_
    simp only [nf0, nf1, nf2, nf3, nf4]
    refine wpList_nil ?_
    show Code.wp _ _ _ _ _
    refine wp_ret ?_
    first | show bodyPost _ _ _ _ _ _ | (simp only [Exit.then, Exit.inBlock]; show bodyPost _ _ _ _ _ _)
    exact bodyPost_ret (results_tmp rfl _ _ _) rfl ⟨by rw [nmS_unknown hk2]; rfl, bel⟩
  have hp2 := of_decide_eq_false hg1
  refine wp_region_lit ?_
  refine st_mv (.int .i64 k) ?_
  simp only [nf0, nf1, nf2, nf3, nf4]
  refine st_value (v := (.bool false)) (by rfl) ((run_lss (.tmp 5) (.const (.int .i64 1)) rfl rfl rfl w).trans (by rw [hg1])) ?_
  simp only [nf0, nf1, nf2, nf3, nf4]
  refine st_mv (.bool false) ?_
  simp only [nf0, nf1, nf2, nf3, nf4]
  refine st_mv (.int .i64 k) ?_
  simp only [nf0, nf1, nf2, nf3, nf4]
  refine st_value (v := (.bool (decide (15 < k)))) (by rfl) (run_gtr (.tmp 8) (.const (.int .i64 15)) rfl rfl rfl w) ?_
  simp only [nf0, nf1, nf2, nf3, nf4]
  refine st_mv (.bool (decide (15 < k))) ?_
  simp only [nf0, nf1, nf2, nf3, nf4]
  refine wpList_nil ?_
  show Code.wp _ _ _ _ _
  cases hg3 : decide (15 < k)
  · have hp4 := of_decide_eq_false hg3
    exfalso
    omega
  have hp5 := of_decide_eq_true hg3
  refine wp_cond_true rfl ?_
  refine wp_seq ?_
  refine wp_region_lit ?_
  refine st_mv (.string (str [])) ?_
  simp only [nf0, nf1, nf2, nf3, nf4]
  refine wpList_nil ?_
  show Code.wp _ _ _ _ _
  refine wp_ret ?_
  first | show bodyPost _ _ _ _ _ _ | (simp only [Exit.then, Exit.inBlock]; show bodyPost _ _ _ _ _ _)
  exact bodyPost_ret (results_tmp rfl _ _ _) rfl ⟨by rw [nmS_unknown hk2]; rfl, bel⟩
theorem sname_calls (k : Int) (w : World) : Calls Tryd.prog 9 #[.int .i64 k] w fun e w' => e = .returned (.string (str (nmS k))) ∧ Below w.heap.size w w' := by
  by_cases h : knS k
  · obtain ⟨m, rfl⟩ : ∃ m : Nat, k = (m : Int) := ⟨k.toNat, by unfold knS at h; omega⟩
    exact sname_yes (by unfold knS at h; omega) w
  · exact sname_no h w
theorem refSName_calls (k : Int) (w : World) : Calls Tryd.prog 10 #[.int .i64 k] w fun e w' => e = .returned (.string (str (nmS k))) ∧ Below w.heap.size w w' := by
  by_cases h : knS k
  · obtain ⟨m, rfl⟩ : ∃ m : Nat, k = (m : Int) := ⟨k.toNat, by unfold knS at h; omega⟩
    exact refSName_yes (by unfold knS at h; omega) w
  · exact refSName_no h w
set_option maxRecDepth 100000 in
set_option maxHeartbeats 4000000 in
theorem sshape_calls (k : Int) (w : World) : Calls Tryd.prog 13 #[.int .i64 k] w fun e w' => e = .returned (.string (str (shS k))) ∧ Below w.heap.size w w' := by
  have bel : Below w.heap.size w w := Below.refl _ _
  go_enter Tryd.func13, Tryd.ntmps13
  refine wp_seq ?_
  refine wp_region_lit ?_
  refine st_mv (.string (str [])) ?_
  simp only [nf0, nf1, nf2, nf3, nf4]
  refine wpList_nil ?_
  show Code.wp _ _ _ _ _
  refine wp_seq ?_
  refine wp_seq ?_
  refine wp_region_lit ?_
  refine st_mv (.int .i64 k) ?_
  simp only [nf0, nf1, nf2, nf3, nf4]
  refine wpList_nil ?_
  show Code.wp _ _ _ _ _
  refine wp_block ?_
  refine wp_seq ?_
  refine wp_region_lit ?_
  refine st_value (v := (.bool (decide (k = 1)))) (by rfl) (run_eql_int (.tmp 3) (.const (.int .i64 1)) rfl rfl rfl w) ?_
  simp only [nf0, nf1, nf2, nf3, nf4]
  refine st_mv (.bool (decide (k = 1))) ?_
  simp only [nf0, nf1, nf2, nf3, nf4]
  refine wpList_nil ?_
  show Code.wp _ _ _ _ _
  cases hg1 : decide (k = 1)
  rotate_left
  · have hp24 := of_decide_eq_true hg1
    refine wp_cond_true rfl ?_
    refine wp_seq ?_
    refine wp_region_lit ?_
    refine st_mv (.string (str [65, 68])) ?_
    simp only [nf0, nf1, nf2, nf3, nf4]
    refine wpList_nil ?_
    show Code.wp _ _ _ _ _
    refine wp_ret ?_
    first | show bodyPost _ _ _ _ _ _ | (simp only [Exit.then, Exit.inBlock]; show bodyPost _ _ _ _ _ _)
    have hE : shS k = [65, 68] := by obtain rfl : k = 1 := (by assumption); rfl
    exact bodyPost_ret (results_tmp rfl _ _ _) rfl ⟨by rw [hE]; rfl, bel⟩
  have hp2 := of_decide_eq_false hg1
  refine wp_cond_false rfl ?_
  refine wp_seq ?_
  refine wp_region_lit ?_
  refine st_value (v := (.bool (decide (k = 2)))) (by rfl) (run_eql_int (.tmp 3) (.const (.int .i64 2)) rfl rfl rfl w) ?_
  simp only [nf0, nf1, nf2, nf3, nf4]
  refine st_mv (.bool (decide (k = 2))) ?_
  simp only [nf0, nf1, nf2, nf3, nf4]
  refine wpList_nil ?_
  show Code.wp _ _ _ _ _
  cases hg3 : decide (k = 2)
  rotate_left
  · have hp23 := of_decide_eq_true hg3
    refine wp_cond_true rfl ?_
    refine wp_seq ?_
    refine wp_region_lit ?_
    refine st_mv (.string (str [])) ?_
    simp only [nf0, nf1, nf2, nf3, nf4]
    refine wpList_nil ?_
    show Code.wp _ _ _ _ _
    refine wp_ret ?_
    first | show bodyPost _ _ _ _ _ _ | (simp only [Exit.then, Exit.inBlock]; show bodyPost _ _ _ _ _ _)
    have hE : shS k = [] := by obtain rfl : k = 2 := (by assumption); rfl
    exact bodyPost_ret (results_tmp rfl _ _ _) rfl ⟨by rw [hE]; rfl, bel⟩
  have hp4 := of_decide_eq_false hg3
  refine wp_cond_false rfl ?_
  refine wp_seq ?_
  refine wp_region_lit ?_
  refine st_value (v := (.bool (decide (k = 3)))) (by rfl) (run_eql_int (.tmp 3) (.const (.int .i64 3)) rfl rfl rfl w) ?_
  simp only [nf0, nf1, nf2, nf3, nf4]
  refine st_mv (.bool (decide (k = 3))) ?_
  simp only [nf0, nf1, nf2, nf3, nf4]
  refine wpList_nil ?_
  show Code.wp _ _ _ _ _
  cases hg5 : decide (k = 3)
  rotate_left
  · have hp22 := of_decide_eq_true hg5
    refine wp_cond_true rfl ?_
    refine wp_seq ?_
    refine wp_region_lit ?_
    refine st_mv (.string (str [65, 66, 67])) ?_
    simp only [nf0, nf1, nf2, nf3, nf4]
    refine wpList_nil ?_
    show Code.wp _ _ _ _ _
    refine wp_ret ?_
    first | show bodyPost _ _ _ _ _ _ | (simp only [Exit.then, Exit.inBlock]; show bodyPost _ _ _ _ _ _)
    have hE : shS k = [65, 66, 67] := by obtain rfl : k = 3 := (by assumption); rfl
    exact bodyPost_ret (results_tmp rfl _ _ _) rfl ⟨by rw [hE]; rfl, bel⟩
  have hp6 := of_decide_eq_false hg5
  refine wp_cond_false rfl ?_
  refine wp_seq ?_
  refine wp_seq ?_
  refine wp_region_lit ?_
  refine st_value (v := (.bool (decide (k = 4)))) (by rfl) (run_eql_int (.tmp 3) (.const (.int .i64 4)) rfl rfl rfl w) ?_
  simp only [nf0, nf1, nf2, nf3, nf4]
  refine st_mv (.bool (decide (k = 4))) ?_
  simp only [nf0, nf1, nf2, nf3, nf4]
  refine wpList_nil ?_
  show Code.wp _ _ _ _ _
  cases hg7 : decide (k = 4)
  rotate_left
  · have hp21 := of_decide_eq_true hg7
    refine wp_cond_true rfl ?_
    refine wp_skip ?_
    show Code.wp _ _ _ _ _
    refine wp_cond_true rfl ?_
    refine wp_seq ?_
    refine wp_region_lit ?_
    refine st_mv (.string (str [65, 66])) ?_
    simp only [nf0, nf1, nf2, nf3, nf4]
    refine wpList_nil ?_
    show Code.wp _ _ _ _ _
    refine wp_ret ?_
    first | show bodyPost _ _ _ _ _ _ | (simp only [Exit.then, Exit.inBlock]; show bodyPost _ _ _ _ _ _)
    have hE : shS k = [65, 66] := by obtain rfl : k = 4 := (by assumption); rfl
    exact bodyPost_ret (results_tmp rfl _ _ _) rfl ⟨by rw [hE]; rfl, bel⟩
  have hp8 := of_decide_eq_false hg7
  refine wp_cond_false rfl ?_
  refine wp_seq ?_
  refine wp_region_lit ?_
  refine st_value (v := (.bool (decide (k = 5)))) (by rfl) (run_eql_int (.tmp 3) (.const (.int .i64 5)) rfl rfl rfl w) ?_
  simp only [nf0, nf1, nf2, nf3, nf4]
  refine st_mv (.bool (decide (k = 5))) ?_
  simp only [nf0, nf1, nf2, nf3, nf4]
  refine wpList_nil ?_
  show Code.wp _ _ _ _ _
  cases hg9 : decide (k = 5)
  rotate_left
  · have hp20 := of_decide_eq_true hg9
    refine wp_cond_true rfl ?_
    refine wp_skip ?_
    show Code.wp _ _ _ _ _
    refine wp_cond_true rfl ?_
    refine wp_seq ?_
    refine wp_region_lit ?_
    refine st_mv (.string (str [65, 66])) ?_
    simp only [nf0, nf1, nf2, nf3, nf4]
    refine wpList_nil ?_
    show Code.wp _ _ _ _ _
    refine wp_ret ?_
    first | show bodyPost _ _ _ _ _ _ | (simp only [Exit.then, Exit.inBlock]; show bodyPost _ _ _ _ _ _)
    have hE : shS k = [65, 66] := by obtain rfl : k = 5 := (by assumption); rfl
    exact bodyPost_ret (results_tmp rfl _ _ _) rfl ⟨by rw [hE]; rfl, bel⟩
  have hp10 := of_decide_eq_false hg9
  refine wp_cond_false rfl ?_
  refine wp_seq ?_
  refine wp_region_lit ?_
  refine st_value (v := (.bool (decide (k = 9)))) (by rfl) (run_eql_int (.tmp 3) (.const (.int .i64 9)) rfl rfl rfl w) ?_
  simp only [nf0, nf1, nf2, nf3, nf4]
  refine st_mv (.bool (decide (k = 9))) ?_
  simp only [nf0, nf1, nf2, nf3, nf4]
  refine wpList_nil ?_
  show Code.wp _ _ _ _ _
  cases hg11 : decide (k = 9)
  rotate_left
  · have hp19 := of_decide_eq_true hg11
    refine wp_cond_true rfl ?_
    refine wp_skip ?_
    show Code.wp _ _ _ _ _
    refine wp_cond_true rfl ?_
    refine wp_seq ?_
    refine wp_region_lit ?_
    refine st_mv (.string (str [65, 66])) ?_
    simp only [nf0, nf1, nf2, nf3, nf4]
    refine wpList_nil ?_
    show Code.wp _ _ _ _ _
    refine wp_ret ?_
    first | show bodyPost _ _ _ _ _ _ | (simp only [Exit.then, Exit.inBlock]; show bodyPost _ _ _ _ _ _)
    have hE : shS k = [65, 66] := by obtain rfl : k = 9 := (by assumption); rfl
    exact bodyPost_ret (results_tmp rfl _ _ _) rfl ⟨by rw [hE]; rfl, bel⟩
  have hp12 := of_decide_eq_false hg11
  refine wp_cond_false rfl ?_
  refine wp_seq ?_
  refine wp_region_lit ?_
  refine st_value (v := (.bool (decide (k = 10)))) (by rfl) (run_eql_int (.tmp 3) (.const (.int .i64 10)) rfl rfl rfl w) ?_
  simp only [nf0, nf1, nf2, nf3, nf4]
  refine st_mv (.bool (decide (k = 10))) ?_
  simp only [nf0, nf1, nf2, nf3, nf4]
  refine wpList_nil ?_
  show Code.wp _ _ _ _ _
  cases hg13 : decide (k = 10)
  rotate_left
  · have hp18 := of_decide_eq_true hg13
    refine wp_cond_true rfl ?_
    refine wp_skip ?_
    show Code.wp _ _ _ _ _
    refine wp_cond_true rfl ?_
    refine wp_seq ?_
    refine wp_region_lit ?_
    refine st_mv (.string (str [65, 66])) ?_
    simp only [nf0, nf1, nf2, nf3, nf4]
    refine wpList_nil ?_
    show Code.wp _ _ _ _ _
    refine wp_ret ?_
    first | show bodyPost _ _ _ _ _ _ | (simp only [Exit.then, Exit.inBlock]; show bodyPost _ _ _ _ _ _)
    have hE : shS k = [65, 66] := by obtain rfl : k = 10 := (by assumption); rfl
    exact bodyPost_ret (results_tmp rfl _ _ _) rfl ⟨by rw [hE]; rfl, bel⟩
  have hp14 := of_decide_eq_false hg13
  refine wp_cond_false rfl ?_
  refine wp_region_lit ?_
  refine st_value (v := (.bool (decide (k = 12)))) (by rfl) (run_eql_int (.tmp 3) (.const (.int .i64 12)) rfl rfl rfl w) ?_
  simp only [nf0, nf1, nf2, nf3, nf4]
  refine st_mv (.bool (decide (k = 12))) ?_
  simp only [nf0, nf1, nf2, nf3, nf4]
  refine wpList_nil ?_
  show Code.wp _ _ _ _ _
  cases hg15 : decide (k = 12)
  rotate_left
  · have hp17 := of_decide_eq_true hg15
    refine wp_cond_true rfl ?_
    refine wp_seq ?_
    refine wp_region_lit ?_
    refine st_mv (.string (str [65, 66])) ?_
    simp only [nf0, nf1, nf2, nf3, nf4]
    refine wpList_nil ?_
    show Code.wp _ _ _ _ _
    refine wp_ret ?_
    first | show bodyPost _ _ _ _ _ _ | (simp only [Exit.then, Exit.inBlock]; show bodyPost _ _ _ _ _ _)
    have hE : shS k = [65, 66] := by obtain rfl : k = 12 := (by assumption); rfl
    exact bodyPost_ret (results_tmp rfl _ _ _) rfl ⟨by rw [hE]; rfl, bel⟩
  have hp16 := of_decide_eq_false hg15
  refine wp_cond_false rfl ?_
  refine wp_skip ?_
  show Code.wp _ _ _ _ _
  refine wp_seq ?_
  refine wp_region_lit ?_
  refine st_mv (.string (str [65])) ?_
  simp only [nf0, nf1, nf2, nf3, nf4]
  refine wpList_nil ?_
  show Code.wp _ _ _ _ _
  refine wp_ret ?_
  first | show bodyPost _ _ _ _ _ _ | (simp only [Exit.then, Exit.inBlock]; show bodyPost _ _ _ _ _ _)
  have hE : shS k = [65] := shS_A (by assumption) (by assumption) (by assumption) (by assumption) (by assumption) (by assumption) (by assumption) (by assumption)
  exact bodyPost_ret (results_tmp rfl _ _ _) rfl ⟨by rw [hE]; rfl, bel⟩
end Go.Proofs.YtackcmlkicjlnaaDoor

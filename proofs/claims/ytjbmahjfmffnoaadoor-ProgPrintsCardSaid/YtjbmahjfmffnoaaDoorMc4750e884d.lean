/- Lemmas that the chapter's laws rest on: Range, Facts6, Facts7, OwnRd, PgNums, Inss, PgText, EvLib, PgOps. -/
import Derived.Test.YtjbmahjfmffnoaaDoorM68d12f7bea
import Derived.RangeFuncNested
import Derived.RangeFuncCalls
import Derived.RangeFuncLeaves
import Derived.Shelf.Abstract
import Derived.Lib.Join
import Derived.Test.YtjbmahjfmffnoaaDoorShelf
/- Ranges over a function, in walks that gen/wy.py prints: the caller's law at the plain walk, a round's walk, the iterator's call of yield. -/
namespace Go.Proofs.YtjbmahjfmffnoaaDoor
open Go.RowKit Go.WideShapes Go.ChangeShapes

/-- The rounds of a loop that has few. -/
def rnds (P : Program) (c : Code) (Q : Exit → Act → World → Prop) : Nat → Act → World → Prop
  | 0, a, w => c.wp P (Exit.then (fun _ _ => False) Q) a w
  | n + 1, a, w => c.wp P (Exit.then (rnds P c Q n) Q) a w
theorem then_mono' {Q : Exit → Act → World → Prop} {f g : Act → World → Prop} (h : ∀ a w, f a w → g a w) : ∀ e a w, Exit.then f Q e a w → Exit.then g Q e a w := by
  intro e a w
  cases e <;> simp only [Exit.then] <;> first | exact h a w | exact id
theorem wp_loop_rnds {P : Program} {c : Code} {Q : Exit → Act → World → Prop} {a : Act} {w : World} (n : Nat) (h : rnds P c Q n a w) : (Code.loop c).wp P Q a w := by
  refine wp_loop_left (rnds P c Q) n h fun n a w hn => ?_
  cases n with
  | zero => exact wp_mono hn (then_mono' fun _ _ f => f.elim)
  | succ n => exact wp_mono hn (then_mono' fun a' w' f => ⟨n, Nat.lt_succ_self n, f⟩)

/-- The wide fence, in a round or not. -/
abbrev FW (ro : Option Nat) : Fence := { fn := fun _ => True, depth := none, alive := false, round := ro }
def nodefer (o : Oper) : Bool := match o.op with | .defer _ => false | _ => true
theorem fw_calls {ro : Option Nat} {n : Nat} {P : Program} {f : FuncId} {args : Array Value} {w : World} {R : Ending → World → Prop} (h : Calls P f args w R) : CallsIn (FW ro) n P f args w R := by
  cases ro with
  | none => exact callsIn_wide.2 h
  | some l => exact CallsIn.inRound l (callsIn_wide.2 h)

/-- All cells' blocks but those of S are as they were. -/
structure Kc (S : List Nat) (w w' : World) : Prop where
  size : w.heap.size ≤ w'.heap.size
  same : ∀ (j : Nat) (o : Obj), j ∉ S → w.heap[j]? = some o → o.isCells = true → w'.heap[j]? = some o
theorem Kc.of_fr {S : List Nat} {w w' : World} (h : Fr S w w') : Kc S w w' := ⟨h.size, fun j o hj ho _ => (h.block j (Array.getElem?_eq_some_iff.1 ho).1 hj).trans ho⟩
theorem Kc.trans {S : List Nat} {a b c : World} (h : Kc S a b) (k : Kc S b c) : Kc S a c := ⟨Nat.le_trans h.size k.size, fun j o hj ho hc => k.same j o hj (h.same j o hj ho hc) hc⟩
theorem Blk.kc {S : List Nat} {w w' : World} {g : Nat} {cs : Array Value} {t : TypeId} (h : Blk w g cs t) (k : Kc S w w') (n : g ∉ S) : Blk w' g cs t := k.same g _ n h rfl
theorem Reads.kc {S : List Nat} {w w' : World} {A : Option Addr} {cells : List Value} (h : Reads w A cells) (k : Kc S w w') (n : ∀ ad, A = some ad → ad.block ∉ S) : Reads w' A cells := by
  intro j u hj
  obtain ⟨b, off, hA, hc⟩ := h j u hj
  refine ⟨b, off, hA, ?_⟩
  have hb := n _ hA
  unfold World.cell? at hc ⊢
  cases ho : w.heap[b]? with
  | none => simp [ho] at hc
  | some o =>
    cases o with
    | cells cs t fr => rw [k.same b _ hb ho rfl]; simpa [ho] using hc
    | _ => simp [ho] at hc

theorem Fr.of_grown {w w' : World} {g : Nat} (h : w.grownBy w' (some g)) : Fr [g] w w' := ⟨h.os, h.tape, h.output, h.size, fun j hj hn => h.block j hj (fun e => hn (by injection e with e; simp [e]))⟩

/-- The block of a range's deferred calls: none. -/
def Dfr (W : World) (D : Nat) : Prop := W.heap[D]? = some (.deferred (some []))
theorem Dfr.below {W W' : World} {D : Nat} (h : Dfr W D) (k : Below W.heap.size W W') : Dfr W' D := (k.block D (Array.getElem?_eq_some_iff.1 h).1).trans h
theorem Dfr.kept {W W' : World} {D g : Nat} {cs : Array Value} {t : TypeId} (h : Dfr W D) (hB : Blk W g cs t) (k : W.grownBy W' (some g)) : Dfr W' D :=
  (k.block D (Array.getElem?_eq_some_iff.1 h).1 (fun e => by injection e with e; subst e; unfold Dfr at h; unfold Blk at hB; rw [hB] at h; injection h with h; cases h)).trans h
theorem Dfr.ne {W : World} {D g : Nat} {cs : Array Value} {t : TypeId} (h : Dfr W D) (hB : Blk W g cs t) : g ≠ D := fun e => by subst e; unfold Dfr at h; unfold Blk at hB; rw [hB] at h; injection h with h; cases h
theorem Dfr.fr {S : List Nat} {W W' : World} {D : Nat} (h : Dfr W D) (k : Fr S W W') (n : D ∉ S) : Dfr W' D := (k.block D (Array.getElem?_eq_some_iff.1 h).1 n).trans h

section
variable {ro : Option Nat} {n : Nat} {P : Program} {ops : Array Oper} {o : Oper} {rest : List Oper} {a : Act} {w : World} {Q : Exit → Act → World → Prop}
theorem si_sem (hd : nodefer o = true) : o.semAt (FW ro).round a.eval = execOp a.eval o := Oper.semAt_eq _ _ _ (fun c h => by simp [nodefer, h] at hd)
theorem si_value {v : Value} (hw : Region.wanted o (yielded ops a.tmps) = true) (h : (execOp a.eval o).run P w = .ok (.value v) w) (k : wpListIn (FW ro) n P ops Q rest (a.put o.dst v) w) (hd : nodefer o = true := by rfl) : wpListIn (FW ro) n P ops Q (o :: rest) a w := by
  unfold wpListIn
  rw [if_pos hw]
  refine ⟨fun _ _ => trivial, ?_⟩
  rw [si_sem hd, h]
  exact k
theorem si_mv (v : Value) (k : wpListIn (FW ro) n P ops Q rest (a.put o.dst v) w) (hw : Region.wanted o (yielded ops a.tmps) = true := by rfl) (h : (execOp a.eval o).run P w = .ok (.value v) w := by rfl) (hd : nodefer o = true := by rfl) : wpListIn (FW ro) n P ops Q (o :: rest) a w := si_value hw h k hd
theorem si_not (hw : Region.wanted o (yielded ops a.tmps) = false) (k : wpListIn (FW ro) n P ops Q rest (a.put o.dst undef) w) : wpListIn (FW ro) n P ops Q (o :: rest) a w := by
  unfold wpListIn
  rw [if_neg (by simp [hw])]
  exact ⟨fun _ _ => trivial, k⟩
theorem si_nob {j t : Nat} {b c : Bool} (hg : o.guard = some (j, b)) {p : Oper} (hp : ops[j]? = some p) (hd : p.dst = some t) (hv : a.tmps[t]? = some (.bool c)) (hc : (c == b) = false) (k : wpListIn (FW ro) n P ops Q rest (a.put o.dst undef) w) : wpListIn (FW ro) n P ops Q (o :: rest) a w := by
  refine si_not ?_ k
  simp only [Region.wanted, hg, yielded, hp, Option.bind_some, hd, hv]
  simpa using hc
theorem si_nou {j t : Nat} {b : Bool} (hg : o.guard = some (j, b)) {p : Oper} (hp : ops[j]? = some p) (hd : p.dst = some t) (hv : a.tmps[t]? = some undef) (k : wpListIn (FW ro) n P ops Q rest (a.put o.dst undef) w) : wpListIn (FW ro) n P ops Q (o :: rest) a w := by
  refine si_not ?_ k
  simp only [Region.wanted, hg, yielded, hp, Option.bind_some, hd, hv]
  rfl
theorem si_call {g : FuncId} {args : Array Value} {R : Value → World → Prop} (hw : Region.wanted o (yielded ops a.tmps) = true) (h : (execOp a.eval o).run P w = .ok (.enter g args) w)
    (c : Calls P g args w fun e w' => ∃ v, e = .returned v ∧ R v w') (k : ∀ v w', R v w' → wpListIn (FW ro) n P ops Q rest (a.put o.dst v) w') (hd : nodefer o = true := by rfl) : wpListIn (FW ro) n P ops Q (o :: rest) a w := by
  unfold wpListIn
  rw [if_pos hw]
  refine ⟨fun _ _ => trivial, ?_⟩
  rw [si_sem hd, h, Oper.uponIn_enter]
  exact ⟨fun h => (by cases h), fw_calls (c.mono fun e w' ⟨v, he, hr⟩ => by subst he; exact k _ _ hr)⟩
theorem si_call1 {g : FuncId} {args : Array Value} {v : Value} {R : World → Prop} (hw : Region.wanted o (yielded ops a.tmps) = true) (h : (execOp a.eval o).run P w = .ok (.enter g args) w)
    (c : Calls P g args w fun e w' => e = .returned v ∧ R w') (k : ∀ w', R w' → wpListIn (FW ro) n P ops Q rest (a.put o.dst v) w') (hd : nodefer o = true := by rfl) : wpListIn (FW ro) n P ops Q (o :: rest) a w :=
  si_call (R := fun u w' => u = v ∧ R w') hw h (c.mono fun _ _ ⟨h1, h2⟩ => ⟨v, h1, rfl, h2⟩) (fun _ w' ⟨h1, h2⟩ => h1 ▸ k w' h2) hd
theorem si_cell {g i : Nat} {cs : Array Value} {v : Value} {t : TypeId} (hw : Region.wanted o (yielded ops a.tmps) = true) (h : (execOp a.eval o).run P w = .ok .skip (w.setCell ⟨g, i, none⟩ v)) (hg : Blk w g cs t)
    (k : ∀ w', Blk w' g (cs.setIfInBounds i v) t → w.grownBy w' (some g) → wpListIn (FW ro) n P ops Q rest (a.put o.dst undef) w') (hd : nodefer o = true := by rfl) : wpListIn (FW ro) n P ops Q (o :: rest) a w := by
  unfold wpListIn
  rw [if_pos hw]
  refine ⟨fun _ _ => trivial, ?_⟩
  rw [si_sem hd, h]
  exact k _ (hg.set i v) ⟨rfl, rfl, rfl, by simp [World.setCell], fun k _ hk => Below.heap_setCell _ _ _ _ (fun e => hk (by rw [e]))⟩
theorem si_new {cs : Array Value} {t : TypeId} (hw : Region.wanted o (yielded ops a.tmps) = true) (h : (execOp a.eval o).run P w = .ok (.value (.pointer (some ⟨w.heap.size, 0, none⟩))) (w.alloc (.cells cs t)))
    (k : ∀ g w', Blk w' g cs t → Below w.heap.size w w' → w.heap.size ≤ g → wpListIn (FW ro) n P ops Q rest (a.put o.dst (.pointer (some ⟨g, 0, none⟩))) w') (hd : nodefer o = true := by rfl) : wpListIn (FW ro) n P ops Q (o :: rest) a w := by
  unfold wpListIn
  rw [if_pos hw]
  refine ⟨fun _ _ => trivial, ?_⟩
  rw [si_sem hd, h]
  exact k _ _ (Blk.new _ _ _ _ rfl) (bl_alloc (Below.refl _ _) _) (Nat.le_refl _)
/-- The iterator's call of yield. -/
theorem run_yield2 {x y z : Operand} {ts : Array TypeId} (ho : o.op = .call { callee := .value x, args := #[y, z], argTypes := ts }) {l : Nat} {u v : Value} (hx : a.eval x = .func (.yield l) #[] #[]) (hy : a.eval y = u) (hz : a.eval z = v) {fn : FuncId} {tmps : Array Value} {assign body : Code}
    (hr : (Instr.yield l #[u, v]).run P w = .ok (.round l fn tmps assign body) w) : (execOp a.eval o).run P w = .ok (.round l fn tmps assign body) w := by
  subst hy hz
  unfold execOp
  simp only [ho]
  generalize a.eval = ρ at *
  simp [go_sem, resolve, hx, hr]
theorem si_yield {x y z : Operand} {ts : Array TypeId} (ho : o.op = .call { callee := .value x, args := #[y, z], argTypes := ts }) {l : Nat} {u v : Value} (hw : Region.wanted o (yielded ops a.tmps) = true) (hx : a.eval x = .func (.yield l) #[] #[]) (hy : a.eval y = u) (hz : a.eval z = v) {R1 R2 : World → Prop}
    (Y : YieldAt Fence.wide n P l #[u, v] w fun e w' => (e = .returned (.bool true) ∧ R1 w') ∨ (e = .returned (.bool false) ∧ R2 w'))
    (k1 : ∀ w', R1 w' → wpListIn (FW none) (n + 1) P ops Q rest (a.put o.dst (.bool true)) w') (k2 : ∀ w', R2 w' → wpListIn (FW none) (n + 1) P ops Q rest (a.put o.dst (.bool false)) w') (hd : nodefer o = true := by rfl) : wpListIn (FW none) (n + 1) P ops Q (o :: rest) a w := by
  obtain ⟨fn, tmps, assign, body, h1, h2⟩ := Y
  unfold wpListIn
  rw [if_pos hw]
  refine ⟨fun _ _ => trivial, ?_⟩
  rw [si_sem hd, run_yield2 ho hx hy hz h1, Oper.uponIn_round]
  refine ⟨fun h => (by cases h), ?_⟩
  rw [Nat.add_sub_cancel]
  refine RoundIn.mono (F := FW none) h2 ?_
  rintro e w' (⟨rfl, h⟩ | ⟨rfl, h⟩)
  · exact k1 _ h
  · exact k2 _ h
theorem wp_region_wide {id : Nat} {l : List Oper} (n : Nat) (h : wpListIn (FW none) n P l.toArray Q l a w) : (Code.region id l.toArray false).wp P Q a w := (wpIn_wide (n := n)).1 (wpIn_region_lit h)
end

/-- How a round may be left: it goes on, or it leaves the function. -/
def rPost (S : List Nat) (I Ix : World → Prop) (W : World) : Exit → Act → World → Prop
  | .normal, _, W' => Fr S W W' ∧ I W'
  | .ret, _, W' => Fr S W W' ∧ Ix W'
  | _, _, _ => False

/-- What is said of a world bears whatever is done to what is no cells, from B on; or new blocks. -/
def Abd (B : Nat) (I : World → Prop) : Prop := ∀ (A A' : World) (row : Option Nat), I A → A.grownBy A' row → (∀ r, row = some r → B ≤ r ∧ ∃ o : Obj, A.heap[r]? = some o ∧ o.isCells = false) → I A'
theorem Abd.alloc {B : Nat} {I : World → Prop} (h : Abd B I) {W : World} (o : Obj) (hi : I W) : I (W.alloc o) := h W _ none hi (World.grownBy_alloc W o none) (fun r e => by cases e)
theorem Abd.put {B : Nat} {I : World → Prop} (h : Abd B I) {W : World} {l : Nat} {o : Obj} (o' : Obj) (hi : I W) (hB : B ≤ l) (hl : W.heap[l]? = some o) (ho : o.isCells = false) : I (W.putObj l o') :=
  h W _ (some l) hi (grownBy_putObj' W l o') (fun r e => by cases e; exact ⟨hB, o, hl, ho⟩)

/-- An iterator: it hands yield the values ev 0, ev 1, .. up to ev m; a round may change the blocks of S and make new ones. -/
def SeqAt (P : Program) (gf : FuncId) (lb : Array Value) (m : Nat) (ev : Nat → Array Value) (S : List Nat) (w : World) : Prop :=
  ∀ (l : Nat) (J : Nat → World → Prop) (Jx : World → Prop) (W : World), Below w.heap.size w W → (∀ k A B, J k A → Below A.heap.size A B → J k B) →
    (∀ k A, J k A → k < m → YieldAt Fence.wide 1 P l (ev k) A fun e W' => (e = .returned (.bool true) ∧ J (k + 1) W' ∧ Kc S A W') ∨ (e = .returned (.bool false) ∧ Jx W')) →
    J 0 W → Calls P gf (#[.func (.yield l) #[] #[]] ++ lb) W fun e W' => (∃ v, e = .returned v) ∧ (J m W' ∨ Jx W')

abbrev mark (D : Nat) : Deferred := { target := .collected D, args := #[] }
/-- The caller's law. -/
theorem wp_range {P : Program} {g : Operand} {ps : Array Tmp} {assign body : Code} {Q : Exit → Act → World → Prop} {a : Act} {w : World} {gf : Nat} {lb : Array Value}
    (hg : a.eval g = .func (.func gf) #[] lb) (hdf : a.defers = []) (eg : ∀ args w, (callFunc gf args).run P w = .ok (.enter gf args) w) {m : Nat} {ev : Nat → Array Value} {S : List Nat} (hS : ∀ j, j ∈ S → j < w.heap.size)
    (hseq : SeqAt P gf lb m ev S w) (hps : ∀ k, (ev k).size = ps.size) (I Ix : Nat → World → Prop) (hI : ∀ k, Abd w.heap.size (I k)) (hIx : ∀ k, Abd w.heap.size (Ix k)) (h0 : I 0 w) (a₁ : Nat → Act)
    (hassign : ∀ (l k : Nat) (W : World) (K : Act → World → Prop), K (a₁ k) W → assign.wpIn (FW (some l)) 1 P (Exit.then K (fun _ _ _ => False)) { tmps := (ps.zip (ev k)).foldl (fun t (p, v) => t.setIfInBounds p v) a.tmps, defers := [] } W)
    (hbody : ∀ (l k : Nat) (W : World), I k W → k < m → body.wpIn (FW (some l)) 1 P (rPost S (I (k + 1)) (Ix k) W) (a₁ k) W)
    (hdone : ∀ (D : Nat) (W : World), w.heap.size ≤ D → I m W → Dfr W D → Q .normal { tmps := a.tmps, defers := [mark D] } W)
    (hstop : ∀ (D k : Nat) (W : World), w.heap.size ≤ D → k < m → Ix k W → Dfr W D → Q .ret { tmps := a.tmps, defers := [mark D] } W) :
    (Code.rangeFunc g ps assign body).wp P Q a w := by
  refine (wpIn_wide (n := 3)).1 (wpIn_rangeFunc ?_)
  intro fn _
  obtain ⟨rec, hrec⟩ : ∃ rec : LoopState → Option Code → Loop, rec = fun st pe => { state := st, pending := pe, fn, tmps := a.tmps, params := ps, assign, body, defers := w.heap.size } := ⟨_, rfl⟩
  obtain ⟨W1, hW1⟩ : ∃ W1, (w.alloc (.deferred (some []))).alloc (.loop (rec .ready none)) = W1 := ⟨_, rfl⟩
  have hL1 : W1.heap[w.heap.size + 1]? = some (.loop (rec .ready none)) := by
    rw [← hW1]; have := World.alloc_heap_new (w.alloc (.deferred (some []))) (.loop (rec .ready none)); rwa [World.size_alloc] at this
  have hK1 : Dfr W1 w.heap.size := by
    rw [← hW1]; exact (Below.heap_alloc _ _ _ (by simp)).trans (World.alloc_heap_new w _)
  have hI1 : I 0 W1 := by rw [← hW1]; exact (hI 0).alloc _ ((hI 0).alloc _ h0)
  have hb1 : Below w.heap.size w W1 := by rw [← hW1]; exact ((Below.refl _ w).alloc (Nat.le_refl _) _).alloc (by simp) _
  refine ⟨w.heap.size + 1, [mark w.heap.size], W1, { target := .fn (.func gf) lb, args := #[.func (.yield (w.heap.size + 1)) #[] #[]] }, W1, gf, #[.func (.yield (w.heap.size + 1)) #[] #[]] ++ lb, W1, ?_, ?_, fun _ _ => trivial, ?_, fun h => (by cases h), ?_⟩
  · rw [← hW1, hrec]; exact run_enterLoop_outer _ _ _ _ _
  · simp only [resolve, hg]
    simp [go_sem]
  · simp [invoke, go_sem, eg]
  · refine fw_calls (ro := none) ?_
    refine (hseq (w.heap.size + 1) (fun k W => I k W ∧ W.heap[w.heap.size + 1]? = some (.loop (rec .ready none)) ∧ Dfr W w.heap.size)
      (fun W => ∃ k, k < m ∧ Ix k W ∧ W.heap[w.heap.size + 1]? = some (.loop (rec .done (some .ret))) ∧ Dfr W w.heap.size) W1 hb1 ?_ ?_ ⟨hI1, hL1, hK1⟩).mono ?_
    · rintro k A B ⟨hi, hl, hk⟩ hb
      exact ⟨hI k A B none hi ⟨hb.os, hb.tape, hb.output, hb.size, fun j hj _ => hb.block j hj⟩ (fun r e => by cases e), (hb.block _ (Array.getElem?_eq_some_iff.1 hl).1).trans hl, hk.below hb⟩
    · rintro k W ⟨hi, hl, hk⟩ hlt
      have hy := run_yield (P := P) (args := ev k) hl (by rw [hrec]; exact hps k)
      rw [hrec] at hy
      refine ⟨fn, _, assign, body, hy, roundIn_of_wpIn trivial (hassign _ k W _ ⟨_, run_beginRound hl (by rw [hrec]), ?_⟩)⟩
      have hlW : w.heap.size + 1 < W.heap.size := (Array.getElem?_eq_some_iff.1 hl).1
      have hl2 : (W.putObj (w.heap.size + 1) (.loop { rec .ready none with state := .busy })).heap[w.heap.size + 1]? = some (.loop { rec .ready none with state := .busy }) := World.putObj_heap_same hlW
      have hk2 : Dfr (W.putObj (w.heap.size + 1) (.loop { rec .ready none with state := .busy })) w.heap.size := (World.putObj_heap_other (by omega)).trans hk
      have kcp : ∀ (V : World) (r : Loop) (o : Obj), V.heap[w.heap.size + 1]? = some (.loop r) → Kc S V (V.putObj (w.heap.size + 1) o) := fun V r o hv => ⟨by simp, fun j o2 _ hj hc => (World.putObj_heap_other (fun e => by subst e; rw [hv] at hj; injection hj with hj; subst hj; cases hc)).trans hj⟩
      have fin : ∀ (jump : Option Code) (W3 : World), Fr S (W.putObj (w.heap.size + 1) (.loop { rec .ready none with state := .busy })) W3 →
          (Instr.endRound (w.heap.size + 1) jump).run P W3 = .ok (.bool jump.isNone) (W3.putObj (w.heap.size + 1) (.loop (rec (if jump.isNone then .ready else .done) jump))) ∧
          W3.heap[w.heap.size + 1]? = some (.loop { rec .ready none with state := .busy }) ∧
          (W3.putObj (w.heap.size + 1) (.loop (rec (if jump.isNone then .ready else .done) jump))).heap[w.heap.size + 1]? = some (.loop (rec (if jump.isNone then .ready else .done) jump)) ∧
          Dfr (W3.putObj (w.heap.size + 1) (.loop (rec (if jump.isNone then .ready else .done) jump))) w.heap.size := fun jump W3 hf => by
        have hl3 := (hf.block (w.heap.size + 1) (by simpa using hlW) (fun e => by have := hS _ e; omega)).trans hl2
        have hk3 := hk2.fr hf (fun e => by have := hS _ e; omega)
        have := run_endRound (P := P) jump hl3
        rw [hrec] at this ⊢
        exact ⟨this, by rw [hrec] at hl3; exact hl3, World.putObj_heap_same (Array.getElem?_eq_some_iff.1 hl3).1, (World.putObj_heap_other (by omega)).trans hk3⟩
      refine wpIn_mono (hbody _ k _ ((hI k).put _ hi (by omega) hl rfl) hlt) ?_
      intro e a3 W3 hp
      cases e with
      | normal =>
        obtain ⟨hf, hi3⟩ := hp
        obtain ⟨hr, hl3, hl4, hk4⟩ := fin none W3 hf
        exact ⟨_, _, hr, .inl ⟨rfl, ⟨(hI _).put _ hi3 (by omega) hl3 rfl, hl4, hk4⟩, ((kcp W _ _ hl).trans (Kc.of_fr hf)).trans (kcp W3 _ _ hl3)⟩⟩
      | ret =>
        obtain ⟨hf, hi3⟩ := hp
        obtain ⟨hr, hl3, hl4, hk4⟩ := fin (some .ret) W3 hf
        exact ⟨_, _, hr, .inr ⟨rfl, k, hlt, (hIx _).put _ hi3 (by omega) hl3 rfl, hl4, hk4⟩⟩
      | exit id => exact hp.elim
      | goto t => exact hp.elim
      | panic c => exact hp.elim
      | outgrown => exact hp.elim
    · rintro e W2 ⟨⟨v, rfl⟩, (⟨hi, hl, hk⟩ | ⟨k, hlt, hi, hl, hk⟩)⟩
      · refine ⟨none, _, by have := run_endLoop (P := P) hl (by rw [hrec]; simp); rw [hrec] at this; exact this, ?_⟩
        rw [hdf]
        exact hdone _ _ (Nat.le_refl _) ((hI m).put _ hi (by omega) hl rfl) ((World.putObj_heap_other (by omega)).trans hk)
      · refine ⟨some .ret, _, by have := run_endLoop (P := P) hl (by rw [hrec]; simp); rw [hrec] at this; exact this, ?_⟩
        rw [hdf]
        exact wpIn_ret (hstop _ k _ (Nat.le_refl _) hlt ((hIx k).put _ hi (by omega) hl rfl) ((World.putObj_heap_other (by omega)).trans hk))

/-! ### a function that holds such a loop, as it is left -/
theorem calls_marks {P : Program} {f : FuncId} {fn : Func} {c : Code} {args : Array Value} {w : World} {R : Ending → World → Prop} (hf : P.funcs[f]? = some fn) (hb : fn.body = some c)
    (h : c.wp P (bodyPostM Fence.wide 3 P fn R) { tmps := args ++ Array.replicate (fn.ntmps - args.size) undef, defers := [] } w) : Calls P f args w R := callsIn_wide.1 (callsIn_of_wp_marks (n := 3) hf hb trivial (wpIn_wide.2 h))
theorem results_cell1 {P : Program} {fn : Func} {p : Tmp} {ty t : TypeId} (h : fn.results = #[.cell p ty]) (T : One P ty) {tmps : Array Value} {w : World} {g : Nat} {v : Value} (hp : tmps.getD p undef = .pointer (some ⟨g, 0, none⟩)) (hB : Blk w g #[v] t) : (results fn tmps).run P w = .ok v w := by
  obtain ⟨d, i, h1, h2, h3, h4⟩ := T
  have hagg : (isAgg ty).run P w = .ok false w := by
    unfold isAgg
    rw [Sem.run_bind, run_underlying h1 w]
    cases d <;> simp_all [plainT]
  have hc : w.cell? ⟨g, 0, none⟩ = some v := by rw [hB.cell]; rfl
  have hp' : tmps[p]?.getD undef = .pointer (some ⟨g, 0, none⟩) := by simpa using hp
  simp only [results, h]
  simp [Sem.run_bind, hp', asAddr, loadVar, hagg, hc]
theorem postM_ret {P : Program} {fn : Func} {R : Ending → World → Prop} {a : Act} {w : World} {v : Value} (hr : (results fn a.tmps).run P w = .ok v w) (hd : a.defers = []) (hR : R (.returned v) w) : bodyPostM Fence.wide 3 P fn R .ret a w := by
  show LeavesInM _ _ _ _ _ _ _ _ _
  rw [hd]
  exact ⟨v, hr, hR⟩
theorem postM_mark {P : Program} {fn : Func} {R : Ending → World → Prop} {a : Act} {w : World} {v : Value} {D : Nat} (hd : a.defers = [mark D]) (hD : Dfr w D) (hr : (results fn a.tmps).run P (w.putObj D (.deferred none)) = .ok v (w.putObj D (.deferred none))) (hR : R (.returned v) (w.putObj D (.deferred none))) : bodyPostM Fence.wide 3 P fn R .ret a w := by
  show LeavesInM _ _ _ _ _ _ _ _ _
  rw [hd]
  refine ⟨by simp, .inl ⟨_, _, rfl, run_takeDeferred hD, ?_⟩⟩
  exact ⟨v, hr, hR⟩
theorem Blk.putD {w : World} {D g : Nat} {cs : Array Value} {t : TypeId} (h : Blk w g cs t) (hD : Dfr w D) (o : Obj) : Blk (w.putObj D o) g cs t := (World.putObj_heap_other (hD.ne h)).trans h
theorem bl_putD {B : Nat} {w0 w : World} {D : Nat} (h : Below B w0 w) (hD : B ≤ D) (o : Obj) : Below B w0 (w.putObj D o) :=
  ⟨h.os, h.tape, h.output, by simpa using h.size, fun k hk => (World.putObj_heap_other (by omega)).trans (h.block k hk)⟩
theorem fr_putD {S : List Nat} {w0 w : World} {D : Nat} (h : Fr S w0 w) (hD : w0.heap.size ≤ D) (o : Obj) : Fr S w0 (w.putObj D o) :=
  ⟨h.os, h.tape, h.output, by simpa using h.size, fun k hk hn => (World.putObj_heap_other (by omega)).trans (h.block k hk hn)⟩
/-- What came in is read on, whatever happens to blocks that came later. -/
theorem Reads.frS {S : List Nat} {w0 W W' : World} {A : Option Addr} {cells : List Value} (h0 : Reads w0 A cells) (hS : ∀ j, j ∈ S → w0.heap.size ≤ j) (h : Reads W A cells) (k : Fr S W W') : Reads W' A cells := by
  intro j u hj
  obtain ⟨b, off, hA, hc⟩ := h j u hj
  refine ⟨b, off, hA, ?_⟩
  obtain ⟨b', off', hA', hc'⟩ := h0 j u hj
  rw [hA] at hA'; injection hA' with e; injection e with e1 e2; subst e1 e2
  have hb := World.block_lt_of_cell? w0 _ hc'
  have hb2 := World.block_lt_of_cell? W _ hc
  have : b ∉ S := fun e => by have := hS b e; simp at hb; omega
  exact (World.cell?_of_block (k.block b (by simpa using hb2) this)).trans hc
theorem lt1 {m r : Nat} (h : r < m) : ∀ j, j ∈ [r] → j < m := by simpa using h
theorem lt2 {m r b : Nat} (h : r < m) (k : b < m) : ∀ j, j ∈ [r, b] → j < m := by simp [h, k]
theorem lt3 {m r b c : Nat} (h : r < m) (k : b < m) (l : c < m) : ∀ j, j ∈ [r, b, c] → j < m := by simp [h, k, l]
theorem lt4 {m r b c d : Nat} (h : r < m) (k : b < m) (l : c < m) (q : d < m) : ∀ j, j ∈ [r, b, c, d] → j < m := by simp [h, k, l, q]
theorem lo3 {m r b c : Nat} (h : m ≤ r) (k : m ≤ b) (l : m ≤ c) : ∀ j, j ∈ [r, b, c] → m ≤ j := by simp [h, k, l]
theorem lo4 {m r b c d : Nat} (h : m ≤ r) (k : m ≤ b) (l : m ≤ c) (q : m ≤ d) : ∀ j, j ∈ [r, b, c, d] → m ≤ j := by simp [h, k, l, q]
theorem ni3 {g r b c : Nat} (h : g ≠ r) (k : g ≠ b) (l : g ≠ c) : g ∉ [r, b, c] := by simp [h, k, l]
theorem ni4 {g r b c d : Nat} (h : g ≠ r) (k : g ≠ b) (l : g ≠ c) (q : g ≠ d) : g ∉ [r, b, c, d] := by simp [h, k, l, q]
/-- What holds of cells holds behind a turn of what is no cells. -/
theorem Blk.own {W W' : World} {row : Option Nat} {g : Nat} {cs : Array Value} {t : TypeId} (h : Blk W g cs t) (hg : W.grownBy W' row) (hr : ∀ r, row = some r → ∃ o : Obj, W.heap[r]? = some o ∧ o.isCells = false) : Blk W' g cs t :=
  (hg.block g h.lt (fun e => by obtain ⟨o, ho, hc⟩ := hr g e.symm; unfold Blk at h; rw [h] at ho; injection ho with ho; subst ho; cases hc)).trans h
theorem Reads.own {W W' : World} {row : Option Nat} {A : Option Addr} {cells : List Value} (h : Reads W A cells) (hg : W.grownBy W' row) (hr : ∀ r, row = some r → ∃ o : Obj, W.heap[r]? = some o ∧ o.isCells = false) : Reads W' A cells := by
  intro j u hj
  obtain ⟨b, off, hA, hc⟩ := h j u hj
  exact ⟨b, off, hA, cell_kept hc hg hr⟩
theorem bl_own {w0 w W W' : World} {row : Option Nat} (h : Below w0.heap.size w0 W) (hs : w0.heap.size ≤ w.heap.size) (hg : W.grownBy W' row) (hr : ∀ r, row = some r → w.heap.size ≤ r) : Below w0.heap.size w0 W' := h.grown hg h.size (fun k e => Nat.le_trans hs (hr k e))
theorem fr_own' {S : List Nat} {w0 w W W' : World} {row : Option Nat} (h : Fr S w0 W) (hs : w0.heap.size ≤ w.heap.size) (hg : W.grownBy W' row) (hr : ∀ r, row = some r → w.heap.size ≤ r) : Fr S w0 W' :=
  ⟨hg.os.trans h.os, hg.tape.trans h.tape, hg.output.trans h.output, Nat.le_trans h.size hg.size, fun j hj hn => (hg.block j (Nat.lt_of_lt_of_le hj h.size) (fun e => by have := hr j e.symm; omega)).trans (h.block j hj hn)⟩
/-- A row of the iterator's own lies beyond what rounds may change. -/
theorem OwnR.notin {α : Type} {w : World} {base : Nat} {e : TypeId} {E : Enc α} {A : Option Addr} {l c : Nat} {xs : List α} (h : OwnR w base e E (.slice A l c) xs) {S : List Nat} (hS : ∀ j, j ∈ S → j < base) : ∀ ad, A = some ad → ad.block ∉ S := by
  rintro ad rfl hb
  have := (h.lt ad.block rfl).1
  have := hS _ hb
  omega
theorem gb_none {w w' : World} (h : Below w.heap.size w w') : w.grownBy w' none := ⟨h.os, h.tape, h.output, h.size, fun j hj _ => h.block j hj⟩
theorem Below.own {B : Nat} {w W W' : World} {row : Option Nat} (h : Below B w W) (hB : B ≤ W.heap.size) (hg : W.grownBy W' row) (hr : ∀ r, row = some r → B ≤ r) : Below B w W' := h.grown hg hB (fun k e => hr k e)
theorem Fr.own {S : List Nat} {w W W' : World} {row : Option Nat} (h : Fr S w W) (hg : W.grownBy W' row) (hr : ∀ r, row = some r → w.heap.size ≤ r) : Fr S w W' :=
  ⟨hg.os.trans h.os, hg.tape.trans h.tape, hg.output.trans h.output, Nat.le_trans h.size hg.size, fun j hj hn => (hg.block j (Nat.lt_of_lt_of_le hj h.size) (fun e => by have := hr j e.symm; omega)).trans (h.block j hj hn)⟩
end Go.Proofs.YtjbmahjfmffnoaaDoor

/- The law of a region that draws its order (Facts2), for tails that wait for what lies farther back. -/
namespace Go.Proofs.YtjbmahjfmffnoaaDoor
open Go.RowKit

def tailB6 (ops : Array Oper) (m : Nat) : Bool := (List.range ops.size).all fun i => i < m || (List.range i).all fun j => (downs ops 6 i).contains j
section
variable {P : Program} {ops : Array Oper} {C : World → Prop} {N0 : Nat}
theorem wpAny_tailD {Q : Exit → Act → World → Prop} (hB : ∀ (i : Nat) (o : Oper), ops[i]? = some o → ∀ e ∈ o.after, Region.binds .any e = true → e.on < i) (m : Nat) (hT : ∀ i, m ≤ i → i < ops.size → ∀ j, j < i → j ∈ downs ops 6 i) :
    ∀ (d : Nat) (fuel : Nat) (listed : Array Bool) (a : Act) (w : World), m ≤ ops.size - d → d ≤ fuel → d ≤ ops.size → listed.size = ops.size → (∀ j, j < ops.size → listed.getD j false = decide (j < ops.size - d)) →
      wpList P ops Q (ops.toList.drop (ops.size - d)) a w → wpAny P .any ops Q fuel listed a w := by
  intro d
  induction d with
  | zero =>
    intro fuel listed a w _ _ _ hs hl h
    have hq : Q .normal a w := by
      rw [Nat.sub_zero, ← Array.length_toList, List.drop_length] at h
      exact h
    have hr : Region.ready .any ops listed = [] := by
      cases hr : Region.ready .any ops listed with
      | nil => rfl
      | cons j js =>
        exfalso
        obtain ⟨h0, o, ho, _⟩ := mem_ready.1 (show j ∈ Region.ready .any ops listed by rw [hr]; simp)
        have hj := (Array.getElem?_eq_some_iff.1 ho).1
        have := hl j hj
        have hlt : j < listed.size := by omega
        simp [hlt] at h0 this
        rw [h0] at this
        have := this.symm
        simp at this
        omega
    cases fuel with
    | zero => exact ⟨hr, hq⟩
    | succ fuel => exact ⟨fun _ => hq, fun i hi => by rw [hr] at hi; cases hi⟩
  | succ d ih =>
    intro fuel listed a w hm hf hd hs hl h
    obtain ⟨fuel, rfl⟩ : ∃ k, fuel = k + 1 := ⟨fuel - 1, by omega⟩
    have hi : ops.size - (d + 1) < ops.size := by omega
    have hdrop : ops.toList.drop (ops.size - (d + 1)) = ops[ops.size - (d + 1)] :: ops.toList.drop (ops.size - d) := by
      rw [List.drop_eq_getElem_cons (by simpa using hi)]
      simp [show ops.size - (d + 1) + 1 = ops.size - d from by omega]
    rw [hdrop] at h
    generalize hi0 : ops.size - (d + 1) = i at *
    have hge : ops[i]? = some ops[i] := by simp [hi]
    have hready : ∀ j ∈ Region.ready .any ops listed, j = i := by
      intro j hj
      obtain ⟨h0, o, ho, hall⟩ := mem_ready.1 hj
      have hjl := (Array.getElem?_eq_some_iff.1 ho).1
      have hlt : j < listed.size := by omega
      have hlj := hl j hjl
      simp [hlt] at h0 hlj
      rw [h0] at hlj
      have hji : ¬ j < i := by have := hlj.symm; simpa using this
      by_cases hij : i < j
      · exfalso
        have hdown : ∀ (q : Nat) (oq : Oper), ops[q]? = some oq → listed.getD q false = true → ∀ r ∈ predsOf oq, listed.getD r false = true := by
          intro q oq hoq hlq r hr
          have hql := (Array.getElem?_eq_some_iff.1 hoq).1
          simp only [predsOf, List.mem_map, List.mem_filter] at hr
          obtain ⟨e, ⟨he, hb⟩, rfl⟩ := hr
          have h1 := hB q oq hoq e (by simpa using he) hb
          rw [hl q hql] at hlq
          rw [hl e.on (by omega)]
          simp at hlq ⊢
          omega
        have := downs_listed listed hdown 6 j o ho (fun r hr => by
          simp only [predsOf, List.mem_map, List.mem_filter] at hr
          obtain ⟨e, ⟨he, hb⟩, rfl⟩ := hr
          exact hall e (by simpa using he) hb) i (hT j (by omega) hjl i hij)
        rw [hl i hi] at this
        simp at this
      · omega
    refine ⟨fun hr => ?_, fun j hj => ?_⟩
    · exfalso
      have : i ∈ Region.ready .any ops listed := by
        refine mem_ready.2 ⟨?_, ops[i], hge, fun e he hb => ?_⟩
        · have hlt : i < listed.size := by omega
          have := hl i hi
          simp [hlt] at this ⊢
          exact this
        · have h1 := hB i _ hge e he hb
          rw [hl e.on (by omega)]
          simp; omega
      rw [hr] at this
      cases this
    · obtain rfl := hready j hj
      have hnext : ∀ a w, wpList P ops Q (ops.toList.drop (ops.size - d)) a w → wpAny P .any ops Q fuel (listed.setIfInBounds j true) a w := fun a w hh => by
        refine ih fuel _ a w (by omega) (by omega) (by omega) (by simp [hs]) (fun q hq => ?_) hh
        by_cases hqj : q = j
        · subst hqj
          have hlt : q < listed.size := by omega
          simp [hlt]; omega
        · rw [getD_set_ne false (fun e => hqj e.symm), hl q hq]
          rw [decide_eq_decide]
          omega
      unfold wpOp
      simp only [hge]
      unfold wpList at h
      split
      · rename_i hw
        rw [if_pos hw] at h
        exact h.imp (Oper.wp_mono hnext) id
      · rename_i hw
        rw [if_neg hw] at h
        exact hnext _ _ h

theorem wpAny_of_facts2D {Q : Exit → Act → World → Prop} {fs0 : List Fct} {a0 : Act} {m : Nat} (hB : factsB ops a0.tmps.size = true) (hT : tailB6 ops m = true) (hN : ∀ w, C w → N0 ≤ w.heap.size) (hm : m ≤ ops.size)
    (h : fst2 P ops C N0 (wpList P ops Q (ops.toList.drop m)) 0 (ops.toList.take m) fs0 a0 [] []) : ∀ (fuel : Nat) (listed : Array Bool) (a : Act) (w : World) (vs : Nat → Value), FI2 ops C N0 fs0 m a0 listed a w vs →
    ((List.range ops.size).filter fun i => !listed.getD i false).length ≤ fuel → wpAny P .any ops Q fuel listed a w := by
  have hsel : Region.noSelect ops = true := by simp only [factsB, Bool.and_eq_true] at hB; exact hB.1
  have hedge : ∀ (i : Nat) (o : Oper), ops[i]? = some o → ∀ e ∈ o.after, Region.binds .any e = true → e.on < i := fun i o ho e he hb => (factsOk_of _ hB ho).1 e he hb
  have htail : ∀ i, m ≤ i → i < ops.size → ∀ j, j < i → j ∈ downs ops 6 i := by
    intro i hi hlt j hj
    simp only [tailB6, List.all_eq_true, List.mem_range, Bool.or_eq_true, decide_eq_true_eq] at hT
    have := (hT i hlt).resolve_left (by omega) j hj
    simpa using this
  have use : ∀ vs, Agr N0 fs0 vs → _ := fun vs hv => fst2_use (P := P) (ops := ops) (C := C) (N0 := N0) hv (ops.toList.take m) 0 fs0 a0 [] [] (by simp) (by simp) (by simp) (by simp) h
  have hlen : fs0.length = m := by
    have hv : ∃ vs, Agr N0 fs0 vs := ⟨fun i => match fs0[i]? with | some (.val c) => c | some (.new _ _) => .pointer (some ⟨N0, 0, none⟩) | _ => undef, fun i f hf => by
      cases f with
      | val c => simp [hf]
      | ex p hp => trivial
      | new cs t => exact ⟨N0, by simp [hf], Nat.le_refl _⟩⟩
    obtain ⟨vs, hv⟩ := hv
    have := (use vs hv).2.2
    rw [this, List.length_take, Array.length_toList]
    omega
  have fin : ∀ (fuel : Nat) (listed : Array Bool) (a : Act) (w : World) (vs : Nat → Value), FI2 ops C N0 fs0 m a0 listed a w vs → ops.size - m ≤ fuel → (∀ i, i < m → listed.getD i false = true) → wpAny P .any ops Q fuel listed a w := by
    intro fuel listed a w vs I hfuel hall
    obtain ⟨r1, r2, _⟩ := use vs I.agree
    have ea : a = putsFrom vs 0 (ops.toList.take m) a0 := by
      obtain ⟨ts, ds⟩ := a
      have e1 : ds = (putsFrom vs 0 (ops.toList.take m) a0).defers := by rw [putsFrom_defers]; exact I.defers
      have e2 : ts = (putsFrom vs 0 (ops.toList.take m) a0).tmps := by
        apply Array.ext_getElem?
        intro t
        by_cases hex : ∃ (j : Nat) (o : Oper), j < m ∧ ops[j]? = some o ∧ o.dst = some t
        · obtain ⟨j, o, hjm, hj, hd⟩ := hex
          have h1 := I.done j o t hj (hall j hjm) hd
          obtain ⟨_, hlt, _⟩ := factsOk_of _ hB hj
          rw [putsFrom_at vs t (ops.toList.take m) 0 a0 j o (by rw [List.getElem?_take, if_pos hjm]; simpa using hj) hd (hlt t hd) (fun i o' hi hij => by
            rw [List.getElem?_take] at hi
            split at hi
            · obtain ⟨_, _, h3⟩ := factsOk_of _ hB (show ops[i]? = some o' by simpa using hi)
              exact (h3 j o t hj hd).1 (Ne.symm hij)
            · cases hi)]
          simpa using h1
        · rw [putsFrom_other vs t (ops.toList.take m) 0 a0 (fun o ho hd => hex (by
            obtain ⟨i, hi, rfl⟩ := List.mem_iff_getElem.1 ho
            have him : i < m := by simp at hi; omega
            have his : i < ops.size := by simp at hi; omega
            exact ⟨i, _, him, by simp [his], hd⟩))]
          exact I.base t (fun i o hi hl hd => by
            by_cases him : i < m
            · exact hex ⟨i, o, him, hi, hd⟩
            · rw [I.head i (by omega)] at hl; cases hl)
      rw [e1, e2]
    rw [ea]
    have hl : ∀ i f, fs0[i]? = some f → listed.getD i false = true := fun i f hf => hall i (by have := (List.getElem?_eq_some_iff.1 hf).1; omega)
    refine wpAny_tailD hedge m htail (ops.size - m) fuel listed _ _ (by omega) hfuel (by omega) I.size (fun j hj => ?_) ?_
    · by_cases hjm : j < m
      · rw [hall j hjm]; simp; omega
      · rw [I.head j (by omega)]; simp; omega
    · rw [show ops.size - (ops.size - m) = m from by omega]
      exact r2 w I.cls (fun i f hf _ => I.facts i f hf (hl i f hf)) (fun i j f g hi hj hf hg _ _ hne => I.dist i j f g hi hj hf hg (hl i f hi) (hl j g hj) hne)
  -- one of the head that has not come up, the lowest, may come up
  have some_ready : ∀ (listed : Array Bool), listed.size = ops.size → Region.ready .any ops listed = [] → ∀ i, i < ops.size → listed.getD i false = true := by
    intro listed hs hr i
    induction i using Nat.strongRecOn with
    | _ i ih =>
      intro hi
      by_cases hl : listed.getD i false = true
      · exact hl
      · exfalso
        have hl' : listed.getD i true = false := by
          have : i < listed.size := by omega
          simp [this] at hl ⊢
          exact hl
        have hm : i ∈ Region.ready .any ops listed := by
          refine mem_ready.2 ⟨hl', ops[i], by simp [hi], fun e he hb => ?_⟩
          have := hedge i _ (show ops[i]? = some ops[i] by simp [hi]) e he hb
          exact ih e.on this (by omega)
        rw [hr] at hm
        cases hm
  intro fuel
  induction fuel with
  | zero =>
    intro listed a w vs I hc
    have hall : ∀ i, i < ops.size → listed.getD i false = true := by
      intro i hi
      have : (List.range ops.size).filter (fun i => !listed.getD i false) = [] := List.length_eq_zero_iff.1 (by omega)
      rw [List.filter_eq_nil_iff] at this
      have := this i (by simp [hi])
      simpa using this
    have hms : m = ops.size := by
      by_cases hlt : m < ops.size
      · have := hall m hlt; rw [I.head m (Nat.le_refl _)] at this; cases this
      · omega
    exact fin 0 listed a w vs I (by omega) fun i hi => hall i (by omega)
  | succ fuel ih =>
    intro listed a w vs I hc
    by_cases hdone : ∀ i, i < m → listed.getD i false = true
    · refine fin (fuel + 1) listed a w vs I ?_ hdone
      -- what is left is the tail
      have : ((List.range ops.size).filter fun i => !listed.getD i false).length ≥ ops.size - m := by
        have h1 : ((List.range ops.size).filter fun i => !listed.getD i false) = (List.range ops.size).filter (fun i => decide (m ≤ i)) := by
          refine List.filter_congr fun i hi => ?_
          by_cases him : i < m
          · rw [hdone i him]; simp; omega
          · rw [I.head i (by omega)]; simp; omega
        rw [h1]
        have h2 : ∀ n, ((List.range n).filter (fun i => decide (m ≤ i))).length = n - m := by
          intro n
          induction n with
          | zero => simp
          | succ n ihn =>
            rw [List.range_succ, List.filter_append, List.length_append, ihn]
            by_cases hmn : m ≤ n
            · simp [hmn]; omega
            · simp [hmn]; omega
        rw [h2]
        exact Nat.le_refl _
      omega
    refine ⟨fun hr => absurd (fun i hi => some_ready listed I.size hr i (by omega)) hdone, fun i hi => ?_⟩
    obtain ⟨h0, o, ho, hall⟩ := mem_ready.1 hi
    have hil := (Array.getElem?_eq_some_iff.1 ho).1
    have hls : i < listed.size := by rw [I.size]; exact hil
    have hun : listed.getD i false = false := by simp [hls] at h0 ⊢; exact h0
    obtain ⟨g1, g2, g3⟩ := factsOk_of _ hB ho
    have hpre : ∀ j ∈ predsOf o, listed.getD j false = true := by
      intro j hj
      simp only [predsOf, List.mem_map, List.mem_filter] at hj
      obtain ⟨e, ⟨he, hb⟩, rfl⟩ := hj
      exact hall e (by simpa using he) hb
    have him : i < m := by
      by_cases h' : i < m
      · exact h'
      · exfalso
        refine hdone fun j hj => ?_
        exact downs_listed listed I.down 6 i o ho hpre j (htail i (by omega) hil j (by omega))
    obtain ⟨r1, _, _⟩ := use vs I.agree
    obtain ⟨f, hf, hok⟩ := r1 i o (by rw [List.getElem?_take, if_pos him]; simpa using ho)
    rw [Nat.zero_add] at hf
    have hok := hok w I.cls fun j f hjf hj => I.facts j f hjf (hpre j hj)
    have htk : (ops.toList.take m).take i = ops.toList.take i := by rw [List.take_take, Nat.min_eq_left (by omega)]
    rw [htk] at hok
    -- the two states are alike at what the operation looks at
    have same : ∀ t ∈ o.looksAt ops, (putsFrom vs 0 (ops.toList.take i) a0).tmps[t]? = a.tmps[t]? := by
      intro t ht
      by_cases hex : ∃ (j : Nat) (o' : Oper), ops[j]? = some o' ∧ o'.dst = some t
      · obtain ⟨j, o', hj, hd⟩ := hex
        have hjp := (g3 j o' t hj hd).2 ht
        have hjl := hpre j hjp
        have hji : j < i := by
          simp only [predsOf, List.mem_map, List.mem_filter] at hjp
          obtain ⟨e, ⟨he, hb⟩, rfl⟩ := hjp
          exact g1 e (by simpa using he) hb
        obtain ⟨_, hlt, _⟩ := factsOk_of _ hB hj
        rw [putsFrom_at vs t (ops.toList.take i) 0 a0 j o' (by rw [List.getElem?_take, if_pos hji]; simpa using hj) hd (hlt t hd) (fun k ok hk hkj => by
          rw [List.getElem?_take] at hk
          split at hk
          · obtain ⟨_, _, h3⟩ := factsOk_of _ hB (show ops[k]? = some ok by simpa using hk)
            exact (h3 j o' t hj hd).1 (Ne.symm hkj)
          · cases hk)]
        rw [I.done j o' t hj hjl hd, Nat.zero_add]
      · rw [putsFrom_other vs t (ops.toList.take i) 0 a0 (fun o' ho' hd => hex (by
          obtain ⟨k, hk, rfl⟩ := List.mem_iff_getElem.1 (List.mem_of_mem_take ho')
          exact ⟨k, _, by rw [← Array.getElem?_toList]; exact List.getElem?_eq_getElem hk, hd⟩))]
        exact (I.base t (fun k ok hk _ hd => hex ⟨k, ok, hk, hd⟩)).symm
    have hok : opok2 P ops C N0 o f a w := by
      refine opok2_congr ?_ ?_ hok
      · refine execOp_congr o (fun cs b => Region.noSelect_spec hsel i o cs b ho) fun x hx => ?_
        cases x with
        | tmp t =>
          have := same t (List.mem_append_left _ (List.mem_filterMap.2 ⟨.tmp t, by simpa using hx, rfl⟩))
          simp only [Act.eval, Array.getD_eq_getD_getElem?, this]
        | _ => rfl
      · unfold Region.wanted
        cases hg : o.guard with
        | none => rfl
        | some gw =>
          obtain ⟨g, want⟩ := gw
          have : yielded ops (putsFrom vs 0 (ops.toList.take i) a0).tmps g = yielded ops a.tmps g := by
            unfold yielded
            cases ht : (ops[g]?).bind (·.dst) with
            | none => rfl
            | some t => rw [Option.bind_some, Option.bind_some, same t (by simp [Oper.looksAt, hg, ht])]
          simp only [this]
    refine wpOp_of_opok2 ho I.cls (hN w I.cls) hok fun v w' hv hC' hG hnew => ?_
    refine ih _ _ _ (fun j => if j = i then v else vs j) ⟨by simp [I.size], hC', ?_, ?_, ?_, ?_, ?_, ?_, ?_, ?_, ?_, ?_⟩ ?_
    · cases hd : o.dst <;> simpa [Act.put] using I.defers
    · cases hd : o.dst <;> simpa [Act.put] using I.tsize
    · intro j fj hj
      by_cases hji : j = i
      · subst hji
        rw [hf] at hj
        injection hj with hj
        subst hj
        simp only [if_true]
        cases f with
        | val c => exact hv
        | ex p hp => trivial
        | new cs t => obtain ⟨g, e1, e2, _⟩ := hv; exact ⟨g, e1, e2⟩
      · simpa [hji] using I.agree j fj hj
    · intro t ht
      have hne : o.dst ≠ some t := ht i o ho (by simp [hls])
      have : (a.put o.dst v).tmps[t]? = a.tmps[t]? := by
        cases hd : o.dst with
        | none => rfl
        | some d =>
          have hne' : d ≠ t := fun e => hne (by rw [hd, e])
          simp [Act.put, Array.getElem?_setIfInBounds_ne hne']
      rw [this]
      exact I.base t fun j oj hj hl => ht j oj hj (getD_set_true hl)
    · intro j oj d hj hl hd
      by_cases hji : j = i
      · subst hji
        rw [ho] at hj
        injection hj with hj
        subst hj
        have := g2 d hd
        rw [← I.tsize] at this
        simp [Act.put, hd, this]
      · rw [getD_set_ne false (Ne.symm hji)] at hl
        have h1 := I.done j oj d hj hl hd
        have hne : o.dst ≠ some d := (g3 j oj d hj hd).1 hji
        have : (a.put o.dst v).tmps[d]? = a.tmps[d]? := by
          cases hd' : o.dst with
          | none => rfl
          | some d' =>
            have hne' : d' ≠ d := fun e => hne (by rw [hd', e])
            simp [Act.put, Array.getElem?_setIfInBounds_ne hne']
        rw [this, h1]
        simp [hji]
    · intro j fj hj hl
      by_cases hji : j = i
      · subst hji
        rw [hf] at hj
        injection hj with hj
        subst hj
        simpa using hv
      · rw [getD_set_ne false (Ne.symm hji)] at hl
        simp only [hji, if_false]
        exact Fct.stay hG (I.facts j fj hj hl)
    · intro j k fj fk hj hk hnj hnk hlj hlk hne
      have ofnew : ∀ (q : Nat) (fq : Fct), fs0[q]? = some fq → fq.isNew = true → q ≠ i → (listed.setIfInBounds i true).getD q false = true → ∃ g, vs q = .pointer (some ⟨g, 0, none⟩) ∧ g < w.heap.size := fun q fq hq hnq hqi hlq => by
        rw [getD_set_ne false (Ne.symm hqi)] at hlq
        exact I.old q fq hq hnq hlq
      by_cases hji : j = i
      · subst hji
        rw [hf] at hj
        injection hj with hj
        subst hj
        obtain ⟨g, e1, e2⟩ := ofnew k fk hk hnk (Ne.symm hne) hlk
        simp only [if_true, (Ne.symm hne), if_false]
        rw [hnew hnj, e1]
        intro e
        injection e with e
        injection e with e
        injection e with e
        omega
      · by_cases hki : k = i
        · subst hki
          rw [hf] at hk
          injection hk with hk
          subst hk
          obtain ⟨g, e1, e2⟩ := ofnew j fj hj hnj hji hlj
          simp only [if_true, hji, if_false]
          rw [hnew hnk, e1]
          intro e
          injection e with e
          injection e with e
          injection e with e
          omega
        · simp only [hji, hki, if_false]
          rw [getD_set_ne false (Ne.symm hji)] at hlj
          rw [getD_set_ne false (Ne.symm hki)] at hlk
          exact I.dist j k fj fk hj hk hnj hnk hlj hlk hne
    · intro j fj hj hnj hlj
      by_cases hji : j = i
      · subst hji
        rw [hf] at hj
        injection hj with hj
        subst hj
        refine ⟨w.heap.size, by simp only [if_true]; exact hnew hnj, ?_⟩
        cases f with
        | new cs t =>
          obtain ⟨g, e1, _, hb⟩ := hv
          rw [hnew rfl] at e1
          injection e1 with e1
          injection e1 with e1
          injection e1 with e1
          subst e1
          exact hb.lt
        | val c => cases hnj
        | ex p hp => cases hnj
      · rw [getD_set_ne false (Ne.symm hji)] at hlj
        obtain ⟨g, e1, e2⟩ := I.old j fj hj hnj hlj
        exact ⟨g, by simpa [hji] using e1, Nat.lt_of_lt_of_le e2 hG.size⟩
    · intro j oj hj hlj q hq
      by_cases hji : j = i
      · subst hji
        rw [ho] at hj
        injection hj with hj
        subst hj
        exact getD_set_true (hpre q hq)
      · rw [getD_set_ne false (Ne.symm hji)] at hlj
        exact getD_set_true (I.down j oj hj hlj q hq)
    · intro j hj
      rw [getD_set_ne false (by omega)]
      exact I.head j hj
    · -- one less
      have hlen' : ((List.range ops.size).filter fun j => !(listed.setIfInBounds i true).getD j false).length < ((List.range ops.size).filter fun j => !listed.getD j false).length := by
        have e1 : ((List.range ops.size).filter fun j => !(listed.setIfInBounds i true).getD j false) = ((List.range ops.size).filter fun j => !listed.getD j false).filter (fun j => j != i) := by
          rw [List.filter_filter]
          refine List.filter_congr fun j hj => ?_
          by_cases hji : j = i
          · subst hji; simp [hls]
          · rw [getD_set_ne false (Ne.symm hji)]; simp [hji]
        rw [e1]
        refine List.length_filter_lt_length_iff_exists.2 ⟨i, ?_, by simp⟩
        simp [List.mem_filter, hil]
        simpa [hls] using hun
      omega

theorem wp_region_facts2D {id : Nat} {Q : Exit → Act → World → Prop} {a : Act} {w : World} {l tl : List Oper} (fs : List Fct) (N0 : Nat) (hm : P.follows .mixedOrders = true) (hB : factsB (l ++ tl).toArray a.tmps.size = true) (hT : tailB6 (l ++ tl).toArray l.length = true) (hN : ∀ w, C w → N0 ≤ w.heap.size) (hC : C w.drew)
    (h : fst2 P (l ++ tl).toArray C N0 (wpList P (l ++ tl).toArray Q tl) 0 l fs a [] []) : (Code.region id (l ++ tl).toArray true).wp P Q a w := by
  have e1 : (l ++ tl).toArray.toList.take l.length = l := by simp
  have e2 : (l ++ tl).toArray.toList.drop l.length = tl := by simp
  refine wp_region_any hm (wpAny_of_facts2D (m := l.length) hB hT hN (by simp) (by rw [e1, e2]; exact h) _ _ _ _ (fun i => match fs[i]? with | some (.val c) => c | some (.new _ _) => .pointer (some ⟨N0, 0, none⟩) | _ => undef) ⟨by simp, hC, rfl, rfl, ?_, ?_, ?_, ?_, ?_, ?_, ?_, ?_⟩ ?_)
  · intro i f hf
    cases f with
    | val c => simp [hf]
    | ex p hp => trivial
    | new cs t => exact ⟨N0, by simp [hf], Nat.le_refl _⟩
  · intro t _; rfl
  · intro i o d hi hl; rw [none_listed] at hl; cases hl
  · intro i f hf hl; rw [none_listed] at hl; cases hl
  · intro i j f g _ _ _ _ hl; rw [none_listed] at hl; cases hl
  · intro i f _ _ hl; rw [none_listed] at hl; cases hl
  · intro i o _ hl; rw [none_listed] at hl; cases hl
  · intro i _; exact none_listed _ _
  · refine Nat.le_trans (List.length_filter_le _ _) (by simp)
theorem wp_region_facts2_litD {id : Nat} {Q : Exit → Act → World → Prop} {a : Act} {w : World} {l : List Oper} (m : Nat) (fs : List Fct) (N0 : Nat) (hm : P.follows .mixedOrders = true) (hml : m ≤ l.length) (hB : factsB l.toArray a.tmps.size = true) (hT : tailB6 l.toArray m = true) (hN : ∀ w, C w → N0 ≤ w.heap.size) (hC : C w.drew)
    (h : fst2 P l.toArray C N0 (wpList P l.toArray Q (l.drop m)) 0 (l.take m) fs a [] []) : (Code.region id l.toArray true).wp P Q a w := by
  have e : l.take m ++ l.drop m = l := List.take_append_drop m l
  have r := wp_region_facts2D (P := P) (C := C) (id := id) (Q := Q) (a := a) (w := w) (l := l.take m) (tl := l.drop m) fs N0 hm
  rw [e, List.length_take, Nat.min_eq_left hml] at r
  exact r hB hT hN hC h
/-! ### One operation at a time -/
end
end Go.Proofs.YtjbmahjfmffnoaaDoor

/- A region that draws its order and writes, at its end, variables that it reads (XFacts, one step more). -/
namespace Go.Proofs.YtjbmahjfmffnoaaDoor
open Go.RowKit
def factsOk7 (ops : Array Oper) (n : Nat) (i : Nat) (o : Oper) : Bool :=
  (o.after.all fun e => !Region.binds .any e || decide (e.on < i)) &&
  (match o.dst with | some d => decide (d < n) | none => true) &&
  (List.range ops.size).all fun j => match ops[j]? with
    | some o' => match o'.dst with
      | some d => (i == j || o.dst != some d) && (!(o.looksAt ops).contains d || (predsOf o).contains j || (decide (i < j) && (predsOf o').contains i))
      | none => true
    | none => true
def factsB7 (ops : Array Oper) (n : Nat) : Bool :=
  Region.noSelect ops && (List.range ops.size).all fun i => match ops[i]? with | some o => factsOk7 ops n i o | none => true
section
variable {P : Program} {ops : Array Oper} {C : World → Prop} {G : World → World → Prop}
theorem factsOk7_of (n : Nat) (h : factsB7 ops n = true) {i : Nat} {o : Oper} (hi : ops[i]? = some o) :
    (∀ e ∈ o.after, Region.binds .any e = true → e.on < i) ∧ (∀ d, o.dst = some d → d < n) ∧ (∀ j o' d, ops[j]? = some o' → o'.dst = some d → (j ≠ i → o.dst ≠ some d) ∧ (d ∈ o.looksAt ops → j ∈ predsOf o ∨ (i < j ∧ i ∈ predsOf o'))) := by
  have hlt := (Array.getElem?_eq_some_iff.1 hi).1
  simp only [factsB7, Bool.and_eq_true, List.all_eq_true, List.mem_range] at h
  have h1 := h.2 i hlt
  simp only [hi, factsOk7, Bool.and_eq_true, List.all_eq_true, List.mem_range] at h1
  obtain ⟨⟨h1, h2⟩, h3⟩ := h1
  refine ⟨fun e he hb => ?_, fun d hd => ?_, fun j o' d hj hd => ?_⟩
  · rw [Array.all_eq_true_iff_forall_mem] at h1
    have := h1 e he
    simpa [hb] using this
  · simpa [hd] using h2
  · have hjl := (Array.getElem?_eq_some_iff.1 hj).1
    have := h3 j hjl
    simp only [hj, hd, Bool.and_eq_true, Bool.or_eq_true] at this
    refine ⟨fun hne => ?_, fun hin => ?_⟩
    · have := this.1.resolve_left (by simp; omega)
      simpa using this
    · have := this.2
      simp only [Bool.or_eq_true, Bool.not_eq_true', Bool.and_eq_true, decide_eq_true_eq] at this
      rcases this with (h4 | h4) | h4
      · exact absurd hin (by simpa using h4)
      · exact .inl (by simpa using h4)
      · exact .inr ⟨h4.1, by simpa using h4.2⟩

structure FInv7 (ops : Array Oper) (C : World → Prop) (fs0 : List (Fact G)) (a0 : Act) (listed : Array Bool) (a : Act) (w : World) (vs : Nat → Value) : Prop where
  size : listed.size = ops.size
  cls : C w
  closed : ∀ j oj, ops[j]? = some oj → listed.getD j false = true → ∀ k ∈ predsOf oj, listed.getD k false = true
  defers : a.defers = a0.defers
  tsize : a.tmps.size = a0.tmps.size
  agree : Agree fs0 vs
  base : ∀ t, (∀ i o, ops[i]? = some o → listed.getD i false = true → o.dst ≠ some t) → a.tmps[t]? = a0.tmps[t]?
  done : ∀ i o d, ops[i]? = some o → listed.getD i false = true → o.dst = some d → a.tmps[d]? = some (vs i)
  facts : ∀ (i : Nat) (q : Value → World → Prop) (hq : _), fs0[i]? = some (Fact.ex q hq) → listed.getD i false = true → q (vs i) w

theorem wpAny_of_facts7 {Q : Exit → Act → World → Prop} {fs0 : List (Fact G)} {a0 : Act} (hB : factsB7 ops a0.tmps.size = true)
    (h : fsteps P ops C G (Q .normal) 0 ops.toList fs0 a0 []) : ∀ (fuel : Nat) (listed : Array Bool) (a : Act) (w : World) (vs : Nat → Value), FInv7 ops C fs0 a0 listed a w vs →
    ((List.range ops.size).filter fun i => !listed.getD i false).length ≤ fuel → wpAny P .any ops Q fuel listed a w := by
  have hsel : Region.noSelect ops = true := by simp only [factsB7, Bool.and_eq_true] at hB; exact hB.1
  -- all have come up
  have fin : ∀ (listed : Array Bool) (a : Act) (w : World) (vs : Nat → Value), FInv7 ops C fs0 a0 listed a w vs → (∀ i, i < ops.size → listed.getD i false = true) → Q .normal a w := by
    intro listed a w vs I hall
    obtain ⟨r1, r2⟩ := fsteps_use (ops := ops) I.agree ops.toList 0 fs0 a0 [] (by simp) (by simp) h
    have ea : a = putsFrom vs 0 ops.toList a0 := by
      obtain ⟨ts, ds⟩ := a
      have e1 : ds = (putsFrom vs 0 ops.toList a0).defers := by rw [putsFrom_defers]; exact I.defers
      have e2 : ts = (putsFrom vs 0 ops.toList a0).tmps := by
        apply Array.ext_getElem?
        intro t
        by_cases hex : ∃ (j : Nat) (o : Oper), ops[j]? = some o ∧ o.dst = some t
        · obtain ⟨j, o, hj, hd⟩ := hex
          have hjl := (Array.getElem?_eq_some_iff.1 hj).1
          have h1 := I.done j o t hj (hall j hjl) hd
          obtain ⟨_, hlt, _⟩ := factsOk7_of _ hB hj
          rw [putsFrom_at vs t ops.toList 0 a0 j o (by simpa using hj) hd (hlt t hd) (fun i o' hi hij => by
            obtain ⟨_, _, h3⟩ := factsOk7_of _ hB (show ops[i]? = some o' by simpa using hi)
            exact (h3 j o t hj hd).1 (Ne.symm hij))]
          simpa using h1
        · rw [putsFrom_other vs t ops.toList 0 a0 (fun o ho hd => hex (by
            obtain ⟨i, hi, rfl⟩ := List.mem_iff_getElem.1 ho
            exact ⟨i, _, by rw [← Array.getElem?_toList]; exact List.getElem?_eq_getElem hi, hd⟩))]
          exact I.base t (fun i o hi _ hd => hex ⟨i, o, hi, hd⟩)
      rw [e1, e2]
    rw [ea]
    refine r2 w I.cls fun i q hq hi => I.facts i q hq hi ?_
    -- a fact's number is an operation's
    have hl : fs0.length = ops.size := by
      have : ∀ (os : List Oper) (k : Nat) (fs : List (Fact G)) (a : Act) (hs : List (Nat × (World → Prop))), fsteps P ops C G (Q .normal) k os fs a hs → fs.length = os.length := by
        intro os
        induction os with
        | nil => intro k fs a hs h; cases fs with
          | nil => rfl
          | cons f fs => exact h.elim
        | cons o os ih => intro k fs a hs h; cases fs with
          | nil => exact h.elim
          | cons f fs =>
            cases f with
            | val c => simp [ih _ _ _ _ h.2]
            | ex p hp => simp [ih _ _ _ _ (h.2 undef)]
      simpa using this _ _ _ _ _ h
    have := (List.getElem?_eq_some_iff.1 hi).1
    exact hall i (by omega)
  -- if none can come up, all have
  have none_ready : ∀ (listed : Array Bool), listed.size = ops.size → Region.ready .any ops listed = [] → ∀ i, i < ops.size → listed.getD i false = true := by
    intro listed hs hr i
    induction i using Nat.strongRecOn with
    | _ i ih =>
      intro hi
      by_cases hl : listed.getD i false = true
      · exact hl
      · exfalso
        have hl' : listed.getD i true = false := by
          have : i < listed.size := by omega
          simp [this] at hl ⊢
          exact hl
        have hm : i ∈ Region.ready .any ops listed := by
          refine mem_ready.2 ⟨hl', ops[i], by simp [hi], fun e he hb => ?_⟩
          obtain ⟨h1, _, _⟩ := factsOk7_of _ hB (show ops[i]? = some ops[i] by simp [hi])
          have := h1 e he hb
          exact ih e.on this (by omega)
        rw [hr] at hm
        cases hm
  intro fuel
  induction fuel with
  | zero =>
    intro listed a w vs I hc
    have hall : ∀ i, i < ops.size → listed.getD i false = true := by
      intro i hi
      have : (List.range ops.size).filter (fun i => !listed.getD i false) = [] := List.length_eq_zero_iff.1 (by omega)
      rw [List.filter_eq_nil_iff] at this
      have := this i (by simp [hi])
      simpa using this
    refine ⟨?_, fin listed a w vs I hall⟩
    cases hr : Region.ready .any ops listed with
    | nil => rfl
    | cons j js =>
      exfalso
      have hj : j ∈ Region.ready .any ops listed := by rw [hr]; simp
      obtain ⟨h0, o, ho, _⟩ := mem_ready.1 hj
      have := hall j (Array.getElem?_eq_some_iff.1 ho).1
      have hlt : j < listed.size := by rw [I.size]; exact (Array.getElem?_eq_some_iff.1 ho).1
      simp [hlt] at h0 this
      rw [h0] at this; cases this
  | succ fuel ih =>
    intro listed a w vs I hc
    refine ⟨fun hr => fin listed a w vs I (none_ready listed I.size hr), fun i hi => ?_⟩
    obtain ⟨h0, o, ho, hall⟩ := mem_ready.1 hi
    have hil := (Array.getElem?_eq_some_iff.1 ho).1
    have hls : i < listed.size := by rw [I.size]; exact hil
    have hun : listed.getD i false = false := by simp [hls] at h0 ⊢; exact h0
    obtain ⟨g1, g2, g3⟩ := factsOk7_of _ hB ho
    obtain ⟨r1, _⟩ := fsteps_use (ops := ops) I.agree ops.toList 0 fs0 a0 [] (by simp) (by simp) h
    obtain ⟨f, hf, hok⟩ := r1 i o (by simpa using ho)
    rw [Nat.zero_add] at hf
    have hpre : ∀ j ∈ predsOf o, listed.getD j false = true := by
      intro j hj
      simp only [predsOf, List.mem_map, List.mem_filter] at hj
      obtain ⟨e, ⟨he, hb⟩, rfl⟩ := hj
      exact hall e (by simpa using he) hb
    have hok := hok w I.cls fun j hj q hq hjf => I.facts j q hq hjf (hpre j hj)
    -- the two states are alike at what the operation looks at
    have same : ∀ t ∈ o.looksAt ops, (putsFrom vs 0 (ops.toList.take i) a0).tmps[t]? = a.tmps[t]? := by
      intro t ht
      by_cases hex : ∃ (j : Nat) (o' : Oper), ops[j]? = some o' ∧ o'.dst = some t
      · obtain ⟨j, o', hj, hd⟩ := hex
        rcases (g3 j o' t hj hd).2 ht with hjp | ⟨hlate, hwait⟩
        · have hjl := hpre j hjp
          have hji : j < i := by
            simp only [predsOf, List.mem_map, List.mem_filter] at hjp
            obtain ⟨e, ⟨he, hb⟩, rfl⟩ := hjp
            exact g1 e (by simpa using he) hb
          obtain ⟨_, hlt, _⟩ := factsOk7_of _ hB hj
          rw [putsFrom_at vs t (ops.toList.take i) 0 a0 j o' (by rw [List.getElem?_take, if_pos hji]; simpa using hj) hd (hlt t hd) (fun k ok hk hkj => by
            rw [List.getElem?_take] at hk
            split at hk
            · obtain ⟨_, _, h3⟩ := factsOk7_of _ hB (show ops[k]? = some ok by simpa using hk)
              exact (h3 j o' t hj hd).1 (Ne.symm hkj)
            · cases hk)]
          rw [I.done j o' t hj hjl hd, Nat.zero_add]
        · have honly : ∀ k ok, ops[k]? = some ok → ok.dst = some t → k = j := fun k ok hk hkd => by
            by_cases hkj : k = j
            · exact hkj
            · obtain ⟨_, _, h3⟩ := factsOk7_of _ hB hk
              exact absurd hkd ((h3 j o' t hj hd).1 (Ne.symm hkj))
          rw [putsFrom_other vs t (ops.toList.take i) 0 a0 (fun ok hok' hkd => by
            obtain ⟨k, hk, rfl⟩ := List.mem_iff_getElem.1 hok'
            have hk2 : k < i := by have := hk; simp at this; omega
            have hk3 : ops[k]? = some (ops.toList.take i)[k] := by
              rw [List.getElem_take, ← Array.getElem?_toList]; exact List.getElem?_eq_getElem _
            have := honly k _ hk3 hkd
            omega)]
          exact (I.base t (fun k ok hk hkl hkd => by
            have := honly k ok hk hkd
            subst this
            rw [hj] at hk; injection hk with hk; subst hk
            have := I.closed k o' hj hkl i hwait
            rw [hun] at this; cases this)).symm
      · rw [putsFrom_other vs t (ops.toList.take i) 0 a0 (fun o' ho' hd => hex (by
          obtain ⟨k, hk, rfl⟩ := List.mem_iff_getElem.1 (List.mem_of_mem_take ho')
          exact ⟨k, _, by rw [← Array.getElem?_toList]; exact List.getElem?_eq_getElem hk, hd⟩))]
        exact (I.base t (fun k ok hk _ hd => hex ⟨k, ok, hk, hd⟩)).symm
    have hok : opok P ops C G o f a w := by
      refine opok_congr ?_ ?_ hok
      · refine execOp_congr o (fun cs b => Region.noSelect_spec hsel i o cs b ho) fun x hx => ?_
        cases x with
        | tmp t =>
          have := same t (List.mem_append_left _ (List.mem_filterMap.2 ⟨.tmp t, by simpa using hx, rfl⟩))
          simp only [Act.eval, Array.getD_eq_getD_getElem?, this]
        | _ => rfl
      · unfold Region.wanted
        cases hg : o.guard with
        | none => rfl
        | some gw =>
          obtain ⟨g, want⟩ := gw
          have : yielded ops (putsFrom vs 0 (ops.toList.take i) a0).tmps g = yielded ops a.tmps g := by
            unfold yielded
            cases ht : (ops[g]?).bind (·.dst) with
            | none => rfl
            | some t => rw [Option.bind_some, Option.bind_some, same t (by simp [Oper.looksAt, hg, ht])]
          simp only [this]
    refine wpOp_of_opok ho I.cls hok fun v w' hv hC' hG => ?_
    refine ih _ _ _ (fun j => if j = i then v else vs j) ⟨by simp [I.size], hC', ?_, ?_, ?_, ?_, ?_, ?_, ?_⟩ ?_
    · intro j oj hj hl k hk
      by_cases hji : j = i
      · subst hji
        rw [ho] at hj; injection hj with hj; subst hj
        exact getD_set_true (hpre k hk)
      · rw [getD_set_ne false (Ne.symm hji)] at hl
        exact getD_set_true (I.closed j oj hj hl k hk)
    · cases hd : o.dst <;> simpa [Act.put] using I.defers
    · cases hd : o.dst <;> simpa [Act.put] using I.tsize
    · intro j c hj
      by_cases hji : j = i
      · subst hji
        rw [hf] at hj
        injection hj with hj
        subst hj
        simpa [Fact.holds] using hv
      · simpa [hji] using I.agree j c hj
    · intro t ht
      have hne : o.dst ≠ some t := ht i o ho (by simp [hls])
      have : (a.put o.dst v).tmps[t]? = a.tmps[t]? := by
        cases hd : o.dst with
        | none => rfl
        | some d =>
          have hne' : d ≠ t := fun e => hne (by rw [hd, e])
          simp [Act.put, Array.getElem?_setIfInBounds_ne hne']
      rw [this]
      exact I.base t fun j oj hj hl => ht j oj hj (getD_set_true hl)
    · intro j oj d hj hl hd
      by_cases hji : j = i
      · subst hji
        rw [ho] at hj
        injection hj with hj
        subst hj
        have := g2 d hd
        rw [← I.tsize] at this
        simp [Act.put, hd, this]
      · rw [getD_set_ne false (Ne.symm hji)] at hl
        have h1 := I.done j oj d hj hl hd
        have hne : o.dst ≠ some d := (g3 j oj d hj hd).1 hji
        have : (a.put o.dst v).tmps[d]? = a.tmps[d]? := by
          cases hd' : o.dst with
          | none => rfl
          | some d' =>
            have hne' : d' ≠ d := fun e => hne (by rw [hd', e])
            simp [Act.put, Array.getElem?_setIfInBounds_ne hne']
        rw [this, h1]
        simp [hji]
    · intro j q hq hj hl
      by_cases hji : j = i
      · subst hji
        rw [hf] at hj
        injection hj with hj
        subst hj
        simpa [Fact.holds] using hv
      · rw [getD_set_ne false (Ne.symm hji)] at hl
        simp only [hji, if_false]
        exact hq _ _ _ hG (I.facts j q hq hj hl)
    · -- one less
      have hlen : ((List.range ops.size).filter fun j => !(listed.setIfInBounds i true).getD j false).length < ((List.range ops.size).filter fun j => !listed.getD j false).length := by
        have e1 : ((List.range ops.size).filter fun j => !(listed.setIfInBounds i true).getD j false) = ((List.range ops.size).filter fun j => !listed.getD j false).filter (fun j => j != i) := by
          rw [List.filter_filter]
          refine List.filter_congr fun j hj => ?_
          by_cases hji : j = i
          · subst hji; simp [hls]
          · rw [getD_set_ne false (Ne.symm hji)]; simp [hji]
        rw [e1]
        refine List.length_filter_lt_length_iff_exists.2 ⟨i, ?_, by simp⟩
        simp [List.mem_filter, hil]
        simpa [hls] using hun
      omega

theorem wp_region_facts7 {id : Nat} {Q : Exit → Act → World → Prop} {a : Act} {w : World} (fs : List (Fact G)) (hm : P.follows .mixedOrders = true) (hB : factsB7 ops a.tmps.size = true) (hC : C w.drew)
    (h : fsteps P ops C G (Q .normal) 0 ops.toList fs a []) : (Code.region id ops true).wp P Q a w := by
  refine wp_region_any hm (wpAny_of_facts7 hB h _ _ _ _ (fun i => match fs[i]? with | some (.val c) => c | _ => undef) ⟨by simp, hC, ?_, rfl, rfl, ?_, ?_, ?_, ?_⟩ ?_)
  · intro j oj hj hl; exfalso
    by_cases h' : j < ops.size <;> simp [h'] at hl
  · intro i c hi; simp [hi]
  · intro t _; rfl
  · intro i o d hi hl; exfalso
    by_cases h' : i < ops.size <;> simp [h'] at hl
  · intro i q hq hi hl; exfalso
    by_cases h' : i < ops.size <;> simp [h'] at hl
  · refine Nat.le_trans (List.length_filter_le _ _) (by simp)

theorem wp_region_facts7_lit {id : Nat} {Q : Exit → Act → World → Prop} {a : Act} {w : World} {l : List Oper} (fs : List (Fact G)) (hm : P.follows .mixedOrders = true) (hB : factsB7 l.toArray a.tmps.size = true) (hC : C w.drew)
    (h : fsteps P l.toArray C G (Q .normal) 0 l fs a []) : (Code.region id l.toArray true).wp P Q a w :=
  wp_region_facts7 fs hm hB hC (by simpa using h)

end
end Go.Proofs.YtjbmahjfmffnoaaDoor

/- A row of the call's own, read where it lies. -/
namespace Go.Proofs.YtjbmahjfmffnoaaDoor
open Go.RowKit Go.WideShapes Go.ChangeShapes
theorem OwnR.rdE {α : Type} {w : World} {base : Nat} {e : TypeId} {E : Enc α} {A : Option Addr} {c : Nat} {xs : List α} (h : OwnR w base e E (.slice A xs.length c) xs) : Reads w A (E.all xs) := by
  obtain ⟨A', c', hv, _, _, _, R⟩ := h.reads
  injection hv with h1 h2 h3
  subst h1
  exact R
theorem OwnR.rdN {w : World} {base : Nat} {e : TypeId} {A : Option Addr} {c : Nat} {xs : List Int} (h : OwnR w base e (eInt .i64) (.slice A xs.length c) xs) : Reads w A (xs.map (Value.int .i64)) := by
  have R := h.rdE
  rw [eInt_all] at R
  exact R
theorem OwnR.cell1 {α : Type} {w : World} {base : Nat} {e : TypeId} {E : Enc α} {v : Value} {xs : List α} (h : OwnR w base e E v xs) : v.oneCell' = true ∧ v.cells = #[v] := by
  obtain ⟨A, c, rfl, _⟩ := h.reads
  exact ⟨rfl, rfl⟩
theorem of1 {v : Value} {s : Nat} (h : Off v s) : ∀ j, j ∈ [s] → Off v j := fun j hj => by
  rw [List.mem_singleton] at hj; subst hj; exact h
/-- xs[:p], p a natural number; elements of any size. -/
theorem run_cutq {P : Program} {o : Oper} {a : Act} (x y : Operand) {t e : TypeId} (ho : o.op = .slice t x none (some y) none) (ht : P.underlying t = some (.slice e)) {s : Nat} (hs : ∃ i, P.info? e = some i ∧ i.size = s) {α : Type} {xs : List α} {A : Option Addr} {c p : Nat} {X : Int} (hx : a.eval x = .slice A xs.length c) (hy : a.eval y = .int .i64 X) (hX : X = (p : Int)) (hp : p ≤ xs.length) (hc : xs.length ≤ c) (W : World) :
    (execOp a.eval o).run P W = .ok (.value (.slice A (xs.take p).length c)) W := by
  subst hX
  obtain ⟨i, hi, _⟩ := hs
  have := run_cut x y ho ht ⟨i, hi⟩ hx hy ⟨by omega, by omega⟩ W
  rwa [show ((p : Nat) : Int).toNat = (xs.take p).length from by rw [List.length_take]; omega] at this
end Go.Proofs.YtjbmahjfmffnoaaDoor

/- Numbers' texts: the program's and the document's. -/
namespace Go.Proofs.YtjbmahjfmffnoaaDoor
open Go.RowKit Go.WideShapes Go.ChangeShapes
set_option linter.unusedSimpArgs false
set_option linter.unusedVariables false

theorem a_run_call_38_1 {o : Oper} {a : Act} (x0 : Operand) {ts : Array TypeId} (ho : o.op = .call { callee := .value (.func 38), args := #[x0], argTypes := ts }) {v0 : Value} (h0 : a.eval x0 = v0) (W : World) : (execOp a.eval o).run Tryd.prog W = .ok (.enter 38 #[v0]) W := by
  unfold execOp
  simp only [ho]
  subst h0
  go_simp
theorem a_run_lit_43_1 {o : Oper} {a : Act} (x0 : Operand) (ho : o.op = .buildSlice 43 1 #[(0, x0)]) {m0 : Int} (h0 : a.eval x0 = (.int .u8 m0)) (W : World) : (execOp a.eval o).run Tryd.prog W = .ok (.value (.slice (some ⟨W.heap.size, 0, none⟩) 1 1)) (W.alloc (.cells #[(.int .u8 m0)] 5)) := by
  unfold execOp
  simp only [ho, List.map_toArray, List.map_cons, List.map_nil, h0]
  go_simp

attribute [local irreducible] Go.wpList Go.Code.wp
set_option maxRecDepth 100000 in
set_option maxHeartbeats 4000000 in
theorem digits_small {n : Nat} (hn : n < 2 ^ 64) (h10 : n < 10) (w : World) : Calls Tryd.prog 38 #[.int .u64 (n : Int)] w fun e w' => e = .returned (.string (str (tdec n))) ∧ Below w.heap.size w w' := by
  have bel : Below w.heap.size w w := Below.refl _ _
  go_enter Tryd.func38, Tryd.ntmps38
  refine wp_seq ?_
  refine wp_region_lit ?_
  refine st_mv (.string (str [])) ?_
  simp only [nf0, nf1, nf2, nf3, nf4]
  refine wpList_nil ?_
  show Code.wp _ _ _ _ _
  refine wp_seq ?_
  refine wp_seq ?_
  refine wp_region_lit ?_
  refine st_mv (.int .u64 ((n : Nat) : Int)) ?_
  simp only [nf0, nf1, nf2, nf3, nf4]
  refine st_value (v := (.bool true)) (by rfl) ((run_lss (.tmp 3) (.const (.int .u64 10)) rfl rfl rfl w).trans (by rw [decide_eq_true (by omega)])) ?_
  simp only [nf0, nf1, nf2, nf3, nf4]
  refine wpList_nil ?_
  show Code.wp _ _ _ _ _
  refine wp_cond_true rfl ?_
  refine wp_seq ?_
  refine wp_region_lit ?_
  refine st_mv (.int .u64 ((n : Nat) : Int)) ?_
  simp only [nf0, nf1, nf2, nf3, nf4]
  refine st_mv (.int .u64 ((n : Nat) : Int)) ?_
  simp only [nf0, nf1, nf2, nf3, nf4]
  refine st_value (v := (.int .u64 ((n + 1 : Nat) : Int))) (by rfl) ((run_add (.tmp 6) (.const (.int .u64 1)) rfl rfl rfl w).trans (by rw [wrap_u64z, show ((n : Int) + 1) % 18446744073709551616 = ((n + 1 : Nat) : Int) by omega])) ?_
  simp only [nf0, nf1, nf2, nf3, nf4]
  refine st_value (v := (.string (str (tdec n)))) (by rfl) (run_digitU (.const (.string ⟨#[48, 49, 50, 51, 52, 53, 54, 55, 56, 57]⟩)) (.tmp 5) (.tmp 7) rfl Tryd.underlying9 (n := n) rfl rfl rfl (by omega) w) ?_
  simp only [nf0, nf1, nf2, nf3, nf4]
  refine st_mv (.string (str (tdec n))) ?_
  simp only [nf0, nf1, nf2, nf3, nf4]
  refine wpList_nil ?_
  show Code.wp _ _ _ _ _
  refine wp_ret ?_
  first | show bodyPost _ _ _ _ _ _ | (simp only [Exit.then, Exit.inBlock]; show bodyPost _ _ _ _ _ _)
  exact bodyPost_ret (results_tmp rfl _ _ _) rfl ⟨rfl, bel⟩
set_option maxRecDepth 100000 in
set_option maxHeartbeats 4000000 in
theorem digits_big {n : Nat} (hn : n < 2 ^ 64) (h10 : 10 ≤ n) (ih : ∀ m, m < n → ∀ w, Calls Tryd.prog 38 #[.int .u64 (m : Int)] w fun e w' => e = .returned (.string (str (tdec m))) ∧ Below w.heap.size w w') (w : World) : Calls Tryd.prog 38 #[.int .u64 (n : Int)] w fun e w' => e = .returned (.string (str (tdec n))) ∧ Below w.heap.size w w' := by
  have bel : Below w.heap.size w w := Below.refl _ _
  have hl1 := tdec_len 19 (n / 10) (by omega)
  have hl2 := tdec_len 0 (n % 10) (by omega)
  go_enter Tryd.func38, Tryd.ntmps38
  refine wp_seq ?_
  refine wp_region_lit ?_
  refine st_mv (.string (str [])) ?_
  simp only [nf0, nf1, nf2, nf3, nf4]
  refine wpList_nil ?_
  show Code.wp _ _ _ _ _
  refine wp_seq ?_
  refine wp_seq ?_
  refine wp_region_lit ?_
  refine st_mv (.int .u64 ((n : Nat) : Int)) ?_
  simp only [nf0, nf1, nf2, nf3, nf4]
  refine st_value (v := (.bool false)) (by rfl) ((run_lss (.tmp 3) (.const (.int .u64 10)) rfl rfl rfl w).trans (by rw [decide_eq_false (by omega)])) ?_
  simp only [nf0, nf1, nf2, nf3, nf4]
  refine wpList_nil ?_
  show Code.wp _ _ _ _ _
  refine wp_cond_false rfl ?_
  refine wp_skip ?_
  show Code.wp _ _ _ _ _
  refine wp_seq ?_
  refine wp_region_lit ?_
  refine st_mv (.int .u64 ((n : Nat) : Int)) ?_
  simp only [nf0, nf1, nf2, nf3, nf4]
  refine st_value (v := (.int .u64 ((n / 10 : Nat) : Int))) (by rfl) (run_quoU (.tmp 9) (.const (.int .u64 10)) rfl (m := n) (n := 10) rfl rfl (by omega) hn w) ?_
  simp only [nf0, nf1, nf2, nf3, nf4]
  refine st_call1 (v := (.string (str (tdec (n / 10))))) (by rfl) (a_run_call_38_1 (.tmp 10) rfl rfl _) (ih (n / 10) (by omega) w) ?_
  intro w1 hb2
  simp only [nf0, nf1, nf2, nf3, nf4]
  replace bel := bl_step bel hb2
  clear hb2
  refine st_mv (.int .u64 ((n : Nat) : Int)) ?_
  simp only [nf0, nf1, nf2, nf3, nf4]
  refine st_value (v := (.int .u64 ((n % 10 : Nat) : Int))) (by rfl) (run_remU (.tmp 12) (.const (.int .u64 10)) rfl (m := n) (n := 10) rfl rfl (by omega) w1) ?_
  simp only [nf0, nf1, nf2, nf3, nf4]
  refine st_call1 (v := (.string (str (tdec (n % 10))))) (by rfl) (a_run_call_38_1 (.tmp 13) rfl rfl _) (ih (n % 10) (by omega) w1) ?_
  intro w3 hb4
  simp only [nf0, nf1, nf2, nf3, nf4]
  replace bel := bl_step bel hb4
  clear hb4
  refine st_value (v := (.string (str ((tdec (n / 10)) ++ (tdec (n % 10)))))) (by rfl) (run_add_text (.tmp 11) (.tmp 14) (l := (tdec (n / 10))) (m := (tdec (n % 10))) rfl rfl rfl (by (try simp only [List.length_append, List.length_cons, List.length_nil]); omega) w3) ?_
  simp only [nf0, nf1, nf2, nf3, nf4]
  refine st_mv (.string (str ((tdec (n / 10)) ++ (tdec (n % 10))))) ?_
  simp only [nf0, nf1, nf2, nf3, nf4]
  refine wpList_nil ?_
  show Code.wp _ _ _ _ _
  refine wp_ret ?_
  first | show bodyPost _ _ _ _ _ _ | (simp only [Exit.then, Exit.inBlock]; show bodyPost _ _ _ _ _ _)
  exact bodyPost_ret (results_tmp rfl _ _ _) rfl ⟨by have h_ := tdec_big (n := n) h10; rw [show [tdg n] = tdec (n % 10) by rw [tdec_small (by omega)]; unfold tdg; rw [Nat.mod_mod]] at h_; rw [h_]; rfl, bel⟩
theorem digits_calls {n : Nat} (hn : n < 2 ^ 64) : ∀ w : World, Calls Tryd.prog 38 #[.int .u64 (n : Int)] w fun e w' => e = .returned (.string (str (tdec n))) ∧ Below w.heap.size w w' := by
  induction n using Nat.strongRecOn with
  | _ n ih =>
    intro w
    by_cases h : n < 10
    · exact digits_small hn h w
    · exact digits_big hn (by omega) (fun m hm => ih m hm (by omega)) w
set_option maxRecDepth 100000 in
set_option maxHeartbeats 4000000 in
theorem dec_calls {n : Int} (hn : -9223372036854775808 ≤ n ∧ n ≤ 9223372036854775807) (w : World) : Calls Tryd.prog 22 #[.int .i64 n] w fun e w' => e = .returned (.string (str (tdecI n))) ∧ Below w.heap.size w w' := by
  have bel : Below w.heap.size w w := Below.refl _ _
  have hl1 := tdec_len 19 n.natAbs (by omega)
  go_enter Tryd.func22, Tryd.ntmps22
  refine wp_seq ?_
  refine wp_region_lit ?_
  refine st_mv (.string (str [])) ?_
  simp only [nf0, nf1, nf2, nf3, nf4]
  refine wpList_nil ?_
  show Code.wp _ _ _ _ _
  refine wp_seq ?_
  refine wp_seq ?_
  refine wp_region_lit ?_
  refine st_mv (.int .i64 n) ?_
  simp only [nf0, nf1, nf2, nf3, nf4]
  refine st_value (v := (.bool (decide (n < 0)))) (by rfl) (run_lss (.tmp 3) (.const (.int .i64 0)) rfl rfl rfl w) ?_
  simp only [nf0, nf1, nf2, nf3, nf4]
  refine wpList_nil ?_
  show Code.wp _ _ _ _ _
  cases hg1 : decide (n < 0)
  · have hp2 := of_decide_eq_false hg1
    refine wp_cond_false rfl ?_
    refine wp_skip ?_
    show Code.wp _ _ _ _ _
    refine wp_seq ?_
    refine wp_region_lit ?_
    refine st_mv (.int .i64 n) ?_
    simp only [nf0, nf1, nf2, nf3, nf4]
    refine st_value (v := (.int .u64 ((n.natAbs : Nat) : Int))) (by rfl) (run_conv_i64_u64 (.tmp 12) rfl Tryd.underlying2 Tryd.underlying67 (z := n) (z' := ((n.natAbs : Nat) : Int)) rfl (by rw [wrap_u64z]; omega) w) ?_
    simp only [nf0, nf1, nf2, nf3, nf4]
    refine st_call1 (v := (.string (str (tdec n.natAbs)))) (by rfl) (a_run_call_38_1 (.tmp 13) rfl rfl _) (digits_calls (n := n.natAbs) (by omega) w) ?_
    intro w3 hb4
    simp only [nf0, nf1, nf2, nf3, nf4]
    replace bel := bl_step bel hb4
    clear hb4
    refine st_mv (.string (str (tdec n.natAbs))) ?_
    simp only [nf0, nf1, nf2, nf3, nf4]
    refine wpList_nil ?_
    show Code.wp _ _ _ _ _
    refine wp_ret ?_
    first | show bodyPost _ _ _ _ _ _ | (simp only [Exit.then, Exit.inBlock]; show bodyPost _ _ _ _ _ _)
    exact bodyPost_ret (results_tmp rfl _ _ _) rfl ⟨by unfold tdecI; rw [if_neg (by omega)]; rfl, bel⟩
  have hp5 := of_decide_eq_true hg1
  refine wp_cond_true rfl ?_
  refine wp_seq ?_
  refine wp_region_lit ?_
  refine st_mv (.int .i64 n) ?_
  simp only [nf0, nf1, nf2, nf3, nf4]
  refine st_value (v := (.int .i64 (n + 1))) (by rfl) (run_add_in (.tmp 5) (.const (.int .i64 1)) rfl rfl rfl (by omega) w) ?_
  simp only [nf0, nf1, nf2, nf3, nf4]
  refine st_value (v := (.int .i64 (-(n + 1)))) (by rfl) (run_negZ (.tmp 6) rfl (z := n + 1) (z' := -(n + 1)) rfl (by rw [IntWalk.i64_in _ (by omega)]; omega) w) ?_
  simp only [nf0, nf1, nf2, nf3, nf4]
  refine st_value (v := (.int .u64 (-(n + 1)))) (by rfl) (run_conv_i64_u64 (.tmp 7) rfl Tryd.underlying2 Tryd.underlying67 (z := -(n + 1)) (z' := -(n + 1)) rfl (by rw [wrap_u64z]; omega) w) ?_
  simp only [nf0, nf1, nf2, nf3, nf4]
  refine st_value (v := (.int .u64 ((n.natAbs : Nat) : Int))) (by rfl) ((run_add (.tmp 8) (.const (.int .u64 1)) rfl rfl rfl w).trans (by rw [wrap_u64z, show (-(n + 1) + 1) % 18446744073709551616 = ((n.natAbs : Nat) : Int) by omega])) ?_
  simp only [nf0, nf1, nf2, nf3, nf4]
  refine st_call1 (v := (.string (str (tdec n.natAbs)))) (by rfl) (a_run_call_38_1 (.tmp 9) rfl rfl _) (digits_calls (n := n.natAbs) (by omega) w) ?_
  intro w6 hb7
  simp only [nf0, nf1, nf2, nf3, nf4]
  replace bel := bl_step bel hb7
  clear hb7
  refine st_value (v := (.string (str ([45] ++ (tdec n.natAbs))))) (by rfl) (run_add_text (.const (.string ⟨#[45]⟩)) (.tmp 10) (l := [45]) (m := (tdec n.natAbs)) rfl rfl rfl (by (try simp only [List.length_append, List.length_cons, List.length_nil]); omega) w6) ?_
  simp only [nf0, nf1, nf2, nf3, nf4]
  refine st_mv (.string (str ([45] ++ (tdec n.natAbs)))) ?_
  simp only [nf0, nf1, nf2, nf3, nf4]
  refine wpList_nil ?_
  show Code.wp _ _ _ _ _
  refine wp_ret ?_
  first | show bodyPost _ _ _ _ _ _ | (simp only [Exit.then, Exit.inBlock]; show bodyPost _ _ _ _ _ _)
  exact bodyPost_ret (results_tmp rfl _ _ _) rfl ⟨by unfold tdecI; rw [if_pos (by omega)]; rfl, bel⟩
set_option maxRecDepth 100000 in
set_option maxHeartbeats 4000000 in
theorem refDec_calls {n : Int} (hn : -9223372036854775808 ≤ n ∧ n ≤ 9223372036854775807) (w : World) : Calls Tryd.prog 25 #[.int .i64 n] w fun e w' => e = .returned (.string (str (tdecI n))) ∧ Below w.heap.size w w' := by
  have bel : Below w.heap.size w w := Below.refl _ _
  go_enter Tryd.func25, Tryd.ntmps25
  refine wp_seq ?_
  refine wp_region_lit ?_
  refine st_mv (.string (str [])) ?_
  simp only [nf0, nf1, nf2, nf3, nf4]
  refine wpList_nil ?_
  show Code.wp _ _ _ _ _
  refine wp_seq ?_
  refine wp_region_lit ?_
  refine st_mv (.string (str [])) ?_
  simp only [nf0, nf1, nf2, nf3, nf4]
  refine wpList_nil ?_
  show Code.wp _ _ _ _ _
  refine wp_seq ?_
  refine wp_seq ?_
  refine wp_region_lit ?_
  refine st_mv (.int .i64 0) ?_
  simp only [nf0, nf1, nf2, nf3, nf4]
  refine wpList_nil ?_
  show Code.wp _ _ _ _ _
  refine wp_block ?_
  refine wp_loop_left (fun n_ a_ wr_ => (fun J1 => ∃ (i : Nat) (z : Int) (s : List UInt8), n_ = 19 - i ∧ a_ = ⟨#[.int .i64 z, J1 1, .string (str []), .string (str s), .int .i64 (i : Int), J1 5, J1 6, J1 7, J1 8, J1 9, J1 10, J1 11, J1 12, J1 13, J1 14, J1 15, J1 16, J1 17, J1 18, J1 19, J1 20, J1 21, J1 22, J1 23, J1 24, J1 25, J1 26, J1 27, J1 28, J1 29, J1 30, J1 31, J1 32, J1 33, J1 34, J1 35, J1 36, J1 37, J1 38, J1 39], []⟩ ∧ Below w.heap.size w wr_ ∧ (i ≤ 18) ∧ (z.natAbs < 10 ^ (19 - i)) ∧ (tdec n.natAbs = tdec z.natAbs ++ s) ∧ (z < 0 ↔ n < 0) ∧ (s.length ≤ i) ∧ (z.natAbs ≤ n.natAbs)) (jk a_)) (19 - 0) ⟨0, n, [], rfl, rfl, bel, (by omega), (by show n.natAbs < 10000000000000000000; omega), (by rw [List.append_nil]), Iff.rfl, (by simp), (Nat.le_refl _)⟩ ?_
  clear bel
  intro n_ a_ w2 h_
  revert h_
  generalize jk a_ = J1
  rintro ⟨i, z, s, hms, rfl, bel, hi, hz, hs, hg, hsl, hb⟩
  have htm := tmod_nat z
  have htd := tdiv_nat z
  have hzz : i = 18 → z.natAbs < 10 := fun h => by subst h; exact hz
  refine wp_seq ?_
  refine wp_seq ?_
  cases hg3 : decide ((i : Int) < 19)
  · have hp4 := of_decide_eq_false hg3
    exfalso
    omega
  have hp5 := of_decide_eq_true hg3
  refine wp_region_lit ?_
  refine st_mv (.int .i64 (i : Int)) ?_
  simp only [nf0, nf1, nf2, nf3, nf4]
  refine st_value (v := (.bool true)) (by rfl) ((run_lss (.tmp 6) (.const (.int .i64 19)) rfl rfl rfl w2).trans (by rw [hg3])) ?_
  simp only [nf0, nf1, nf2, nf3, nf4]
  refine st_mv (.bool true) ?_
  simp only [nf0, nf1, nf2, nf3, nf4]
  refine st_nob (j := 2) (t := 8) (c := true) rfl rfl rfl rfl rfl ?_
  simp only [nf0, nf1, nf2, nf3, nf4]
  refine st_nob (j := 2) (t := 8) (c := true) rfl rfl rfl rfl rfl ?_
  simp only [nf0, nf1, nf2, nf3, nf4]
  refine st_mv (.bool true) ?_
  simp only [nf0, nf1, nf2, nf3, nf4]
  refine wpList_nil ?_
  show Code.wp _ _ _ _ _
  refine wp_cond_true rfl ?_
  refine wp_skip ?_
  show Code.wp _ _ _ _ _
  refine wp_seq ?_
  refine wp_block ?_
  refine wp_seq ?_
  refine wp_region_lit ?_
  refine st_mv (.int .i64 z) ?_
  simp only [nf0, nf1, nf2, nf3, nf4]
  refine st_value (v := (.int .i64 (z.tmod 10))) (by rfl) (run_rem10 (.tmp 14) (.const (.int .i64 10)) rfl (m := z) rfl rfl w2) ?_
  simp only [nf0, nf1, nf2, nf3, nf4]
  refine st_mv (.int .i64 (z.tmod 10)) ?_
  simp only [nf0, nf1, nf2, nf3, nf4]
  refine wpList_nil ?_
  show Code.wp _ _ _ _ _
  refine wp_seq ?_
  refine wp_seq ?_
  refine wp_region_lit ?_
  refine st_mv (.int .i64 (z.tmod 10)) ?_
  simp only [nf0, nf1, nf2, nf3, nf4]
  refine st_value (v := (.bool (decide ((z.tmod 10) < 0)))) (by rfl) (run_lss (.tmp 16) (.const (.int .i64 0)) rfl rfl rfl w2) ?_
  simp only [nf0, nf1, nf2, nf3, nf4]
  refine wpList_nil ?_
  show Code.wp _ _ _ _ _
  cases hg6 : decide ((z.tmod 10) < 0)
  · have hp7 := of_decide_eq_false hg6
    refine wp_cond_false rfl ?_
    refine wp_skip ?_
    show Code.wp _ _ _ _ _
    refine wp_seq ?_
    refine wp_region_lit ?_
    refine st_mv (.int .i64 (z.tmod 10)) ?_
    simp only [nf0, nf1, nf2, nf3, nf4]
    refine st_value (v := (.int .i64 (48 + ((z.natAbs % 10 : Nat) : Int)))) (by rfl) ((run_add_in (.const (.int .i64 48)) (.tmp 20) rfl rfl rfl (by omega) w2).trans (by rw [show z.tmod 10 = ((z.natAbs % 10 : Nat) : Int) by omega])) ?_
    simp only [nf0, nf1, nf2, nf3, nf4]
    refine st_value (v := (.int .u8 ((tdg z.natAbs).toNat : Int))) (by rfl) (run_conv_i64_u8 (.tmp 21) rfl Tryd.underlying2 Tryd.underlying5 (z := 48 + ((z.natAbs % 10 : Nat) : Int)) (z' := ((tdg z.natAbs).toNat : Int)) rfl (by rw [tdg_val, wrap_u8]; omega) w2) ?_
    simp only [nf0, nf1, nf2, nf3, nf4]
    refine st_lit (by rfl) (a_run_lit_43_1 (.tmp 22) rfl rfl _) ?_
    intro g8 w9 B10 hb11 lo12
    simp only [nf0, nf1, nf2, nf3, nf4]
    replace lo12 := low_le bel lo12
    replace bel := bl_step bel hb11
    clear hb11
    refine st_value (v := (.string (str ([tdg z.natAbs] : List UInt8)))) (by rfl) (run_convB (.tmp 23) rfl rfl (OwnR.built (xs := ([tdg z.natAbs] : List UInt8)) B10 (by rfl) (Nat.zero_le _) (by simp) rfl)) ?_
    simp only [nf0, nf1, nf2, nf3, nf4]
    refine st_mv (.string (str s)) ?_
    simp only [nf0, nf1, nf2, nf3, nf4]
    refine st_value (v := (.string (str (([tdg z.natAbs] : List UInt8) ++ s)))) (by rfl) (run_add_text (.tmp 24) (.tmp 25) (l := ([tdg z.natAbs] : List UInt8)) (m := s) rfl rfl rfl (by (try simp only [List.length_append, List.length_cons, List.length_nil]); omega) w9) ?_
    simp only [nf0, nf1, nf2, nf3, nf4]
    refine st_mv (.string (str (([tdg z.natAbs] : List UInt8) ++ s))) ?_
    simp only [nf0, nf1, nf2, nf3, nf4]
    refine wpList_nil ?_
    show Code.wp _ _ _ _ _
    refine wp_seq ?_
    refine wp_seq ?_
    cases hg13 : decide ((-10) < z)
    · have hp14 := of_decide_eq_false hg13
      refine wp_region_lit ?_
      refine st_mv (.int .i64 z) ?_
      simp only [nf0, nf1, nf2, nf3, nf4]
      refine st_value (v := (.bool false)) (by rfl) ((run_gtr (.tmp 27) (.const (.int .i64 (-10))) rfl rfl rfl w9).trans (by rw [hg13])) ?_
      simp only [nf0, nf1, nf2, nf3, nf4]
      refine st_mv (.bool false) ?_
      simp only [nf0, nf1, nf2, nf3, nf4]
      refine st_nob (j := 2) (t := 29) (c := false) rfl rfl rfl rfl rfl ?_
      simp only [nf0, nf1, nf2, nf3, nf4]
      refine st_nob (j := 2) (t := 29) (c := false) rfl rfl rfl rfl rfl ?_
      simp only [nf0, nf1, nf2, nf3, nf4]
      refine st_mv (.bool false) ?_
      simp only [nf0, nf1, nf2, nf3, nf4]
      refine wpList_nil ?_
      show Code.wp _ _ _ _ _
      refine wp_cond_false rfl ?_
      refine wp_skip ?_
      show Code.wp _ _ _ _ _
      refine wp_region_lit ?_
      refine st_mv (.int .i64 z) ?_
      simp only [nf0, nf1, nf2, nf3, nf4]
      refine st_value (v := (.int .i64 (z.tdiv 10))) (by rfl) (run_quo10 (.tmp 33) (.const (.int .i64 10)) rfl (m := z) rfl rfl (by omega) w9) ?_
      simp only [nf0, nf1, nf2, nf3, nf4]
      refine st_mv (.int .i64 (z.tdiv 10)) ?_
      simp only [nf0, nf1, nf2, nf3, nf4]
      refine wpList_nil ?_
      show Code.wp _ _ _ _ _
      refine wp_region_lit ?_
      refine st_mv (.int .i64 (i : Int)) ?_
      simp only [nf0, nf1, nf2, nf3, nf4]
      refine st_value (v := (.int .i64 ((i : Int) + 1))) (by rfl) (run_add_in (.tmp 12) (.const (.int .i64 1)) rfl rfl rfl (by omega) w9) ?_
      simp only [nf0, nf1, nf2, nf3, nf4]
      refine st_mv (.int .i64 ((i : Int) + 1)) ?_
      simp only [nf0, nf1, nf2, nf3, nf4]
      refine wpList_nil ?_
      show ∃ m, m < _ ∧ _
      exact ⟨_, (by omega), (i + 1), (z.tdiv 10), (tdg z.natAbs :: s), rfl, rfl, bel, (by omega), (by rw [htd.1]; exact pow_next hi hz), (by rw [htd.1]; exact tdec_next hs (by omega)), ((htd.2 (by omega)).trans hg), (by simp only [List.length_cons, List.length_append]; omega), (by rw [htd.1]; omega)⟩
    have hp15 := of_decide_eq_true hg13
    refine wp_region_lit ?_
    refine st_mv (.int .i64 z) ?_
    simp only [nf0, nf1, nf2, nf3, nf4]
    refine st_value (v := (.bool true)) (by rfl) ((run_gtr (.tmp 27) (.const (.int .i64 (-10))) rfl rfl rfl w9).trans (by rw [hg13])) ?_
    simp only [nf0, nf1, nf2, nf3, nf4]
    refine st_mv (.bool true) ?_
    simp only [nf0, nf1, nf2, nf3, nf4]
    refine st_mv (.int .i64 z) ?_
    simp only [nf0, nf1, nf2, nf3, nf4]
    refine st_value (v := (.bool (decide (z < 10)))) (by rfl) (run_lss (.tmp 30) (.const (.int .i64 10)) rfl rfl rfl w9) ?_
    simp only [nf0, nf1, nf2, nf3, nf4]
    refine st_mv (.bool (decide (z < 10))) ?_
    simp only [nf0, nf1, nf2, nf3, nf4]
    refine wpList_nil ?_
    show Code.wp _ _ _ _ _
    cases hg16 : decide (z < 10)
    · have hp17 := of_decide_eq_false hg16
      refine wp_cond_false rfl ?_
      refine wp_skip ?_
      show Code.wp _ _ _ _ _
      refine wp_region_lit ?_
      refine st_mv (.int .i64 z) ?_
      simp only [nf0, nf1, nf2, nf3, nf4]
      refine st_value (v := (.int .i64 (z.tdiv 10))) (by rfl) (run_quo10 (.tmp 33) (.const (.int .i64 10)) rfl (m := z) rfl rfl (by omega) w9) ?_
      simp only [nf0, nf1, nf2, nf3, nf4]
      refine st_mv (.int .i64 (z.tdiv 10)) ?_
      simp only [nf0, nf1, nf2, nf3, nf4]
      refine wpList_nil ?_
      show Code.wp _ _ _ _ _
      refine wp_region_lit ?_
      refine st_mv (.int .i64 (i : Int)) ?_
      simp only [nf0, nf1, nf2, nf3, nf4]
      refine st_value (v := (.int .i64 ((i : Int) + 1))) (by rfl) (run_add_in (.tmp 12) (.const (.int .i64 1)) rfl rfl rfl (by omega) w9) ?_
      simp only [nf0, nf1, nf2, nf3, nf4]
      refine st_mv (.int .i64 ((i : Int) + 1)) ?_
      simp only [nf0, nf1, nf2, nf3, nf4]
      refine wpList_nil ?_
      show ∃ m, m < _ ∧ _
      exact ⟨_, (by omega), (i + 1), (z.tdiv 10), (tdg z.natAbs :: s), rfl, rfl, bel, (by omega), (by rw [htd.1]; exact pow_next hi hz), (by rw [htd.1]; exact tdec_next hs (by omega)), ((htd.2 (by omega)).trans hg), (by simp only [List.length_cons, List.length_append]; omega), (by rw [htd.1]; omega)⟩
    have hp18 := of_decide_eq_true hg16
    refine wp_cond_true rfl ?_
    refine wp_exit ?_
    show Code.wp _ _ _ _ _
    refine wp_seq ?_
    refine wp_seq ?_
    refine wp_region_lit ?_
    refine st_mv (.int .i64 z) ?_
    simp only [nf0, nf1, nf2, nf3, nf4]
    refine st_value (v := (.bool (decide (z < 0)))) (by rfl) (run_lss (.tmp 35) (.const (.int .i64 0)) rfl rfl rfl w9) ?_
    simp only [nf0, nf1, nf2, nf3, nf4]
    refine wpList_nil ?_
    show Code.wp _ _ _ _ _
    cases hg19 : decide (z < 0)
    · have hp20 := of_decide_eq_false hg19
      refine wp_cond_false rfl ?_
      refine wp_skip ?_
      show Code.wp _ _ _ _ _
      refine wp_seq ?_
      refine wp_region_lit ?_
      refine st_mv (.string (str (([tdg z.natAbs] : List UInt8) ++ s))) ?_
      simp only [nf0, nf1, nf2, nf3, nf4]
      refine st_mv (.string (str (([tdg z.natAbs] : List UInt8) ++ s))) ?_
      simp only [nf0, nf1, nf2, nf3, nf4]
      refine wpList_nil ?_
      show Code.wp _ _ _ _ _
      refine wp_ret ?_
      first | show bodyPost _ _ _ _ _ _ | (simp only [Exit.then, Exit.inBlock]; show bodyPost _ _ _ _ _ _)
      have hE : tdecI n = (([tdg z.natAbs] : List UInt8) ++ s) := by unfold tdecI; rw [if_neg (by omega), tdec_last hs (by omega)]; rfl
      exact bodyPost_ret (results_tmp rfl _ _ _) rfl ⟨by rw [hE]; rfl, bel⟩
    have hp21 := of_decide_eq_true hg19
    refine wp_cond_true rfl ?_
    refine wp_region_lit ?_
    refine st_mv (.string (str (([tdg z.natAbs] : List UInt8) ++ s))) ?_
    simp only [nf0, nf1, nf2, nf3, nf4]
    refine st_value (v := (.string (str ([45] ++ (([tdg z.natAbs] : List UInt8) ++ s))))) (by rfl) (run_add_text (.const (.string ⟨#[45]⟩)) (.tmp 37) (l := [45]) (m := (([tdg z.natAbs] : List UInt8) ++ s)) rfl rfl rfl (by (try simp only [List.length_append, List.length_cons, List.length_nil]); omega) w9) ?_
    simp only [nf0, nf1, nf2, nf3, nf4]
    refine st_mv (.string (str ([45] ++ (([tdg z.natAbs] : List UInt8) ++ s)))) ?_
    simp only [nf0, nf1, nf2, nf3, nf4]
    refine wpList_nil ?_
    show Code.wp _ _ _ _ _
    refine wp_seq ?_
    refine wp_region_lit ?_
    refine st_mv (.string (str ([45] ++ (([tdg z.natAbs] : List UInt8) ++ s)))) ?_
    simp only [nf0, nf1, nf2, nf3, nf4]
    refine st_mv (.string (str ([45] ++ (([tdg z.natAbs] : List UInt8) ++ s)))) ?_
    simp only [nf0, nf1, nf2, nf3, nf4]
    refine wpList_nil ?_
    show Code.wp _ _ _ _ _
    refine wp_ret ?_
    first | show bodyPost _ _ _ _ _ _ | (simp only [Exit.then, Exit.inBlock]; show bodyPost _ _ _ _ _ _)
    have hE : tdecI n = ([45] ++ (([tdg z.natAbs] : List UInt8) ++ s)) := by unfold tdecI; rw [if_pos (by omega), tdec_last hs (by omega)]; rfl
    exact bodyPost_ret (results_tmp rfl _ _ _) rfl ⟨by rw [hE]; rfl, bel⟩
  have hp22 := of_decide_eq_true hg6
  refine wp_cond_true rfl ?_
  refine wp_region_lit ?_
  refine st_mv (.int .i64 (z.tmod 10)) ?_
  simp only [nf0, nf1, nf2, nf3, nf4]
  refine st_value (v := (.int .i64 ((z.natAbs % 10 : Nat) : Int))) (by rfl) (run_negZ (.tmp 18) rfl (z := z.tmod 10) (z' := ((z.natAbs % 10 : Nat) : Int)) rfl (by rw [IntWalk.i64_in _ (by omega)]; omega) w2) ?_
  simp only [nf0, nf1, nf2, nf3, nf4]
  refine st_mv (.int .i64 ((z.natAbs % 10 : Nat) : Int)) ?_
  simp only [nf0, nf1, nf2, nf3, nf4]
  refine wpList_nil ?_
  show Code.wp _ _ _ _ _
  refine wp_seq ?_
  refine wp_region_lit ?_
  refine st_mv (.int .i64 ((z.natAbs % 10 : Nat) : Int)) ?_
  simp only [nf0, nf1, nf2, nf3, nf4]
  refine st_value (v := (.int .i64 (48 + ((z.natAbs % 10 : Nat) : Int)))) (by rfl) ((run_add_in (.const (.int .i64 48)) (.tmp 20) rfl rfl rfl (by omega) w2)) ?_
  simp only [nf0, nf1, nf2, nf3, nf4]
  refine st_value (v := (.int .u8 ((tdg z.natAbs).toNat : Int))) (by rfl) (run_conv_i64_u8 (.tmp 21) rfl Tryd.underlying2 Tryd.underlying5 (z := 48 + ((z.natAbs % 10 : Nat) : Int)) (z' := ((tdg z.natAbs).toNat : Int)) rfl (by rw [tdg_val, wrap_u8]; omega) w2) ?_
  simp only [nf0, nf1, nf2, nf3, nf4]
  refine st_lit (by rfl) (a_run_lit_43_1 (.tmp 22) rfl rfl _) ?_
  intro g23 w24 B25 hb26 lo27
  simp only [nf0, nf1, nf2, nf3, nf4]
  replace lo27 := low_le bel lo27
  replace bel := bl_step bel hb26
  clear hb26
  refine st_value (v := (.string (str ([tdg z.natAbs] : List UInt8)))) (by rfl) (run_convB (.tmp 23) rfl rfl (OwnR.built (xs := ([tdg z.natAbs] : List UInt8)) B25 (by rfl) (Nat.zero_le _) (by simp) rfl)) ?_
  simp only [nf0, nf1, nf2, nf3, nf4]
  refine st_mv (.string (str s)) ?_
  simp only [nf0, nf1, nf2, nf3, nf4]
  refine st_value (v := (.string (str (([tdg z.natAbs] : List UInt8) ++ s)))) (by rfl) (run_add_text (.tmp 24) (.tmp 25) (l := ([tdg z.natAbs] : List UInt8)) (m := s) rfl rfl rfl (by (try simp only [List.length_append, List.length_cons, List.length_nil]); omega) w24) ?_
  simp only [nf0, nf1, nf2, nf3, nf4]
  refine st_mv (.string (str (([tdg z.natAbs] : List UInt8) ++ s))) ?_
  simp only [nf0, nf1, nf2, nf3, nf4]
  refine wpList_nil ?_
  show Code.wp _ _ _ _ _
  refine wp_seq ?_
  refine wp_seq ?_
  cases hg28 : decide ((-10) < z)
  · have hp29 := of_decide_eq_false hg28
    refine wp_region_lit ?_
    refine st_mv (.int .i64 z) ?_
    simp only [nf0, nf1, nf2, nf3, nf4]
    refine st_value (v := (.bool false)) (by rfl) ((run_gtr (.tmp 27) (.const (.int .i64 (-10))) rfl rfl rfl w24).trans (by rw [hg28])) ?_
    simp only [nf0, nf1, nf2, nf3, nf4]
    refine st_mv (.bool false) ?_
    simp only [nf0, nf1, nf2, nf3, nf4]
    refine st_nob (j := 2) (t := 29) (c := false) rfl rfl rfl rfl rfl ?_
    simp only [nf0, nf1, nf2, nf3, nf4]
    refine st_nob (j := 2) (t := 29) (c := false) rfl rfl rfl rfl rfl ?_
    simp only [nf0, nf1, nf2, nf3, nf4]
    refine st_mv (.bool false) ?_
    simp only [nf0, nf1, nf2, nf3, nf4]
    refine wpList_nil ?_
    show Code.wp _ _ _ _ _
    refine wp_cond_false rfl ?_
    refine wp_skip ?_
    show Code.wp _ _ _ _ _
    refine wp_region_lit ?_
    refine st_mv (.int .i64 z) ?_
    simp only [nf0, nf1, nf2, nf3, nf4]
    refine st_value (v := (.int .i64 (z.tdiv 10))) (by rfl) (run_quo10 (.tmp 33) (.const (.int .i64 10)) rfl (m := z) rfl rfl (by omega) w24) ?_
    simp only [nf0, nf1, nf2, nf3, nf4]
    refine st_mv (.int .i64 (z.tdiv 10)) ?_
    simp only [nf0, nf1, nf2, nf3, nf4]
    refine wpList_nil ?_
    show Code.wp _ _ _ _ _
    refine wp_region_lit ?_
    refine st_mv (.int .i64 (i : Int)) ?_
    simp only [nf0, nf1, nf2, nf3, nf4]
    refine st_value (v := (.int .i64 ((i : Int) + 1))) (by rfl) (run_add_in (.tmp 12) (.const (.int .i64 1)) rfl rfl rfl (by omega) w24) ?_
    simp only [nf0, nf1, nf2, nf3, nf4]
    refine st_mv (.int .i64 ((i : Int) + 1)) ?_
    simp only [nf0, nf1, nf2, nf3, nf4]
    refine wpList_nil ?_
    show ∃ m, m < _ ∧ _
    exact ⟨_, (by omega), (i + 1), (z.tdiv 10), (tdg z.natAbs :: s), rfl, rfl, bel, (by omega), (by rw [htd.1]; exact pow_next hi hz), (by rw [htd.1]; exact tdec_next hs (by omega)), ((htd.2 (by omega)).trans hg), (by simp only [List.length_cons, List.length_append]; omega), (by rw [htd.1]; omega)⟩
  have hp30 := of_decide_eq_true hg28
  refine wp_region_lit ?_
  refine st_mv (.int .i64 z) ?_
  simp only [nf0, nf1, nf2, nf3, nf4]
  refine st_value (v := (.bool true)) (by rfl) ((run_gtr (.tmp 27) (.const (.int .i64 (-10))) rfl rfl rfl w24).trans (by rw [hg28])) ?_
  simp only [nf0, nf1, nf2, nf3, nf4]
  refine st_mv (.bool true) ?_
  simp only [nf0, nf1, nf2, nf3, nf4]
  refine st_mv (.int .i64 z) ?_
  simp only [nf0, nf1, nf2, nf3, nf4]
  refine st_value (v := (.bool (decide (z < 10)))) (by rfl) (run_lss (.tmp 30) (.const (.int .i64 10)) rfl rfl rfl w24) ?_
  simp only [nf0, nf1, nf2, nf3, nf4]
  refine st_mv (.bool (decide (z < 10))) ?_
  simp only [nf0, nf1, nf2, nf3, nf4]
  refine wpList_nil ?_
  show Code.wp _ _ _ _ _
  cases hg31 : decide (z < 10)
  · have hp32 := of_decide_eq_false hg31
    refine wp_cond_false rfl ?_
    refine wp_skip ?_
    show Code.wp _ _ _ _ _
    refine wp_region_lit ?_
    refine st_mv (.int .i64 z) ?_
    simp only [nf0, nf1, nf2, nf3, nf4]
    refine st_value (v := (.int .i64 (z.tdiv 10))) (by rfl) (run_quo10 (.tmp 33) (.const (.int .i64 10)) rfl (m := z) rfl rfl (by omega) w24) ?_
    simp only [nf0, nf1, nf2, nf3, nf4]
    refine st_mv (.int .i64 (z.tdiv 10)) ?_
    simp only [nf0, nf1, nf2, nf3, nf4]
    refine wpList_nil ?_
    show Code.wp _ _ _ _ _
    refine wp_region_lit ?_
    refine st_mv (.int .i64 (i : Int)) ?_
    simp only [nf0, nf1, nf2, nf3, nf4]
    refine st_value (v := (.int .i64 ((i : Int) + 1))) (by rfl) (run_add_in (.tmp 12) (.const (.int .i64 1)) rfl rfl rfl (by omega) w24) ?_
    simp only [nf0, nf1, nf2, nf3, nf4]
    refine st_mv (.int .i64 ((i : Int) + 1)) ?_
    simp only [nf0, nf1, nf2, nf3, nf4]
    refine wpList_nil ?_
    show ∃ m, m < _ ∧ _
    exact ⟨_, (by omega), (i + 1), (z.tdiv 10), (tdg z.natAbs :: s), rfl, rfl, bel, (by omega), (by rw [htd.1]; exact pow_next hi hz), (by rw [htd.1]; exact tdec_next hs (by omega)), ((htd.2 (by omega)).trans hg), (by simp only [List.length_cons, List.length_append]; omega), (by rw [htd.1]; omega)⟩
  have hp33 := of_decide_eq_true hg31
  refine wp_cond_true rfl ?_
  refine wp_exit ?_
  show Code.wp _ _ _ _ _
  refine wp_seq ?_
  refine wp_seq ?_
  refine wp_region_lit ?_
  refine st_mv (.int .i64 z) ?_
  simp only [nf0, nf1, nf2, nf3, nf4]
  refine st_value (v := (.bool (decide (z < 0)))) (by rfl) (run_lss (.tmp 35) (.const (.int .i64 0)) rfl rfl rfl w24) ?_
  simp only [nf0, nf1, nf2, nf3, nf4]
  refine wpList_nil ?_
  show Code.wp _ _ _ _ _
  cases hg34 : decide (z < 0)
  · have hp35 := of_decide_eq_false hg34
    refine wp_cond_false rfl ?_
    refine wp_skip ?_
    show Code.wp _ _ _ _ _
    refine wp_seq ?_
    refine wp_region_lit ?_
    refine st_mv (.string (str (([tdg z.natAbs] : List UInt8) ++ s))) ?_
    simp only [nf0, nf1, nf2, nf3, nf4]
    refine st_mv (.string (str (([tdg z.natAbs] : List UInt8) ++ s))) ?_
    simp only [nf0, nf1, nf2, nf3, nf4]
    refine wpList_nil ?_
    show Code.wp _ _ _ _ _
    refine wp_ret ?_
    first | show bodyPost _ _ _ _ _ _ | (simp only [Exit.then, Exit.inBlock]; show bodyPost _ _ _ _ _ _)
    have hE : tdecI n = (([tdg z.natAbs] : List UInt8) ++ s) := by unfold tdecI; rw [if_neg (by omega), tdec_last hs (by omega)]; rfl
    exact bodyPost_ret (results_tmp rfl _ _ _) rfl ⟨by rw [hE]; rfl, bel⟩
  have hp36 := of_decide_eq_true hg34
  refine wp_cond_true rfl ?_
  refine wp_region_lit ?_
  refine st_mv (.string (str (([tdg z.natAbs] : List UInt8) ++ s))) ?_
  simp only [nf0, nf1, nf2, nf3, nf4]
  refine st_value (v := (.string (str ([45] ++ (([tdg z.natAbs] : List UInt8) ++ s))))) (by rfl) (run_add_text (.const (.string ⟨#[45]⟩)) (.tmp 37) (l := [45]) (m := (([tdg z.natAbs] : List UInt8) ++ s)) rfl rfl rfl (by (try simp only [List.length_append, List.length_cons, List.length_nil]); omega) w24) ?_
  simp only [nf0, nf1, nf2, nf3, nf4]
  refine st_mv (.string (str ([45] ++ (([tdg z.natAbs] : List UInt8) ++ s)))) ?_
  simp only [nf0, nf1, nf2, nf3, nf4]
  refine wpList_nil ?_
  show Code.wp _ _ _ _ _
  refine wp_seq ?_
  refine wp_region_lit ?_
  refine st_mv (.string (str ([45] ++ (([tdg z.natAbs] : List UInt8) ++ s)))) ?_
  simp only [nf0, nf1, nf2, nf3, nf4]
  refine st_mv (.string (str ([45] ++ (([tdg z.natAbs] : List UInt8) ++ s)))) ?_
  simp only [nf0, nf1, nf2, nf3, nf4]
  refine wpList_nil ?_
  show Code.wp _ _ _ _ _
  refine wp_ret ?_
  first | show bodyPost _ _ _ _ _ _ | (simp only [Exit.then, Exit.inBlock]; show bodyPost _ _ _ _ _ _)
  have hE : tdecI n = ([45] ++ (([tdg z.natAbs] : List UInt8) ++ s)) := by unfold tdecI; rw [if_pos (by omega), tdec_last hs (by omega)]; rfl
  exact bodyPost_ret (results_tmp rfl _ _ _) rfl ⟨by rw [hE]; rfl, bel⟩
end Go.Proofs.YtjbmahjfmffnoaaDoor

/- Instructions, rows of such. -/
namespace Go.Proofs.YtjbmahjfmffnoaaDoor
open Go.RowKit Go.WideShapes Go.ChangeShapes
set_option linter.unusedSimpArgs false
set_option linter.unusedVariables false

/-! ### api.Ins -/
abbrev TIns := Int × Int × Int × Int
def eIns : Enc TIns := ⟨4, fun p => [.int .i64 p.1, .int .i64 p.2.1, .int .i64 p.2.2.1, .int .i32 p.2.2.2], fun _ => rfl, fun _ u hu => by simp at hu; rcases hu with rfl | rfl | rfl | rfl <;> rfl⟩
theorem slIns : SlT Tryd.prog 22 35 eIns 32 := slT_of Tryd.underlying22 (z := .agg #[.int .i64 0, .int .i64 0, .int .i64 0, .int .i32 0]) (by kernel_rfl) rfl (by decide) (by omega)
theorem aggIns : AggT Tryd.prog 35 4 := aggT Tryd.underlying35 rfl (by kernel_rfl)
def insAt (l : List TIns) (i : Nat) : TIns := l.getD i (0, 0, 0, 0)
theorem insAt_get {l : List TIns} {i : Nat} (h : i < l.length) : l[i]? = some (insAt l i) := by unfold insAt; simp [h]
theorem insAt_mem {l : List TIns} {i : Nat} (h : i < l.length) : insAt l i ∈ l := by unfold insAt; simp [h]
def okIns (p : TIns) : Prop := (-9223372036854775808 ≤ p.1 ∧ p.1 ≤ 9223372036854775807) ∧ (-9223372036854775808 ≤ p.2.1 ∧ p.2.1 ≤ 9223372036854775807) ∧ (-9223372036854775808 ≤ p.2.2.1 ∧ p.2.2.1 ≤ 9223372036854775807) ∧ (-2147483648 ≤ p.2.2.2 ∧ p.2.2.2 ≤ 2147483647)
theorem undIns : Tryd.prog.underlying 35 = some (.struct (Tryd.prog.fieldsOf 35)) := by rw [Program.fieldsOf, Tryd.underlying35]
theorem eqIIns {d : Nat} (p q : TIns) (W : World) : (Op.equalIn (d + 4) 35 (.agg (eIns.enc p).toArray) (.agg (eIns.enc q).toArray)).run Tryd.prog W = .ok (decide (p = q)) W := by
    refine eqI_struct undIns (by kernel_rfl) (fs := [("Op", 3, 0), ("A", 3, 1), ("B", 3, 2), ("N", 21, 3)]) (by kernel_rfl) ?_
    obtain ⟨a0, a1, a2, a3⟩ := p
    obtain ⟨b0, b1, b2, b3⟩ := q
    rw [eqL_one (v := .int .i64 a0) (u := .int .i64 b0) (b := decide (a0 = b0)) (by decide) (by kernel_rfl) (by rfl) (by rfl) (eqI_int Tryd.underlying3 _ _)]
    rw [eqL_one (v := .int .i64 a1) (u := .int .i64 b1) (b := decide (a1 = b1)) (by decide) (by kernel_rfl) (by rfl) (by rfl) (eqI_int Tryd.underlying3 _ _)]
    rw [eqL_one (v := .int .i64 a2) (u := .int .i64 b2) (b := decide (a2 = b2)) (by decide) (by kernel_rfl) (by rfl) (by rfl) (eqI_int Tryd.underlying3 _ _)]
    rw [eqL_one (v := .int .i32 a3) (u := .int .i32 b3) (b := decide (a3 = b3)) (by decide) (by kernel_rfl) (by rfl) (by rfl) (eqI_int Tryd.underlying21 _ _)]
    rw [eqL_nil]
    by_cases h0 : a0 = b0
    rotate_left
    · rw [if_neg (by simpa using h0)]; congr 1; rw [eq_comm, decide_eq_false_iff_not]; intro e; simp only [Prod.mk.injEq] at e; exact h0 (by first | exact e | exact e.1)
    rw [if_pos (by simpa using h0)]
    by_cases h1 : a1 = b1
    rotate_left
    · rw [if_neg (by simpa using h1)]; congr 1; rw [eq_comm, decide_eq_false_iff_not]; intro e; simp only [Prod.mk.injEq] at e; exact h1 (by first | exact e | exact e.2.1)
    rw [if_pos (by simpa using h1)]
    by_cases h2 : a2 = b2
    rotate_left
    · rw [if_neg (by simpa using h2)]; congr 1; rw [eq_comm, decide_eq_false_iff_not]; intro e; simp only [Prod.mk.injEq] at e; exact h2 (by first | exact e | exact e.2.2.1)
    rw [if_pos (by simpa using h2)]
    by_cases h3 : a3 = b3
    rotate_left
    · rw [if_neg (by simpa using h3)]; congr 1; rw [eq_comm, decide_eq_false_iff_not]; intro e; simp only [Prod.mk.injEq] at e; exact h3 (by first | exact e | exact e.2.2.2)
    rw [if_pos (by simpa using h3)]
    subst h0 h1 h2 h3; simp
theorem eqIns : EqA Tryd.prog 35 eIns (fun _ => True) where
  guard := by kernel_rfl
  eq := fun d p q W _ _ => eqIIns (d := d + 1) p q W
theorem ins_snoc {l : List TIns} {k : Nat} (h : k < l.length) : l.take (k + 1) = l.take k ++ [insAt l k] := by rw [List.take_add_one, insAt_get h]; rfl
theorem ins_ext {l m : List TIns} (hl : l.length = m.length) (h : ∀ k, k < l.length → insAt l k = insAt m k) : l = m := by
  apply List.ext_getElem hl
  intro i h1 h2
  have := h i h1
  have e1 := insAt_get h1
  have e2 := insAt_get h2
  rw [List.getElem?_eq_getElem h1] at e1
  rw [List.getElem?_eq_getElem h2] at e2
  injection e1 with e1; injection e2 with e2
  rw [e1, e2, this]
def rIns : Nat → List Value → Prop
  | 0, cs => ∃ n, cs = [.int .i64 n] ∧ (Lit.int .i64 n).wf = true
  | 1, cs => ∃ n, cs = [.int .i64 n] ∧ (Lit.int .i64 n).wf = true
  | 2, cs => ∃ n, cs = [.int .i64 n] ∧ (Lit.int .i64 n).wf = true
  | 3, cs => ∃ n, cs = [.int .i32 n] ∧ (Lit.int .i32 n).wf = true
  | _, _ => True
theorem flatIns : Flat Tryd.prog 35 (fun cs => ∃ p, cs = eIns.enc p ∧ okIns p) := by
  intro H enc w base spare held fuel cs x hx
  have h3 := flat_struct (P := Tryd.prog) (t := 35) rIns Tryd.underlying35 (by
    intro i f hf
    match i, hf with
    | 0, hf => simp at hf; subst hf; show Flat Tryd.prog 3 (fun cs => ∃ n, cs = [.int .i64 n] ∧ (Lit.int .i64 n).wf = true); exact flat_int Tryd.underlying3
    | 1, hf => simp at hf; subst hf; show Flat Tryd.prog 3 (fun cs => ∃ n, cs = [.int .i64 n] ∧ (Lit.int .i64 n).wf = true); exact flat_int Tryd.underlying3
    | 2, hf => simp at hf; subst hf; show Flat Tryd.prog 3 (fun cs => ∃ n, cs = [.int .i64 n] ∧ (Lit.int .i64 n).wf = true); exact flat_int Tryd.underlying3
    | 3, hf => simp at hf; subst hf; show Flat Tryd.prog 21 (fun cs => ∃ n, cs = [.int .i32 n] ∧ (Lit.int .i32 n).wf = true); exact flat_int Tryd.underlying21
    | k + 4, hf => simp at hf) hx
  obtain ⟨hl, hi⟩ := h3
  have hc : Tryd.prog.cellsOf 35 = 4 := by kernel_rfl
  rw [hc] at hl
  have hu0 : Tryd.prog.cellsOf 3 = 1 := by kernel_rfl
  obtain ⟨x0, h0, w0⟩ := hi 0 _ rfl
  change List.take (Tryd.prog.cellsOf 3) (List.drop 0 cs) = _ at h0
  rw [hu0] at h0
  have hu1 : Tryd.prog.cellsOf 3 = 1 := by kernel_rfl
  obtain ⟨x1, h1, w1⟩ := hi 1 _ rfl
  change List.take (Tryd.prog.cellsOf 3) (List.drop 1 cs) = _ at h1
  rw [hu1] at h1
  have hu2 : Tryd.prog.cellsOf 3 = 1 := by kernel_rfl
  obtain ⟨x2, h2, w2⟩ := hi 2 _ rfl
  change List.take (Tryd.prog.cellsOf 3) (List.drop 2 cs) = _ at h2
  rw [hu2] at h2
  have hu3 : Tryd.prog.cellsOf 21 = 1 := by kernel_rfl
  obtain ⟨x3, h3, w3⟩ := hi 3 _ rfl
  change List.take (Tryd.prog.cellsOf 21) (List.drop 3 cs) = _ at h3
  rw [hu3] at h3
  match cs, hl with
  | [c0, c1, c2, c3], _ =>
    simp only [List.drop_succ_cons, List.drop_zero, List.take_succ_cons, List.take_zero, List.cons.injEq, and_true] at h0
    subst h0
    simp only [List.drop_succ_cons, List.drop_zero, List.take_succ_cons, List.take_zero, List.cons.injEq, and_true] at h1
    subst h1
    simp only [List.drop_succ_cons, List.drop_zero, List.take_succ_cons, List.take_zero, List.cons.injEq, and_true] at h2
    subst h2
    simp only [List.drop_succ_cons, List.drop_zero, List.take_succ_cons, List.take_zero, List.cons.injEq, and_true] at h3
    subst h3
    exact ⟨(x0, x1, x2, x3), rfl, I64_of' w0, I64_of' w1, I64_of' w2, I32_of w3⟩
theorem openInss {H : Type} {enc : TypeId × Value → H} {w : World} {r : Reach} {b0 base : Nat} {spare : Nat → Bool} {held : Bool} {v : Value} {d : DataW H} {ps : List MemPlace}
    (hval : Value.okWide Tryd.prog w r b0 22 v) (h : DataW.Trod enc Tryd.prog w base spare held 22 v d ps) :
    ∃ (A : Option Addr) (xs : List TIns) (cap : Nat), v = .slice A xs.length cap ∧ xs.length ≤ cap ∧ (A = none → cap = 0) ∧ (∀ x ∈ xs, okIns x) ∧ Reads w A (eIns.all xs) := by
  obtain ⟨A, len, cap, rfl, hs⟩ := open_slice_of Tryd.underlying22 flatIns hval h
  obtain ⟨xs, rfl, ho, hr⟩ := slice_list eIns _ (by kernel_rfl) (by decide) hs
  exact ⟨A, xs, cap, rfl, hs.1, hs.2.2.1, ho, hr⟩
end Go.Proofs.YtjbmahjfmffnoaaDoor

/- Programs' texts: the instructions' names, what each has, what may be, a program's text. -/
namespace Go.Proofs.YtjbmahjfmffnoaaDoor
open Go.RowKit Go.WideShapes Go.ChangeShapes

def nmPL : List (List UInt8) := [[], [115, 101, 116], [97, 100, 100], [115, 117, 98], [106, 117, 109, 112], [106, 110, 122], [121, 105, 101, 108, 100], [115, 112, 97, 119, 110], [106, 111, 105, 110], [108, 111, 99, 107], [117, 110, 108, 111, 99, 107], [115, 108, 101, 101, 112], [109, 97, 115, 107], [111, 117, 116], [101, 120, 105, 116]]
def knP (k : Int) : Prop := 1 ≤ k ∧ k ≤ 14
def nmP (k : Int) : List UInt8 := if 1 ≤ k ∧ k ≤ 14 then nmPL.getD k.toNat [] else []
theorem nmPL_all : ∀ j : Fin 15, 1 ≤ j.val → (nmPL.getD j.val []) ≠ [] ∧ (nmPL.getD j.val []).length ≤ 6 ∧ ∀ c ∈ nmPL.getD j.val [], 97 ≤ c.toNat := by decide
theorem nmP_unknown {k : Int} (h : ¬ knP k) : nmP k = [] := if_neg h
theorem nmP_eq {k : Int} (h : knP k) : nmP k = nmPL.getD k.toNat [] := if_pos h
theorem nmP_known {k : Int} (h : knP k) : nmP k ≠ [] ∧ (nmP k).length ≤ 6 ∧ ∀ c ∈ nmP k, 97 ≤ c.toNat := by
  rw [nmP_eq h]
  unfold knP at h
  exact nmPL_all ⟨k.toNat, by omega⟩ (by show 1 ≤ k.toNat; omega)
theorem nmP_len (k : Int) : (nmP k).length ≤ 6 := by
  by_cases h : knP k
  · exact (nmP_known h).2.1
  · rw [nmP_unknown h]; exact Nat.zero_le _
theorem nmPL_len : nmPL.length = 15 := rfl
def allP : List UInt8 := [115, 101, 116, 32, 32, 32, 97, 100, 100, 32, 32, 32, 115, 117, 98, 32, 32, 32, 106, 117, 109, 112, 32, 32, 106, 110, 122, 32, 32, 32, 121, 105, 101, 108, 100, 32, 115, 112, 97, 119, 110, 32, 106, 111, 105, 110, 32, 32, 108, 111, 99, 107, 32, 32, 117, 110, 108, 111, 99, 107, 115, 108, 101, 101, 112, 32, 109, 97, 115, 107, 32, 32, 111, 117, 116, 32, 32, 32, 101, 120, 105, 116, 32, 32]
theorem allP_cut : ∀ j : Fin 15, 1 ≤ j.val → (allP.take (6 * j.val)).drop (6 * j.val - 6) = nmPL.getD j.val [] ++ List.replicate (6 - (nmPL.getD j.val []).length) 32 := by decide
/-- A name and so many blanks. -/
def sp (m j : Nat) : List UInt8 := nmP (m : Int) ++ List.replicate j 32
theorem sp_start {m : Nat} (h : 1 ≤ m ∧ m ≤ 14) : (allP.take (6 * m)).drop (6 * m - 6) = sp m (6 - (nmP (m : Int)).length) := by
  have hk : knP (m : Int) := by unfold knP; omega
  rw [sp, nmP_eq hk]
  exact allP_cut ⟨m, by omega⟩ h.1
theorem sp_len (m j : Nat) : (sp m j).length = (nmP (m : Int)).length + j := by simp [sp]
theorem sp_last {m j : Nat} (h : 0 < j) : chr (sp m j) ((sp m j).length - 1) = 32 := by
  have hl := sp_len m j
  unfold chr
  rw [List.getD_eq_getElem?_getD, sp, List.getElem?_append_right (by rw [← sp]; omega), List.getElem?_replicate, if_pos (by rw [← sp]; omega)]
  rfl
theorem sp_end {m : Nat} (h : knP (m : Int)) : chr (sp m 0) ((sp m 0).length - 1) ≠ 32 := by
  have hn := nmP_known h
  have e : sp m 0 = nmP (m : Int) := by simp [sp]
  rw [e]
  have hp : 0 < (nmP (m : Int)).length := List.length_pos_iff.2 hn.1
  unfold chr
  rw [List.getD_eq_getElem?_getD, List.getElem?_eq_getElem (by omega)]
  have := hn.2.2 _ (List.getElem_mem (l := nmP (m : Int)) (n := (nmP (m : Int)).length - 1) (by omega))
  rw [Option.getD_some]
  omega
theorem sp_take {m j : Nat} (h : 0 < j) : (sp m j).take ((sp m j).length - 1) = sp m (j - 1) := by
  have hl := sp_len m j
  rw [hl]
  unfold sp
  rw [List.take_append, List.take_of_length_le (by omega), List.take_replicate]
  congr 2
  omega

/-! ### what an instruction has -/
def shA (o : Int) : Bool := !decide (o = 4 ∨ o = 6)
def shB (o : Int) : Bool := decide (o = 2 ∨ o = 3 ∨ o = 8)
def shN (o : Int) : Bool := decide (o = 1 ∨ o = 4 ∨ o = 5 ∨ o = 7 ∨ o = 9 ∨ o = 10 ∨ o = 12)
/-- .. as letters. -/
def shpL : List (List UInt8) := [[], [65, 78], [65, 66], [65, 66], [78], [65, 78], [], [65, 78], [65, 66], [65, 78], [65, 78], [65], [65, 78], [65], [65]]
def shp (o : Int) : List UInt8 := if 1 ≤ o ∧ o ≤ 14 then shpL.getD o.toNat [] else [65]
theorem shpL_len : shpL.length = 15 := rfl
theorem shp_all : ∀ j : Fin 15, 1 ≤ j.val → decide (65 ∈ shpL.getD j.val []) = shA (j.val : Int) ∧ decide (66 ∈ shpL.getD j.val []) = shB (j.val : Int) ∧ decide (78 ∈ shpL.getD j.val []) = shN (j.val : Int) ∧ (shpL.getD j.val []).length ≤ 2 := by decide
theorem shp_has (o : Int) : decide (65 ∈ shp o) = shA o ∧ decide (66 ∈ shp o) = shB o ∧ decide (78 ∈ shp o) = shN o ∧ (shp o).length ≤ 2 := by
  unfold shp
  by_cases h : 1 ≤ o ∧ o ≤ 14
  · rw [if_pos h]
    have := shp_all ⟨o.toNat, by omega⟩ (by show 1 ≤ o.toNat; omega)
    rw [show ((⟨o.toNat, by omega⟩ : Fin 15).val : Int) = o from by show ((o.toNat : Nat) : Int) = o; omega] at this
    exact this
  · rw [if_neg h]
    refine ⟨?_, ?_, ?_, by decide⟩
    · unfold shA; rw [decide_eq_true (by decide), decide_eq_false (by omega)]; rfl
    · unfold shB; rw [decide_eq_false (by decide), decide_eq_false (by omega)]
    · unfold shN; rw [decide_eq_false (by decide), decide_eq_false (by omega)]

/-! ### what may be -/
def regB (had : Bool) (r : Int) : Bool := decide (r = 0 ∨ (had = true ∧ 0 < r ∧ r < 4))
def numE (o N n : Int) : Int := if o = 1 then 0 else if o = 4 ∨ o = 5 then (if N < 0 ∨ n ≤ N then 32 else 0) else if N < 0 ∨ (if o = 7 ∨ o = 12 ∨ o = 9 ∨ o = 10 then (15 : Int) else 0) < N then 26 else 0
def insE (x : TIns) (n : Int) : Int := if 1 ≤ x.1 ∧ x.1 ≤ 14 then (if regB (shA x.1) x.2.1 = true ∧ regB (shB x.1) x.2.2.1 = true then numE x.1 x.2.2.2 n else 31) else 30
/-- The first instruction that is wrong, from i on. -/
def firstE (n : Int) : List TIns → Nat → Option (Int × Nat)
  | [], _ => none
  | x :: r, i => if insE x n = 0 then firstE n r (i + 1) else some (insE x n, i)
def lastOp (xs : List TIns) : Int := (xs.getLastD (0, 0, 0, 0)).1
def chk (pr : Int) (xs : List TIns) : Int × Int :=
  if pr < 0 ∨ 3 < pr then (26, 0) else if xs.length = 0 ∨ 64 < xs.length then (33, 0)
  else match firstE (xs.length : Int) xs 0 with
    | some (e, i) => (e, (i : Int))
    | none => if lastOp xs = 4 ∨ lastOp xs = 14 then (0, 0) else (32, (xs.length : Int) - 1)
theorem firstE_step {n : Int} {xs : List TIns} {k : Nat} (h : k < xs.length) : firstE n (xs.drop k) k = if insE (insAt xs k) n = 0 then firstE n (xs.drop (k + 1)) (k + 1) else some (insE (insAt xs k) n, k) := by
  have h1 := insAt_get h
  rw [List.drop_eq_getElem_cons h, firstE]
  rw [List.getElem?_eq_getElem h] at h1
  injection h1 with h1
  rw [h1]
theorem last_at {xs : List TIns} (h : 0 < xs.length) : lastOp xs = (insAt xs (xs.length - 1)).1 := by
  unfold lastOp insAt
  rw [List.getLastD_eq_getLast?, List.getLast?_eq_getElem?, List.getD_eq_getElem?_getD]
theorem chk_size {pr : Int} {xs : List TIns} (h : pr < 0 ∨ 3 < pr) : chk pr xs = (26, 0) := if_pos h
theorem chk_len {pr : Int} {xs : List TIns} (h : ¬ (pr < 0 ∨ 3 < pr)) (h2 : xs.length = 0 ∨ 64 < xs.length) : chk pr xs = (33, 0) := by unfold chk; rw [if_neg h, if_pos h2]
theorem chk_bad {pr : Int} {xs : List TIns} {k : Nat} (h : ¬ (pr < 0 ∨ 3 < pr)) (h2 : ¬ (xs.length = 0 ∨ 64 < xs.length)) (hF : firstE (xs.length : Int) xs 0 = firstE (xs.length : Int) (xs.drop k) k) (hk : k < xs.length) (he : insE (insAt xs k) (xs.length : Int) ≠ 0) : chk pr xs = (insE (insAt xs k) (xs.length : Int), (k : Int)) := by
  unfold chk; rw [if_neg h, if_neg h2, hF, firstE_step hk, if_neg he]
theorem chk_last {pr : Int} {xs : List TIns} (h : ¬ (pr < 0 ∨ 3 < pr)) (h2 : ¬ (xs.length = 0 ∨ 64 < xs.length)) (hF : firstE (xs.length : Int) xs 0 = firstE (xs.length : Int) (xs.drop xs.length) xs.length) : chk pr xs = if (insAt xs (xs.length - 1)).1 = 4 ∨ (insAt xs (xs.length - 1)).1 = 14 then (0, 0) else (32, (xs.length : Int) - 1) := by
  unfold chk; rw [if_neg h, if_neg h2, hF, List.drop_length, firstE, last_at (by omega)]

/-! ### a program's text -/
def prI (x : TIns) : List UInt8 := nmP x.1 ++ ((if shA x.1 = true then 32 :: 114 :: tdecI x.2.1 else []) ++ ((if shB x.1 = true then 32 :: 114 :: tdecI x.2.2.1 else []) ++ (if shN x.1 = true then 32 :: tdecI x.2.2.2 else [])))
def wds (x : TIns) : List (List UInt8) := nmP x.1 :: ((if shA x.1 = true then [114 :: tdecI x.2.1] else []) ++ ((if shB x.1 = true then [114 :: tdecI x.2.2.1] else []) ++ (if shN x.1 = true then [tdecI x.2.2.2] else [])))
theorem wds_join (x : TIns) : Lib.join (wds x) [32] = prI x := by
  unfold wds prI
  rw [Lib.join_cons]
  unfold Lib.joinTail
  cases shA x.1 <;> cases shB x.1 <;> cases shN x.1 <;> simp
def hdP (pr : Int) : List UInt8 := [112, 114, 111, 103, 32] ++ (tdecI pr ++ [10])
def prP (pr : Int) (xs : List TIns) : List UInt8 := hdP pr ++ xs.flatMap fun x => 9 :: (prI x ++ [10])
theorem prP_take {pr : Int} {xs : List TIns} {k : Nat} (h : k < xs.length) : prP pr (xs.take (k + 1)) = prP pr (xs.take k) ++ (9 :: (prI (insAt xs k) ++ [10])) := by
  unfold prP
  rw [List.take_add_one, insAt_get h]
  simp
theorem prI_len {x : TIns} (h : okIns x) : (prI x).length ≤ 80 := by
  have h0 := nmP_len x.1
  have h1 := tdecI_len h.2.1
  have h2 := tdecI_len h.2.2.1
  have h3 := tdecI_len (n := x.2.2.2) (by have := h.2.2.2; omega)
  unfold prI
  cases shA x.1 <;> cases shB x.1 <;> cases shN x.1 <;> simp <;> omega
theorem prP_len {pr : Int} {xs : List TIns} (hp : -9223372036854775808 ≤ pr ∧ pr ≤ 9223372036854775807) (h : ∀ x ∈ xs, okIns x) : (prP pr xs).length ≤ 30 + 82 * xs.length := by
  have h1 := tdecI_len hp
  have h2 : (xs.flatMap fun x => 9 :: (prI x ++ [10])).length ≤ 82 * xs.length := by
    induction xs with
    | nil => simp
    | cons x r ih =>
      have ha := prI_len (h x List.mem_cons_self)
      have hb := ih fun y hy => h y (List.mem_cons_of_mem _ hy)
      simp only [List.flatMap_cons, List.length_append, List.length_cons, List.length_nil]
      omega
  unfold prP hdP
  simp only [List.length_append, List.length_cons, List.length_nil]
  omega
end Go.Proofs.YtjbmahjfmffnoaaDoor

/- What the library's CutPrefix, Split and Join do at the texts that the program hands them (the kit's laid contracts). -/
namespace Go.Proofs.YtjbmahjfmffnoaaDoor
open Go.RowKit Go.WideShapes Go.ChangeShapes

/-- A text without its first '-'. -/
def cutD (l : List UInt8) : List UInt8 := if l.head? = some 45 then l.drop 1 else l
theorem pre45 (l : List UInt8) : Lib.hasPrefix l [45] = decide (l.head? = some 45) := by
  cases l with
  | nil => rfl
  | cons x r =>
    show ((45 : UInt8) == x && List.isPrefixOf [] r) = _
    rw [List.isPrefixOf_nil_left, Bool.and_true, Bool.eq_iff_iff, beq_iff_eq, decide_eq_true_iff]
    simp [eq_comm]
theorem cut45_calls (l : List UInt8) (w : World) : Calls Tryd.prog 34 #[.string (str l), .string ⟨#[45]⟩] w fun e w' => e = .returned (.tuple #[.string (str (cutD l)), .bool (decide (l.head? = some 45))]) ∧ Below w.heap.size w w' := by
  refine (Tryd.strings_CutPrefix (str l) ⟨#[45]⟩ w).mono ?_
  rintro e w' ⟨rfl, rfl⟩
  refine ⟨?_, Below.refl _ _⟩
  rw [show (str l).data.toList = l from rfl, show (⟨#[45]⟩ : ByteArray).data.toList = [45] from rfl, pre45]
  have : Lib.trimPrefix l [45] = cutD l := by
    unfold Lib.trimPrefix cutD
    rw [pre45]
    by_cases h : l.head? = some 45 <;> simp [h]
  rw [this]
  rfl

theorem split_hit {c : UInt8} {l : List UInt8} {o : Nat} (h : Lib.indexByte l c = (o : Int)) : l = l.take o ++ c :: l.drop (o + 1) ∧ c ∉ l.take o := by
  obtain ⟨h1, h2⟩ := Lib.indexByte_some h
  obtain ⟨ho, he⟩ := List.getElem?_eq_some_iff.1 h1
  refine ⟨?_, ?_⟩
  · conv => lhs; rw [← List.take_append_drop o l]
    rw [List.drop_eq_getElem_cons ho, he]
  · intro hm
    obtain ⟨k, hk, hek⟩ := List.getElem_of_mem hm
    rw [List.length_take] at hk
    refine h2 k (by omega) ?_
    rw [List.getElem?_eq_getElem (by omega)]
    rw [List.getElem_take] at hek
    exact congrArg some hek
theorem splitB_pieces {c : UInt8} : ∀ (k : Nat) (l : List UInt8), l.count c = k → Lib.splitB ⟨#[c]⟩ 0 k (str l) = (pieces c l).map str
  | 0, l, h => by
    rw [pieces_one (List.count_eq_zero.1 h)]
    rfl
  | k + 1, l, h => by
    have hi : Lib.indexB (str l) ⟨#[c]⟩ = Lib.indexByte l c := Lib.index_one l c
    have hge := Lib.indexByte_ge l c
    have hne : Lib.indexByte l c ≠ -1 := fun e => by
      have h0 : c ∈ l := List.count_pos_iff.1 (by omega)
      obtain ⟨j, hj, hje⟩ := List.getElem_of_mem h0
      exact Lib.indexByte_none e j (by rw [List.getElem?_eq_getElem hj, hje])
    obtain ⟨o, ho⟩ : ∃ o : Nat, Lib.indexByte l c = (o : Int) := ⟨(Lib.indexByte l c).toNat, by omega⟩
    obtain ⟨e, hn⟩ := split_hit ho
    have hlt : o < l.length := by
      have := congrArg List.length e
      rw [List.length_append, List.length_cons, List.length_take, List.length_drop] at this
      omega
    have hc : (l.drop (o + 1)).count c = k := by
      have := congrArg (List.count c) e
      rw [List.count_append, List.count_cons_self, List.count_eq_zero.2 hn, h] at this
      omega
    have hs1 : (str l).extract 0 (o + 0) = str (l.take o) := by rw [str_extract]; simp
    have hs2 : (str l).extract (o + 1) (str l).size = str (l.drop (o + 1)) := by
      rw [str_extract, show (str l).size = l.length from rfl, List.take_length]
    rw [Lib.splitB_hit _ _ _ _ o (by rw [hi, ho]), show (⟨#[c]⟩ : ByteArray).size = 1 from rfl, hs1, hs2, splitB_pieces k _ hc]
    conv => rhs; rw [e, pieces_app _ hn]
    rfl
theorem slStr : SlT Tryd.prog 39 9 eStr 16 := slT_of Tryd.underlying39 (z := .string ⟨#[]⟩) (by kernel_rfl) rfl Nat.one_pos (by omega)
theorem ev_run_gen {o : Oper} {a : Act} (x0 x1 x2 x3 : Operand) {ts : Array TypeId} (ho : o.op = .call { callee := .value (.func 40), args := #[x0, x1, x2, x3], argTypes := ts }) {v0 : Value} (h0 : a.eval x0 = v0) {v1 : Value} (h1 : a.eval x1 = v1) {v2 : Value} (h2 : a.eval x2 = v2) {v3 : Value} (h3 : a.eval x3 = v3) (W : World) : (execOp a.eval o).run Tryd.prog W = .ok (.enter 40 #[v0, v1, v2, v3]) W := by
  unfold execOp
  simp only [ho]
  subst h0 h1 h2 h3
  go_simp
attribute [local irreducible] Go.wpList Go.Code.wp
set_option maxRecDepth 100000 in
set_option maxHeartbeats 1000000 in
/-- strings.Split at one byte. -/
theorem split_calls (l : List UInt8) (c : UInt8) (hl : l.length ≤ 1000000) (w : World) : Calls Tryd.prog 32 #[.string (str l), .string ⟨#[c]⟩] w fun e w' => ∃ v, e = .returned v ∧ OwnR w' w.heap.size 9 eStr v ((pieces c l).map str) ∧ Below w.heap.size w w' := by
  have hcB : Lib.countB (str l) ⟨#[c]⟩ = l.count c := Lib.count_one c l
  have hcl : l.count c ≤ l.length := List.count_le_length
  have core := Any.strings_genSplit_core Tryd.lays221 (by kernel_rfl) (str l) ⟨#[c]⟩ 0 (-1) (l.count c + 1) w (by show l.length < _; omega) (Nat.le_refl _) (Nat.zero_le _)
    (fun x cs _ => (Tryd.strings_Index_one x c _).mono fun e w' ⟨h1, h2⟩ => ⟨by rw [h1]; exact congrArg (fun z : Int => Ending.returned (.int .i64 z)) (Lib.index_one x.data.toList c).symm, h2⟩)
    ((Tryd.strings_Count_one (str l) c w).mono fun e w' ⟨h1, h2⟩ => ⟨by rw [h1, hcB]; rfl, h2⟩) (by decide) (by decide) (by rw [if_pos (by decide), hcB, show (str l).size = l.length from rfl]; omega)
  rw [Nat.add_sub_cancel, splitB_pieces _ l rfl] at core
  have core2 : Calls Tryd.prog 40 #[.string (str l), .string ⟨#[c]⟩, .int .i64 0, .int .i64 (-1)] w fun e w' => ∃ v, e = .returned v ∧ v = .slice (some ⟨w.heap.size, 0, none⟩) ((pieces c l).map str).length (l.count c + 1) ∧ w' = w.alloc (.cells (Lib.cellsOf ((pieces c l).map str) (l.count c + 1)) 9) := core.mono fun e w' ⟨h1, h2⟩ => ⟨_, h1, rfl, h2⟩
  go_enter Tryd.func32, Tryd.ntmps32
  refine wp_seq ?_
  refine wp_region_lit ?_
  refine st_mv (.slice none 0 0) ?_
  simp only [nf0, nf1, nf2, nf3, nf4]
  refine wpList_nil ?_
  show Code.wp _ _ _ _ _
  refine wp_seq ?_
  refine wp_region_lit ?_
  refine st_mv (.string (str l)) ?_
  simp only [nf0, nf1, nf2, nf3, nf4]
  refine st_mv (.string ⟨#[c]⟩) ?_
  simp only [nf0, nf1, nf2, nf3, nf4]
  refine st_call (by rfl) (ev_run_gen (.tmp 5) (.tmp 6) (.const (.int .i64 0)) (.const (.int .i64 (-1))) rfl rfl rfl rfl rfl _) core2 ?_
  rintro _ w1 ⟨rfl, rfl⟩
  simp only [nf0, nf1, nf2, nf3, nf4]
  refine st_mv (.slice (some ⟨w.heap.size, 0, none⟩) ((pieces c l).map str).length (l.count c + 1)) ?_
  simp only [nf0, nf1, nf2, nf3, nf4]
  refine wpList_nil ?_
  show Code.wp _ _ _ _ _
  refine wp_ret ?_
  first | show bodyPost _ _ _ _ _ _ | (simp only [Exit.then, Exit.inBlock]; show bodyPost _ _ _ _ _ _)
  refine bodyPost_ret (results_tmp rfl _ _ _) rfl ⟨_, rfl, ?_, bl_alloc (Below.refl _ _) _⟩
  have hlen : ((pieces c l).map str).length = l.count c + 1 := by rw [List.length_map, pieces_len]
  have e2 : Lib.cellsOf ((pieces c l).map str) (l.count c + 1) = (((pieces c l).map str).map Value.string).toArray := by rw [← hlen]; exact Lib.cellsOf_full _
  rw [e2]
  have hO : OwnR (w.alloc (.cells (((pieces c l).map str).map Value.string).toArray 9)) w.heap.size 9 eStr (.slice (some ⟨w.heap.size, 0, none⟩) ((pieces c l).map str).length ((pieces c l).map str).length) ((pieces c l).map str) :=
    OwnR.built (Blk.new _ _ _ _ rfl) (by rw [eStr_all]) (Nat.le_refl _) (by rw [hlen]; omega) (by simp [eStr])
  rw [hlen] at hO ⊢
  exact hO
/-- strings.Join. -/
theorem join_calls {w : World} {base : Nat} {v : Value} {xs : List (List UInt8)} (sep : List UInt8) (h : OwnR w base 9 eStr v (xs.map str)) (h1 : xs.length ≤ 140737488355328) (h2 : (Lib.join xs sep).length ≤ 140737488355328) :
    Calls Tryd.prog 37 #[v, .string (str sep)] w fun e w' => e = .returned (.string (str (Lib.join xs sep))) ∧ Below w.heap.size w w' := by
  have hr := h.reads
  rcases h.2 with ⟨rfl, h0⟩ | ⟨g, cap, cur, rfl, hb, hg, h3, h4, h5⟩
  · obtain rfl : xs = [] := by simpa using h0
    refine (Tryd.strings_Join_none none 0 (str sep) w).mono ?_
    rintro e w' ⟨rfl, rfl⟩
    exact ⟨rfl, Below.refl _ _⟩
  · obtain ⟨A, cap', e1, e2, _, _, hr⟩ := hr
    injection e1 with e1 _ e3
    subst e1 e3
    have hd : (xs.map str).map (·.data.toList) = xs := by rw [List.map_map, show ((fun x : ByteArray => x.data.toList) ∘ str) = id from funext str_data, List.map_id]
    have := Tryd.strings_Join g 0 cap (xs.map str) (str sep) w (fun j x hj => by
      obtain ⟨b', off', e', hc⟩ := hr j (.string x) (by rw [eStr_all, List.getElem?_map, hj]; rfl)
      injection e' with e'
      injection e' with h1 h2
      subst h1 h2
      exact hc) (Array.getElem?_eq_some_iff.1 hg).1 (by simpa using h1) e2 (by rw [hd, str_data]; exact h2)
    rw [hd, str_data] at this
    exact this

/-! ### rows of texts -/
def eTx : Enc (List UInt8) := ⟨1, fun l => [.string (str l)], fun _ => rfl, fun _ u hu => by simp at hu; subst hu; rfl⟩
theorem eTx_all (xs : List (List UInt8)) : eTx.all xs = eStr.all (xs.map str) := by
  rw [eStr_all, List.map_map]
  induction xs with
  | nil => rfl
  | cons x r ih =>
    show [Value.string (str x)] ++ eTx.all r = _
    rw [ih]
    rfl
theorem own_tx {w : World} {base : Nat} {e : TypeId} {v : Value} {xs : List (List UInt8)} : OwnR w base e eStr v (xs.map str) ↔ OwnR w base e eTx v xs := by
  unfold OwnR
  rw [eTx_all, List.length_map]
  exact Iff.rfl
theorem slTx : SlT Tryd.prog 39 9 eTx 16 := slT_of Tryd.underlying39 (z := .string ⟨#[]⟩) (by kernel_rfl) rfl Nat.one_pos (by omega)
def tx (xs : List (List UInt8)) (i : Nat) : List UInt8 := xs.getD i []
theorem tx_get {xs : List (List UInt8)} {i : Nat} (h : i < xs.length) : xs[i]? = some (tx xs i) := by unfold tx; simp [h]
theorem Reads.txAt {w : World} {b off : Nat} {xs : List (List UInt8)} (h : Reads w (some ⟨b, off, none⟩) (eTx.all xs)) (i : Nat) (hi : i < xs.length) : w.cell? ⟨b, off + i * 1, none⟩ = some (.string (str (tx xs i))) := by
  rw [eTx_all, eStr_all, List.map_map] at h
  obtain ⟨b', off', e, hc⟩ := h i (.string (str (tx xs i))) (by rw [List.getElem?_map, tx_get hi]; rfl)
  injection e with e
  injection e with e1 e2
  subst e1 e2
  rw [Nat.mul_one]
  exact hc
theorem splits_calls (l : List UInt8) (c : UInt8) (hl : l.length ≤ 1000000) (w : World) : Calls Tryd.prog 32 #[.string (str l), .string ⟨#[c]⟩] w fun e w' => ∃ v, e = .returned v ∧ OwnR w' w.heap.size 9 eTx v (pieces c l) ∧ Below w.heap.size w w' :=
  (split_calls l c hl w).mono fun e w' ⟨v, h1, h2, h3⟩ => ⟨v, h1, own_tx.1 h2, h3⟩
theorem joins_calls {w : World} {base : Nat} {v : Value} {xs : List (List UInt8)} (sep : List UInt8) (h : OwnR w base 9 eTx v xs) (h1 : xs.length ≤ 140737488355328) (h2 : (Lib.join xs sep).length ≤ 140737488355328) :
    Calls Tryd.prog 37 #[v, .string (str sep)] w fun e w' => e = .returned (.string (str (Lib.join xs sep))) ∧ Below w.heap.size w w' := join_calls sep (own_tx.2 h) h1 h2
/-- The first place of a text in a row. -/
def idxT (xs : List (List UInt8)) (x : List UInt8) : Int := if x ∈ xs then (xs.idxOf x : Int) else -1
theorem idxT_yes {xs : List (List UInt8)} {x : List UInt8} {k : Nat} (hk : k < xs.length) (h : ∀ j, j < k → tx xs j ≠ x) (he : tx xs k = x) : idxT xs x = (k : Int) := by
  have hg := tx_get hk
  have hx : x ∈ xs := by rw [← he]; exact List.mem_of_getElem? hg
  have hi := List.idxOf_lt_length_iff.2 hx
  have e : xs.idxOf x = k := by
    rcases Nat.lt_trichotomy (xs.idxOf x) k with g | g | g
    · exfalso
      refine h _ g ?_
      have := tx_get hi
      rw [List.getElem?_eq_getElem hi, List.getElem_idxOf hi] at this
      injection this with this
      exact this.symm
    · exact g
    · exfalso
      have := List.not_of_lt_findIdx (p := (· == x)) (xs := xs) (i := k) g
      rw [List.getElem?_eq_getElem hk] at hg
      injection hg with hg
      rw [hg, he] at this
      simp at this
  unfold idxT
  rw [if_pos hx, e]
theorem idxT_no {xs : List (List UInt8)} {x : List UInt8} (h : ∀ j, j < xs.length → tx xs j ≠ x) : idxT xs x = -1 := by
  unfold idxT
  rw [if_neg]
  intro hx
  obtain ⟨j, hj, e⟩ := List.getElem_of_mem hx
  refine h j hj ?_
  have := tx_get hj
  rw [List.getElem?_eq_getElem hj] at this
  injection this with this
  rw [← this, e]
/-! ### xs[p:] -/
def cutA (A : Option Addr) (cap p : Nat) : Option Addr := if cap = p then A else A.map (fun a => a.add p)
theorem Reads.cutA {w : World} {A : Option Addr} {cap p : Nat} {xs : List (List UInt8)} (h : Reads w A (eTx.all xs)) (hc : xs.length ≤ cap) : Reads w (cutA A cap p) (eTx.all (xs.drop p)) := by
  rw [eTx_all, eStr_all, List.map_map] at h ⊢
  unfold Proofs.YtjbmahjfmffnoaaDoor.cutA
  split
  · have : xs.drop p = [] := List.drop_eq_nil_of_le (by omega)
    rw [this]; exact Reads.nil _ _
  · rw [List.map_drop]
    intro j u hj
    rw [List.getElem?_drop] at hj
    obtain ⟨b, off, rfl, hcell⟩ := h _ u hj
    exact ⟨b, off + p, by rw [Option.map_some, add_none], by rw [← hcell, Nat.add_assoc]⟩
section
variable {P : Program} {o : Oper} {a : Act} (x y : Operand) {t e : TypeId}
theorem run_cutlo (ho : o.op = .slice t x (some y) none none) (ht : P.underlying t = some (.slice e)) (hs : ∃ i, P.info? e = some i ∧ i.size = 1) {α : Type} {xs : List α} {A : Option Addr} {c p : Nat} {X : Int} (hx : a.eval x = .slice A xs.length c) (hy : a.eval y = .int .i64 X) (hX : X = (p : Int)) (hp : p ≤ xs.length) (hc : xs.length ≤ c) (W : World) :
    (execOp a.eval o).run P W = .ok (.value (.slice (cutA A c p) (xs.drop p).length (c - p))) W := by
  subst hX
  obtain ⟨i, hi, h1⟩ := hs
  have hel : P.elem t = e := by simp [Program.elem, ht]
  have he : P.underlying t = some (.slice (P.elem t)) := by rw [hel]; exact ht
  have r1 := run_sliceAt_slice (P := P) W t (.slice A xs.length c) (some (.int .i64 (p : Int))) none none he
  have h2 : ¬ ((p : Int) > (xs.length : Int)) := by omega
  have hb : (Instr.sliceBounds true xs.length c (some (.int .i64 (p : Int))) none none).run P W = .ok (p, xs.length, c) W := by
    simp [Instr.sliceBounds, Instr.sliceBound, asIntOf, hp]
  unfold execOp; simp only [ho]; generalize a.eval = ρ at *
  simp only [Option.map_none, Option.map_some, hx, hy, Sem.run_bind, r1, Instr.slice, run_underlying ht, Result.andThen_ok, hb]
  simp [sizeOf, typeInfo, hi, h1, cutA]
end
theorem cutA_one {b o c : Nat} (h : c ≠ 1) : cutA (some ⟨b, o, none⟩) c 1 = some ⟨b, o + 1, none⟩ := by
  unfold Proofs.YtjbmahjfmffnoaaDoor.cutA
  rw [if_neg h, Option.map_some, add_none]
theorem rd_cut {w : World} {base : Nat} {e : TypeId} {b o c : Nat} {xs : List (List UInt8)} (h : OwnR w base e eTx (.slice (some ⟨b, o, none⟩) xs.length c) xs) : Reads w (some ⟨b, o + 1, none⟩) (eTx.all (xs.drop 1)) := by
  have R := h.rdE
  rw [eTx_all, eStr_all, List.map_map] at R ⊢
  rw [List.map_drop]
  intro j u hj
  rw [List.getElem?_drop] at hj
  obtain ⟨b', o', e1, hcell⟩ := R _ u hj
  injection e1 with e1
  injection e1 with e2 e3
  subst e2 e3
  exact ⟨b, o + 1, rfl, by rw [← hcell, Nat.add_assoc]⟩
end Go.Proofs.YtjbmahjfmffnoaaDoor

/- The instructions' names, what each has, which registers may be. -/
namespace Go.Proofs.YtjbmahjfmffnoaaDoor
open Go.RowKit Go.WideShapes Go.ChangeShapes
set_option linter.unusedSimpArgs false
set_option linter.unusedVariables false

theorem b_zero_56 : ZeroOf Tryd.prog 56 #[.bool false, .bool false, .bool false] := zeroOf (z := .agg #[.bool false, .bool false, .bool false]) (by kernel_rfl) rfl
theorem aggShp : AggT Tryd.prog 56 3 := aggT Tryd.underlying56 rfl (by kernel_rfl)
theorem aggPrg : AggT Tryd.prog 24 2 := aggT Tryd.underlying24 rfl (by kernel_rfl)
def badB (had : Bool) (r : Int) : Bool := decide (r ≠ 0 ∧ (had = false ∨ r < 0 ∨ 3 < r))
theorem badB_not (had : Bool) (r : Int) : badB had r = !regB had r := by
  unfold badB regB
  rw [← decide_not, decide_eq_decide]
  cases had <;> simp <;> omega
theorem shp_eq {k : Int} (h : 1 ≤ k ∧ k ≤ 14) : shp k = shpL.getD k.toNat [] := if_pos h
theorem shp_un {k : Int} (h : ¬ (1 ≤ k ∧ k ≤ 14)) : shp k = [65] := if_neg h
theorem mem_chr {l : List UInt8} {c : UInt8} {i : Nat} (hi : i < l.length) (h : chr l i = (c.toNat : Int)) : c ∈ l := by
  have e : chr l i = (l[i].toNat : Int) := by unfold chr; rw [List.getD_eq_getElem?_getD, List.getElem?_eq_getElem hi]; rfl
  rw [e] at h
  have : l[i] = c := UInt8.toNat_inj.1 (by omega)
  rw [← this]; exact List.getElem_mem hi
theorem not_mem_chr {l : List UInt8} {c : UInt8} (h : ∀ j, j < l.length → chr l j ≠ (c.toNat : Int)) : c ∉ l := by
  intro hm
  obtain ⟨j, hj, e⟩ := List.getElem_of_mem hm
  refine h j hj ?_
  unfold chr
  rw [List.getD_eq_getElem?_getD, List.getElem?_eq_getElem hj, ← e]; rfl

attribute [local irreducible] Go.wpList Go.Code.wp
theorem pg_run_nmPL {o : Oper} {a : Act} (ho : o.op = .buildSlice 39 15 #[(0, .const (.string ⟨#[]⟩)), (1, .const (.string ⟨#[115, 101, 116]⟩)), (2, .const (.string ⟨#[97, 100, 100]⟩)), (3, .const (.string ⟨#[115, 117, 98]⟩)), (4, .const (.string ⟨#[106, 117, 109, 112]⟩)), (5, .const (.string ⟨#[106, 110, 122]⟩)), (6, .const (.string ⟨#[121, 105, 101, 108, 100]⟩)), (7, .const (.string ⟨#[115, 112, 97, 119, 110]⟩)), (8, .const (.string ⟨#[106, 111, 105, 110]⟩)), (9, .const (.string ⟨#[108, 111, 99, 107]⟩)), (10, .const (.string ⟨#[117, 110, 108, 111, 99, 107]⟩)), (11, .const (.string ⟨#[115, 108, 101, 101, 112]⟩)), (12, .const (.string ⟨#[109, 97, 115, 107]⟩)), (13, .const (.string ⟨#[111, 117, 116]⟩)), (14, .const (.string ⟨#[101, 120, 105, 116]⟩))]) (W : World) : (execOp a.eval o).run Tryd.prog W = .ok (.value (.slice (some ⟨W.heap.size, 0, none⟩) 15 15)) (W.alloc (.cells (eTx.all nmPL).toArray 9)) := by
  unfold execOp
  simp only [ho, List.map_toArray, List.map_cons, List.map_nil]
  go_simp
  rfl
theorem pg_run_shpL {o : Oper} {a : Act} (ho : o.op = .buildSlice 39 15 #[(0, .const (.string ⟨#[]⟩)), (1, .const (.string ⟨#[65, 78]⟩)), (2, .const (.string ⟨#[65, 66]⟩)), (3, .const (.string ⟨#[65, 66]⟩)), (4, .const (.string ⟨#[78]⟩)), (5, .const (.string ⟨#[65, 78]⟩)), (6, .const (.string ⟨#[]⟩)), (7, .const (.string ⟨#[65, 78]⟩)), (8, .const (.string ⟨#[65, 66]⟩)), (9, .const (.string ⟨#[65, 78]⟩)), (10, .const (.string ⟨#[65, 78]⟩)), (11, .const (.string ⟨#[65]⟩)), (12, .const (.string ⟨#[65, 78]⟩)), (13, .const (.string ⟨#[65]⟩)), (14, .const (.string ⟨#[65]⟩))]) (W : World) : (execOp a.eval o).run Tryd.prog W = .ok (.value (.slice (some ⟨W.heap.size, 0, none⟩) 15 15)) (W.alloc (.cells (eTx.all shpL).toArray 9)) := by
  unfold execOp
  simp only [ho, List.map_toArray, List.map_cons, List.map_nil]
  go_simp
  rfl
set_option maxRecDepth 100000 in
set_option maxHeartbeats 4000000 in
theorem pname_yes {m : Nat} (hk : 1 ≤ m ∧ m ≤ 14) (w : World) : Calls Tryd.prog 8 #[.int .i64 (m : Int)] w fun e w' => e = .returned (.string (str (nmP (m : Int)))) ∧ Below w.heap.size w w' := by
  have bel : Below w.heap.size w w := Below.refl _ _
  have hnl := nmPL_len
  go_enter Tryd.func8, Tryd.ntmps8
  refine wp_seq ?_
  refine wp_region_lit ?_
  refine st_mv (.string (str [])) ?_
  simp only [nf0, nf1, nf2, nf3, nf4]
  refine wpList_nil ?_
  show Code.wp _ _ _ _ _
  refine wp_seq ?_
  refine wp_region_lit ?_
  refine st_lit (n := 15) (by rfl) (pg_run_nmPL rfl _) ?_
  intro g1 w2 B3 hb4 lo5
  simp only [nf0, nf1, nf2, nf3, nf4]
  replace bel := bl_step bel hb4
  have O6 : OwnR w2 w.heap.size 9 eTx (.slice (some ⟨g1, 0, none⟩) nmPL.length nmPL.length) nmPL := OwnR.built (xs := nmPL) B3 rfl lo5 (by rw [nmPL_len]; omega) (by rfl)
  rw [nmPL_len] at O6
  obtain ⟨v7, hv8⟩ : ∃ v, v = Value.slice (some ⟨g1, 0, none⟩) 15 15 := ⟨_, rfl⟩
  rw [← hv8] at O6 ⊢
  clear hv8
  refine st_mv v7 ?_
  simp only [nf0, nf1, nf2, nf3, nf4]
  refine wpList_nil ?_
  show Code.wp _ _ _ _ _
  refine wp_seq ?_
  refine wp_seq ?_
  cases hg16 : decide ((m : Int) < 1)
  rotate_left
  · have hp30 := of_decide_eq_true hg16
    exfalso
    omega
  have hp17 := of_decide_eq_false hg16
  obtain ⟨A18, c19, hv20, h21, h22, h23, R24⟩ := O6.reads
  subst hv20
  refine wp_region_lit ?_
  refine st_mv (.int .i64 (m : Int)) ?_
  simp only [nf0, nf1, nf2, nf3, nf4]
  refine st_value (v := (.bool false)) (by rfl) ((run_lss (.tmp 5) (.const (.int .i64 1)) rfl rfl rfl w2).trans (by rw [hg16])) ?_
  simp only [nf0, nf1, nf2, nf3, nf4]
  refine st_mv (.bool false) ?_
  simp only [nf0, nf1, nf2, nf3, nf4]
  refine st_mv (.int .i64 (m : Int)) ?_
  simp only [nf0, nf1, nf2, nf3, nf4]
  refine st_mv (.slice A18 nmPL.length c19) ?_
  simp only [nf0, nf1, nf2, nf3, nf4]
  refine st_value (v := (.int .i64 (nmPL.length : Int))) (by rfl) (run_len (.tmp 9) rfl ⟨_, Tryd.underlying39⟩ rfl w2) ?_
  simp only [nf0, nf1, nf2, nf3, nf4]
  refine st_value (v := (.bool (decide ((nmPL.length : Int) ≤ (m : Int))))) (by rfl) (run_geq (.tmp 8) (.tmp 10) rfl rfl rfl w2) ?_
  simp only [nf0, nf1, nf2, nf3, nf4]
  refine st_mv (.bool (decide ((nmPL.length : Int) ≤ (m : Int)))) ?_
  simp only [nf0, nf1, nf2, nf3, nf4]
  refine wpList_nil ?_
  show Code.wp _ _ _ _ _
  cases hg25 : decide ((nmPL.length : Int) ≤ (m : Int))
  rotate_left
  · have hp29 := of_decide_eq_true hg25
    exfalso
    omega
  have hp26 := of_decide_eq_false hg25
  refine wp_cond_false rfl ?_
  refine wp_skip ?_
  show Code.wp _ _ _ _ _
  refine wp_seq ?_
  obtain ⟨b27, o28, rfl, _⟩ := R24.at_ (by rw [Enc.all_length]; exact Nat.mul_pos (by omega) (by decide))
  refine wp_region_lit ?_
  refine st_mv (.slice (some ⟨b27, o28, none⟩) nmPL.length c19) ?_
  simp only [nf0, nf1, nf2, nf3, nf4]
  refine st_mv (.int .i64 (m : Int)) ?_
  simp only [nf0, nf1, nf2, nf3, nf4]
  refine st_value (v := (.pointer (some ⟨b27, o28 + m * 1, none⟩))) (by rfl) (run_indexAddrN (.tmp 13) (.tmp 14) rfl Tryd.underlying39 slTx.sz (i := m) rfl rfl (by omega) w2) ?_
  simp only [nf0, nf1, nf2, nf3, nf4]
  refine st_value (v := (.string (str (tx nmPL m)))) (by rfl) (run_load1 (.tmp 15) rfl Tryd.underlying9 rfl slTx.sz rfl (Reads.txAt R24 m (by omega))) ?_
  simp only [nf0, nf1, nf2, nf3, nf4]
  refine st_mv (.string (str (tx nmPL m))) ?_
  simp only [nf0, nf1, nf2, nf3, nf4]
  refine wpList_nil ?_
  show Code.wp _ _ _ _ _
  refine wp_ret ?_
  first | show bodyPost _ _ _ _ _ _ | (simp only [Exit.then, Exit.inBlock]; show bodyPost _ _ _ _ _ _)
  have hE : nmP (m : Int) = tx nmPL m := by rw [nmP_eq (by unfold knP; omega)]; rfl
  exact bodyPost_ret (results_tmp rfl _ _ _) rfl ⟨by rw [hE]; rfl, bel⟩
set_option maxRecDepth 100000 in
set_option maxHeartbeats 4000000 in
theorem pname_no {k : Int} (hk : ¬ (1 ≤ k ∧ k ≤ 14)) (w : World) : Calls Tryd.prog 8 #[.int .i64 k] w fun e w' => e = .returned (.string (str (nmP k))) ∧ Below w.heap.size w w' := by
  have bel : Below w.heap.size w w := Below.refl _ _
  have hnl := nmPL_len
  have hk2 : ¬ (1 ≤ k ∧ k ≤ 14) := hk
  go_enter Tryd.func8, Tryd.ntmps8
  refine wp_seq ?_
  refine wp_region_lit ?_
  refine st_mv (.string (str [])) ?_
  simp only [nf0, nf1, nf2, nf3, nf4]
  refine wpList_nil ?_
  show Code.wp _ _ _ _ _
  refine wp_seq ?_
  refine wp_region_lit ?_
  refine st_lit (n := 15) (by rfl) (pg_run_nmPL rfl _) ?_
  intro g1 w2 B3 hb4 lo5
  simp only [nf0, nf1, nf2, nf3, nf4]
  replace bel := bl_step bel hb4
  have O6 : OwnR w2 w.heap.size 9 eTx (.slice (some ⟨g1, 0, none⟩) nmPL.length nmPL.length) nmPL := OwnR.built (xs := nmPL) B3 rfl lo5 (by rw [nmPL_len]; omega) (by rfl)
  rw [nmPL_len] at O6
  obtain ⟨v7, hv8⟩ : ∃ v, v = Value.slice (some ⟨g1, 0, none⟩) 15 15 := ⟨_, rfl⟩
  rw [← hv8] at O6 ⊢
  clear hv8
  refine st_mv v7 ?_
  simp only [nf0, nf1, nf2, nf3, nf4]
  refine wpList_nil ?_
  show Code.wp _ _ _ _ _
  refine wp_seq ?_
  refine wp_seq ?_
  cases hg16 : decide (k < 1)
  rotate_left
  · have hp28 := of_decide_eq_true hg16
    obtain ⟨A29, c30, hv31, h32, h33, h34, R35⟩ := O6.reads
    subst hv31
    refine wp_region_lit ?_
    refine st_mv (.int .i64 k) ?_
    simp only [nf0, nf1, nf2, nf3, nf4]
    refine st_value (v := (.bool true)) (by rfl) ((run_lss (.tmp 5) (.const (.int .i64 1)) rfl rfl rfl w2).trans (by rw [hg16])) ?_
    simp only [nf0, nf1, nf2, nf3, nf4]
    refine st_mv (.bool true) ?_
    simp only [nf0, nf1, nf2, nf3, nf4]
    refine st_nob (j := 2) (t := 7) (c := true) rfl rfl rfl rfl rfl ?_
    simp only [nf0, nf1, nf2, nf3, nf4]
    refine st_nob (j := 2) (t := 7) (c := true) rfl rfl rfl rfl rfl ?_
    simp only [nf0, nf1, nf2, nf3, nf4]
    refine st_nob (j := 2) (t := 7) (c := true) rfl rfl rfl rfl rfl ?_
    simp only [nf0, nf1, nf2, nf3, nf4]
    refine st_nob (j := 2) (t := 7) (c := true) rfl rfl rfl rfl rfl ?_
    simp only [nf0, nf1, nf2, nf3, nf4]
    refine st_mv (.bool true) ?_
    simp only [nf0, nf1, nf2, nf3, nf4]
    refine wpList_nil ?_
    show Code.wp _ _ _ _ _
    refine wp_cond_true rfl ?_
    refine wp_seq ?_
    refine wp_region_lit ?_
    refine st_mv (.string (str [])) ?_
    simp only [nf0, nf1, nf2, nf3, nf4]
    refine wpList_nil ?_
    show Code.wp _ _ _ _ _
    refine wp_ret ?_
    first | show bodyPost _ _ _ _ _ _ | (simp only [Exit.then, Exit.inBlock]; show bodyPost _ _ _ _ _ _)
    exact bodyPost_ret (results_tmp rfl _ _ _) rfl ⟨by rw [nmP_unknown hk2]; rfl, bel⟩
  have hp17 := of_decide_eq_false hg16
  obtain ⟨A18, c19, hv20, h21, h22, h23, R24⟩ := O6.reads
  subst hv20
  refine wp_region_lit ?_
  refine st_mv (.int .i64 k) ?_
  simp only [nf0, nf1, nf2, nf3, nf4]
  refine st_value (v := (.bool false)) (by rfl) ((run_lss (.tmp 5) (.const (.int .i64 1)) rfl rfl rfl w2).trans (by rw [hg16])) ?_
  simp only [nf0, nf1, nf2, nf3, nf4]
  refine st_mv (.bool false) ?_
  simp only [nf0, nf1, nf2, nf3, nf4]
  refine st_mv (.int .i64 k) ?_
  simp only [nf0, nf1, nf2, nf3, nf4]
  refine st_mv (.slice A18 nmPL.length c19) ?_
  simp only [nf0, nf1, nf2, nf3, nf4]
  refine st_value (v := (.int .i64 (nmPL.length : Int))) (by rfl) (run_len (.tmp 9) rfl ⟨_, Tryd.underlying39⟩ rfl w2) ?_
  simp only [nf0, nf1, nf2, nf3, nf4]
  refine st_value (v := (.bool (decide ((nmPL.length : Int) ≤ k)))) (by rfl) (run_geq (.tmp 8) (.tmp 10) rfl rfl rfl w2) ?_
  simp only [nf0, nf1, nf2, nf3, nf4]
  refine st_mv (.bool (decide ((nmPL.length : Int) ≤ k))) ?_
  simp only [nf0, nf1, nf2, nf3, nf4]
  refine wpList_nil ?_
  show Code.wp _ _ _ _ _
  cases hg25 : decide ((nmPL.length : Int) ≤ k)
  · have hp26 := of_decide_eq_false hg25
    exfalso
    omega
  have hp27 := of_decide_eq_true hg25
  refine wp_cond_true rfl ?_
  refine wp_seq ?_
  refine wp_region_lit ?_
  refine st_mv (.string (str [])) ?_
  simp only [nf0, nf1, nf2, nf3, nf4]
  refine wpList_nil ?_
  show Code.wp _ _ _ _ _
  refine wp_ret ?_
  first | show bodyPost _ _ _ _ _ _ | (simp only [Exit.then, Exit.inBlock]; show bodyPost _ _ _ _ _ _)
  exact bodyPost_ret (results_tmp rfl _ _ _) rfl ⟨by rw [nmP_unknown hk2]; rfl, bel⟩
theorem pname_calls (k : Int) (w : World) : Calls Tryd.prog 8 #[.int .i64 k] w fun e w' => e = .returned (.string (str (nmP k))) ∧ Below w.heap.size w w' := by
  by_cases h : 1 ≤ k ∧ k ≤ 14
  · obtain ⟨m, rfl⟩ : ∃ m : Nat, k = (m : Int) := ⟨k.toNat, by omega⟩
    exact pname_yes (by omega) w
  · exact pname_no h w
set_option maxRecDepth 100000 in
set_option maxHeartbeats 4000000 in
theorem shape_yes {m : Nat} (hk : 1 ≤ m ∧ m ≤ 14) (w : World) : Calls Tryd.prog 16 #[.int .i64 (m : Int)] w fun e w' => e = .returned (.string (str (shp (m : Int)))) ∧ Below w.heap.size w w' := by
  have bel : Below w.heap.size w w := Below.refl _ _
  have hnl := shpL_len
  go_enter Tryd.func16, Tryd.ntmps16
  refine wp_seq ?_
  refine wp_region_lit ?_
  refine st_mv (.string (str [])) ?_
  simp only [nf0, nf1, nf2, nf3, nf4]
  refine wpList_nil ?_
  show Code.wp _ _ _ _ _
  refine wp_seq ?_
  refine wp_region_lit ?_
  refine st_lit (n := 15) (by rfl) (pg_run_shpL rfl _) ?_
  intro g1 w2 B3 hb4 lo5
  simp only [nf0, nf1, nf2, nf3, nf4]
  replace bel := bl_step bel hb4
  have O6 : OwnR w2 w.heap.size 9 eTx (.slice (some ⟨g1, 0, none⟩) shpL.length shpL.length) shpL := OwnR.built (xs := shpL) B3 rfl lo5 (by rw [shpL_len]; omega) (by rfl)
  rw [shpL_len] at O6
  obtain ⟨v7, hv8⟩ : ∃ v, v = Value.slice (some ⟨g1, 0, none⟩) 15 15 := ⟨_, rfl⟩
  rw [← hv8] at O6 ⊢
  clear hv8
  refine st_mv v7 ?_
  simp only [nf0, nf1, nf2, nf3, nf4]
  refine wpList_nil ?_
  show Code.wp _ _ _ _ _
  refine wp_seq ?_
  refine wp_seq ?_
  cases hg16 : decide ((m : Int) < 1)
  rotate_left
  · have hp30 := of_decide_eq_true hg16
    exfalso
    omega
  have hp17 := of_decide_eq_false hg16
  obtain ⟨A18, c19, hv20, h21, h22, h23, R24⟩ := O6.reads
  subst hv20
  refine wp_region_lit ?_
  refine st_mv (.int .i64 (m : Int)) ?_
  simp only [nf0, nf1, nf2, nf3, nf4]
  refine st_value (v := (.bool false)) (by rfl) ((run_lss (.tmp 5) (.const (.int .i64 1)) rfl rfl rfl w2).trans (by rw [hg16])) ?_
  simp only [nf0, nf1, nf2, nf3, nf4]
  refine st_mv (.bool false) ?_
  simp only [nf0, nf1, nf2, nf3, nf4]
  refine st_mv (.int .i64 (m : Int)) ?_
  simp only [nf0, nf1, nf2, nf3, nf4]
  refine st_value (v := (.bool (decide (14 < (m : Int))))) (by rfl) (run_gtr (.tmp 8) (.const (.int .i64 14)) rfl rfl rfl w2) ?_
  simp only [nf0, nf1, nf2, nf3, nf4]
  refine st_mv (.bool (decide (14 < (m : Int)))) ?_
  simp only [nf0, nf1, nf2, nf3, nf4]
  refine wpList_nil ?_
  show Code.wp _ _ _ _ _
  cases hg25 : decide (14 < (m : Int))
  rotate_left
  · have hp29 := of_decide_eq_true hg25
    exfalso
    omega
  have hp26 := of_decide_eq_false hg25
  refine wp_cond_false rfl ?_
  refine wp_skip ?_
  show Code.wp _ _ _ _ _
  refine wp_seq ?_
  obtain ⟨b27, o28, rfl, _⟩ := R24.at_ (by rw [Enc.all_length]; exact Nat.mul_pos (by omega) (by decide))
  refine wp_region_lit ?_
  refine st_mv (.slice (some ⟨b27, o28, none⟩) shpL.length c19) ?_
  simp only [nf0, nf1, nf2, nf3, nf4]
  refine st_mv (.int .i64 (m : Int)) ?_
  simp only [nf0, nf1, nf2, nf3, nf4]
  refine st_value (v := (.pointer (some ⟨b27, o28 + m * 1, none⟩))) (by rfl) (run_indexAddrN (.tmp 11) (.tmp 12) rfl Tryd.underlying39 slTx.sz (i := m) rfl rfl (by omega) w2) ?_
  simp only [nf0, nf1, nf2, nf3, nf4]
  refine st_value (v := (.string (str (tx shpL m)))) (by rfl) (run_load1 (.tmp 13) rfl Tryd.underlying9 rfl slTx.sz rfl (Reads.txAt R24 m (by omega))) ?_
  simp only [nf0, nf1, nf2, nf3, nf4]
  refine st_mv (.string (str (tx shpL m))) ?_
  simp only [nf0, nf1, nf2, nf3, nf4]
  refine wpList_nil ?_
  show Code.wp _ _ _ _ _
  refine wp_ret ?_
  first | show bodyPost _ _ _ _ _ _ | (simp only [Exit.then, Exit.inBlock]; show bodyPost _ _ _ _ _ _)
  have hE : shp (m : Int) = tx shpL m := by rw [shp_eq (by omega)]; rfl
  exact bodyPost_ret (results_tmp rfl _ _ _) rfl ⟨by rw [hE]; rfl, bel⟩
set_option maxRecDepth 100000 in
set_option maxHeartbeats 4000000 in
theorem shape_no {k : Int} (hk : ¬ (1 ≤ k ∧ k ≤ 14)) (w : World) : Calls Tryd.prog 16 #[.int .i64 k] w fun e w' => e = .returned (.string (str (shp k))) ∧ Below w.heap.size w w' := by
  have bel : Below w.heap.size w w := Below.refl _ _
  have hnl := shpL_len
  have hk2 : ¬ (1 ≤ k ∧ k ≤ 14) := hk
  go_enter Tryd.func16, Tryd.ntmps16
  refine wp_seq ?_
  refine wp_region_lit ?_
  refine st_mv (.string (str [])) ?_
  simp only [nf0, nf1, nf2, nf3, nf4]
  refine wpList_nil ?_
  show Code.wp _ _ _ _ _
  refine wp_seq ?_
  refine wp_region_lit ?_
  refine st_lit (n := 15) (by rfl) (pg_run_shpL rfl _) ?_
  intro g1 w2 B3 hb4 lo5
  simp only [nf0, nf1, nf2, nf3, nf4]
  replace bel := bl_step bel hb4
  have O6 : OwnR w2 w.heap.size 9 eTx (.slice (some ⟨g1, 0, none⟩) shpL.length shpL.length) shpL := OwnR.built (xs := shpL) B3 rfl lo5 (by rw [shpL_len]; omega) (by rfl)
  rw [shpL_len] at O6
  obtain ⟨v7, hv8⟩ : ∃ v, v = Value.slice (some ⟨g1, 0, none⟩) 15 15 := ⟨_, rfl⟩
  rw [← hv8] at O6 ⊢
  clear hv8
  refine st_mv v7 ?_
  simp only [nf0, nf1, nf2, nf3, nf4]
  refine wpList_nil ?_
  show Code.wp _ _ _ _ _
  refine wp_seq ?_
  refine wp_seq ?_
  cases hg16 : decide (k < 1)
  rotate_left
  · have hp28 := of_decide_eq_true hg16
    obtain ⟨A29, c30, hv31, h32, h33, h34, R35⟩ := O6.reads
    subst hv31
    refine wp_region_lit ?_
    refine st_mv (.int .i64 k) ?_
    simp only [nf0, nf1, nf2, nf3, nf4]
    refine st_value (v := (.bool true)) (by rfl) ((run_lss (.tmp 5) (.const (.int .i64 1)) rfl rfl rfl w2).trans (by rw [hg16])) ?_
    simp only [nf0, nf1, nf2, nf3, nf4]
    refine st_mv (.bool true) ?_
    simp only [nf0, nf1, nf2, nf3, nf4]
    refine st_nob (j := 2) (t := 7) (c := true) rfl rfl rfl rfl rfl ?_
    simp only [nf0, nf1, nf2, nf3, nf4]
    refine st_nob (j := 2) (t := 7) (c := true) rfl rfl rfl rfl rfl ?_
    simp only [nf0, nf1, nf2, nf3, nf4]
    refine st_mv (.bool true) ?_
    simp only [nf0, nf1, nf2, nf3, nf4]
    refine wpList_nil ?_
    show Code.wp _ _ _ _ _
    refine wp_cond_true rfl ?_
    refine wp_seq ?_
    refine wp_region_lit ?_
    refine st_mv (.string (str [65])) ?_
    simp only [nf0, nf1, nf2, nf3, nf4]
    refine wpList_nil ?_
    show Code.wp _ _ _ _ _
    refine wp_ret ?_
    first | show bodyPost _ _ _ _ _ _ | (simp only [Exit.then, Exit.inBlock]; show bodyPost _ _ _ _ _ _)
    exact bodyPost_ret (results_tmp rfl _ _ _) rfl ⟨by rw [shp_un hk2]; rfl, bel⟩
  have hp17 := of_decide_eq_false hg16
  obtain ⟨A18, c19, hv20, h21, h22, h23, R24⟩ := O6.reads
  subst hv20
  refine wp_region_lit ?_
  refine st_mv (.int .i64 k) ?_
  simp only [nf0, nf1, nf2, nf3, nf4]
  refine st_value (v := (.bool false)) (by rfl) ((run_lss (.tmp 5) (.const (.int .i64 1)) rfl rfl rfl w2).trans (by rw [hg16])) ?_
  simp only [nf0, nf1, nf2, nf3, nf4]
  refine st_mv (.bool false) ?_
  simp only [nf0, nf1, nf2, nf3, nf4]
  refine st_mv (.int .i64 k) ?_
  simp only [nf0, nf1, nf2, nf3, nf4]
  refine st_value (v := (.bool (decide (14 < k)))) (by rfl) (run_gtr (.tmp 8) (.const (.int .i64 14)) rfl rfl rfl w2) ?_
  simp only [nf0, nf1, nf2, nf3, nf4]
  refine st_mv (.bool (decide (14 < k))) ?_
  simp only [nf0, nf1, nf2, nf3, nf4]
  refine wpList_nil ?_
  show Code.wp _ _ _ _ _
  cases hg25 : decide (14 < k)
  · have hp26 := of_decide_eq_false hg25
    exfalso
    omega
  have hp27 := of_decide_eq_true hg25
  refine wp_cond_true rfl ?_
  refine wp_seq ?_
  refine wp_region_lit ?_
  refine st_mv (.string (str [65])) ?_
  simp only [nf0, nf1, nf2, nf3, nf4]
  refine wpList_nil ?_
  show Code.wp _ _ _ _ _
  refine wp_ret ?_
  first | show bodyPost _ _ _ _ _ _ | (simp only [Exit.then, Exit.inBlock]; show bodyPost _ _ _ _ _ _)
  exact bodyPost_ret (results_tmp rfl _ _ _) rfl ⟨by rw [shp_un hk2]; rfl, bel⟩
theorem shape_calls (k : Int) (w : World) : Calls Tryd.prog 16 #[.int .i64 k] w fun e w' => e = .returned (.string (str (shp k))) ∧ Below w.heap.size w w' := by
  by_cases h : 1 ≤ k ∧ k ≤ 14
  · obtain ⟨m, rfl⟩ : ∃ m : Nat, k = (m : Int) := ⟨k.toNat, by omega⟩
    exact shape_yes (by omega) w
  · exact shape_no h w
set_option maxRecDepth 100000 in
set_option maxHeartbeats 4000000 in
theorem refPName_yes {m : Nat} (hk : 1 ≤ m ∧ m ≤ 14) (w : World) : Calls Tryd.prog 9 #[.int .i64 (m : Int)] w fun e w' => e = .returned (.string (str (nmP (m : Int)))) ∧ Below w.heap.size w w' := by
  have bel : Below w.heap.size w w := Below.refl _ _
  have hnl := nmP_len (m : Int)
  have hk2 : knP (m : Int) := by unfold knP; omega
  have hn0 : 0 < (nmP (m : Int)).length := List.length_pos_iff.2 (nmP_known hk2).1
  go_enter Tryd.func9, Tryd.ntmps9
  refine wp_seq ?_
  refine wp_region_lit ?_
  refine st_mv (.string (str [])) ?_
  simp only [nf0, nf1, nf2, nf3, nf4]
  refine wpList_nil ?_
  show Code.wp _ _ _ _ _
  refine wp_seq ?_
  refine wp_region_lit ?_
  refine st_mv (.string (str allP)) ?_
  simp only [nf0, nf1, nf2, nf3, nf4]
  refine wpList_nil ?_
  show Code.wp _ _ _ _ _
  refine wp_seq ?_
  refine wp_seq ?_
  cases hg1 : decide ((m : Int) < 1)
  rotate_left
  · have hp11 := of_decide_eq_true hg1
    exfalso
    omega
  have hp2 := of_decide_eq_false hg1
  refine wp_region_lit ?_
  refine st_mv (.int .i64 (m : Int)) ?_
  simp only [nf0, nf1, nf2, nf3, nf4]
  refine st_value (v := (.bool false)) (by rfl) ((run_lss (.tmp 5) (.const (.int .i64 1)) rfl rfl rfl w).trans (by rw [hg1])) ?_
  simp only [nf0, nf1, nf2, nf3, nf4]
  refine st_mv (.bool false) ?_
  simp only [nf0, nf1, nf2, nf3, nf4]
  refine st_mv (.int .i64 (m : Int)) ?_
  simp only [nf0, nf1, nf2, nf3, nf4]
  refine st_value (v := (.bool (decide (14 < (m : Int))))) (by rfl) (run_gtr (.tmp 8) (.const (.int .i64 14)) rfl rfl rfl w) ?_
  simp only [nf0, nf1, nf2, nf3, nf4]
  refine st_mv (.bool (decide (14 < (m : Int)))) ?_
  simp only [nf0, nf1, nf2, nf3, nf4]
  refine wpList_nil ?_
  show Code.wp _ _ _ _ _
  cases hg3 : decide (14 < (m : Int))
  rotate_left
  · have hp10 := of_decide_eq_true hg3
    exfalso
    omega
  have hp4 := of_decide_eq_false hg3
  refine wp_cond_false rfl ?_
  refine wp_skip ?_
  show Code.wp _ _ _ _ _
  refine wp_seq ?_
  refine wp_region_lit ?_
  refine st_mv (.string (str allP)) ?_
  simp only [nf0, nf1, nf2, nf3, nf4]
  refine st_mv (.int .i64 (m : Int)) ?_
  simp only [nf0, nf1, nf2, nf3, nf4]
  refine st_value (v := (.int .i64 (6 * (m : Int)))) (by rfl) (run_mul_in (.const (.int .i64 6)) (.tmp 12) rfl rfl rfl (by omega) w) ?_
  simp only [nf0, nf1, nf2, nf3, nf4]
  refine st_value (v := (.int .i64 ((6 * (m : Int)) - 6))) (by rfl) (run_sub_in (.tmp 13) (.const (.int .i64 6)) rfl rfl rfl (by omega) w) ?_
  simp only [nf0, nf1, nf2, nf3, nf4]
  refine st_mv (.int .i64 (m : Int)) ?_
  simp only [nf0, nf1, nf2, nf3, nf4]
  refine st_value (v := (.int .i64 (6 * (m : Int)))) (by rfl) (run_mul_in (.const (.int .i64 6)) (.tmp 15) rfl rfl rfl (by omega) w) ?_
  simp only [nf0, nf1, nf2, nf3, nf4]
  refine st_value (v := (.string (str (sp m (6 - (nmP (m : Int)).length))))) (by rfl) ((run_sub_text (.tmp 11) (.tmp 14) (.tmp 16) rfl Tryd.underlying9 (l := allP) (p := 6 * m - 6) (q := 6 * m) rfl rfl rfl (by omega) (by omega) (by omega) (by show 6 * m ≤ 84; omega) w).trans (by rw [sp_start hk])) ?_
  simp only [nf0, nf1, nf2, nf3, nf4]
  refine st_mv (.string (str (sp m (6 - (nmP (m : Int)).length)))) ?_
  simp only [nf0, nf1, nf2, nf3, nf4]
  refine wpList_nil ?_
  show Code.wp _ _ _ _ _
  refine wp_seq ?_
  refine wp_block ?_
  refine wp_loop_left (fun n_ a_ wr_ => (fun J5 => ∃ (j : Nat), n_ = j ∧ a_ = ⟨#[.int .i64 (m : Int), J5 1, .string (str []), J5 3, .string (str (sp m j)), J5 5, J5 6, J5 7, J5 8, J5 9, J5 10, J5 11, J5 12, J5 13, J5 14, J5 15, J5 16, J5 17, J5 18, J5 19, J5 20, J5 21, J5 22, J5 23, J5 24, J5 25, J5 26, J5 27, J5 28, J5 29], []⟩ ∧ Below w.heap.size w wr_ ∧ (j ≤ 6)) (jk a_)) ((6 - (nmP (m : Int)).length)) ⟨(6 - (nmP (m : Int)).length), rfl, rfl, bel, (by omega)⟩ ?_
  clear bel
  intro n_ a_ w6 h_
  revert h_
  generalize jk a_ = J5
  rintro ⟨j, hms, rfl, bel, hj⟩
  have hsl := sp_len m j
  refine wp_seq ?_
  refine wp_seq ?_
  refine wp_region_lit ?_
  refine st_mv (.string (str (sp m j))) ?_
  simp only [nf0, nf1, nf2, nf3, nf4]
  refine st_mv (.string (str (sp m j))) ?_
  simp only [nf0, nf1, nf2, nf3, nf4]
  refine st_value (v := (.int .i64 ((sp m j).length : Int))) (by rfl) (run_len_text (.tmp 19) rfl Tryd.underlying9 (l := (sp m j)) rfl w6) ?_
  simp only [nf0, nf1, nf2, nf3, nf4]
  refine st_value (v := (.int .i64 (((sp m j).length : Int) - 1))) (by rfl) (run_sub_in (.tmp 20) (.const (.int .i64 1)) rfl rfl rfl (by omega) w6) ?_
  simp only [nf0, nf1, nf2, nf3, nf4]
  refine st_value (v := (.int .u8 (chr (sp m j) ((sp m j).length - 1)))) (by rfl) (run_index_text (.tmp 18) (.tmp 21) rfl Tryd.underlying9 (l := sp m j) rfl rfl (j := (sp m j).length - 1) (by omega) (by omega) w6) ?_
  simp only [nf0, nf1, nf2, nf3, nf4]
  refine st_value (v := (.bool (decide ((chr (sp m j) ((sp m j).length - 1)) = 32)))) (by rfl) (run_eql_int (.tmp 22) (.const (.int .u8 32)) rfl rfl rfl w6) ?_
  simp only [nf0, nf1, nf2, nf3, nf4]
  refine wpList_nil ?_
  show Code.wp _ _ _ _ _
  cases hg7 : decide ((chr (sp m j) ((sp m j).length - 1)) = 32)
  · have hp8 := of_decide_eq_false hg7
    refine wp_cond_false rfl ?_
    refine wp_exit ?_
    show Code.wp _ _ _ _ _
    refine wp_seq ?_
    have hj0 : j = 0 := by rcases Nat.eq_zero_or_pos j with e | e; exact e; exact absurd (sp_last e) (by assumption)
    subst hj0
    refine wp_region_lit ?_
    refine st_mv (.string (str (sp m 0))) ?_
    simp only [nf0, nf1, nf2, nf3, nf4]
    refine st_mv (.string (str (sp m 0))) ?_
    simp only [nf0, nf1, nf2, nf3, nf4]
    refine wpList_nil ?_
    show Code.wp _ _ _ _ _
    refine wp_ret ?_
    first | show bodyPost _ _ _ _ _ _ | (simp only [Exit.then, Exit.inBlock]; show bodyPost _ _ _ _ _ _)
    have hE : nmP (m : Int) = sp m 0 := by simp [sp]
    exact bodyPost_ret (results_tmp rfl _ _ _) rfl ⟨by rw [hE]; rfl, bel⟩
  have hp9 := of_decide_eq_true hg7
  refine wp_cond_true rfl ?_
  refine wp_skip ?_
  show Code.wp _ _ _ _ _
  refine wp_block ?_
  have hj0 : 0 < j := by rcases Nat.eq_zero_or_pos j with e | e; (· subst e; exact absurd (by assumption) (sp_end hk2)); exact e
  refine wp_region_lit ?_
  refine st_mv (.string (str (sp m j))) ?_
  simp only [nf0, nf1, nf2, nf3, nf4]
  refine st_mv (.string (str (sp m j))) ?_
  simp only [nf0, nf1, nf2, nf3, nf4]
  refine st_value (v := (.int .i64 ((sp m j).length : Int))) (by rfl) (run_len_text (.tmp 25) rfl Tryd.underlying9 (l := (sp m j)) rfl w6) ?_
  simp only [nf0, nf1, nf2, nf3, nf4]
  refine st_value (v := (.int .i64 (((sp m j).length : Int) - 1))) (by rfl) (run_sub_in (.tmp 26) (.const (.int .i64 1)) rfl rfl rfl (by omega) w6) ?_
  simp only [nf0, nf1, nf2, nf3, nf4]
  refine st_value (v := (.string (str (sp m (j - 1))))) (by rfl) ((run_to_text (.tmp 24) (.tmp 27) rfl Tryd.underlying9 (l := sp m j) (q := (sp m j).length - 1) rfl rfl (by omega) (by omega) w6).trans (by rw [sp_take hj0])) ?_
  simp only [nf0, nf1, nf2, nf3, nf4]
  refine st_mv (.string (str (sp m (j - 1)))) ?_
  simp only [nf0, nf1, nf2, nf3, nf4]
  refine wpList_nil ?_
  show ∃ m, m < _ ∧ _
  exact ⟨_, (by omega), (j - 1), rfl, rfl, bel, (by omega)⟩
set_option maxRecDepth 100000 in
set_option maxHeartbeats 4000000 in
theorem refPName_no {k : Int} (hk : ¬ knP k) (w : World) : Calls Tryd.prog 9 #[.int .i64 k] w fun e w' => e = .returned (.string (str (nmP k))) ∧ Below w.heap.size w w' := by
  have bel : Below w.heap.size w w := Below.refl _ _
  have hk2 : ¬ knP k := hk
  unfold knP at hk
  go_enter Tryd.func9, Tryd.ntmps9
  refine wp_seq ?_
  refine wp_region_lit ?_
  refine st_mv (.string (str [])) ?_
  simp only [nf0, nf1, nf2, nf3, nf4]
  refine wpList_nil ?_
  show Code.wp _ _ _ _ _
  refine wp_seq ?_
  refine wp_region_lit ?_
  refine st_mv (.string (str allP)) ?_
  simp only [nf0, nf1, nf2, nf3, nf4]
  refine wpList_nil ?_
  show Code.wp _ _ _ _ _
  refine wp_seq ?_
  refine wp_seq ?_
  cases hg1 : decide (k < 1)
  rotate_left
  · have hp6 := of_decide_eq_true hg1
    refine wp_region_lit ?_
    refine st_mv (.int .i64 k) ?_
    simp only [nf0, nf1, nf2, nf3, nf4]
    refine st_value (v := (.bool true)) (by rfl) ((run_lss (.tmp 5) (.const (.int .i64 1)) rfl rfl rfl w).trans (by rw [hg1])) ?_
    simp only [nf0, nf1, nf2, nf3, nf4]
    refine st_mv (.bool true) ?_
    simp only [nf0, nf1, nf2, nf3, nf4]
    refine st_nob (j := 2) (t := 7) (c := true) rfl rfl rfl rfl rfl ?_
    simp only [nf0, nf1, nf2, nf3, nf4]
    refine st_nob (j := 2) (t := 7) (c := true) rfl rfl rfl rfl rfl ?_
    simp only [nf0, nf1, nf2, nf3, nf4]
    refine st_mv (.bool true) ?_
    simp only [nf0, nf1, nf2, nf3, nf4]
    refine wpList_nil ?_
    show Code.wp _ _ _ _ _
    refine wp_cond_true rfl ?_
    refine wp_seq ?_
    refine wp_region_lit ?_
    refine st_mv (.string (str [])) ?_
    simp only [nf0, nf1, nf2, nf3, nf4]
    refine wpList_nil ?_
    show Code.wp _ _ _ _ _
    refine wp_ret ?_
    first | show bodyPost _ _ _ _ _ _ | (simp only [Exit.then, Exit.inBlock]; show bodyPost _ _ _ _ _ _)
    exact bodyPost_ret (results_tmp rfl _ _ _) rfl ⟨by rw [nmP_unknown hk2]; rfl, bel⟩
  have hp2 := of_decide_eq_false hg1
  refine wp_region_lit ?_
  refine st_mv (.int .i64 k) ?_
  simp only [nf0, nf1, nf2, nf3, nf4]
  refine st_value (v := (.bool false)) (by rfl) ((run_lss (.tmp 5) (.const (.int .i64 1)) rfl rfl rfl w).trans (by rw [hg1])) ?_
  simp only [nf0, nf1, nf2, nf3, nf4]
  refine st_mv (.bool false) ?_
  simp only [nf0, nf1, nf2, nf3, nf4]
  refine st_mv (.int .i64 k) ?_
  simp only [nf0, nf1, nf2, nf3, nf4]
  refine st_value (v := (.bool (decide (14 < k)))) (by rfl) (run_gtr (.tmp 8) (.const (.int .i64 14)) rfl rfl rfl w) ?_
  simp only [nf0, nf1, nf2, nf3, nf4]
  refine st_mv (.bool (decide (14 < k))) ?_
  simp only [nf0, nf1, nf2, nf3, nf4]
  refine wpList_nil ?_
  show Code.wp _ _ _ _ _
  cases hg3 : decide (14 < k)
  · have hp4 := of_decide_eq_false hg3
    exfalso
    omega
  have hp5 := of_decide_eq_true hg3
  refine wp_cond_true rfl ?_
  refine wp_seq ?_
  refine wp_region_lit ?_
  refine st_mv (.string (str [])) ?_
  simp only [nf0, nf1, nf2, nf3, nf4]
  refine wpList_nil ?_
  show Code.wp _ _ _ _ _
  refine wp_ret ?_
  first | show bodyPost _ _ _ _ _ _ | (simp only [Exit.then, Exit.inBlock]; show bodyPost _ _ _ _ _ _)
  exact bodyPost_ret (results_tmp rfl _ _ _) rfl ⟨by rw [nmP_unknown hk2]; rfl, bel⟩
theorem refPName_calls (k : Int) (w : World) : Calls Tryd.prog 9 #[.int .i64 k] w fun e w' => e = .returned (.string (str (nmP k))) ∧ Below w.heap.size w w' := by
  by_cases h : knP k
  · obtain ⟨m, rfl⟩ : ∃ m : Nat, k = (m : Int) := ⟨k.toNat, by unfold knP at h; omega⟩
    exact refPName_yes (by unfold knP at h; omega) w
  · exact refPName_no h w
set_option maxRecDepth 100000 in
set_option maxHeartbeats 4000000 in
theorem hasC_calls (l : List UInt8) (c : UInt8) (hl : l.length ≤ 1000000) (w : World) : Calls Tryd.prog 18 #[.string (str l), .int .u8 (c.toNat : Int)] w fun e w' => e = .returned (.bool (decide (c ∈ l))) ∧ Below w.heap.size w w' := by
  have bel : Below w.heap.size w w := Below.refl _ _
  go_enter Tryd.func18, Tryd.ntmps18
  refine wp_seq ?_
  refine wp_region_lit ?_
  refine st_mv (.bool false) ?_
  simp only [nf0, nf1, nf2, nf3, nf4]
  refine wpList_nil ?_
  show Code.wp _ _ _ _ _
  refine wp_seq ?_
  refine wp_seq ?_
  refine wp_region_lit ?_
  refine st_mv (.int .i64 0) ?_
  simp only [nf0, nf1, nf2, nf3, nf4]
  refine wpList_nil ?_
  show Code.wp _ _ _ _ _
  refine wp_block ?_
  refine wp_loop_left (fun n_ a_ wr_ => (fun J1 => ∃ (i : Nat), n_ = l.length - i ∧ a_ = ⟨#[.string (str l), .int .u8 (c.toNat : Int), J1 2, J1 3, J1 4, .int .i64 (i : Int), J1 6, J1 7, J1 8, J1 9, J1 10, J1 11, J1 12, J1 13, J1 14, J1 15, J1 16], []⟩ ∧ Below w.heap.size w wr_ ∧ (i ≤ l.length) ∧ (∀ j, j < i → chr l j ≠ (c.toNat : Int))) (jk a_)) (l.length - 0) ⟨0, rfl, rfl, bel, (Nat.zero_le _), (fun j h => absurd h (Nat.not_lt_zero _))⟩ ?_
  clear bel
  intro n_ a_ w2 h_
  revert h_
  generalize jk a_ = J1
  rintro ⟨i, hms, rfl, bel, hi, hn⟩
  refine wp_seq ?_
  refine wp_seq ?_
  refine wp_region_lit ?_
  refine st_mv (.int .i64 (i : Int)) ?_
  simp only [nf0, nf1, nf2, nf3, nf4]
  refine st_mv (.string (str l)) ?_
  simp only [nf0, nf1, nf2, nf3, nf4]
  refine st_value (v := (.int .i64 (l.length : Int))) (by rfl) (run_len_text (.tmp 7) rfl Tryd.underlying9 (l := l) rfl w2) ?_
  simp only [nf0, nf1, nf2, nf3, nf4]
  refine st_value (v := (.bool (decide ((i : Int) < (l.length : Int))))) (by rfl) (run_lss (.tmp 6) (.tmp 8) rfl rfl rfl w2) ?_
  simp only [nf0, nf1, nf2, nf3, nf4]
  refine wpList_nil ?_
  show Code.wp _ _ _ _ _
  cases hg3 : decide ((i : Int) < (l.length : Int))
  · have hp4 := of_decide_eq_false hg3
    refine wp_cond_false rfl ?_
    refine wp_exit ?_
    show Code.wp _ _ _ _ _
    refine wp_seq ?_
    refine wp_region_lit ?_
    refine st_mv (.bool false) ?_
    simp only [nf0, nf1, nf2, nf3, nf4]
    refine wpList_nil ?_
    show Code.wp _ _ _ _ _
    refine wp_ret ?_
    first | show bodyPost _ _ _ _ _ _ | (simp only [Exit.then, Exit.inBlock]; show bodyPost _ _ _ _ _ _)
    have hE : decide (c ∈ l) = false := decide_eq_false (not_mem_chr fun j hj => hn j (by omega))
    exact bodyPost_ret (results_tmp rfl _ _ _) rfl ⟨by rw [hE]; rfl, bel⟩
  have hp5 := of_decide_eq_true hg3
  refine wp_cond_true rfl ?_
  refine wp_skip ?_
  show Code.wp _ _ _ _ _
  refine wp_seq ?_
  refine wp_block ?_
  refine wp_seq ?_
  refine wp_region_lit ?_
  refine st_mv (.string (str l)) ?_
  simp only [nf0, nf1, nf2, nf3, nf4]
  refine st_mv (.int .i64 (i : Int)) ?_
  simp only [nf0, nf1, nf2, nf3, nf4]
  refine st_value (v := (.int .u8 (chr l i))) (by rfl) (run_index_text (.tmp 12) (.tmp 13) rfl Tryd.underlying9 (l := l) rfl rfl i (by omega) (by omega) w2) ?_
  simp only [nf0, nf1, nf2, nf3, nf4]
  refine st_mv (.int .u8 (c.toNat : Int)) ?_
  simp only [nf0, nf1, nf2, nf3, nf4]
  refine st_value (v := (.bool (decide ((chr l i) = (c.toNat : Int))))) (by rfl) (run_eql_int (.tmp 14) (.tmp 15) rfl rfl rfl w2) ?_
  simp only [nf0, nf1, nf2, nf3, nf4]
  refine wpList_nil ?_
  show Code.wp _ _ _ _ _
  cases hg6 : decide ((chr l i) = (c.toNat : Int))
  rotate_left
  · have hp8 := of_decide_eq_true hg6
    refine wp_cond_true rfl ?_
    refine wp_seq ?_
    refine wp_region_lit ?_
    refine st_mv (.bool true) ?_
    simp only [nf0, nf1, nf2, nf3, nf4]
    refine wpList_nil ?_
    show Code.wp _ _ _ _ _
    refine wp_ret ?_
    first | show bodyPost _ _ _ _ _ _ | (simp only [Exit.then, Exit.inBlock]; show bodyPost _ _ _ _ _ _)
    have hE : decide (c ∈ l) = true := decide_eq_true (mem_chr (i := i) (by omega) (by assumption))
    exact bodyPost_ret (results_tmp rfl _ _ _) rfl ⟨by rw [hE]; rfl, bel⟩
  have hp7 := of_decide_eq_false hg6
  refine wp_cond_false rfl ?_
  refine wp_skip ?_
  show Code.wp _ _ _ _ _
  refine wp_region_lit ?_
  refine st_mv (.int .i64 (i : Int)) ?_
  simp only [nf0, nf1, nf2, nf3, nf4]
  refine st_value (v := (.int .i64 ((i : Int) + 1))) (by rfl) (run_add_in (.tmp 10) (.const (.int .i64 1)) rfl rfl rfl (by omega) w2) ?_
  simp only [nf0, nf1, nf2, nf3, nf4]
  refine st_mv (.int .i64 ((i : Int) + 1)) ?_
  simp only [nf0, nf1, nf2, nf3, nf4]
  refine wpList_nil ?_
  show ∃ m, m < _ ∧ _
  exact ⟨_, (by omega), (i + 1), rfl, rfl, bel, (by omega), (fun j h => by rcases Nat.lt_or_ge j i with g | g; exact hn j g; obtain rfl : j = i := (by omega); assumption)⟩
set_option maxRecDepth 100000 in
set_option maxHeartbeats 4000000 in
theorem of_calls (k : Int) (w : World) : Calls Tryd.prog 28 #[.int .i64 k] w fun e w' => e = .returned (.agg #[.bool (shA k), .bool (shB k), .bool (shN k)]) ∧ Below w.heap.size w w' := by
  have bel : Below w.heap.size w w := Below.refl _ _
  go_enter Tryd.func28, Tryd.ntmps28
  refine wp_seq ?_
  refine wp_region_lit ?_
  refine st_new (cs := #[.bool false, .bool false, .bool false]) (t := 56) (by rfl) (run_allocV rfl b_zero_56 _) ?_
  intro g1 w2 B3 hb4 lo5
  simp only [nf0, nf1, nf2, nf3, nf4]
  replace lo5 := low_le bel lo5
  replace bel := bl_step bel hb4
  clear hb4
  refine wpList_nil ?_
  show Code.wp _ _ _ _ _
  refine wp_seq ?_
  refine wp_seq ?_
  refine wp_region_lit ?_
  refine st_mv (.int .i64 k) ?_
  simp only [nf0, nf1, nf2, nf3, nf4]
  refine wpList_nil ?_
  show Code.wp _ _ _ _ _
  refine wp_block ?_
  refine wp_seq ?_
  refine wp_seq ?_
  refine wp_region_lit ?_
  refine st_value (v := (.bool (decide (k = 2)))) (by rfl) (run_eql_int (.tmp 3) (.const (.int .i64 2)) rfl rfl rfl w2) ?_
  simp only [nf0, nf1, nf2, nf3, nf4]
  refine st_mv (.bool (decide (k = 2))) ?_
  simp only [nf0, nf1, nf2, nf3, nf4]
  refine wpList_nil ?_
  show Code.wp _ _ _ _ _
  cases hg6 : decide (k = 2)
  rotate_left
  · have hp71 := of_decide_eq_true hg6
    refine wp_cond_true rfl ?_
    refine wp_skip ?_
    show Code.wp _ _ _ _ _
    refine wp_cond_true rfl ?_
    refine wp_seq ?_
    refine wp_region_lit ?_
    refine st_value (v := (.agg #[.bool true, .bool true, .bool false])) (by rfl) (run_buildV rfl (by kernel_rfl) w2) ?_
    simp only [nf0, nf1, nf2, nf3, nf4]
    refine st_row (by rfl) (run_storeW (.tmp 2) (.tmp 8) rfl (cs := #[.bool true, .bool true, .bool false]) aggShp rfl rfl B3 rfl (by simp [Value.oneCell'])) B3 ?_
    intro w72 B74 hg73
    simp only [nf0, nf1, nf2, nf3, nf4]
    replace bel := bl_kept0 bel hg73 lo5
    clear hg73
    clear B3
    refine wpList_nil ?_
    show Code.wp _ _ _ _ _
    refine wp_ret ?_
    first | show bodyPost _ _ _ _ _ _ | (simp only [Exit.then, Exit.inBlock]; show bodyPost _ _ _ _ _ _)
    have hA : shA k = true := by unfold shA; first | (rw [decide_eq_true (by omega)]; rfl) | (rw [decide_eq_false (by omega)]; rfl)
    have hB : shB k = true := by unfold shB; first | rw [decide_eq_true (by omega)] | rw [decide_eq_false (by omega)]
    have hN : shN k = false := by unfold shN; first | rw [decide_eq_true (by omega)] | rw [decide_eq_false (by omega)]
    exact bodyPost_ret (results_agg1 rfl (cs := #[.bool true, .bool true, .bool false]) aggShp (by rfl) B74) rfl ⟨by rw [hA, hB, hN], bel⟩
  have hp7 := of_decide_eq_false hg6
  refine wp_cond_false rfl ?_
  refine wp_seq ?_
  refine wp_region_lit ?_
  refine st_value (v := (.bool (decide (k = 3)))) (by rfl) (run_eql_int (.tmp 3) (.const (.int .i64 3)) rfl rfl rfl w2) ?_
  simp only [nf0, nf1, nf2, nf3, nf4]
  refine st_mv (.bool (decide (k = 3))) ?_
  simp only [nf0, nf1, nf2, nf3, nf4]
  refine wpList_nil ?_
  show Code.wp _ _ _ _ _
  cases hg8 : decide (k = 3)
  rotate_left
  · have hp67 := of_decide_eq_true hg8
    refine wp_cond_true rfl ?_
    refine wp_skip ?_
    show Code.wp _ _ _ _ _
    refine wp_cond_true rfl ?_
    refine wp_seq ?_
    refine wp_region_lit ?_
    refine st_value (v := (.agg #[.bool true, .bool true, .bool false])) (by rfl) (run_buildV rfl (by kernel_rfl) w2) ?_
    simp only [nf0, nf1, nf2, nf3, nf4]
    refine st_row (by rfl) (run_storeW (.tmp 2) (.tmp 8) rfl (cs := #[.bool true, .bool true, .bool false]) aggShp rfl rfl B3 rfl (by simp [Value.oneCell'])) B3 ?_
    intro w68 B70 hg69
    simp only [nf0, nf1, nf2, nf3, nf4]
    replace bel := bl_kept0 bel hg69 lo5
    clear hg69
    clear B3
    refine wpList_nil ?_
    show Code.wp _ _ _ _ _
    refine wp_ret ?_
    first | show bodyPost _ _ _ _ _ _ | (simp only [Exit.then, Exit.inBlock]; show bodyPost _ _ _ _ _ _)
    have hA : shA k = true := by unfold shA; first | (rw [decide_eq_true (by omega)]; rfl) | (rw [decide_eq_false (by omega)]; rfl)
    have hB : shB k = true := by unfold shB; first | rw [decide_eq_true (by omega)] | rw [decide_eq_false (by omega)]
    have hN : shN k = false := by unfold shN; first | rw [decide_eq_true (by omega)] | rw [decide_eq_false (by omega)]
    exact bodyPost_ret (results_agg1 rfl (cs := #[.bool true, .bool true, .bool false]) aggShp (by rfl) B70) rfl ⟨by rw [hA, hB, hN], bel⟩
  have hp9 := of_decide_eq_false hg8
  refine wp_cond_false rfl ?_
  refine wp_region_lit ?_
  refine st_value (v := (.bool (decide (k = 8)))) (by rfl) (run_eql_int (.tmp 3) (.const (.int .i64 8)) rfl rfl rfl w2) ?_
  simp only [nf0, nf1, nf2, nf3, nf4]
  refine st_mv (.bool (decide (k = 8))) ?_
  simp only [nf0, nf1, nf2, nf3, nf4]
  refine wpList_nil ?_
  show Code.wp _ _ _ _ _
  cases hg10 : decide (k = 8)
  rotate_left
  · have hp63 := of_decide_eq_true hg10
    refine wp_cond_true rfl ?_
    refine wp_seq ?_
    refine wp_region_lit ?_
    refine st_value (v := (.agg #[.bool true, .bool true, .bool false])) (by rfl) (run_buildV rfl (by kernel_rfl) w2) ?_
    simp only [nf0, nf1, nf2, nf3, nf4]
    refine st_row (by rfl) (run_storeW (.tmp 2) (.tmp 8) rfl (cs := #[.bool true, .bool true, .bool false]) aggShp rfl rfl B3 rfl (by simp [Value.oneCell'])) B3 ?_
    intro w64 B66 hg65
    simp only [nf0, nf1, nf2, nf3, nf4]
    replace bel := bl_kept0 bel hg65 lo5
    clear hg65
    clear B3
    refine wpList_nil ?_
    show Code.wp _ _ _ _ _
    refine wp_ret ?_
    first | show bodyPost _ _ _ _ _ _ | (simp only [Exit.then, Exit.inBlock]; show bodyPost _ _ _ _ _ _)
    have hA : shA k = true := by unfold shA; first | (rw [decide_eq_true (by omega)]; rfl) | (rw [decide_eq_false (by omega)]; rfl)
    have hB : shB k = true := by unfold shB; first | rw [decide_eq_true (by omega)] | rw [decide_eq_false (by omega)]
    have hN : shN k = false := by unfold shN; first | rw [decide_eq_true (by omega)] | rw [decide_eq_false (by omega)]
    exact bodyPost_ret (results_agg1 rfl (cs := #[.bool true, .bool true, .bool false]) aggShp (by rfl) B66) rfl ⟨by rw [hA, hB, hN], bel⟩
  have hp11 := of_decide_eq_false hg10
  refine wp_cond_false rfl ?_
  refine wp_seq ?_
  refine wp_region_lit ?_
  refine st_value (v := (.bool (decide (k = 4)))) (by rfl) (run_eql_int (.tmp 3) (.const (.int .i64 4)) rfl rfl rfl w2) ?_
  simp only [nf0, nf1, nf2, nf3, nf4]
  refine st_mv (.bool (decide (k = 4))) ?_
  simp only [nf0, nf1, nf2, nf3, nf4]
  refine wpList_nil ?_
  show Code.wp _ _ _ _ _
  cases hg12 : decide (k = 4)
  rotate_left
  · have hp59 := of_decide_eq_true hg12
    refine wp_cond_true rfl ?_
    refine wp_seq ?_
    refine wp_region_lit ?_
    refine st_value (v := (.agg #[.bool false, .bool false, .bool true])) (by rfl) (run_buildV rfl (by kernel_rfl) w2) ?_
    simp only [nf0, nf1, nf2, nf3, nf4]
    refine st_row (by rfl) (run_storeW (.tmp 2) (.tmp 11) rfl (cs := #[.bool false, .bool false, .bool true]) aggShp rfl rfl B3 rfl (by simp [Value.oneCell'])) B3 ?_
    intro w60 B62 hg61
    simp only [nf0, nf1, nf2, nf3, nf4]
    replace bel := bl_kept0 bel hg61 lo5
    clear hg61
    clear B3
    refine wpList_nil ?_
    show Code.wp _ _ _ _ _
    refine wp_ret ?_
    first | show bodyPost _ _ _ _ _ _ | (simp only [Exit.then, Exit.inBlock]; show bodyPost _ _ _ _ _ _)
    have hA : shA k = false := by unfold shA; first | (rw [decide_eq_true (by omega)]; rfl) | (rw [decide_eq_false (by omega)]; rfl)
    have hB : shB k = false := by unfold shB; first | rw [decide_eq_true (by omega)] | rw [decide_eq_false (by omega)]
    have hN : shN k = true := by unfold shN; first | rw [decide_eq_true (by omega)] | rw [decide_eq_false (by omega)]
    exact bodyPost_ret (results_agg1 rfl (cs := #[.bool false, .bool false, .bool true]) aggShp (by rfl) B62) rfl ⟨by rw [hA, hB, hN], bel⟩
  have hp13 := of_decide_eq_false hg12
  refine wp_cond_false rfl ?_
  refine wp_seq ?_
  refine wp_region_lit ?_
  refine st_value (v := (.bool (decide (k = 6)))) (by rfl) (run_eql_int (.tmp 3) (.const (.int .i64 6)) rfl rfl rfl w2) ?_
  simp only [nf0, nf1, nf2, nf3, nf4]
  refine st_mv (.bool (decide (k = 6))) ?_
  simp only [nf0, nf1, nf2, nf3, nf4]
  refine wpList_nil ?_
  show Code.wp _ _ _ _ _
  cases hg14 : decide (k = 6)
  rotate_left
  · have hp55 := of_decide_eq_true hg14
    refine wp_cond_true rfl ?_
    refine wp_seq ?_
    refine wp_region_lit ?_
    refine st_value (v := (.agg #[.bool false, .bool false, .bool false])) (by rfl) (run_buildV rfl (by kernel_rfl) w2) ?_
    simp only [nf0, nf1, nf2, nf3, nf4]
    refine st_row (by rfl) (run_storeW (.tmp 2) (.tmp 14) rfl (cs := #[.bool false, .bool false, .bool false]) aggShp rfl rfl B3 rfl (by simp [Value.oneCell'])) B3 ?_
    intro w56 B58 hg57
    simp only [nf0, nf1, nf2, nf3, nf4]
    replace bel := bl_kept0 bel hg57 lo5
    clear hg57
    clear B3
    refine wpList_nil ?_
    show Code.wp _ _ _ _ _
    refine wp_ret ?_
    first | show bodyPost _ _ _ _ _ _ | (simp only [Exit.then, Exit.inBlock]; show bodyPost _ _ _ _ _ _)
    have hA : shA k = false := by unfold shA; first | (rw [decide_eq_true (by omega)]; rfl) | (rw [decide_eq_false (by omega)]; rfl)
    have hB : shB k = false := by unfold shB; first | rw [decide_eq_true (by omega)] | rw [decide_eq_false (by omega)]
    have hN : shN k = false := by unfold shN; first | rw [decide_eq_true (by omega)] | rw [decide_eq_false (by omega)]
    exact bodyPost_ret (results_agg1 rfl (cs := #[.bool false, .bool false, .bool false]) aggShp (by rfl) B58) rfl ⟨by rw [hA, hB, hN], bel⟩
  have hp15 := of_decide_eq_false hg14
  refine wp_cond_false rfl ?_
  refine wp_seq ?_
  refine wp_seq ?_
  refine wp_region_lit ?_
  refine st_value (v := (.bool (decide (k = 1)))) (by rfl) (run_eql_int (.tmp 3) (.const (.int .i64 1)) rfl rfl rfl w2) ?_
  simp only [nf0, nf1, nf2, nf3, nf4]
  refine st_mv (.bool (decide (k = 1))) ?_
  simp only [nf0, nf1, nf2, nf3, nf4]
  refine wpList_nil ?_
  show Code.wp _ _ _ _ _
  cases hg16 : decide (k = 1)
  rotate_left
  · have hp51 := of_decide_eq_true hg16
    refine wp_cond_true rfl ?_
    refine wp_skip ?_
    show Code.wp _ _ _ _ _
    refine wp_cond_true rfl ?_
    refine wp_seq ?_
    refine wp_region_lit ?_
    refine st_value (v := (.agg #[.bool true, .bool false, .bool true])) (by rfl) (run_buildV rfl (by kernel_rfl) w2) ?_
    simp only [nf0, nf1, nf2, nf3, nf4]
    refine st_row (by rfl) (run_storeW (.tmp 2) (.tmp 22) rfl (cs := #[.bool true, .bool false, .bool true]) aggShp rfl rfl B3 rfl (by simp [Value.oneCell'])) B3 ?_
    intro w52 B54 hg53
    simp only [nf0, nf1, nf2, nf3, nf4]
    replace bel := bl_kept0 bel hg53 lo5
    clear hg53
    clear B3
    refine wpList_nil ?_
    show Code.wp _ _ _ _ _
    refine wp_ret ?_
    first | show bodyPost _ _ _ _ _ _ | (simp only [Exit.then, Exit.inBlock]; show bodyPost _ _ _ _ _ _)
    have hA : shA k = true := by unfold shA; first | (rw [decide_eq_true (by omega)]; rfl) | (rw [decide_eq_false (by omega)]; rfl)
    have hB : shB k = false := by unfold shB; first | rw [decide_eq_true (by omega)] | rw [decide_eq_false (by omega)]
    have hN : shN k = true := by unfold shN; first | rw [decide_eq_true (by omega)] | rw [decide_eq_false (by omega)]
    exact bodyPost_ret (results_agg1 rfl (cs := #[.bool true, .bool false, .bool true]) aggShp (by rfl) B54) rfl ⟨by rw [hA, hB, hN], bel⟩
  have hp17 := of_decide_eq_false hg16
  refine wp_cond_false rfl ?_
  refine wp_seq ?_
  refine wp_region_lit ?_
  refine st_value (v := (.bool (decide (k = 5)))) (by rfl) (run_eql_int (.tmp 3) (.const (.int .i64 5)) rfl rfl rfl w2) ?_
  simp only [nf0, nf1, nf2, nf3, nf4]
  refine st_mv (.bool (decide (k = 5))) ?_
  simp only [nf0, nf1, nf2, nf3, nf4]
  refine wpList_nil ?_
  show Code.wp _ _ _ _ _
  cases hg18 : decide (k = 5)
  rotate_left
  · have hp47 := of_decide_eq_true hg18
    refine wp_cond_true rfl ?_
    refine wp_skip ?_
    show Code.wp _ _ _ _ _
    refine wp_cond_true rfl ?_
    refine wp_seq ?_
    refine wp_region_lit ?_
    refine st_value (v := (.agg #[.bool true, .bool false, .bool true])) (by rfl) (run_buildV rfl (by kernel_rfl) w2) ?_
    simp only [nf0, nf1, nf2, nf3, nf4]
    refine st_row (by rfl) (run_storeW (.tmp 2) (.tmp 22) rfl (cs := #[.bool true, .bool false, .bool true]) aggShp rfl rfl B3 rfl (by simp [Value.oneCell'])) B3 ?_
    intro w48 B50 hg49
    simp only [nf0, nf1, nf2, nf3, nf4]
    replace bel := bl_kept0 bel hg49 lo5
    clear hg49
    clear B3
    refine wpList_nil ?_
    show Code.wp _ _ _ _ _
    refine wp_ret ?_
    first | show bodyPost _ _ _ _ _ _ | (simp only [Exit.then, Exit.inBlock]; show bodyPost _ _ _ _ _ _)
    have hA : shA k = true := by unfold shA; first | (rw [decide_eq_true (by omega)]; rfl) | (rw [decide_eq_false (by omega)]; rfl)
    have hB : shB k = false := by unfold shB; first | rw [decide_eq_true (by omega)] | rw [decide_eq_false (by omega)]
    have hN : shN k = true := by unfold shN; first | rw [decide_eq_true (by omega)] | rw [decide_eq_false (by omega)]
    exact bodyPost_ret (results_agg1 rfl (cs := #[.bool true, .bool false, .bool true]) aggShp (by rfl) B50) rfl ⟨by rw [hA, hB, hN], bel⟩
  have hp19 := of_decide_eq_false hg18
  refine wp_cond_false rfl ?_
  refine wp_seq ?_
  refine wp_region_lit ?_
  refine st_value (v := (.bool (decide (k = 7)))) (by rfl) (run_eql_int (.tmp 3) (.const (.int .i64 7)) rfl rfl rfl w2) ?_
  simp only [nf0, nf1, nf2, nf3, nf4]
  refine st_mv (.bool (decide (k = 7))) ?_
  simp only [nf0, nf1, nf2, nf3, nf4]
  refine wpList_nil ?_
  show Code.wp _ _ _ _ _
  cases hg20 : decide (k = 7)
  rotate_left
  · have hp43 := of_decide_eq_true hg20
    refine wp_cond_true rfl ?_
    refine wp_skip ?_
    show Code.wp _ _ _ _ _
    refine wp_cond_true rfl ?_
    refine wp_seq ?_
    refine wp_region_lit ?_
    refine st_value (v := (.agg #[.bool true, .bool false, .bool true])) (by rfl) (run_buildV rfl (by kernel_rfl) w2) ?_
    simp only [nf0, nf1, nf2, nf3, nf4]
    refine st_row (by rfl) (run_storeW (.tmp 2) (.tmp 22) rfl (cs := #[.bool true, .bool false, .bool true]) aggShp rfl rfl B3 rfl (by simp [Value.oneCell'])) B3 ?_
    intro w44 B46 hg45
    simp only [nf0, nf1, nf2, nf3, nf4]
    replace bel := bl_kept0 bel hg45 lo5
    clear hg45
    clear B3
    refine wpList_nil ?_
    show Code.wp _ _ _ _ _
    refine wp_ret ?_
    first | show bodyPost _ _ _ _ _ _ | (simp only [Exit.then, Exit.inBlock]; show bodyPost _ _ _ _ _ _)
    have hA : shA k = true := by unfold shA; first | (rw [decide_eq_true (by omega)]; rfl) | (rw [decide_eq_false (by omega)]; rfl)
    have hB : shB k = false := by unfold shB; first | rw [decide_eq_true (by omega)] | rw [decide_eq_false (by omega)]
    have hN : shN k = true := by unfold shN; first | rw [decide_eq_true (by omega)] | rw [decide_eq_false (by omega)]
    exact bodyPost_ret (results_agg1 rfl (cs := #[.bool true, .bool false, .bool true]) aggShp (by rfl) B46) rfl ⟨by rw [hA, hB, hN], bel⟩
  have hp21 := of_decide_eq_false hg20
  refine wp_cond_false rfl ?_
  refine wp_seq ?_
  refine wp_region_lit ?_
  refine st_value (v := (.bool (decide (k = 9)))) (by rfl) (run_eql_int (.tmp 3) (.const (.int .i64 9)) rfl rfl rfl w2) ?_
  simp only [nf0, nf1, nf2, nf3, nf4]
  refine st_mv (.bool (decide (k = 9))) ?_
  simp only [nf0, nf1, nf2, nf3, nf4]
  refine wpList_nil ?_
  show Code.wp _ _ _ _ _
  cases hg22 : decide (k = 9)
  rotate_left
  · have hp39 := of_decide_eq_true hg22
    refine wp_cond_true rfl ?_
    refine wp_skip ?_
    show Code.wp _ _ _ _ _
    refine wp_cond_true rfl ?_
    refine wp_seq ?_
    refine wp_region_lit ?_
    refine st_value (v := (.agg #[.bool true, .bool false, .bool true])) (by rfl) (run_buildV rfl (by kernel_rfl) w2) ?_
    simp only [nf0, nf1, nf2, nf3, nf4]
    refine st_row (by rfl) (run_storeW (.tmp 2) (.tmp 22) rfl (cs := #[.bool true, .bool false, .bool true]) aggShp rfl rfl B3 rfl (by simp [Value.oneCell'])) B3 ?_
    intro w40 B42 hg41
    simp only [nf0, nf1, nf2, nf3, nf4]
    replace bel := bl_kept0 bel hg41 lo5
    clear hg41
    clear B3
    refine wpList_nil ?_
    show Code.wp _ _ _ _ _
    refine wp_ret ?_
    first | show bodyPost _ _ _ _ _ _ | (simp only [Exit.then, Exit.inBlock]; show bodyPost _ _ _ _ _ _)
    have hA : shA k = true := by unfold shA; first | (rw [decide_eq_true (by omega)]; rfl) | (rw [decide_eq_false (by omega)]; rfl)
    have hB : shB k = false := by unfold shB; first | rw [decide_eq_true (by omega)] | rw [decide_eq_false (by omega)]
    have hN : shN k = true := by unfold shN; first | rw [decide_eq_true (by omega)] | rw [decide_eq_false (by omega)]
    exact bodyPost_ret (results_agg1 rfl (cs := #[.bool true, .bool false, .bool true]) aggShp (by rfl) B42) rfl ⟨by rw [hA, hB, hN], bel⟩
  have hp23 := of_decide_eq_false hg22
  refine wp_cond_false rfl ?_
  refine wp_seq ?_
  refine wp_region_lit ?_
  refine st_value (v := (.bool (decide (k = 10)))) (by rfl) (run_eql_int (.tmp 3) (.const (.int .i64 10)) rfl rfl rfl w2) ?_
  simp only [nf0, nf1, nf2, nf3, nf4]
  refine st_mv (.bool (decide (k = 10))) ?_
  simp only [nf0, nf1, nf2, nf3, nf4]
  refine wpList_nil ?_
  show Code.wp _ _ _ _ _
  cases hg24 : decide (k = 10)
  rotate_left
  · have hp35 := of_decide_eq_true hg24
    refine wp_cond_true rfl ?_
    refine wp_skip ?_
    show Code.wp _ _ _ _ _
    refine wp_cond_true rfl ?_
    refine wp_seq ?_
    refine wp_region_lit ?_
    refine st_value (v := (.agg #[.bool true, .bool false, .bool true])) (by rfl) (run_buildV rfl (by kernel_rfl) w2) ?_
    simp only [nf0, nf1, nf2, nf3, nf4]
    refine st_row (by rfl) (run_storeW (.tmp 2) (.tmp 22) rfl (cs := #[.bool true, .bool false, .bool true]) aggShp rfl rfl B3 rfl (by simp [Value.oneCell'])) B3 ?_
    intro w36 B38 hg37
    simp only [nf0, nf1, nf2, nf3, nf4]
    replace bel := bl_kept0 bel hg37 lo5
    clear hg37
    clear B3
    refine wpList_nil ?_
    show Code.wp _ _ _ _ _
    refine wp_ret ?_
    first | show bodyPost _ _ _ _ _ _ | (simp only [Exit.then, Exit.inBlock]; show bodyPost _ _ _ _ _ _)
    have hA : shA k = true := by unfold shA; first | (rw [decide_eq_true (by omega)]; rfl) | (rw [decide_eq_false (by omega)]; rfl)
    have hB : shB k = false := by unfold shB; first | rw [decide_eq_true (by omega)] | rw [decide_eq_false (by omega)]
    have hN : shN k = true := by unfold shN; first | rw [decide_eq_true (by omega)] | rw [decide_eq_false (by omega)]
    exact bodyPost_ret (results_agg1 rfl (cs := #[.bool true, .bool false, .bool true]) aggShp (by rfl) B38) rfl ⟨by rw [hA, hB, hN], bel⟩
  have hp25 := of_decide_eq_false hg24
  refine wp_cond_false rfl ?_
  refine wp_region_lit ?_
  refine st_value (v := (.bool (decide (k = 12)))) (by rfl) (run_eql_int (.tmp 3) (.const (.int .i64 12)) rfl rfl rfl w2) ?_
  simp only [nf0, nf1, nf2, nf3, nf4]
  refine st_mv (.bool (decide (k = 12))) ?_
  simp only [nf0, nf1, nf2, nf3, nf4]
  refine wpList_nil ?_
  show Code.wp _ _ _ _ _
  cases hg26 : decide (k = 12)
  rotate_left
  · have hp31 := of_decide_eq_true hg26
    refine wp_cond_true rfl ?_
    refine wp_seq ?_
    refine wp_region_lit ?_
    refine st_value (v := (.agg #[.bool true, .bool false, .bool true])) (by rfl) (run_buildV rfl (by kernel_rfl) w2) ?_
    simp only [nf0, nf1, nf2, nf3, nf4]
    refine st_row (by rfl) (run_storeW (.tmp 2) (.tmp 22) rfl (cs := #[.bool true, .bool false, .bool true]) aggShp rfl rfl B3 rfl (by simp [Value.oneCell'])) B3 ?_
    intro w32 B34 hg33
    simp only [nf0, nf1, nf2, nf3, nf4]
    replace bel := bl_kept0 bel hg33 lo5
    clear hg33
    clear B3
    refine wpList_nil ?_
    show Code.wp _ _ _ _ _
    refine wp_ret ?_
    first | show bodyPost _ _ _ _ _ _ | (simp only [Exit.then, Exit.inBlock]; show bodyPost _ _ _ _ _ _)
    have hA : shA k = true := by unfold shA; first | (rw [decide_eq_true (by omega)]; rfl) | (rw [decide_eq_false (by omega)]; rfl)
    have hB : shB k = false := by unfold shB; first | rw [decide_eq_true (by omega)] | rw [decide_eq_false (by omega)]
    have hN : shN k = true := by unfold shN; first | rw [decide_eq_true (by omega)] | rw [decide_eq_false (by omega)]
    exact bodyPost_ret (results_agg1 rfl (cs := #[.bool true, .bool false, .bool true]) aggShp (by rfl) B34) rfl ⟨by rw [hA, hB, hN], bel⟩
  have hp27 := of_decide_eq_false hg26
  refine wp_cond_false rfl ?_
  refine wp_skip ?_
  show Code.wp _ _ _ _ _
  refine wp_seq ?_
  refine wp_region_lit ?_
  refine st_value (v := (.agg #[.bool true, .bool false, .bool false])) (by rfl) (run_buildV rfl (by kernel_rfl) w2) ?_
  simp only [nf0, nf1, nf2, nf3, nf4]
  refine st_row (by rfl) (run_storeW (.tmp 2) (.tmp 23) rfl (cs := #[.bool true, .bool false, .bool false]) aggShp rfl rfl B3 rfl (by simp [Value.oneCell'])) B3 ?_
  intro w28 B30 hg29
  simp only [nf0, nf1, nf2, nf3, nf4]
  replace bel := bl_kept0 bel hg29 lo5
  clear hg29
  clear B3
  refine wpList_nil ?_
  show Code.wp _ _ _ _ _
  refine wp_ret ?_
  first | show bodyPost _ _ _ _ _ _ | (simp only [Exit.then, Exit.inBlock]; show bodyPost _ _ _ _ _ _)
  have hA : shA k = true := by unfold shA; first | (rw [decide_eq_true (by omega)]; rfl) | (rw [decide_eq_false (by omega)]; rfl)
  have hB : shB k = false := by unfold shB; first | rw [decide_eq_true (by omega)] | rw [decide_eq_false (by omega)]
  have hN : shN k = false := by unfold shN; first | rw [decide_eq_true (by omega)] | rw [decide_eq_false (by omega)]
  exact bodyPost_ret (results_agg1 rfl (cs := #[.bool true, .bool false, .bool false]) aggShp (by rfl) B30) rfl ⟨by rw [hA, hB, hN], bel⟩
set_option maxRecDepth 100000 in
set_option maxHeartbeats 4000000 in
theorem isReg_calls (b : Bool) (r : Int) (w : World) : Calls Tryd.prog 29 #[.bool b, .int .i64 r] w fun e w' => e = .returned (.bool (regB b r)) ∧ Below w.heap.size w w' := by
  have bel : Below w.heap.size w w := Below.refl _ _
  go_enter Tryd.func29, Tryd.ntmps29
  refine wp_seq ?_
  refine wp_region_lit ?_
  refine st_mv (.bool false) ?_
  simp only [nf0, nf1, nf2, nf3, nf4]
  refine wpList_nil ?_
  show Code.wp _ _ _ _ _
  refine wp_seq ?_
  cases hg1 : decide (r = 0)
  rotate_left
  · have hp9 := of_decide_eq_true hg1
    refine wp_region_lit ?_
    refine st_mv (.int .i64 r) ?_
    simp only [nf0, nf1, nf2, nf3, nf4]
    refine st_value (v := (.bool true)) (by rfl) ((run_eql_int (.tmp 5) (.const (.int .i64 0)) rfl rfl rfl w).trans (by rw [hg1])) ?_
    simp only [nf0, nf1, nf2, nf3, nf4]
    refine st_mv (.bool true) ?_
    simp only [nf0, nf1, nf2, nf3, nf4]
    refine st_nob (j := 2) (t := 7) (c := true) rfl rfl rfl rfl rfl ?_
    simp only [nf0, nf1, nf2, nf3, nf4]
    refine st_nob (j := 2) (t := 7) (c := true) rfl rfl rfl rfl rfl ?_
    simp only [nf0, nf1, nf2, nf3, nf4]
    refine st_nou (j := 4) (t := 9) rfl rfl rfl rfl ?_
    simp only [nf0, nf1, nf2, nf3, nf4]
    refine st_nou (j := 4) (t := 9) rfl rfl rfl rfl ?_
    simp only [nf0, nf1, nf2, nf3, nf4]
    refine st_nob (j := 2) (t := 7) (c := true) rfl rfl rfl rfl rfl ?_
    simp only [nf0, nf1, nf2, nf3, nf4]
    refine st_nob (j := 2) (t := 7) (c := true) rfl rfl rfl rfl rfl ?_
    simp only [nf0, nf1, nf2, nf3, nf4]
    refine st_nou (j := 8) (t := 13) rfl rfl rfl rfl ?_
    simp only [nf0, nf1, nf2, nf3, nf4]
    refine st_nou (j := 8) (t := 13) rfl rfl rfl rfl ?_
    simp only [nf0, nf1, nf2, nf3, nf4]
    refine st_nob (j := 2) (t := 7) (c := true) rfl rfl rfl rfl rfl ?_
    simp only [nf0, nf1, nf2, nf3, nf4]
    refine st_mv (.bool true) ?_
    simp only [nf0, nf1, nf2, nf3, nf4]
    refine st_mv (.bool true) ?_
    simp only [nf0, nf1, nf2, nf3, nf4]
    refine wpList_nil ?_
    show Code.wp _ _ _ _ _
    refine wp_ret ?_
    first | show bodyPost _ _ _ _ _ _ | (simp only [Exit.then, Exit.inBlock]; show bodyPost _ _ _ _ _ _)
    have hE : regB b r = true := by unfold regB; first | exact decide_eq_true (.inl (by assumption)) | exact decide_eq_true (.inr ⟨rfl, by omega, by omega⟩) | exact decide_eq_false (by rintro (h | ⟨h0, h1, h2⟩); (first | contradiction | omega); first | omega | cases h0) | (rw [decide_eq_decide]; constructor; (rintro (h | ⟨_, h1, h2⟩) <;> omega); (intro h; exact .inr ⟨rfl, by omega, by omega⟩))
    exact bodyPost_ret (results_tmp rfl _ _ _) rfl ⟨by rw [hE]; rfl, bel⟩
  have hp2 := of_decide_eq_false hg1
  cases hg3 : b
  · have hp4 := trivial
    refine wp_region_lit ?_
    refine st_mv (.int .i64 r) ?_
    simp only [nf0, nf1, nf2, nf3, nf4]
    refine st_value (v := (.bool false)) (by rfl) ((run_eql_int (.tmp 5) (.const (.int .i64 0)) rfl rfl rfl w).trans (by rw [hg1])) ?_
    simp only [nf0, nf1, nf2, nf3, nf4]
    refine st_mv (.bool false) ?_
    simp only [nf0, nf1, nf2, nf3, nf4]
    refine st_mv (.bool false) ?_
    simp only [nf0, nf1, nf2, nf3, nf4]
    refine st_mv (.bool false) ?_
    simp only [nf0, nf1, nf2, nf3, nf4]
    refine st_nob (j := 4) (t := 9) (c := false) rfl rfl rfl rfl rfl ?_
    simp only [nf0, nf1, nf2, nf3, nf4]
    refine st_nob (j := 4) (t := 9) (c := false) rfl rfl rfl rfl rfl ?_
    simp only [nf0, nf1, nf2, nf3, nf4]
    refine st_mv (.bool false) ?_
    simp only [nf0, nf1, nf2, nf3, nf4]
    refine st_mv (.bool false) ?_
    simp only [nf0, nf1, nf2, nf3, nf4]
    refine st_nob (j := 8) (t := 13) (c := false) rfl rfl rfl rfl rfl ?_
    simp only [nf0, nf1, nf2, nf3, nf4]
    refine st_nob (j := 8) (t := 13) (c := false) rfl rfl rfl rfl rfl ?_
    simp only [nf0, nf1, nf2, nf3, nf4]
    refine st_mv (.bool false) ?_
    simp only [nf0, nf1, nf2, nf3, nf4]
    refine st_mv (.bool false) ?_
    simp only [nf0, nf1, nf2, nf3, nf4]
    refine st_mv (.bool false) ?_
    simp only [nf0, nf1, nf2, nf3, nf4]
    refine wpList_nil ?_
    show Code.wp _ _ _ _ _
    refine wp_ret ?_
    first | show bodyPost _ _ _ _ _ _ | (simp only [Exit.then, Exit.inBlock]; show bodyPost _ _ _ _ _ _)
    have hE : regB false r = false := by unfold regB; first | exact decide_eq_true (.inl (by assumption)) | exact decide_eq_true (.inr ⟨rfl, by omega, by omega⟩) | exact decide_eq_false (by rintro (h | ⟨h0, h1, h2⟩); (first | contradiction | omega); first | omega | cases h0) | (rw [decide_eq_decide]; constructor; (rintro (h | ⟨_, h1, h2⟩) <;> omega); (intro h; exact .inr ⟨rfl, by omega, by omega⟩))
    exact bodyPost_ret (results_tmp rfl _ _ _) rfl ⟨by rw [hE]; rfl, bel⟩
  have hp5 := trivial
  cases hg6 : decide (0 < r)
  · have hp7 := of_decide_eq_false hg6
    refine wp_region_lit ?_
    refine st_mv (.int .i64 r) ?_
    simp only [nf0, nf1, nf2, nf3, nf4]
    refine st_value (v := (.bool false)) (by rfl) ((run_eql_int (.tmp 5) (.const (.int .i64 0)) rfl rfl rfl w).trans (by rw [hg1])) ?_
    simp only [nf0, nf1, nf2, nf3, nf4]
    refine st_mv (.bool false) ?_
    simp only [nf0, nf1, nf2, nf3, nf4]
    refine st_mv (.bool true) ?_
    simp only [nf0, nf1, nf2, nf3, nf4]
    refine st_mv (.bool true) ?_
    simp only [nf0, nf1, nf2, nf3, nf4]
    refine st_mv (.int .i64 r) ?_
    simp only [nf0, nf1, nf2, nf3, nf4]
    refine st_value (v := (.bool false)) (by rfl) ((run_gtr (.tmp 10) (.const (.int .i64 0)) rfl rfl rfl w).trans (by rw [hg6])) ?_
    simp only [nf0, nf1, nf2, nf3, nf4]
    refine st_mv (.bool false) ?_
    simp only [nf0, nf1, nf2, nf3, nf4]
    refine st_mv (.bool false) ?_
    simp only [nf0, nf1, nf2, nf3, nf4]
    refine st_nob (j := 8) (t := 13) (c := false) rfl rfl rfl rfl rfl ?_
    simp only [nf0, nf1, nf2, nf3, nf4]
    refine st_nob (j := 8) (t := 13) (c := false) rfl rfl rfl rfl rfl ?_
    simp only [nf0, nf1, nf2, nf3, nf4]
    refine st_mv (.bool false) ?_
    simp only [nf0, nf1, nf2, nf3, nf4]
    refine st_mv (.bool false) ?_
    simp only [nf0, nf1, nf2, nf3, nf4]
    refine st_mv (.bool false) ?_
    simp only [nf0, nf1, nf2, nf3, nf4]
    refine wpList_nil ?_
    show Code.wp _ _ _ _ _
    refine wp_ret ?_
    first | show bodyPost _ _ _ _ _ _ | (simp only [Exit.then, Exit.inBlock]; show bodyPost _ _ _ _ _ _)
    have hE : regB true r = false := by unfold regB; first | exact decide_eq_true (.inl (by assumption)) | exact decide_eq_true (.inr ⟨rfl, by omega, by omega⟩) | exact decide_eq_false (by rintro (h | ⟨h0, h1, h2⟩); (first | contradiction | omega); first | omega | cases h0) | (rw [decide_eq_decide]; constructor; (rintro (h | ⟨_, h1, h2⟩) <;> omega); (intro h; exact .inr ⟨rfl, by omega, by omega⟩))
    exact bodyPost_ret (results_tmp rfl _ _ _) rfl ⟨by rw [hE]; rfl, bel⟩
  have hp8 := of_decide_eq_true hg6
  refine wp_region_lit ?_
  refine st_mv (.int .i64 r) ?_
  simp only [nf0, nf1, nf2, nf3, nf4]
  refine st_value (v := (.bool false)) (by rfl) ((run_eql_int (.tmp 5) (.const (.int .i64 0)) rfl rfl rfl w).trans (by rw [hg1])) ?_
  simp only [nf0, nf1, nf2, nf3, nf4]
  refine st_mv (.bool false) ?_
  simp only [nf0, nf1, nf2, nf3, nf4]
  refine st_mv (.bool true) ?_
  simp only [nf0, nf1, nf2, nf3, nf4]
  refine st_mv (.bool true) ?_
  simp only [nf0, nf1, nf2, nf3, nf4]
  refine st_mv (.int .i64 r) ?_
  simp only [nf0, nf1, nf2, nf3, nf4]
  refine st_value (v := (.bool true)) (by rfl) ((run_gtr (.tmp 10) (.const (.int .i64 0)) rfl rfl rfl w).trans (by rw [hg6])) ?_
  simp only [nf0, nf1, nf2, nf3, nf4]
  refine st_mv (.bool true) ?_
  simp only [nf0, nf1, nf2, nf3, nf4]
  refine st_mv (.bool true) ?_
  simp only [nf0, nf1, nf2, nf3, nf4]
  refine st_mv (.int .i64 r) ?_
  simp only [nf0, nf1, nf2, nf3, nf4]
  refine st_value (v := (.bool (decide (r < 4)))) (by rfl) (run_lss (.tmp 14) (.const (.int .i64 4)) rfl rfl rfl w) ?_
  simp only [nf0, nf1, nf2, nf3, nf4]
  refine st_mv (.bool (decide (r < 4))) ?_
  simp only [nf0, nf1, nf2, nf3, nf4]
  refine st_mv (.bool (decide (r < 4))) ?_
  simp only [nf0, nf1, nf2, nf3, nf4]
  refine st_mv (.bool (decide (r < 4))) ?_
  simp only [nf0, nf1, nf2, nf3, nf4]
  refine wpList_nil ?_
  show Code.wp _ _ _ _ _
  refine wp_ret ?_
  first | show bodyPost _ _ _ _ _ _ | (simp only [Exit.then, Exit.inBlock]; show bodyPost _ _ _ _ _ _)
  have hE : regB true r = decide (r < 4) := by unfold regB; first | exact decide_eq_true (.inl (by assumption)) | exact decide_eq_true (.inr ⟨rfl, by omega, by omega⟩) | exact decide_eq_false (by rintro (h | ⟨h0, h1, h2⟩); (first | contradiction | omega); first | omega | cases h0) | (rw [decide_eq_decide]; constructor; (rintro (h | ⟨_, h1, h2⟩) <;> omega); (intro h; exact .inr ⟨rfl, by omega, by omega⟩))
  exact bodyPost_ret (results_tmp rfl _ _ _) rfl ⟨by rw [hE]; rfl, bel⟩
set_option maxRecDepth 100000 in
set_option maxHeartbeats 4000000 in
theorem badReg_calls (b : Bool) (r : Int) (w : World) : Calls Tryd.prog 17 #[.bool b, .int .i64 r] w fun e w' => e = .returned (.bool (badB b r)) ∧ Below w.heap.size w w' := by
  have bel : Below w.heap.size w w := Below.refl _ _
  go_enter Tryd.func17, Tryd.ntmps17
  refine wp_seq ?_
  refine wp_region_lit ?_
  refine st_mv (.bool false) ?_
  simp only [nf0, nf1, nf2, nf3, nf4]
  refine wpList_nil ?_
  show Code.wp _ _ _ _ _
  refine wp_seq ?_
  cases hg1 : decide (r = 0)
  rotate_left
  · have hp9 := of_decide_eq_true hg1
    refine wp_region_lit ?_
    refine st_mv (.int .i64 r) ?_
    simp only [nf0, nf1, nf2, nf3, nf4]
    refine st_value (v := (.bool false)) (by rfl) ((run_neq_int (.tmp 5) (.const (.int .i64 0)) rfl rfl rfl w).trans (by rw [hg1]; rfl)) ?_
    simp only [nf0, nf1, nf2, nf3, nf4]
    refine st_mv (.bool false) ?_
    simp only [nf0, nf1, nf2, nf3, nf4]
    refine st_nob (j := 2) (t := 7) (c := false) rfl rfl rfl rfl rfl ?_
    simp only [nf0, nf1, nf2, nf3, nf4]
    refine st_nob (j := 2) (t := 7) (c := false) rfl rfl rfl rfl rfl ?_
    simp only [nf0, nf1, nf2, nf3, nf4]
    refine st_nob (j := 2) (t := 7) (c := false) rfl rfl rfl rfl rfl ?_
    simp only [nf0, nf1, nf2, nf3, nf4]
    refine st_nou (j := 5) (t := 10) rfl rfl rfl rfl ?_
    simp only [nf0, nf1, nf2, nf3, nf4]
    refine st_nou (j := 5) (t := 10) rfl rfl rfl rfl ?_
    simp only [nf0, nf1, nf2, nf3, nf4]
    refine st_nob (j := 2) (t := 7) (c := false) rfl rfl rfl rfl rfl ?_
    simp only [nf0, nf1, nf2, nf3, nf4]
    refine st_nob (j := 2) (t := 7) (c := false) rfl rfl rfl rfl rfl ?_
    simp only [nf0, nf1, nf2, nf3, nf4]
    refine st_nou (j := 9) (t := 14) rfl rfl rfl rfl ?_
    simp only [nf0, nf1, nf2, nf3, nf4]
    refine st_nou (j := 9) (t := 14) rfl rfl rfl rfl ?_
    simp only [nf0, nf1, nf2, nf3, nf4]
    refine st_nob (j := 2) (t := 7) (c := false) rfl rfl rfl rfl rfl ?_
    simp only [nf0, nf1, nf2, nf3, nf4]
    refine st_mv (.bool false) ?_
    simp only [nf0, nf1, nf2, nf3, nf4]
    refine st_mv (.bool false) ?_
    simp only [nf0, nf1, nf2, nf3, nf4]
    refine wpList_nil ?_
    show Code.wp _ _ _ _ _
    refine wp_ret ?_
    first | show bodyPost _ _ _ _ _ _ | (simp only [Exit.then, Exit.inBlock]; show bodyPost _ _ _ _ _ _)
    have hE : badB b r = false := by unfold badB; first | exact decide_eq_true ⟨by assumption, .inl rfl⟩ | exact decide_eq_true ⟨by assumption, .inr (.inl (by omega))⟩ | exact decide_eq_false (by rintro ⟨h, _⟩; first | contradiction | omega) | (rw [decide_eq_decide]; constructor; (rintro ⟨_, h | h | h⟩ <;> first | cases h | omega); (intro h; exact ⟨by omega, .inr (.inr h)⟩))
    exact bodyPost_ret (results_tmp rfl _ _ _) rfl ⟨by rw [hE]; rfl, bel⟩
  have hp2 := of_decide_eq_false hg1
  cases hg3 : b
  · have hp4 := trivial
    refine wp_region_lit ?_
    refine st_mv (.int .i64 r) ?_
    simp only [nf0, nf1, nf2, nf3, nf4]
    refine st_value (v := (.bool true)) (by rfl) ((run_neq_int (.tmp 5) (.const (.int .i64 0)) rfl rfl rfl w).trans (by rw [hg1]; rfl)) ?_
    simp only [nf0, nf1, nf2, nf3, nf4]
    refine st_mv (.bool true) ?_
    simp only [nf0, nf1, nf2, nf3, nf4]
    refine st_mv (.bool false) ?_
    simp only [nf0, nf1, nf2, nf3, nf4]
    refine st_value (v := (.bool true)) (by rfl) (run_not (.tmp 8) rfl (b := false) rfl w) ?_
    simp only [nf0, nf1, nf2, nf3, nf4]
    refine st_mv (.bool true) ?_
    simp only [nf0, nf1, nf2, nf3, nf4]
    refine st_nob (j := 5) (t := 10) (c := true) rfl rfl rfl rfl rfl ?_
    simp only [nf0, nf1, nf2, nf3, nf4]
    refine st_nob (j := 5) (t := 10) (c := true) rfl rfl rfl rfl rfl ?_
    simp only [nf0, nf1, nf2, nf3, nf4]
    refine st_mv (.bool true) ?_
    simp only [nf0, nf1, nf2, nf3, nf4]
    refine st_mv (.bool true) ?_
    simp only [nf0, nf1, nf2, nf3, nf4]
    refine st_nob (j := 9) (t := 14) (c := true) rfl rfl rfl rfl rfl ?_
    simp only [nf0, nf1, nf2, nf3, nf4]
    refine st_nob (j := 9) (t := 14) (c := true) rfl rfl rfl rfl rfl ?_
    simp only [nf0, nf1, nf2, nf3, nf4]
    refine st_mv (.bool true) ?_
    simp only [nf0, nf1, nf2, nf3, nf4]
    refine st_mv (.bool true) ?_
    simp only [nf0, nf1, nf2, nf3, nf4]
    refine st_mv (.bool true) ?_
    simp only [nf0, nf1, nf2, nf3, nf4]
    refine wpList_nil ?_
    show Code.wp _ _ _ _ _
    refine wp_ret ?_
    first | show bodyPost _ _ _ _ _ _ | (simp only [Exit.then, Exit.inBlock]; show bodyPost _ _ _ _ _ _)
    have hE : badB false r = true := by unfold badB; first | exact decide_eq_true ⟨by assumption, .inl rfl⟩ | exact decide_eq_true ⟨by assumption, .inr (.inl (by omega))⟩ | exact decide_eq_false (by rintro ⟨h, _⟩; first | contradiction | omega) | (rw [decide_eq_decide]; constructor; (rintro ⟨_, h | h | h⟩ <;> first | cases h | omega); (intro h; exact ⟨by omega, .inr (.inr h)⟩))
    exact bodyPost_ret (results_tmp rfl _ _ _) rfl ⟨by rw [hE]; rfl, bel⟩
  have hp5 := trivial
  cases hg6 : decide (r < 0)
  · have hp7 := of_decide_eq_false hg6
    refine wp_region_lit ?_
    refine st_mv (.int .i64 r) ?_
    simp only [nf0, nf1, nf2, nf3, nf4]
    refine st_value (v := (.bool true)) (by rfl) ((run_neq_int (.tmp 5) (.const (.int .i64 0)) rfl rfl rfl w).trans (by rw [hg1]; rfl)) ?_
    simp only [nf0, nf1, nf2, nf3, nf4]
    refine st_mv (.bool true) ?_
    simp only [nf0, nf1, nf2, nf3, nf4]
    refine st_mv (.bool true) ?_
    simp only [nf0, nf1, nf2, nf3, nf4]
    refine st_value (v := (.bool false)) (by rfl) (run_not (.tmp 8) rfl (b := true) rfl w) ?_
    simp only [nf0, nf1, nf2, nf3, nf4]
    refine st_mv (.bool false) ?_
    simp only [nf0, nf1, nf2, nf3, nf4]
    refine st_mv (.int .i64 r) ?_
    simp only [nf0, nf1, nf2, nf3, nf4]
    refine st_value (v := (.bool false)) (by rfl) ((run_lss (.tmp 11) (.const (.int .i64 0)) rfl rfl rfl w).trans (by rw [hg6])) ?_
    simp only [nf0, nf1, nf2, nf3, nf4]
    refine st_mv (.bool false) ?_
    simp only [nf0, nf1, nf2, nf3, nf4]
    refine st_mv (.bool false) ?_
    simp only [nf0, nf1, nf2, nf3, nf4]
    refine st_mv (.int .i64 r) ?_
    simp only [nf0, nf1, nf2, nf3, nf4]
    refine st_value (v := (.bool (decide (3 < r)))) (by rfl) (run_gtr (.tmp 15) (.const (.int .i64 3)) rfl rfl rfl w) ?_
    simp only [nf0, nf1, nf2, nf3, nf4]
    refine st_mv (.bool (decide (3 < r))) ?_
    simp only [nf0, nf1, nf2, nf3, nf4]
    refine st_mv (.bool (decide (3 < r))) ?_
    simp only [nf0, nf1, nf2, nf3, nf4]
    refine st_mv (.bool (decide (3 < r))) ?_
    simp only [nf0, nf1, nf2, nf3, nf4]
    refine wpList_nil ?_
    show Code.wp _ _ _ _ _
    refine wp_ret ?_
    first | show bodyPost _ _ _ _ _ _ | (simp only [Exit.then, Exit.inBlock]; show bodyPost _ _ _ _ _ _)
    have hE : badB true r = decide (3 < r) := by unfold badB; first | exact decide_eq_true ⟨by assumption, .inl rfl⟩ | exact decide_eq_true ⟨by assumption, .inr (.inl (by omega))⟩ | exact decide_eq_false (by rintro ⟨h, _⟩; first | contradiction | omega) | (rw [decide_eq_decide]; constructor; (rintro ⟨_, h | h | h⟩ <;> first | cases h | omega); (intro h; exact ⟨by omega, .inr (.inr h)⟩))
    exact bodyPost_ret (results_tmp rfl _ _ _) rfl ⟨by rw [hE]; rfl, bel⟩
  have hp8 := of_decide_eq_true hg6
  refine wp_region_lit ?_
  refine st_mv (.int .i64 r) ?_
  simp only [nf0, nf1, nf2, nf3, nf4]
  refine st_value (v := (.bool true)) (by rfl) ((run_neq_int (.tmp 5) (.const (.int .i64 0)) rfl rfl rfl w).trans (by rw [hg1]; rfl)) ?_
  simp only [nf0, nf1, nf2, nf3, nf4]
  refine st_mv (.bool true) ?_
  simp only [nf0, nf1, nf2, nf3, nf4]
  refine st_mv (.bool true) ?_
  simp only [nf0, nf1, nf2, nf3, nf4]
  refine st_value (v := (.bool false)) (by rfl) (run_not (.tmp 8) rfl (b := true) rfl w) ?_
  simp only [nf0, nf1, nf2, nf3, nf4]
  refine st_mv (.bool false) ?_
  simp only [nf0, nf1, nf2, nf3, nf4]
  refine st_mv (.int .i64 r) ?_
  simp only [nf0, nf1, nf2, nf3, nf4]
  refine st_value (v := (.bool true)) (by rfl) ((run_lss (.tmp 11) (.const (.int .i64 0)) rfl rfl rfl w).trans (by rw [hg6])) ?_
  simp only [nf0, nf1, nf2, nf3, nf4]
  refine st_mv (.bool true) ?_
  simp only [nf0, nf1, nf2, nf3, nf4]
  refine st_mv (.bool true) ?_
  simp only [nf0, nf1, nf2, nf3, nf4]
  refine st_nob (j := 9) (t := 14) (c := true) rfl rfl rfl rfl rfl ?_
  simp only [nf0, nf1, nf2, nf3, nf4]
  refine st_nob (j := 9) (t := 14) (c := true) rfl rfl rfl rfl rfl ?_
  simp only [nf0, nf1, nf2, nf3, nf4]
  refine st_mv (.bool true) ?_
  simp only [nf0, nf1, nf2, nf3, nf4]
  refine st_mv (.bool true) ?_
  simp only [nf0, nf1, nf2, nf3, nf4]
  refine st_mv (.bool true) ?_
  simp only [nf0, nf1, nf2, nf3, nf4]
  refine wpList_nil ?_
  show Code.wp _ _ _ _ _
  refine wp_ret ?_
  first | show bodyPost _ _ _ _ _ _ | (simp only [Exit.then, Exit.inBlock]; show bodyPost _ _ _ _ _ _)
  have hE : badB true r = true := by unfold badB; first | exact decide_eq_true ⟨by assumption, .inl rfl⟩ | exact decide_eq_true ⟨by assumption, .inr (.inl (by omega))⟩ | exact decide_eq_false (by rintro ⟨h, _⟩; first | contradiction | omega) | (rw [decide_eq_decide]; constructor; (rintro ⟨_, h | h | h⟩ <;> first | cases h | omega); (intro h; exact ⟨by omega, .inr (.inr h)⟩))
  exact bodyPost_ret (results_tmp rfl _ _ _) rfl ⟨by rw [hE]; rfl, bel⟩
end Go.Proofs.YtjbmahjfmffnoaaDoor

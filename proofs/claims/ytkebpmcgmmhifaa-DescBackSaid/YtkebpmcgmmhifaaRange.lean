/- Ranges over a function, in walks that gen/wy.py prints: the caller's law at the plain walk, a round's walk, the iterator's call of yield. -/
import Derived.Test.YtkebpmcgmmhifaaCuts
import Derived.RangeFuncNested
import Derived.RangeFuncCalls
import Derived.RangeFuncLeaves
import Derived.Shelf.Abstract
namespace Go.Proofs.Ytkebpmcgmmhifaa
open Go.RowKit Go.WideShapes Go.ChangeShapes

/-- The rounds of a loop that has few. -/
def rnds (P : Program) (c : Code) (Q : Exit → Act → World → Prop) : Nat → Act → World → Prop
  | 0, a, w => c.wp P (Exit.then (fun _ _ => False) Q) a w
  | n + 1, a, w => c.wp P (Exit.then (rnds P c Q n) Q) a w
theorem then_mono' {Q : Exit → Act → World → Prop} {f g : Act → World → Prop} (h : ∀ a w, f a w → g a w) : ∀ e a w, Exit.then f Q e a w → Exit.then g Q e a w := by
  intro e a w
  cases e <;> simp only [Exit.then] <;> first | exact h a w | exact id
theorem wp_loop_rnds {P : Program} {c : Code} {Q : Exit → Act → World → Prop} {a : Act} {w : World} (n : Nat) (h : rnds P c Q n a w) : (Code.loop c).wp P Q a w := by
  refine wp_loop_left (rnds P c Q) n h fun n a w hn => ?_
  cases n with
  | zero => exact wp_mono hn (then_mono' fun _ _ f => f.elim)
  | succ n => exact wp_mono hn (then_mono' fun a' w' f => ⟨n, Nat.lt_succ_self n, f⟩)

/-- The wide fence, in a round or not. -/
abbrev FW (ro : Option Nat) : Fence := { fn := fun _ => True, depth := none, alive := false, round := ro }
def nodefer (o : Oper) : Bool := match o.op with | .defer _ => false | _ => true
theorem fw_calls {ro : Option Nat} {n : Nat} {P : Program} {f : FuncId} {args : Array Value} {w : World} {R : Ending → World → Prop} (h : Calls P f args w R) : CallsIn (FW ro) n P f args w R := by
  cases ro with
  | none => exact callsIn_wide.2 h
  | some l => exact CallsIn.inRound l (callsIn_wide.2 h)

/-- All cells' blocks but those of S are as they were. -/
structure Kc (S : List Nat) (w w' : World) : Prop where
  size : w.heap.size ≤ w'.heap.size
  same : ∀ (j : Nat) (o : Obj), j ∉ S → w.heap[j]? = some o → o.isCells = true → w'.heap[j]? = some o
theorem Kc.of_fr {S : List Nat} {w w' : World} (h : Fr S w w') : Kc S w w' := ⟨h.size, fun j o hj ho _ => (h.block j (Array.getElem?_eq_some_iff.1 ho).1 hj).trans ho⟩
theorem Kc.trans {S : List Nat} {a b c : World} (h : Kc S a b) (k : Kc S b c) : Kc S a c := ⟨Nat.le_trans h.size k.size, fun j o hj ho hc => k.same j o hj (h.same j o hj ho hc) hc⟩
theorem Blk.kc {S : List Nat} {w w' : World} {g : Nat} {cs : Array Value} {t : TypeId} (h : Blk w g cs t) (k : Kc S w w') (n : g ∉ S) : Blk w' g cs t := k.same g _ n h rfl
theorem Reads.kc {S : List Nat} {w w' : World} {A : Option Addr} {cells : List Value} (h : Reads w A cells) (k : Kc S w w') (n : ∀ ad, A = some ad → ad.block ∉ S) : Reads w' A cells := by
  intro j u hj
  obtain ⟨b, off, hA, hc⟩ := h j u hj
  refine ⟨b, off, hA, ?_⟩
  have hb := n _ hA
  unfold World.cell? at hc ⊢
  cases ho : w.heap[b]? with
  | none => simp [ho] at hc
  | some o =>
    cases o with
    | cells cs t fr => rw [k.same b _ hb ho rfl]; simpa [ho] using hc
    | _ => simp [ho] at hc

theorem Fr.of_grown {w w' : World} {g : Nat} (h : w.grownBy w' (some g)) : Fr [g] w w' := ⟨h.os, h.tape, h.output, h.size, fun j hj hn => h.block j hj (fun e => hn (by injection e with e; simp [e]))⟩

/-- The block of a range's deferred calls: none. -/
def Dfr (W : World) (D : Nat) : Prop := W.heap[D]? = some (.deferred (some []))
theorem Dfr.below {W W' : World} {D : Nat} (h : Dfr W D) (k : Below W.heap.size W W') : Dfr W' D := (k.block D (Array.getElem?_eq_some_iff.1 h).1).trans h
theorem Dfr.kept {W W' : World} {D g : Nat} {cs : Array Value} {t : TypeId} (h : Dfr W D) (hB : Blk W g cs t) (k : W.grownBy W' (some g)) : Dfr W' D :=
  (k.block D (Array.getElem?_eq_some_iff.1 h).1 (fun e => by injection e with e; subst e; unfold Dfr at h; unfold Blk at hB; rw [hB] at h; injection h with h; cases h)).trans h
theorem Dfr.ne {W : World} {D g : Nat} {cs : Array Value} {t : TypeId} (h : Dfr W D) (hB : Blk W g cs t) : g ≠ D := fun e => by subst e; unfold Dfr at h; unfold Blk at hB; rw [hB] at h; injection h with h; cases h
theorem Dfr.fr {S : List Nat} {W W' : World} {D : Nat} (h : Dfr W D) (k : Fr S W W') (n : D ∉ S) : Dfr W' D := (k.block D (Array.getElem?_eq_some_iff.1 h).1 n).trans h

section
variable {ro : Option Nat} {n : Nat} {P : Program} {ops : Array Oper} {o : Oper} {rest : List Oper} {a : Act} {w : World} {Q : Exit → Act → World → Prop}
theorem si_sem (hd : nodefer o = true) : o.semAt (FW ro).round a.eval = execOp a.eval o := Oper.semAt_eq _ _ _ (fun c h => by simp [nodefer, h] at hd)
theorem si_value {v : Value} (hw : Region.wanted o (yielded ops a.tmps) = true) (h : (execOp a.eval o).run P w = .ok (.value v) w) (k : wpListIn (FW ro) n P ops Q rest (a.put o.dst v) w) (hd : nodefer o = true := by rfl) : wpListIn (FW ro) n P ops Q (o :: rest) a w := by
  unfold wpListIn
  rw [if_pos hw]
  refine ⟨fun _ _ => trivial, ?_⟩
  rw [si_sem hd, h]
  exact k
theorem si_mv (v : Value) (k : wpListIn (FW ro) n P ops Q rest (a.put o.dst v) w) (hw : Region.wanted o (yielded ops a.tmps) = true := by rfl) (h : (execOp a.eval o).run P w = .ok (.value v) w := by rfl) (hd : nodefer o = true := by rfl) : wpListIn (FW ro) n P ops Q (o :: rest) a w := si_value hw h k hd
theorem si_not (hw : Region.wanted o (yielded ops a.tmps) = false) (k : wpListIn (FW ro) n P ops Q rest (a.put o.dst undef) w) : wpListIn (FW ro) n P ops Q (o :: rest) a w := by
  unfold wpListIn
  rw [if_neg (by simp [hw])]
  exact ⟨fun _ _ => trivial, k⟩
theorem si_nob {j t : Nat} {b c : Bool} (hg : o.guard = some (j, b)) {p : Oper} (hp : ops[j]? = some p) (hd : p.dst = some t) (hv : a.tmps[t]? = some (.bool c)) (hc : (c == b) = false) (k : wpListIn (FW ro) n P ops Q rest (a.put o.dst undef) w) : wpListIn (FW ro) n P ops Q (o :: rest) a w := by
  refine si_not ?_ k
  simp only [Region.wanted, hg, yielded, hp, Option.bind_some, hd, hv]
  simpa using hc
theorem si_nou {j t : Nat} {b : Bool} (hg : o.guard = some (j, b)) {p : Oper} (hp : ops[j]? = some p) (hd : p.dst = some t) (hv : a.tmps[t]? = some undef) (k : wpListIn (FW ro) n P ops Q rest (a.put o.dst undef) w) : wpListIn (FW ro) n P ops Q (o :: rest) a w := by
  refine si_not ?_ k
  simp only [Region.wanted, hg, yielded, hp, Option.bind_some, hd, hv]
  rfl
theorem si_call {g : FuncId} {args : Array Value} {R : Value → World → Prop} (hw : Region.wanted o (yielded ops a.tmps) = true) (h : (execOp a.eval o).run P w = .ok (.enter g args) w)
    (c : Calls P g args w fun e w' => ∃ v, e = .returned v ∧ R v w') (k : ∀ v w', R v w' → wpListIn (FW ro) n P ops Q rest (a.put o.dst v) w') (hd : nodefer o = true := by rfl) : wpListIn (FW ro) n P ops Q (o :: rest) a w := by
  unfold wpListIn
  rw [if_pos hw]
  refine ⟨fun _ _ => trivial, ?_⟩
  rw [si_sem hd, h, Oper.uponIn_enter]
  exact ⟨fun h => (by cases h), fw_calls (c.mono fun e w' ⟨v, he, hr⟩ => by subst he; exact k _ _ hr)⟩
theorem si_call1 {g : FuncId} {args : Array Value} {v : Value} {R : World → Prop} (hw : Region.wanted o (yielded ops a.tmps) = true) (h : (execOp a.eval o).run P w = .ok (.enter g args) w)
    (c : Calls P g args w fun e w' => e = .returned v ∧ R w') (k : ∀ w', R w' → wpListIn (FW ro) n P ops Q rest (a.put o.dst v) w') (hd : nodefer o = true := by rfl) : wpListIn (FW ro) n P ops Q (o :: rest) a w :=
  si_call (R := fun u w' => u = v ∧ R w') hw h (c.mono fun _ _ ⟨h1, h2⟩ => ⟨v, h1, rfl, h2⟩) (fun _ w' ⟨h1, h2⟩ => h1 ▸ k w' h2) hd
theorem si_cell {g i : Nat} {cs : Array Value} {v : Value} {t : TypeId} (hw : Region.wanted o (yielded ops a.tmps) = true) (h : (execOp a.eval o).run P w = .ok .skip (w.setCell ⟨g, i, none⟩ v)) (hg : Blk w g cs t)
    (k : ∀ w', Blk w' g (cs.setIfInBounds i v) t → w.grownBy w' (some g) → wpListIn (FW ro) n P ops Q rest (a.put o.dst undef) w') (hd : nodefer o = true := by rfl) : wpListIn (FW ro) n P ops Q (o :: rest) a w := by
  unfold wpListIn
  rw [if_pos hw]
  refine ⟨fun _ _ => trivial, ?_⟩
  rw [si_sem hd, h]
  exact k _ (hg.set i v) ⟨rfl, rfl, rfl, by simp [World.setCell], fun k _ hk => Below.heap_setCell _ _ _ _ (fun e => hk (by rw [e]))⟩
theorem si_new {cs : Array Value} {t : TypeId} (hw : Region.wanted o (yielded ops a.tmps) = true) (h : (execOp a.eval o).run P w = .ok (.value (.pointer (some ⟨w.heap.size, 0, none⟩))) (w.alloc (.cells cs t)))
    (k : ∀ g w', Blk w' g cs t → Below w.heap.size w w' → w.heap.size ≤ g → wpListIn (FW ro) n P ops Q rest (a.put o.dst (.pointer (some ⟨g, 0, none⟩))) w') (hd : nodefer o = true := by rfl) : wpListIn (FW ro) n P ops Q (o :: rest) a w := by
  unfold wpListIn
  rw [if_pos hw]
  refine ⟨fun _ _ => trivial, ?_⟩
  rw [si_sem hd, h]
  exact k _ _ (Blk.new _ _ _ _ rfl) (bl_alloc (Below.refl _ _) _) (Nat.le_refl _)
/-- The iterator's call of yield. -/
theorem run_yield2 {x y z : Operand} {ts : Array TypeId} (ho : o.op = .call { callee := .value x, args := #[y, z], argTypes := ts }) {l : Nat} {u v : Value} (hx : a.eval x = .func (.yield l) #[] #[]) (hy : a.eval y = u) (hz : a.eval z = v) {fn : FuncId} {tmps : Array Value} {assign body : Code}
    (hr : (Instr.yield l #[u, v]).run P w = .ok (.round l fn tmps assign body) w) : (execOp a.eval o).run P w = .ok (.round l fn tmps assign body) w := by
  subst hy hz
  unfold execOp
  simp only [ho]
  generalize a.eval = ρ at *
  simp [go_sem, resolve, hx, hr]
theorem si_yield {x y z : Operand} {ts : Array TypeId} (ho : o.op = .call { callee := .value x, args := #[y, z], argTypes := ts }) {l : Nat} {u v : Value} (hw : Region.wanted o (yielded ops a.tmps) = true) (hx : a.eval x = .func (.yield l) #[] #[]) (hy : a.eval y = u) (hz : a.eval z = v) {R1 R2 : World → Prop}
    (Y : YieldAt Fence.wide n P l #[u, v] w fun e w' => (e = .returned (.bool true) ∧ R1 w') ∨ (e = .returned (.bool false) ∧ R2 w'))
    (k1 : ∀ w', R1 w' → wpListIn (FW none) (n + 1) P ops Q rest (a.put o.dst (.bool true)) w') (k2 : ∀ w', R2 w' → wpListIn (FW none) (n + 1) P ops Q rest (a.put o.dst (.bool false)) w') (hd : nodefer o = true := by rfl) : wpListIn (FW none) (n + 1) P ops Q (o :: rest) a w := by
  obtain ⟨fn, tmps, assign, body, h1, h2⟩ := Y
  unfold wpListIn
  rw [if_pos hw]
  refine ⟨fun _ _ => trivial, ?_⟩
  rw [si_sem hd, run_yield2 ho hx hy hz h1, Oper.uponIn_round]
  refine ⟨fun h => (by cases h), ?_⟩
  rw [Nat.add_sub_cancel]
  refine RoundIn.mono (F := FW none) h2 ?_
  rintro e w' (⟨rfl, h⟩ | ⟨rfl, h⟩)
  · exact k1 _ h
  · exact k2 _ h
theorem wp_region_wide {id : Nat} {l : List Oper} (n : Nat) (h : wpListIn (FW none) n P l.toArray Q l a w) : (Code.region id l.toArray false).wp P Q a w := (wpIn_wide (n := n)).1 (wpIn_region_lit h)
end

/-- How a round may be left: it goes on, or it leaves the function. -/
def rPost (S : List Nat) (I Ix : World → Prop) (W : World) : Exit → Act → World → Prop
  | .normal, _, W' => Fr S W W' ∧ I W'
  | .ret, _, W' => Fr S W W' ∧ Ix W'
  | _, _, _ => False

/-- What is said of a world bears whatever is done to what is no cells, from B on; or new blocks. -/
def Abd (B : Nat) (I : World → Prop) : Prop := ∀ (A A' : World) (row : Option Nat), I A → A.grownBy A' row → (∀ r, row = some r → B ≤ r ∧ ∃ o : Obj, A.heap[r]? = some o ∧ o.isCells = false) → I A'
theorem Abd.alloc {B : Nat} {I : World → Prop} (h : Abd B I) {W : World} (o : Obj) (hi : I W) : I (W.alloc o) := h W _ none hi (World.grownBy_alloc W o none) (fun r e => by cases e)
theorem Abd.put {B : Nat} {I : World → Prop} (h : Abd B I) {W : World} {l : Nat} {o : Obj} (o' : Obj) (hi : I W) (hB : B ≤ l) (hl : W.heap[l]? = some o) (ho : o.isCells = false) : I (W.putObj l o') :=
  h W _ (some l) hi (grownBy_putObj' W l o') (fun r e => by cases e; exact ⟨hB, o, hl, ho⟩)

/-- An iterator: it hands yield the values ev 0, ev 1, .. up to ev m; a round may change the blocks of S and make new ones. -/
def SeqAt (P : Program) (gf : FuncId) (lb : Array Value) (m : Nat) (ev : Nat → Array Value) (S : List Nat) (w : World) : Prop :=
  ∀ (l : Nat) (J : Nat → World → Prop) (Jx : World → Prop) (W : World), Below w.heap.size w W → (∀ k A B, J k A → Below A.heap.size A B → J k B) →
    (∀ k A, J k A → k < m → YieldAt Fence.wide 1 P l (ev k) A fun e W' => (e = .returned (.bool true) ∧ J (k + 1) W' ∧ Kc S A W') ∨ (e = .returned (.bool false) ∧ Jx W')) →
    J 0 W → Calls P gf (#[.func (.yield l) #[] #[]] ++ lb) W fun e W' => (∃ v, e = .returned v) ∧ (J m W' ∨ Jx W')

abbrev mark (D : Nat) : Deferred := { target := .collected D, args := #[] }
/-- The caller's law. -/
theorem wp_range {P : Program} {g : Operand} {ps : Array Tmp} {assign body : Code} {Q : Exit → Act → World → Prop} {a : Act} {w : World} {gf : Nat} {lb : Array Value}
    (hg : a.eval g = .func (.func gf) #[] lb) (hdf : a.defers = []) (eg : ∀ args w, (callFunc gf args).run P w = .ok (.enter gf args) w) {m : Nat} {ev : Nat → Array Value} {S : List Nat} (hS : ∀ j, j ∈ S → j < w.heap.size)
    (hseq : SeqAt P gf lb m ev S w) (hps : ∀ k, (ev k).size = ps.size) (I Ix : Nat → World → Prop) (hI : ∀ k, Abd w.heap.size (I k)) (hIx : ∀ k, Abd w.heap.size (Ix k)) (h0 : I 0 w) (a₁ : Nat → Act)
    (hassign : ∀ (l k : Nat) (W : World) (K : Act → World → Prop), K (a₁ k) W → assign.wpIn (FW (some l)) 1 P (Exit.then K (fun _ _ _ => False)) { tmps := (ps.zip (ev k)).foldl (fun t (p, v) => t.setIfInBounds p v) a.tmps, defers := [] } W)
    (hbody : ∀ (l k : Nat) (W : World), I k W → k < m → body.wpIn (FW (some l)) 1 P (rPost S (I (k + 1)) (Ix k) W) (a₁ k) W)
    (hdone : ∀ (D : Nat) (W : World), w.heap.size ≤ D → I m W → Dfr W D → Q .normal { tmps := a.tmps, defers := [mark D] } W)
    (hstop : ∀ (D k : Nat) (W : World), w.heap.size ≤ D → k < m → Ix k W → Dfr W D → Q .ret { tmps := a.tmps, defers := [mark D] } W) :
    (Code.rangeFunc g ps assign body).wp P Q a w := by
  refine (wpIn_wide (n := 3)).1 (wpIn_rangeFunc ?_)
  intro fn _
  obtain ⟨rec, hrec⟩ : ∃ rec : LoopState → Option Code → Loop, rec = fun st pe => { state := st, pending := pe, fn, tmps := a.tmps, params := ps, assign, body, defers := w.heap.size } := ⟨_, rfl⟩
  obtain ⟨W1, hW1⟩ : ∃ W1, (w.alloc (.deferred (some []))).alloc (.loop (rec .ready none)) = W1 := ⟨_, rfl⟩
  have hL1 : W1.heap[w.heap.size + 1]? = some (.loop (rec .ready none)) := by
    rw [← hW1]; have := World.alloc_heap_new (w.alloc (.deferred (some []))) (.loop (rec .ready none)); rwa [World.size_alloc] at this
  have hK1 : Dfr W1 w.heap.size := by
    rw [← hW1]; exact (Below.heap_alloc _ _ _ (by simp)).trans (World.alloc_heap_new w _)
  have hI1 : I 0 W1 := by rw [← hW1]; exact (hI 0).alloc _ ((hI 0).alloc _ h0)
  have hb1 : Below w.heap.size w W1 := by rw [← hW1]; exact ((Below.refl _ w).alloc (Nat.le_refl _) _).alloc (by simp) _
  refine ⟨w.heap.size + 1, [mark w.heap.size], W1, { target := .fn (.func gf) lb, args := #[.func (.yield (w.heap.size + 1)) #[] #[]] }, W1, gf, #[.func (.yield (w.heap.size + 1)) #[] #[]] ++ lb, W1, ?_, ?_, fun _ _ => trivial, ?_, fun h => (by cases h), ?_⟩
  · rw [← hW1, hrec]; exact run_enterLoop_outer _ _ _ _ _
  · simp only [resolve, hg]
    simp [go_sem]
  · simp [invoke, go_sem, eg]
  · refine fw_calls (ro := none) ?_
    refine (hseq (w.heap.size + 1) (fun k W => I k W ∧ W.heap[w.heap.size + 1]? = some (.loop (rec .ready none)) ∧ Dfr W w.heap.size)
      (fun W => ∃ k, k < m ∧ Ix k W ∧ W.heap[w.heap.size + 1]? = some (.loop (rec .done (some .ret))) ∧ Dfr W w.heap.size) W1 hb1 ?_ ?_ ⟨hI1, hL1, hK1⟩).mono ?_
    · rintro k A B ⟨hi, hl, hk⟩ hb
      exact ⟨hI k A B none hi ⟨hb.os, hb.tape, hb.output, hb.size, fun j hj _ => hb.block j hj⟩ (fun r e => by cases e), (hb.block _ (Array.getElem?_eq_some_iff.1 hl).1).trans hl, hk.below hb⟩
    · rintro k W ⟨hi, hl, hk⟩ hlt
      have hy := run_yield (P := P) (args := ev k) hl (by rw [hrec]; exact hps k)
      rw [hrec] at hy
      refine ⟨fn, _, assign, body, hy, roundIn_of_wpIn trivial (hassign _ k W _ ⟨_, run_beginRound hl (by rw [hrec]), ?_⟩)⟩
      have hlW : w.heap.size + 1 < W.heap.size := (Array.getElem?_eq_some_iff.1 hl).1
      have hl2 : (W.putObj (w.heap.size + 1) (.loop { rec .ready none with state := .busy })).heap[w.heap.size + 1]? = some (.loop { rec .ready none with state := .busy }) := World.putObj_heap_same hlW
      have hk2 : Dfr (W.putObj (w.heap.size + 1) (.loop { rec .ready none with state := .busy })) w.heap.size := (World.putObj_heap_other (by omega)).trans hk
      have kcp : ∀ (V : World) (r : Loop) (o : Obj), V.heap[w.heap.size + 1]? = some (.loop r) → Kc S V (V.putObj (w.heap.size + 1) o) := fun V r o hv => ⟨by simp, fun j o2 _ hj hc => (World.putObj_heap_other (fun e => by subst e; rw [hv] at hj; injection hj with hj; subst hj; cases hc)).trans hj⟩
      have fin : ∀ (jump : Option Code) (W3 : World), Fr S (W.putObj (w.heap.size + 1) (.loop { rec .ready none with state := .busy })) W3 →
          (Instr.endRound (w.heap.size + 1) jump).run P W3 = .ok (.bool jump.isNone) (W3.putObj (w.heap.size + 1) (.loop (rec (if jump.isNone then .ready else .done) jump))) ∧
          W3.heap[w.heap.size + 1]? = some (.loop { rec .ready none with state := .busy }) ∧
          (W3.putObj (w.heap.size + 1) (.loop (rec (if jump.isNone then .ready else .done) jump))).heap[w.heap.size + 1]? = some (.loop (rec (if jump.isNone then .ready else .done) jump)) ∧
          Dfr (W3.putObj (w.heap.size + 1) (.loop (rec (if jump.isNone then .ready else .done) jump))) w.heap.size := fun jump W3 hf => by
        have hl3 := (hf.block (w.heap.size + 1) (by simpa using hlW) (fun e => by have := hS _ e; omega)).trans hl2
        have hk3 := hk2.fr hf (fun e => by have := hS _ e; omega)
        have := run_endRound (P := P) jump hl3
        rw [hrec] at this ⊢
        exact ⟨this, by rw [hrec] at hl3; exact hl3, World.putObj_heap_same (Array.getElem?_eq_some_iff.1 hl3).1, (World.putObj_heap_other (by omega)).trans hk3⟩
      refine wpIn_mono (hbody _ k _ ((hI k).put _ hi (by omega) hl rfl) hlt) ?_
      intro e a3 W3 hp
      cases e with
      | normal =>
        obtain ⟨hf, hi3⟩ := hp
        obtain ⟨hr, hl3, hl4, hk4⟩ := fin none W3 hf
        exact ⟨_, _, hr, .inl ⟨rfl, ⟨(hI _).put _ hi3 (by omega) hl3 rfl, hl4, hk4⟩, ((kcp W _ _ hl).trans (Kc.of_fr hf)).trans (kcp W3 _ _ hl3)⟩⟩
      | ret =>
        obtain ⟨hf, hi3⟩ := hp
        obtain ⟨hr, hl3, hl4, hk4⟩ := fin (some .ret) W3 hf
        exact ⟨_, _, hr, .inr ⟨rfl, k, hlt, (hIx _).put _ hi3 (by omega) hl3 rfl, hl4, hk4⟩⟩
      | exit id => exact hp.elim
      | goto t => exact hp.elim
      | panic c => exact hp.elim
      | outgrown => exact hp.elim
    · rintro e W2 ⟨⟨v, rfl⟩, (⟨hi, hl, hk⟩ | ⟨k, hlt, hi, hl, hk⟩)⟩
      · refine ⟨none, _, by have := run_endLoop (P := P) hl (by rw [hrec]; simp); rw [hrec] at this; exact this, ?_⟩
        rw [hdf]
        exact hdone _ _ (Nat.le_refl _) ((hI m).put _ hi (by omega) hl rfl) ((World.putObj_heap_other (by omega)).trans hk)
      · refine ⟨some .ret, _, by have := run_endLoop (P := P) hl (by rw [hrec]; simp); rw [hrec] at this; exact this, ?_⟩
        rw [hdf]
        exact wpIn_ret (hstop _ k _ (Nat.le_refl _) hlt ((hIx k).put _ hi (by omega) hl rfl) ((World.putObj_heap_other (by omega)).trans hk))

/-! ### a function that holds such a loop, as it is left -/
theorem calls_marks {P : Program} {f : FuncId} {fn : Func} {c : Code} {args : Array Value} {w : World} {R : Ending → World → Prop} (hf : P.funcs[f]? = some fn) (hb : fn.body = some c)
    (h : c.wp P (bodyPostM Fence.wide 3 P fn R) { tmps := args ++ Array.replicate (fn.ntmps - args.size) undef, defers := [] } w) : Calls P f args w R := callsIn_wide.1 (callsIn_of_wp_marks (n := 3) hf hb trivial (wpIn_wide.2 h))
theorem results_cell1 {P : Program} {fn : Func} {p : Tmp} {ty t : TypeId} (h : fn.results = #[.cell p ty]) (T : One P ty) {tmps : Array Value} {w : World} {g : Nat} {v : Value} (hp : tmps.getD p undef = .pointer (some ⟨g, 0, none⟩)) (hB : Blk w g #[v] t) : (results fn tmps).run P w = .ok v w := by
  obtain ⟨d, i, h1, h2, h3, h4⟩ := T
  have hagg : (isAgg ty).run P w = .ok false w := by
    unfold isAgg
    rw [Sem.run_bind, run_underlying h1 w]
    cases d <;> simp_all [plainT]
  have hc : w.cell? ⟨g, 0, none⟩ = some v := by rw [hB.cell]; rfl
  have hp' : tmps[p]?.getD undef = .pointer (some ⟨g, 0, none⟩) := by simpa using hp
  simp only [results, h]
  simp [Sem.run_bind, hp', asAddr, loadVar, hagg, hc]
theorem postM_ret {P : Program} {fn : Func} {R : Ending → World → Prop} {a : Act} {w : World} {v : Value} (hr : (results fn a.tmps).run P w = .ok v w) (hd : a.defers = []) (hR : R (.returned v) w) : bodyPostM Fence.wide 3 P fn R .ret a w := by
  show LeavesInM _ _ _ _ _ _ _ _ _
  rw [hd]
  exact ⟨v, hr, hR⟩
theorem postM_mark {P : Program} {fn : Func} {R : Ending → World → Prop} {a : Act} {w : World} {v : Value} {D : Nat} (hd : a.defers = [mark D]) (hD : Dfr w D) (hr : (results fn a.tmps).run P (w.putObj D (.deferred none)) = .ok v (w.putObj D (.deferred none))) (hR : R (.returned v) (w.putObj D (.deferred none))) : bodyPostM Fence.wide 3 P fn R .ret a w := by
  show LeavesInM _ _ _ _ _ _ _ _ _
  rw [hd]
  refine ⟨by simp, .inl ⟨_, _, rfl, run_takeDeferred hD, ?_⟩⟩
  exact ⟨v, hr, hR⟩
theorem Blk.putD {w : World} {D g : Nat} {cs : Array Value} {t : TypeId} (h : Blk w g cs t) (hD : Dfr w D) (o : Obj) : Blk (w.putObj D o) g cs t := (World.putObj_heap_other (hD.ne h)).trans h
theorem bl_putD {B : Nat} {w0 w : World} {D : Nat} (h : Below B w0 w) (hD : B ≤ D) (o : Obj) : Below B w0 (w.putObj D o) :=
  ⟨h.os, h.tape, h.output, by simpa using h.size, fun k hk => (World.putObj_heap_other (by omega)).trans (h.block k hk)⟩
theorem fr_putD {S : List Nat} {w0 w : World} {D : Nat} (h : Fr S w0 w) (hD : w0.heap.size ≤ D) (o : Obj) : Fr S w0 (w.putObj D o) :=
  ⟨h.os, h.tape, h.output, by simpa using h.size, fun k hk hn => (World.putObj_heap_other (by omega)).trans (h.block k hk hn)⟩
/-- What came in is read on, whatever happens to blocks that came later. -/
theorem Reads.frS {S : List Nat} {w0 W W' : World} {A : Option Addr} {cells : List Value} (h0 : Reads w0 A cells) (hS : ∀ j, j ∈ S → w0.heap.size ≤ j) (h : Reads W A cells) (k : Fr S W W') : Reads W' A cells := by
  intro j u hj
  obtain ⟨b, off, hA, hc⟩ := h j u hj
  refine ⟨b, off, hA, ?_⟩
  obtain ⟨b', off', hA', hc'⟩ := h0 j u hj
  rw [hA] at hA'; injection hA' with e; injection e with e1 e2; subst e1 e2
  have hb := World.block_lt_of_cell? w0 _ hc'
  have hb2 := World.block_lt_of_cell? W _ hc
  have : b ∉ S := fun e => by have := hS b e; simp at hb; omega
  exact (World.cell?_of_block (k.block b (by simpa using hb2) this)).trans hc
theorem lt1 {m r : Nat} (h : r < m) : ∀ j, j ∈ [r] → j < m := by simpa using h
theorem lt2 {m r b : Nat} (h : r < m) (k : b < m) : ∀ j, j ∈ [r, b] → j < m := by simp [h, k]
theorem lt3 {m r b c : Nat} (h : r < m) (k : b < m) (l : c < m) : ∀ j, j ∈ [r, b, c] → j < m := by simp [h, k, l]
theorem lt4 {m r b c d : Nat} (h : r < m) (k : b < m) (l : c < m) (q : d < m) : ∀ j, j ∈ [r, b, c, d] → j < m := by simp [h, k, l, q]
theorem lo3 {m r b c : Nat} (h : m ≤ r) (k : m ≤ b) (l : m ≤ c) : ∀ j, j ∈ [r, b, c] → m ≤ j := by simp [h, k, l]
theorem lo4 {m r b c d : Nat} (h : m ≤ r) (k : m ≤ b) (l : m ≤ c) (q : m ≤ d) : ∀ j, j ∈ [r, b, c, d] → m ≤ j := by simp [h, k, l, q]
theorem ni3 {g r b c : Nat} (h : g ≠ r) (k : g ≠ b) (l : g ≠ c) : g ∉ [r, b, c] := by simp [h, k, l]
theorem ni4 {g r b c d : Nat} (h : g ≠ r) (k : g ≠ b) (l : g ≠ c) (q : g ≠ d) : g ∉ [r, b, c, d] := by simp [h, k, l, q]
/-- What holds of cells holds behind a turn of what is no cells. -/
theorem Blk.own {W W' : World} {row : Option Nat} {g : Nat} {cs : Array Value} {t : TypeId} (h : Blk W g cs t) (hg : W.grownBy W' row) (hr : ∀ r, row = some r → ∃ o : Obj, W.heap[r]? = some o ∧ o.isCells = false) : Blk W' g cs t :=
  (hg.block g h.lt (fun e => by obtain ⟨o, ho, hc⟩ := hr g e.symm; unfold Blk at h; rw [h] at ho; injection ho with ho; subst ho; cases hc)).trans h
theorem Reads.own {W W' : World} {row : Option Nat} {A : Option Addr} {cells : List Value} (h : Reads W A cells) (hg : W.grownBy W' row) (hr : ∀ r, row = some r → ∃ o : Obj, W.heap[r]? = some o ∧ o.isCells = false) : Reads W' A cells := by
  intro j u hj
  obtain ⟨b, off, hA, hc⟩ := h j u hj
  exact ⟨b, off, hA, cell_kept hc hg hr⟩
theorem bl_own {w0 w W W' : World} {row : Option Nat} (h : Below w0.heap.size w0 W) (hs : w0.heap.size ≤ w.heap.size) (hg : W.grownBy W' row) (hr : ∀ r, row = some r → w.heap.size ≤ r) : Below w0.heap.size w0 W' := h.grown hg h.size (fun k e => Nat.le_trans hs (hr k e))
theorem fr_own' {S : List Nat} {w0 w W W' : World} {row : Option Nat} (h : Fr S w0 W) (hs : w0.heap.size ≤ w.heap.size) (hg : W.grownBy W' row) (hr : ∀ r, row = some r → w.heap.size ≤ r) : Fr S w0 W' :=
  ⟨hg.os.trans h.os, hg.tape.trans h.tape, hg.output.trans h.output, Nat.le_trans h.size hg.size, fun j hj hn => (hg.block j (Nat.lt_of_lt_of_le hj h.size) (fun e => by have := hr j e.symm; omega)).trans (h.block j hj hn)⟩
/-- A row of the iterator's own lies beyond what rounds may change. -/
theorem OwnR.notin {α : Type} {w : World} {base : Nat} {e : TypeId} {E : Enc α} {A : Option Addr} {l c : Nat} {xs : List α} (h : OwnR w base e E (.slice A l c) xs) {S : List Nat} (hS : ∀ j, j ∈ S → j < base) : ∀ ad, A = some ad → ad.block ∉ S := by
  rintro ad rfl hb
  have := (h.lt ad.block rfl).1
  have := hS _ hb
  omega
theorem gb_none {w w' : World} (h : Below w.heap.size w w') : w.grownBy w' none := ⟨h.os, h.tape, h.output, h.size, fun j hj _ => h.block j hj⟩
theorem Below.own {B : Nat} {w W W' : World} {row : Option Nat} (h : Below B w W) (hB : B ≤ W.heap.size) (hg : W.grownBy W' row) (hr : ∀ r, row = some r → B ≤ r) : Below B w W' := h.grown hg hB (fun k e => hr k e)
theorem Fr.own {S : List Nat} {w W W' : World} {row : Option Nat} (h : Fr S w W) (hg : W.grownBy W' row) (hr : ∀ r, row = some r → w.heap.size ≤ r) : Fr S w W' :=
  ⟨hg.os.trans h.os, hg.tape.trans h.tape, hg.output.trans h.output, Nat.le_trans h.size hg.size, fun j hj hn => (hg.block j (Nat.lt_of_lt_of_le hj h.size) (fun e => by have := hr j e.symm; omega)).trans (h.block j hj hn)⟩
end Go.Proofs.Ytkebpmcgmmhifaa

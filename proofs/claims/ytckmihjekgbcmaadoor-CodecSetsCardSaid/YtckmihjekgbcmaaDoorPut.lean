/- What cpuset's Put and Drop do. -/
import Derived.Test.YtckmihjekgbcmaaDoorHas
namespace Go.Proofs.YtckmihjekgbcmaaDoor
open Go.RowKit Go.WideShapes Go.ChangeShapes

theorem wd_put (S n : Nat) (h : n < 1024) : wd (put S n) (n / 64) = wd S (n / 64) ||| 2 ^ (n % 64) := by
  refine Nat.eq_of_testBit_eq fun j => ?_
  rw [testBit_wd, Nat.testBit_or, testBit_wd, testBit_put, Nat.testBit_two_pow]
  by_cases hj : j < 64
  · simp only [hj, decide_true, Bool.true_and]
    congr 1
    rw [decide_eq_decide]
    omega
  · simp only [hj, decide_false, Bool.false_and, Bool.false_or]
    rw [eq_comm, decide_eq_false_iff_not]
    omega
theorem wd_put_other (S n j : Nat) (hj : j ≠ n / 64) : wd (put S n) j = wd S j := by
  refine Nat.eq_of_testBit_eq fun i => ?_
  rw [testBit_wd, testBit_wd, testBit_put]
  by_cases hi : i < 64
  · rw [show decide (((64 * j + i : Nat) : Int) = (n : Int) ∧ (n : Int) < 1024) = false from by simp; omega, Bool.or_false]
  · simp [hi]
theorem wd_drop (S n : Nat) (h : n < 1024) : wd (drop S n) (n / 64) = wd S (n / 64) ^^^ (wd S (n / 64) &&& 2 ^ (n % 64)) := by
  refine Nat.eq_of_testBit_eq fun j => ?_
  rw [testBit_wd, Nat.testBit_xor, Nat.testBit_and, testBit_wd, testBit_drop, Nat.testBit_two_pow]
  by_cases hj : j < 64
  · simp only [hj, decide_true, Bool.true_and]
    rw [show decide (((64 * (n / 64) + j : Nat) : Int) = (n : Int) ∧ (n : Int) < 1024) = decide (n % 64 = j) from by rw [decide_eq_decide]; omega]
    cases S.testBit (64 * (n / 64) + j) <;> cases decide (n % 64 = j) <;> rfl
  · simp [hj]
theorem wd_drop_other (S n j : Nat) (hj : j ≠ n / 64) : wd (drop S n) j = wd S j := by
  refine Nat.eq_of_testBit_eq fun i => ?_
  rw [testBit_wd, testBit_wd, testBit_drop]
  by_cases hi : i < 64
  · rw [show decide (((64 * j + i : Nat) : Int) = (n : Int) ∧ (n : Int) < 1024) = false from by simp; omega, Bool.not_false, Bool.and_true]
  · simp [hi]
theorem pow64 {k : Nat} (h : k < 64) : 2 ^ k < 2 ^ 64 := Nat.pow_lt_pow_right (by decide) h

theorem put_out {S : Nat} {n : Int} (h : ¬ (0 ≤ n ∧ n < 1024)) : put S n = S := by rw [put, if_neg h]
theorem drop_out {S : Nat} {n : Int} (h : ¬ (0 ≤ n ∧ n < 1024)) : drop S n = S := by rw [drop, if_neg h]

/-! ### whole sets read from a variable, stored into one, handed back -/
theorem info_set : (Tryd.prog.info? 33).map (·.size) = some 16 := by kernel_rfl
theorem info_setA (S : Nat) : (Tryd.prog.info? 33).map (·.size) = some (setA S).size := by rw [setA_size]; exact info_set
theorem wpl_load_set {ops : Array Oper} {rest : List Oper} {o : Oper} {a : Act} {w : World} {Q : Exit → Act → World → Prop} (x : Operand) (ho : o.op = .load 33 x) (hgd : o.guard = none)
    (g : Nat) (hx : a.eval x = .pointer (some ⟨g, 0, none⟩)) (S : Nat) {t : TypeId} (hg : w.heap[g]? = some (.cells (setA S) t (0, 0)))
    (h : wpList Tryd.prog ops Q rest (a.put o.dst (.agg (setA S))) w) : wpList Tryd.prog ops Q (o :: rest) a w := by
  exact wpList_load_row hgd _ x ho g hx t _ _ _ hg Tryd.underlying33 rfl (info_setA S) h
theorem wpl_load_setG {ops : Array Oper} {rest : List Oper} {o : Oper} {a : Act} {w : World} {Q : Exit → Act → World → Prop} (x : Operand) (ho : o.op = .load 33 x) (hw : Region.wanted o (yielded ops a.tmps) = true)
    (g : Nat) (hx : a.eval x = .pointer (some ⟨g, 0, none⟩)) (S : Nat) {t : TypeId} (hg : w.heap[g]? = some (.cells (setA S) t (0, 0)))
    (h : wpList Tryd.prog ops Q rest (a.put o.dst (.agg (setA S))) w) : wpList Tryd.prog ops Q (o :: rest) a w :=
  wpList_step fun K hK => by rw [if_pos hw]; exact wp_load_row _ x ho g hx t _ _ _ hg Tryd.underlying33 rfl (info_setA S) (hK _ _ h)
theorem setA_one (S : Nat) : (setA S).all (·.oneCell') = true := by
  rw [Array.all_eq_true_iff_forall_mem]
  intro v hv
  simp [setA, setC] at hv
  obtain ⟨i, _, rfl⟩ := hv
  rfl
theorem wpl_store_set {ops : Array Oper} {rest : List Oper} {o : Oper} {a : Act} {w : World} {Q : Exit → Act → World → Prop} (x y : Operand) (ho : o.op = .store 33 x y) (hgd : o.guard = none)
    (g : Nat) (hx : a.eval x = .pointer (some ⟨g, 0, none⟩)) (S : Nat) (hy : a.eval y = .agg (setA S)) {t : TypeId} {old : Array Value} (hg : w.heap[g]? = some (.cells old t (0, 0))) (hs : old.size = 16)
    (h : wpList Tryd.prog ops Q rest (a.put o.dst undef) (w.setRow g (setA S))) : wpList Tryd.prog ops Q (o :: rest) a w :=
  wpList_store_row hgd _ x y ho g _ hx hy t old hg (info_setA S) (by rw [hs, setA_size]) (setA_one S) h
theorem res_set {fn : Func} {p : Tmp} (h : fn.results = #[.cell p 33]) (tmps : Array Value) (w : World) (g : Nat) (S : Nat) {t : TypeId}
    (hp : tmps.getD p undef = .pointer (some ⟨g, 0, none⟩)) (hg : w.heap[g]? = some (.cells (setA S) t (0, 0))) : (results fn tmps).run Tryd.prog w = .ok (.agg (setA S)) w := by
  exact results_cell_row h tmps w g t _ _ _ hp hg Tryd.underlying33 rfl (info_setA S)
theorem bl_setRow {w W : World} (h : Below w.heap.size w W) (g : Nat) (hg : w.heap.size ≤ g) (cs : Array Value) : Below w.heap.size w (W.setRow g cs) :=
  h.trans ⟨rfl, rfl, rfl, by simp, fun k hk => setRow_other W g k cs (by omega)⟩

theorem put_in (S n : Nat) (w : World) (h : n < 1024) : Calls Tryd.prog 39 #[.agg (setA S), .int .i64 n] w fun e w' => e = .returned (.agg (setA (put S n))) ∧ Below w.heap.size w w' := by
  have hg := setA_get S (n / 64) (by omega)
  have hs : (setA S).setIfInBounds (n / 64) (.int .u64 (wd S (n / 64) ||| 2 ^ (n % 64) : Nat)) = setA (put S n) := setA_set (wd_put S n h) (fun j _ hj => wd_put_other S n j hj)
  have hl := wd_lt S (n / 64)
  have hb := (bits64 (wd S (n / 64)) (2 ^ (n % 64)) hl (pow64 (by omega))).2
  have hw : IntKind.u64.wrap (2 ^ (n % 64)) = ((2 ^ (n % 64) : Nat) : Int) := by rw [wraps_u64 _ (Int.pow_nonneg (by omega)) (by exact_mod_cast pow64 (by omega))]; simp
  generalize wd S (n / 64) = v at *
  rw [← hb, ← hw] at hs
  have HS := Lib.hid hs
  clear hs hb hw
  go_enter Tryd.func39, Tryd.ntmps39
  go_wp2_with (go_at_call 41; refine (is_yes _ _ (by omega)).mono ?_; rintro e w' ⟨rfl, rfl⟩)
  go_region
  rw [HS.out]
  go_wp2_with (first
    | (refine wpl_load_set (.tmp 2) rfl rfl _ rfl (put S n) (heap_alloc2_old _ _ _) ?_)
    | (refine wpl_store_set (.tmp 4) (.tmp 16) rfl rfl _ rfl (put S n) rfl (heap_alloc2_new _ _ _) rfl ?_))
  exact bodyPost_ret (res_set rfl _ _ _ (put S n) rfl (setRow_heap _ _ _ _ _ _ (heap_alloc2_new _ _ _))) rfl ⟨rfl, bl_setRow (bl_drew (bl_alloc (bl_alloc (Below.refl _ _) _) _)) _ (by omega) _⟩
theorem put_calls (S : Nat) (n : Int) (w : World) : Calls Tryd.prog 39 #[.agg (setA S), .int .i64 n] w fun e w' => e = .returned (.agg (setA (put S n))) ∧ Below w.heap.size w w' := by
  by_cases h : 0 ≤ n ∧ n < 1024
  · obtain ⟨m, rfl⟩ := Int.eq_ofNat_of_zero_le h.1
    exact put_in S m w (by omega)
  · rw [put_out h]
    have HN := Lib.hid h
    clear h
    go_enter Tryd.func39, Tryd.ntmps39
    go_wp2_with (first
      | (go_at_call 41; refine (is_no _ _ HN.out).mono ?_; rintro e w' ⟨rfl, rfl⟩)
      | (refine wpl_load_set (.tmp 2) rfl rfl _ rfl S (heap_alloc2_old _ _ _) ?_)
      | (refine wpl_store_set (.tmp 4) (.tmp 16) rfl rfl _ rfl S rfl (heap_alloc2_new _ _ _) rfl ?_))
    exact bodyPost_ret (res_set rfl _ _ _ S rfl (setRow_heap _ _ _ _ _ _ (heap_alloc2_new _ _ _))) rfl ⟨rfl, bl_setRow (bl_alloc (bl_alloc (Below.refl _ _) _) _) _ (by omega) _⟩

end Go.Proofs.YtckmihjekgbcmaaDoor

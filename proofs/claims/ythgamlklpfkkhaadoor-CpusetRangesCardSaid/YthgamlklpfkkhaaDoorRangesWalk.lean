/- What the law CpusetRanges does. -/
import Derived.Test.YthgamlklpfkkhaaDoorLives
import Derived.Test.YthgamlklpfkkhaaDoorMore
import Derived.Test.YthgamlklpfkkhaaDoorLen
namespace Go.Proofs.YthgamlklpfkkhaaDoor
open Go.RowKit Go.WideShapes Go.ChangeShapes
set_option linter.unusedSimpArgs false
set_option linter.unusedVariables false

theorem run_call_12_0 {o : Oper} {a : Act}  {ts : Array TypeId} (ho : o.op = .call { callee := .value (.func 12), args := #[], argTypes := ts })  (W : World) : (execOp a.eval o).run Tryd.prog W = .ok (.enter 12 #[]) W := by
  unfold execOp
  simp only [ho]
  go_simp
theorem run_call_22_1 {o : Oper} {a : Act} (x0 : Operand) {ts : Array TypeId} (ho : o.op = .call { callee := .value (.func 22), args := #[x0], argTypes := ts }) {v0 : Value} (h0 : a.eval x0 = v0) (W : World) : (execOp a.eval o).run Tryd.prog W = .ok (.enter 22 #[v0]) W := by
  unfold execOp
  simp only [ho]
  subst h0
  go_simp
theorem run_call_27_2 {o : Oper} {a : Act} (x0 : Operand) (x1 : Operand) {ts : Array TypeId} (ho : o.op = .call { callee := .value (.func 27), args := #[x0, x1], argTypes := ts }) {v0 : Value} (h0 : a.eval x0 = v0) {v1 : Value} (h1 : a.eval x1 = v1) (W : World) : (execOp a.eval o).run Tryd.prog W = .ok (.enter 27 #[v0, v1]) W := by
  unfold execOp
  simp only [ho]
  subst h0 h1
  go_simp
theorem run_call_28_1 {o : Oper} {a : Act} (x0 : Operand) {ts : Array TypeId} (ho : o.op = .call { callee := .value (.func 28), args := #[x0], argTypes := ts }) {v0 : Value} (h0 : a.eval x0 = v0) (W : World) : (execOp a.eval o).run Tryd.prog W = .ok (.enter 28 #[v0]) W := by
  unfold execOp
  simp only [ho]
  subst h0
  go_simp
theorem run_lit_36_1 {o : Oper} {a : Act} (x0 : Operand) (ho : o.op = .buildSlice 36 1 #[(0, x0)]) {m0 : Int} (h0 : a.eval x0 = (.int .i64 m0)) (W : World) : (execOp a.eval o).run Tryd.prog W = .ok (.value (.slice (some ⟨W.heap.size, 0, none⟩) 1 1)) (W.alloc (.cells #[(.int .i64 m0)] 3)) := by
  unfold execOp
  simp only [ho, List.map_toArray, List.map_cons, List.map_nil, h0]
  go_simp

/-- Those below k from a to b. -/
def rgl (a b : Int) (k : Nat) : List Int := ((List.range k).map fun (i : Nat) => (i : Int)).filter fun x => decide (a ≤ x) && decide (x ≤ b)
theorem rgl_len (a b : Int) (k : Nat) : (rgl a b k).length ≤ k := by
  have := List.length_filter_le (fun x : Int => decide (a ≤ x) && decide (x ≤ b)) ((List.range k).map fun (i : Nat) => (i : Int))
  simpa [rgl] using this
theorem rgl_succ (a b : Int) (k : Nat) : rgl a b (k + 1) = rgl a b k ++ (if a ≤ (k : Int) ∧ (k : Int) ≤ b then [(k : Int)] else []) := by
  rw [rgl, rgl, List.range_succ, List.map_append, List.filter_append]
  congr 1
  by_cases h : a ≤ (k : Int) ∧ (k : Int) ≤ b
  · simp [h]
  · rw [if_neg h]
    simp only [List.map_cons, List.map_nil, List.filter_cons, List.filter_nil]
    by_cases h1 : a ≤ (k : Int) <;> by_cases h2 : (k : Int) ≤ b <;> simp [h1, h2]
    exact h ⟨h1, h2⟩
theorem rgl_in {a b : Int} {k : Nat} (h1 : a ≤ (k : Int)) (h2 : (k : Int) ≤ b) : rgl a b (k + 1) = rgl a b k ++ ([(k : Int)] : List Int) := by rw [rgl_succ, if_pos ⟨h1, h2⟩]
theorem rgl_low {a b : Int} {k : Nat} (h : ¬ a ≤ (k : Int)) : rgl a b (k + 1) = rgl a b k := by rw [rgl_succ, if_neg (fun e => h e.1), List.append_nil]
theorem rgl_cnt (a b : Int) : ∀ k, k ≤ 1024 → (rgl a b k).length = cnt (rng a b) k
  | 0, _ => rfl
  | k + 1, h => by
    rw [rgl_succ, List.length_append, rgl_cnt a b k (by omega), cnt, testBit_rng]
    by_cases c : a ≤ (k : Int) ∧ (k : Int) ≤ b
    · rw [if_pos c, show decide (k < 1024 ∧ a ≤ (k : Int) ∧ (k : Int) ≤ b) = true from decide_eq_true ⟨by omega, c⟩]; rfl
    · rw [if_neg c, show decide (k < 1024 ∧ a ≤ (k : Int) ∧ (k : Int) ≤ b) = false from decide_eq_false (fun e => c e.2)]; rfl
theorem rng_card (a b : Int) : ((card (rng a b) : Nat) : Int) = ((rgl a b 1024).length : Int) := by rw [card_cnt, rgl_cnt a b 1024 (Nat.le_refl _)]
theorem rgl_high {a b : Int} {k : Nat} (h : ¬ (k : Int) ≤ b) : rgl a b (k + 1) = rgl a b k := by rw [rgl_succ, if_neg (fun e => h e.2), List.append_nil]
set_option maxRecDepth 100000 in
set_option maxHeartbeats 4000000 in
theorem ranges_calls (a b : Int) (ha : a ≤ 9223372036854775807) (w : World) (hB : Tab w) : Calls Tryd.prog 7 #[.int .i64 a, .int .i64 b] w fun e w' => e = .returned (.bool true) ∧ Below w.heap.size w w' := by
  have bel : Below w.heap.size w w := Below.refl _ _
  go_enter Tryd.func7, Tryd.ntmps7
  refine wp_seq ?_
  refine wp_region_lit ?_
  refine st_value (v := (.bool false)) (by rfl) (by rfl) ?_
  simp only [Act.put, List.setIfInBounds_toArray, List.set_cons_zero, List.set_cons_succ]
  refine wpList_nil ?_
  show Code.wp _ _ _ _ _
  refine wp_seq ?_
  refine wp_region_lit ?_
  have O1 : OwnR w w.heap.size 3 (eInt .i64) (.slice none 0 0) [] := OwnR.nil _ _ _ _
  refine st_value (v := .slice none 0 0) (by rfl) (by rfl) ?_
  simp only [Act.put, List.setIfInBounds_toArray, List.set_cons_zero, List.set_cons_succ]
  refine wpList_nil ?_
  show Code.wp _ _ _ _ _
  refine wp_seq ?_
  refine wp_seq ?_
  refine wp_region_lit ?_
  refine st_value (v := (.int .i64 0)) (by rfl) (by rfl) ?_
  simp only [Act.put, List.setIfInBounds_toArray, List.set_cons_zero, List.set_cons_succ]
  refine wpList_nil ?_
  show Code.wp _ _ _ _ _
  refine wp_block ?_
  refine wp_loop_left (fun n_ a_ wr_ => ∃ (k : Nat) (vl : Value) (j5 : Value) (j8 : Value) (j9 : Value) (j10 : Value) (j11 : Value) (j12 : Value) (j13 : Value) (j14 : Value) (j15 : Value) (j16 : Value) (j17 : Value) (j18 : Value) (j19 : Value) (j20 : Value) (j21 : Value) (j22 : Value) (j23 : Value), n_ = 1024 - k ∧ a_ = ⟨#[.int .i64 a, .int .i64 b, undef, undef, .bool false, vl, .int .i64 (k : Int), undef, j8, j9, j10, j11, j12, j13, j14, j15, j16, j17, j18, j19, j20, j21, j22, j23, undef, undef, undef, undef, undef, undef, undef, undef, undef, undef, undef, undef, undef, undef, undef, undef, undef], []⟩ ∧ OwnR wr_ w.heap.size 3 (eInt .i64) vl (rgl a b k) ∧ Below w.heap.size w wr_ ∧ k ≤ 1024) (1024 - 0) ⟨0, (.slice none 0 0), (.slice none 0 0), undef, undef, undef, undef, undef, undef, undef, undef, undef, undef, undef, undef, undef, undef, undef, undef, rfl, rfl, O1, bel, Nat.zero_le _⟩ ?_
  clear O1
  clear bel
  rintro n_ a_ w3 ⟨k, vl, j5, j8, j9, j10, j11, j12, j13, j14, j15, j16, j17, j18, j19, j20, j21, j22, j23, hn, rfl, O1, bel, hk⟩
  have hlen := rgl_len a b k
  refine wp_seq ?_
  refine wp_seq ?_
  refine wp_region_lit ?_
  refine st_value (v := (.int .i64 (k : Int))) (by rfl) (by rfl) ?_
  simp only [Act.put, List.setIfInBounds_toArray, List.set_cons_zero, List.set_cons_succ]
  refine st_value (v := (.bool (decide ((k : Int) < 1024)))) (by rfl) (run_lss (.tmp 8) (.const (.int .i64 1024)) rfl rfl rfl w3) ?_
  simp only [Act.put, List.setIfInBounds_toArray, List.set_cons_zero, List.set_cons_succ]
  refine wpList_nil ?_
  show Code.wp _ _ _ _ _
  cases hg4 : decide ((k : Int) < 1024)
  · have hp5 := of_decide_eq_false hg4
    refine wp_cond_false rfl ?_
    refine wp_exit ?_
    show Code.wp _ _ _ _ _
    refine wp_seq ?_
    obtain rfl : k = 1024 := by omega
    refine wp_region_lit ?_
    refine st_value (v := (.int .i64 a)) (by rfl) (by rfl) ?_
    simp only [Act.put, List.setIfInBounds_toArray, List.set_cons_zero, List.set_cons_succ]
    refine st_value (v := (.int .i64 b)) (by rfl) (by rfl) ?_
    simp only [Act.put, List.setIfInBounds_toArray, List.set_cons_zero, List.set_cons_succ]
    refine st_call1 (v := (.agg (setA (rng a b)))) (by rfl) (run_call_27_2 (.tmp 24) (.tmp 25) rfl rfl rfl _) (range_calls a b w3 ha) ?_
    intro w6 hb7
    simp only [Act.put, List.setIfInBounds_toArray, List.set_cons_zero, List.set_cons_succ]
    replace O1 := O1.same hb7
    replace bel := bl_step bel hb7
    clear hb7
    refine st_new (by rfl) (run_alloc_set rfl _) ?_
    intro g8 w9 B10 hb11 lo12
    simp only [Act.put, List.setIfInBounds_toArray, List.set_cons_zero, List.set_cons_succ]
    have n13 := O1.off lo12
    replace lo12 := low_le bel lo12
    replace O1 := O1.same hb11
    replace bel := bl_step bel hb11
    clear hb11
    refine st_row (by rfl) (run_store_set (.tmp 7) (.tmp 26) rfl rfl (S := (rng a b)) rfl B10) B10 ?_
    intro w14 B16 hg15
    simp only [Act.put, List.setIfInBounds_toArray, List.set_cons_zero, List.set_cons_succ]
    replace O1 := O1.keptB hg15 n13
    clear B10
    replace bel := bl_kept0 bel hg15 lo12
    clear hg15
    refine wpList_nil ?_
    show Code.wp _ _ _ _ _
    refine wp_seq ?_
    obtain ⟨A17, c18, hv19, h20, h21, h22, R23⟩ := O1.reads
    subst hv19
    rw [eInt_all] at R23
    clear O1
    refine wp_region_facts_lit (C := Abv w14) (G := G0) [.val (.agg (setA (rng a b))), .val (.slice A17 (rgl a b 1024).length c18), .val (.agg (setA (mk (rgl a b 1024)))), .val (.bool true), .val (.bool true), .val (.agg (setA (rng a b))), .val (.int .i64 ((card (rng a b) : Nat) : Int)), .val (.slice A17 (rgl a b 1024).length c18), .val (.int .i64 ((rgl a b 1024).length : Int)), .val (.bool true), .val (.bool true), .val (.bool true), .val (.bool true), .val (.bool true), .val (.bool true)] (by kernel_rfl) (by kernel_rfl) (Abv.start _) ?_
    refine fsteps_val (fun W hC _ => opok_value (v := (.agg (setA (rng a b)))) (by rfl) (run_load_set (.tmp 7) rfl _ rfl (rng a b) (B16.below hC)) rfl hC (G0.refl _)) ?_
    simp only [Act.put, List.setIfInBounds_toArray, List.set_cons_zero, List.set_cons_succ]
    refine fsteps_val (fun W hC _ => opok_value (v := (.slice A17 (rgl a b 1024).length c18)) (by rfl) (by rfl) rfl hC (G0.refl _)) ?_
    simp only [Act.put, List.setIfInBounds_toArray, List.set_cons_zero, List.set_cons_succ]
    refine fsteps_val (fun W hC _ => opok_call (by rfl) (run_call_22_1 (.tmp 28) rfl rfl W) ((make_calls A17 (rgl a b 1024) c18 W (R23.same hC) (Nat.le_trans (rgl_len a b 1024) (by omega))).mono fun e W' ⟨h1, h2⟩ => ⟨_, h1, rfl, hC.step h2, h2⟩)) ?_
    simp only [Act.put, List.setIfInBounds_toArray, List.set_cons_zero, List.set_cons_succ]
    refine fsteps_val (fun W hC _ => opok_value (v := (.bool true)) (by rfl) (run_eql_set_t (.tmp 27) (.tmp 29) rfl rfl rfl (rng_sm _ _) (mk_sm _) rfl W) rfl hC (G0.refl _)) ?_
    simp only [Act.put, List.setIfInBounds_toArray, List.set_cons_zero, List.set_cons_succ]
    refine fsteps_val (fun W hC _ => opok_value (v := (.bool true)) (by rfl) (by rfl) rfl hC (G0.refl _)) ?_
    simp only [Act.put, List.setIfInBounds_toArray, List.set_cons_zero, List.set_cons_succ]
    refine fsteps_val (fun W hC _ => opok_value (v := (.agg (setA (rng a b)))) (by rfl) (run_load_set (.tmp 7) rfl _ rfl (rng a b) (B16.below hC)) rfl hC (G0.refl _)) ?_
    simp only [Act.put, List.setIfInBounds_toArray, List.set_cons_zero, List.set_cons_succ]
    refine fsteps_val (fun W hC _ => opok_call (by rfl) (run_call_28_1 (.tmp 32) rfl rfl W) ((len_calls (rng a b) W).mono fun e W' ⟨h1, h2⟩ => ⟨_, h1, rfl, hC.step h2, h2⟩)) ?_
    simp only [Act.put, List.setIfInBounds_toArray, List.set_cons_zero, List.set_cons_succ]
    refine fsteps_val (fun W hC _ => opok_value (v := (.slice A17 (rgl a b 1024).length c18)) (by rfl) (by rfl) rfl hC (G0.refl _)) ?_
    simp only [Act.put, List.setIfInBounds_toArray, List.set_cons_zero, List.set_cons_succ]
    refine fsteps_val (fun W hC _ => opok_value (v := (.int .i64 ((rgl a b 1024).length : Int))) (by rfl) (run_len (.tmp 34) rfl ⟨_, Tryd.underlying36⟩ rfl W) rfl hC (G0.refl _)) ?_
    simp only [Act.put, List.setIfInBounds_toArray, List.set_cons_zero, List.set_cons_succ]
    refine fsteps_val (fun W hC _ => opok_value (v := (.bool true)) (by rfl) (run_eql_int_t (.tmp 33) (.tmp 35) rfl rfl rfl (rng_card a b) W) rfl hC (G0.refl _)) ?_
    simp only [Act.put, List.setIfInBounds_toArray, List.set_cons_zero, List.set_cons_succ]
    refine fsteps_val (fun W hC _ => opok_value (v := (.bool true)) (by rfl) (by rfl) rfl hC (G0.refl _)) ?_
    simp only [Act.put, List.setIfInBounds_toArray, List.set_cons_zero, List.set_cons_succ]
    refine fsteps_val (fun W hC _ => opok_value (v := (.bool true)) (by rfl) (by rfl) rfl hC (G0.refl _)) ?_
    simp only [Act.put, List.setIfInBounds_toArray, List.set_cons_zero, List.set_cons_succ]
    refine fsteps_val (fun W hC _ => opok_call (by rfl) (run_call_12_0  rfl  W) ((lives_calls W (hB.same (bl_step bel hC))).mono fun e W' ⟨h1, h2⟩ => ⟨_, h1, rfl, hC.step h2, h2⟩)) ?_
    simp only [Act.put, List.setIfInBounds_toArray, List.set_cons_zero, List.set_cons_succ]
    refine fsteps_val (fun W hC _ => opok_value (v := (.bool true)) (by rfl) (by rfl) rfl hC (G0.refl _)) ?_
    simp only [Act.put, List.setIfInBounds_toArray, List.set_cons_zero, List.set_cons_succ]
    refine fsteps_val (fun W hC _ => opok_value (v := (.bool true)) (by rfl) (by rfl) rfl hC (G0.refl _)) ?_
    simp only [Act.put, List.setIfInBounds_toArray, List.set_cons_zero, List.set_cons_succ]
    refine fsteps_nil fun w24 hC _ => ?_
    replace hC : Below w14.heap.size w14 w24 := hC
    replace R23 := R23.same hC
    replace B16 := B16.below hC
    replace bel := bl_step bel hC
    clear hC
    show Code.wp _ _ _ _ _
    refine wp_ret ?_
    show bodyPost _ _ _ _ _ _
    exact bodyPost_ret (results_tmp rfl _ _ _) rfl ⟨rfl, bel⟩
  · have hp25 := of_decide_eq_true hg4
    refine wp_cond_true rfl ?_
    refine wp_skip ?_
    show Code.wp _ _ _ _ _
    refine wp_seq ?_
    refine wp_block ?_
    refine wp_seq ?_
    cases hg26 : decide (a ≤ (k : Int))
    · have hp27 := of_decide_eq_false hg26
      refine wp_region_lit ?_
      refine st_value (v := (.int .i64 (k : Int))) (by rfl) (by rfl) ?_
      simp only [Act.put, List.setIfInBounds_toArray, List.set_cons_zero, List.set_cons_succ]
      refine st_value (v := (.int .i64 a)) (by rfl) (by rfl) ?_
      simp only [Act.put, List.setIfInBounds_toArray, List.set_cons_zero, List.set_cons_succ]
      refine st_value (v := (.bool false)) (by rfl) ((run_geq (.tmp 12) (.tmp 13) rfl rfl rfl w3).trans (by rw [hg26])) ?_
      simp only [Act.put, List.setIfInBounds_toArray, List.set_cons_zero, List.set_cons_succ]
      refine st_value (v := (.bool false)) (by rfl) (by rfl) ?_
      simp only [Act.put, List.setIfInBounds_toArray, List.set_cons_zero, List.set_cons_succ]
      refine st_not (by rfl) ?_
      simp only [Act.put, List.setIfInBounds_toArray, List.set_cons_zero, List.set_cons_succ]
      refine st_not (by rfl) ?_
      simp only [Act.put, List.setIfInBounds_toArray, List.set_cons_zero, List.set_cons_succ]
      refine st_not (by rfl) ?_
      simp only [Act.put, List.setIfInBounds_toArray, List.set_cons_zero, List.set_cons_succ]
      refine st_value (v := (.bool false)) (by rfl) (by rfl) ?_
      simp only [Act.put, List.setIfInBounds_toArray, List.set_cons_zero, List.set_cons_succ]
      refine wpList_nil ?_
      show Code.wp _ _ _ _ _
      refine wp_cond_false rfl ?_
      refine wp_skip ?_
      show Code.wp _ _ _ _ _
      refine wp_region_lit ?_
      refine st_value (v := (.int .i64 (k : Int))) (by rfl) (by rfl) ?_
      simp only [Act.put, List.setIfInBounds_toArray, List.set_cons_zero, List.set_cons_succ]
      refine st_value (v := (.int .i64 ((k : Int) + 1))) (by rfl) (run_add_in (.tmp 10) (.const (.int .i64 1)) rfl rfl rfl (by omega) w3) ?_
      simp only [Act.put, List.setIfInBounds_toArray, List.set_cons_zero, List.set_cons_succ]
      refine st_value (v := (.int .i64 ((k : Int) + 1))) (by rfl) (by rfl) ?_
      simp only [Act.put, List.setIfInBounds_toArray, List.set_cons_zero, List.set_cons_succ]
      refine wpList_nil ?_
      show ∃ m, m < _ ∧ _
      exact ⟨_, (by omega), (k + 1), vl, vl, (.int .i64 (k : Int)), (.bool true), (.int .i64 (k : Int)), (.int .i64 ((k : Int) + 1)), (.int .i64 (k : Int)), (.int .i64 a), (.bool false), (.bool false), undef, undef, undef, (.bool false), j20, j21, j22, j23, rfl, rfl, (by rw [rgl_low hp27]; exact O1), bel, (by omega)⟩
    · have hp28 := of_decide_eq_true hg26
      refine wp_region_lit ?_
      refine st_value (v := (.int .i64 (k : Int))) (by rfl) (by rfl) ?_
      simp only [Act.put, List.setIfInBounds_toArray, List.set_cons_zero, List.set_cons_succ]
      refine st_value (v := (.int .i64 a)) (by rfl) (by rfl) ?_
      simp only [Act.put, List.setIfInBounds_toArray, List.set_cons_zero, List.set_cons_succ]
      refine st_value (v := (.bool true)) (by rfl) ((run_geq (.tmp 12) (.tmp 13) rfl rfl rfl w3).trans (by rw [hg26])) ?_
      simp only [Act.put, List.setIfInBounds_toArray, List.set_cons_zero, List.set_cons_succ]
      refine st_value (v := (.bool true)) (by rfl) (by rfl) ?_
      simp only [Act.put, List.setIfInBounds_toArray, List.set_cons_zero, List.set_cons_succ]
      refine st_value (v := (.int .i64 (k : Int))) (by rfl) (by rfl) ?_
      simp only [Act.put, List.setIfInBounds_toArray, List.set_cons_zero, List.set_cons_succ]
      refine st_value (v := (.int .i64 b)) (by rfl) (by rfl) ?_
      simp only [Act.put, List.setIfInBounds_toArray, List.set_cons_zero, List.set_cons_succ]
      refine st_value (v := (.bool (decide ((k : Int) ≤ b)))) (by rfl) (run_leq (.tmp 16) (.tmp 17) rfl rfl rfl w3) ?_
      simp only [Act.put, List.setIfInBounds_toArray, List.set_cons_zero, List.set_cons_succ]
      refine st_value (v := (.bool (decide ((k : Int) ≤ b)))) (by rfl) (by rfl) ?_
      simp only [Act.put, List.setIfInBounds_toArray, List.set_cons_zero, List.set_cons_succ]
      refine wpList_nil ?_
      show Code.wp _ _ _ _ _
      cases hg29 : decide ((k : Int) ≤ b)
      · have hp30 := of_decide_eq_false hg29
        refine wp_cond_false rfl ?_
        refine wp_skip ?_
        show Code.wp _ _ _ _ _
        refine wp_region_lit ?_
        refine st_value (v := (.int .i64 (k : Int))) (by rfl) (by rfl) ?_
        simp only [Act.put, List.setIfInBounds_toArray, List.set_cons_zero, List.set_cons_succ]
        refine st_value (v := (.int .i64 ((k : Int) + 1))) (by rfl) (run_add_in (.tmp 10) (.const (.int .i64 1)) rfl rfl rfl (by omega) w3) ?_
        simp only [Act.put, List.setIfInBounds_toArray, List.set_cons_zero, List.set_cons_succ]
        refine st_value (v := (.int .i64 ((k : Int) + 1))) (by rfl) (by rfl) ?_
        simp only [Act.put, List.setIfInBounds_toArray, List.set_cons_zero, List.set_cons_succ]
        refine wpList_nil ?_
        show ∃ m, m < _ ∧ _
        exact ⟨_, (by omega), (k + 1), vl, vl, (.int .i64 (k : Int)), (.bool true), (.int .i64 (k : Int)), (.int .i64 ((k : Int) + 1)), (.int .i64 (k : Int)), (.int .i64 a), (.bool true), (.bool true), (.int .i64 (k : Int)), (.int .i64 b), (.bool false), (.bool false), j20, j21, j22, j23, rfl, rfl, (by rw [rgl_high hp30]; exact O1), bel, (by omega)⟩
      · have hp31 := of_decide_eq_true hg29
        refine wp_cond_true rfl ?_
        refine wp_region_lit ?_
        refine st_value (v := vl) (by rfl) (by rfl) ?_
        simp only [Act.put, List.setIfInBounds_toArray, List.set_cons_zero, List.set_cons_succ]
        refine st_value (v := (.int .i64 (k : Int))) (by rfl) (by rfl) ?_
        simp only [Act.put, List.setIfInBounds_toArray, List.set_cons_zero, List.set_cons_succ]
        refine st_lit (by rfl) (run_lit_36_1 (.tmp 21) rfl rfl _) ?_
        intro g32 w33 B34 hb35 lo36
        simp only [Act.put, List.setIfInBounds_toArray, List.set_cons_zero, List.set_cons_succ]
        have n37 := O1.off lo36
        replace lo36 := low_le bel lo36
        replace O1 := O1.same hb35
        replace bel := bl_step bel hb35
        clear hb35
        refine st_append slInt rfl (.tmp 20) (.tmp 22) rfl rfl O1 ([(k : Int)] : List Int) rfl rfl B34 (by simp [Enc.all, eInt]) (by simp only [List.length_cons, List.length_nil]; omega) bel.size ?_
        intro v38 w39 O40 hg41 hat42
        simp only [Act.put, List.setIfInBounds_toArray, List.set_cons_zero, List.set_cons_succ]
        replace bel := bl_app bel O1 hg41
        clear O1 hg41 hat42
        refine st_value (v := v38) (by rfl) (by rfl) ?_
        simp only [Act.put, List.setIfInBounds_toArray, List.set_cons_zero, List.set_cons_succ]
        refine wpList_nil ?_
        show Code.wp _ _ _ _ _
        refine wp_region_lit ?_
        refine st_value (v := (.int .i64 (k : Int))) (by rfl) (by rfl) ?_
        simp only [Act.put, List.setIfInBounds_toArray, List.set_cons_zero, List.set_cons_succ]
        refine st_value (v := (.int .i64 ((k : Int) + 1))) (by rfl) (run_add_in (.tmp 10) (.const (.int .i64 1)) rfl rfl rfl (by omega) w39) ?_
        simp only [Act.put, List.setIfInBounds_toArray, List.set_cons_zero, List.set_cons_succ]
        refine st_value (v := (.int .i64 ((k : Int) + 1))) (by rfl) (by rfl) ?_
        simp only [Act.put, List.setIfInBounds_toArray, List.set_cons_zero, List.set_cons_succ]
        refine wpList_nil ?_
        show ∃ m, m < _ ∧ _
        exact ⟨_, (by omega), (k + 1), v38, v38, (.int .i64 (k : Int)), (.bool true), (.int .i64 (k : Int)), (.int .i64 ((k : Int) + 1)), (.int .i64 (k : Int)), (.int .i64 a), (.bool true), (.bool true), (.int .i64 (k : Int)), (.int .i64 b), (.bool true), (.bool true), vl, (.int .i64 (k : Int)), (.slice (some ⟨g32, 0, none⟩) 1 1), v38, rfl, rfl, (by rw [rgl_in hp28 hp31]; exact O40), bel, (by omega)⟩
end Go.Proofs.YthgamlklpfkkhaaDoor

/- What the reference's Print does. -/
import Derived.Test.YthgamlklpfkkhaaDoorTrip
import Derived.Test.YthgamlklpfkkhaaDoorMore
import Derived.Test.YthgamlklpfkkhaaDoorTexts
namespace Go.Proofs.YthgamlklpfkkhaaDoor
open Go.RowKit Go.WideShapes Go.ChangeShapes
set_option linter.unusedSimpArgs false
set_option linter.unusedVariables false

theorem run_call_26_2 {o : Oper} {a : Act} (x0 : Operand) (x1 : Operand) {ts : Array TypeId} (ho : o.op = .call { callee := .value (.func 26), args := #[x0, x1], argTypes := ts }) {v0 : Value} (h0 : a.eval x0 = v0) {v1 : Value} (h1 : a.eval x1 = v1) (W : World) : (execOp a.eval o).run Tryd.prog W = .ok (.enter 26 #[v0, v1]) W := by
  unfold execOp
  simp only [ho]
  subst h0 h1
  go_simp
theorem run_call_37_1 {o : Oper} {a : Act} (x0 : Operand) {ts : Array TypeId} (ho : o.op = .call { callee := .value (.func 37), args := #[x0], argTypes := ts }) {v0 : Value} (h0 : a.eval x0 = v0) (W : World) : (execOp a.eval o).run Tryd.prog W = .ok (.enter 37 #[v0]) W := by
  unfold execOp
  simp only [ho]
  subst h0
  go_simp

theorem bit_lt {S m : Nat} (hS : Sm S) (h : has S ((m : Int) + 1) = true) : m + 1 < 1024 := by
  rcases Nat.lt_or_ge (m + 1) 1024 with g | g
  · exact g
  · have := has_nat S (m + 1)
    rw [hS _ g] at this
    rw [show ((m : Int) + 1) = ((m + 1 : Nat) : Int) from by omega, this] at h
    cases h
theorem bit_of {S m : Nat} {b : Bool} (h : has S ((m : Int) + 1) = b) : S.testBit (m + 1) = b := by rw [← has_nat, ← h]; congr 1
theorem runEnd_next {S m : Nat} (hS : Sm S) (h : has S ((m : Int) + 1) = true) : runEnd S m = runEnd S (m + 1) := runEnd_step hS (bit_of h)
theorem runEnd_last {S m : Nat} (h : has S ((m : Int) + 1) = false) : runEnd S m = m := runEnd_stop (bit_of h)
def isStart (S k : Nat) : Bool := S.testBit k && (k == 0 || !S.testBit (k - 1))
theorem parts_succ (S k : Nat) : parts S (k + 1) = parts S k ++ (if isStart S k = true then [part S k] else []) := by
  rw [parts, parts, starts_succ, List.map_append]
  congr 1
  unfold isStart
  split <;> rfl
theorem start_of {S k : Nat} (h : has S (k : Int) = true) (h1 : has S ((k : Int) - 1) = false) : isStart S k = true := by
  rw [has_nat] at h
  rw [isStart, h, Bool.true_and]
  cases k with
  | zero => rfl
  | succ k =>
    rw [show (((k + 1 : Nat) : Int) - 1) = (k : Int) from by omega, has_nat] at h1
    simp [h1]
theorem jn_no {S k : Nat} (h : has S (k : Int) = false ∨ has S ((k : Int) - 1) = true) : Lib.join (parts S (k + 1)) [44] = Lib.join (parts S k) [44] := by
  rw [parts_succ, if_neg, List.append_nil]
  rw [isStart]
  rcases h with h | h
  · rw [has_nat] at h; simp [h]
  · cases k with
    | zero => rw [has_neg _ _ (by omega)] at h; cases h
    | succ k =>
      rw [show (((k + 1 : Nat) : Int) - 1) = (k : Int) from by omega, has_nat] at h
      simp [h]
theorem part_ne (S a : Nat) : part S a ≠ [] := by
  unfold part
  split
  · exact dec_ne a
  · simp
theorem join_snoc (xs : List (List UInt8)) (x : List UInt8) : Lib.join (xs ++ [x]) [44] = if xs = [] then x else Lib.join xs [44] ++ ([44] ++ x) := by
  induction xs with
  | nil => simp [Lib.join_one]
  | cons y ys ih =>
    cases ys with
    | nil => simp [Lib.join, List.intercalate, List.intersperse]
    | cons z zs =>
      rw [if_neg (by simp)] at ih ⊢
      have e : ∀ l : List (List UInt8), l ≠ [] → Lib.join (y :: l) [44] = y ++ ([44] ++ Lib.join l [44]) := by
        intro l hl
        cases l with
        | nil => exact absurd rfl hl
        | cons u us => simp [Lib.join, List.intercalate, List.intersperse]
      rw [List.cons_append, e _ (by simp), ih, e _ (by simp)]
      simp
theorem join_nil_iff (S k : Nat) : Lib.join (parts S k) [44] = [] ↔ parts S k = [] := by
  constructor
  · intro h
    unfold parts at h ⊢
    generalize starts S k = l at *
    cases l with
    | nil => rfl
    | cons a l =>
      exfalso
      have hp := part_ne S a
      cases l with
      | nil => simp [Lib.join, List.intercalate] at h; exact hp h
      | cons b l => simp [Lib.join, List.intercalate, List.intersperse] at h
  · intro h; rw [h]; rfl
theorem jn_a {S k m : Nat} (hs : isStart S k = true) (hj : Lib.join (parts S k) [44] = []) (hr : runEnd S k = m) (h : ¬ (k < m) ∧ k ≤ m) : Lib.join (parts S (k + 1)) [44] = Lib.join (parts S k) [44] ++ dec k := by
  rw [parts_succ, if_pos hs, join_snoc, if_pos ((join_nil_iff S k).1 hj), hj, part, if_pos (by omega)]; rfl
theorem jn_b {S k m : Nat} (hs : isStart S k = true) (hj : Lib.join (parts S k) [44] = []) (hr : runEnd S k = m) (h : k < m) : Lib.join (parts S (k + 1)) [44] = (Lib.join (parts S k) [44] ++ dec k) ++ ([45] ++ dec m) := by
  rw [parts_succ, if_pos hs, join_snoc, if_pos ((join_nil_iff S k).1 hj), hj, part, if_neg (by omega), hr]; rfl
theorem jn_c {S k m : Nat} (hs : isStart S k = true) (hj : ¬ Lib.join (parts S k) [44] = []) (hr : runEnd S k = m) (h : ¬ (k < m) ∧ k ≤ m) : Lib.join (parts S (k + 1)) [44] = (Lib.join (parts S k) [44] ++ [44]) ++ dec k := by
  rw [parts_succ, if_pos hs, join_snoc, if_neg (fun e => hj ((join_nil_iff S k).2 e)), part, if_pos (by omega)]; simp
theorem jn_d {S k m : Nat} (hs : isStart S k = true) (hj : ¬ Lib.join (parts S k) [44] = []) (hr : runEnd S k = m) (h : k < m) : Lib.join (parts S (k + 1)) [44] = ((Lib.join (parts S k) [44] ++ [44]) ++ dec k) ++ ([45] ++ dec m) := by
  rw [parts_succ, if_pos hs, join_snoc, if_neg (fun e => hj ((join_nil_iff S k).2 e)), part, if_neg (by omega), hr]; simp
theorem dec_le4 (n : Nat) : n < 1024 → (dec n).length ≤ 4 := fun h => dec_len 3 n (by omega)
theorem join_le {S : Nat} (hS : Sm S) (k : Nat) : (Lib.join (parts S k) [44]).length ≤ 10 * k := by
  have hc : ∀ x ∈ parts S k, x.length ≤ 9 := by
    intro x hx
    simp only [parts, List.mem_map, starts, List.mem_filter, Bool.and_eq_true] at hx
    obtain ⟨a, ⟨_, ha, _⟩, rfl⟩ := hx
    have ha1 : a < 1024 := by
      rcases Nat.lt_or_ge a 1024 with h | h
      · exact h
      · rw [hS a h] at ha; cases ha
    obtain ⟨_, e2, _, _⟩ := runEnd_in hS (1024 - a) a ha (by omega)
    have d1 := dec_le4 a ha1
    have d2 := dec_le4 _ e2
    unfold part
    split
    · omega
    · simp; omega
  have := join_len 9 (parts S k) [44] hc
  have hl := parts_len S k
  rw [List.length_map] at hl
  simp at this
  have := Nat.mul_le_mul_left 10 hl
  omega
set_option maxRecDepth 100000 in
set_option maxHeartbeats 4000000 in
theorem refPrint_calls (S : Nat) (hS : Sm S) (w : World) : Calls Tryd.prog 14 #[.agg (setA S)] w fun e w' => e = .returned (.string (str (prt S))) ∧ Below w.heap.size w w' := by
  have bel : Below w.heap.size w w := Below.refl _ _
  go_enter Tryd.func14, Tryd.ntmps14
  refine wp_seq ?_
  refine wp_region_lit ?_
  refine st_new (by rfl) (run_box_set (.tmp 0) rfl (S := S) rfl _) ?_
  intro g1 w2 B3 hb4 lo5
  simp only [Act.put, List.setIfInBounds_toArray, List.set_cons_zero, List.set_cons_succ]
  replace lo5 := low_le bel lo5
  replace bel := bl_step bel hb4
  clear hb4
  refine st_value (v := (.string (str []))) (by rfl) (by rfl) ?_
  simp only [Act.put, List.setIfInBounds_toArray, List.set_cons_zero, List.set_cons_succ]
  refine wpList_nil ?_
  show Code.wp _ _ _ _ _
  refine wp_seq ?_
  refine wp_region_lit ?_
  refine st_value (v := (.string (str []))) (by rfl) (by rfl) ?_
  simp only [Act.put, List.setIfInBounds_toArray, List.set_cons_zero, List.set_cons_succ]
  refine wpList_nil ?_
  show Code.wp _ _ _ _ _
  refine wp_seq ?_
  refine wp_seq ?_
  refine wp_region_lit ?_
  refine st_value (v := (.int .i64 0)) (by rfl) (by rfl) ?_
  simp only [Act.put, List.setIfInBounds_toArray, List.set_cons_zero, List.set_cons_succ]
  refine wpList_nil ?_
  show Code.wp _ _ _ _ _
  refine wp_block ?_
  refine wp_loop_left (fun n_ a_ wr_ => ∃ (k : Nat) (j5 : Value) (j6 : Value) (j7 : Value) (j8 : Value) (j9 : Value) (j10 : Value) (j11 : Value) (j12 : Value) (j13 : Value) (j14 : Value) (j15 : Value) (j16 : Value) (j17 : Value) (j18 : Value) (j19 : Value) (j20 : Value) (j21 : Value) (j22 : Value) (j23 : Value) (j24 : Value) (j25 : Value) (j26 : Value) (j27 : Value) (j28 : Value) (j29 : Value) (j30 : Value) (j31 : Value) (j32 : Value) (j33 : Value) (j34 : Value) (j35 : Value) (j36 : Value) (j37 : Value) (j38 : Value) (j39 : Value) (j40 : Value) (j41 : Value) (j42 : Value), n_ = 1024 - k ∧ a_ = ⟨#[.agg (setA S), .pointer (some ⟨g1, 0, none⟩), .string (str []), .string (str (Lib.join (parts S k) [44])), .int .i64 (k : Int), j5, j6, j7, j8, j9, j10, j11, j12, j13, j14, j15, j16, j17, j18, j19, j20, j21, j22, j23, j24, j25, j26, j27, j28, j29, j30, j31, j32, j33, j34, j35, j36, j37, j38, j39, j40, j41, j42, undef], []⟩ ∧ Blk wr_ g1 (setA S) 24 ∧ Below w.heap.size w wr_ ∧ k ≤ 1024) (1024 - 0) ⟨0, undef, undef, undef, undef, undef, undef, undef, undef, undef, undef, undef, undef, undef, undef, undef, undef, undef, undef, undef, undef, undef, undef, undef, undef, undef, undef, undef, undef, undef, undef, undef, undef, undef, undef, undef, undef, undef, undef, rfl, rfl, B3, bel, Nat.zero_le _⟩ ?_
  clear B3
  clear bel
  rintro n_ a_ w6 ⟨k, j5, j6, j7, j8, j9, j10, j11, j12, j13, j14, j15, j16, j17, j18, j19, j20, j21, j22, j23, j24, j25, j26, j27, j28, j29, j30, j31, j32, j33, j34, j35, j36, j37, j38, j39, j40, j41, j42, hn, rfl, B3, bel, hk⟩
  have hjl := join_le hS k
  have hdl := dec_le4
  refine wp_seq ?_
  refine wp_seq ?_
  refine wp_region_lit ?_
  refine st_value (v := (.int .i64 (k : Int))) (by rfl) (by rfl) ?_
  simp only [Act.put, List.setIfInBounds_toArray, List.set_cons_zero, List.set_cons_succ]
  refine st_value (v := (.bool (decide ((k : Int) < 1024)))) (by rfl) (run_lss (.tmp 6) (.const (.int .i64 1024)) rfl rfl rfl w6) ?_
  simp only [Act.put, List.setIfInBounds_toArray, List.set_cons_zero, List.set_cons_succ]
  refine wpList_nil ?_
  show Code.wp _ _ _ _ _
  cases hg7 : decide ((k : Int) < 1024)
  · have hp8 := of_decide_eq_false hg7
    refine wp_cond_false rfl ?_
    refine wp_exit ?_
    show Code.wp _ _ _ _ _
    refine wp_seq ?_
    refine wp_region_lit ?_
    refine st_value (v := (.string (str (Lib.join (parts S k) [44])))) (by rfl) (by rfl) ?_
    simp only [Act.put, List.setIfInBounds_toArray, List.set_cons_zero, List.set_cons_succ]
    refine st_value (v := (.string (str (Lib.join (parts S k) [44])))) (by rfl) (by rfl) ?_
    simp only [Act.put, List.setIfInBounds_toArray, List.set_cons_zero, List.set_cons_succ]
    refine wpList_nil ?_
    show Code.wp _ _ _ _ _
    refine wp_ret ?_
    show bodyPost _ _ _ _ _ _
    obtain rfl : k = 1024 := by omega
    exact bodyPost_ret (results_tmp rfl _ _ _) rfl ⟨rfl, bel⟩
  · have hp9 := of_decide_eq_true hg7
    refine wp_cond_true rfl ?_
    refine wp_skip ?_
    show Code.wp _ _ _ _ _
    refine wp_seq ?_
    refine wp_block ?_
    refine wp_seq ?_
    refine wp_seq ?_
    cases hg12 : has S (k : Int)
    · have hp13 := trivial
      refine wp_region_lit ?_
      refine st_value (v := (.agg (setA S))) (by rfl) (run_load_set (.tmp 1) rfl _ rfl S B3) ?_
      simp only [Act.put, List.setIfInBounds_toArray, List.set_cons_zero, List.set_cons_succ]
      refine st_value (v := (.int .i64 (k : Int))) (by rfl) (by rfl) ?_
      simp only [Act.put, List.setIfInBounds_toArray, List.set_cons_zero, List.set_cons_succ]
      refine st_call1 (v := (.bool (has S (k : Int)))) (by rfl) (run_call_26_2 (.tmp 10) (.tmp 11) rfl rfl rfl _) (refHas_below S hS (k : Int) w6) ?_
      intro w14 hb15
      simp only [Act.put, List.setIfInBounds_toArray, List.set_cons_zero, List.set_cons_succ]
      replace B3 := B3.below hb15
      replace bel := bl_step bel hb15
      clear hb15
      refine st_value (v := (.bool true)) (by rfl) ((run_not (.tmp 12) rfl (b := has S (k : Int)) rfl w14).trans (by rw [hg12]; rfl)) ?_
      simp only [Act.put, List.setIfInBounds_toArray, List.set_cons_zero, List.set_cons_succ]
      refine st_value (v := (.bool true)) (by rfl) (by rfl) ?_
      simp only [Act.put, List.setIfInBounds_toArray, List.set_cons_zero, List.set_cons_succ]
      refine st_not (by rfl) ?_
      simp only [Act.put, List.setIfInBounds_toArray, List.set_cons_zero, List.set_cons_succ]
      refine st_not (by rfl) ?_
      simp only [Act.put, List.setIfInBounds_toArray, List.set_cons_zero, List.set_cons_succ]
      refine st_not (by rfl) ?_
      simp only [Act.put, List.setIfInBounds_toArray, List.set_cons_zero, List.set_cons_succ]
      refine st_not (by rfl) ?_
      simp only [Act.put, List.setIfInBounds_toArray, List.set_cons_zero, List.set_cons_succ]
      refine st_value (v := (.bool true)) (by rfl) (by rfl) ?_
      simp only [Act.put, List.setIfInBounds_toArray, List.set_cons_zero, List.set_cons_succ]
      refine wpList_nil ?_
      show Code.wp _ _ _ _ _
      refine wp_cond_true rfl ?_
      refine wp_exit ?_
      show Code.wp _ _ _ _ _
      refine wp_region_lit ?_
      refine st_value (v := (.int .i64 (k : Int))) (by rfl) (by rfl) ?_
      simp only [Act.put, List.setIfInBounds_toArray, List.set_cons_zero, List.set_cons_succ]
      refine st_value (v := (.int .i64 ((k : Int) + 1))) (by rfl) (run_add_in (.tmp 8) (.const (.int .i64 1)) rfl rfl rfl (by omega) w14) ?_
      simp only [Act.put, List.setIfInBounds_toArray, List.set_cons_zero, List.set_cons_succ]
      refine st_value (v := (.int .i64 ((k : Int) + 1))) (by rfl) (by rfl) ?_
      simp only [Act.put, List.setIfInBounds_toArray, List.set_cons_zero, List.set_cons_succ]
      refine wpList_nil ?_
      show ∃ m, m < _ ∧ _
      exact ⟨_, (by omega), (k + 1), j5, (.int .i64 (k : Int)), (.bool true), (.int .i64 (k : Int)), (.int .i64 ((k : Int) + 1)), (.agg (setA S)), (.int .i64 (k : Int)), (.bool (has S (k : Int))), (.bool true), (.bool true), undef, undef, undef, undef, (.bool true), j20, j21, j22, j23, j24, j25, j26, j27, j28, j29, j30, j31, j32, j33, j34, j35, j36, j37, j38, j39, j40, j41, j42, rfl, (by rw [jn_no (.inl hg12)]; rfl), B3, bel, (by omega)⟩
    · have hp16 := trivial
      refine wp_region_lit ?_
      refine st_value (v := (.agg (setA S))) (by rfl) (run_load_set (.tmp 1) rfl _ rfl S B3) ?_
      simp only [Act.put, List.setIfInBounds_toArray, List.set_cons_zero, List.set_cons_succ]
      refine st_value (v := (.int .i64 (k : Int))) (by rfl) (by rfl) ?_
      simp only [Act.put, List.setIfInBounds_toArray, List.set_cons_zero, List.set_cons_succ]
      refine st_call1 (v := (.bool (has S (k : Int)))) (by rfl) (run_call_26_2 (.tmp 10) (.tmp 11) rfl rfl rfl _) (refHas_below S hS (k : Int) w6) ?_
      intro w17 hb18
      simp only [Act.put, List.setIfInBounds_toArray, List.set_cons_zero, List.set_cons_succ]
      replace B3 := B3.below hb18
      replace bel := bl_step bel hb18
      clear hb18
      refine st_value (v := (.bool false)) (by rfl) ((run_not (.tmp 12) rfl (b := has S (k : Int)) rfl w17).trans (by rw [hg12]; rfl)) ?_
      simp only [Act.put, List.setIfInBounds_toArray, List.set_cons_zero, List.set_cons_succ]
      refine st_value (v := (.bool false)) (by rfl) (by rfl) ?_
      simp only [Act.put, List.setIfInBounds_toArray, List.set_cons_zero, List.set_cons_succ]
      refine st_value (v := (.agg (setA S))) (by rfl) (run_load_set (.tmp 1) rfl _ rfl S B3) ?_
      simp only [Act.put, List.setIfInBounds_toArray, List.set_cons_zero, List.set_cons_succ]
      refine st_value (v := (.int .i64 (k : Int))) (by rfl) (by rfl) ?_
      simp only [Act.put, List.setIfInBounds_toArray, List.set_cons_zero, List.set_cons_succ]
      refine st_value (v := (.int .i64 ((k : Int) - 1))) (by rfl) (run_sub_in (.tmp 16) (.const (.int .i64 1)) rfl rfl rfl (by omega) w17) ?_
      simp only [Act.put, List.setIfInBounds_toArray, List.set_cons_zero, List.set_cons_succ]
      refine st_call1 (v := (.bool (has S ((k : Int) - 1)))) (by rfl) (run_call_26_2 (.tmp 15) (.tmp 17) rfl rfl rfl _) (refHas_below S hS ((k : Int) - 1) w17) ?_
      intro w19 hb20
      simp only [Act.put, List.setIfInBounds_toArray, List.set_cons_zero, List.set_cons_succ]
      replace B3 := B3.below hb20
      replace bel := bl_step bel hb20
      clear hb20
      refine st_value (v := (.bool (has S ((k : Int) - 1)))) (by rfl) (by rfl) ?_
      simp only [Act.put, List.setIfInBounds_toArray, List.set_cons_zero, List.set_cons_succ]
      refine wpList_nil ?_
      show Code.wp _ _ _ _ _
      cases hg21 : has S ((k : Int) - 1)
      · have hp22 := trivial
        refine wp_cond_false rfl ?_
        refine wp_skip ?_
        show Code.wp _ _ _ _ _
        refine wp_seq ?_
        refine wp_region_lit ?_
        refine st_value (v := (.int .i64 (k : Int))) (by rfl) (by rfl) ?_
        simp only [Act.put, List.setIfInBounds_toArray, List.set_cons_zero, List.set_cons_succ]
        refine st_value (v := (.int .i64 (k : Int))) (by rfl) (by rfl) ?_
        simp only [Act.put, List.setIfInBounds_toArray, List.set_cons_zero, List.set_cons_succ]
        refine wpList_nil ?_
        show Code.wp _ _ _ _ _
        refine wp_seq ?_
        refine wp_block ?_
        refine wp_loop_left (fun n_ a_ wr_ => ∃ (m : Nat) (j21 : Value) (j22 : Value) (j23 : Value) (j24 : Value) (j25 : Value) (j26 : Value), n_ = 1024 - m ∧ a_ = ⟨#[.agg (setA S), .pointer (some ⟨g1, 0, none⟩), .string (str []), .string (str (Lib.join (parts S k) [44])), .int .i64 (k : Int), .int .i64 (m : Int), .int .i64 (k : Int), .bool true, j8, j9, .agg (setA S), .int .i64 (k : Int), .bool (has S (k : Int)), .bool false, .bool false, .agg (setA S), .int .i64 (k : Int), .int .i64 ((k : Int) - 1), .bool false, .bool false, .int .i64 (k : Int), j21, j22, j23, j24, j25, j26, j27, j28, j29, j30, j31, j32, j33, j34, j35, j36, j37, j38, j39, j40, j41, j42, undef], []⟩ ∧ Blk wr_ g1 (setA S) 24 ∧ Below w.heap.size w wr_ ∧ k ≤ m ∧ m < 1024 ∧ runEnd S k = runEnd S m) (1024 - k) ⟨k, j21, j22, j23, j24, j25, j26, rfl, rfl, B3, bel, Nat.le_refl _, (by omega), rfl⟩ ?_
        clear B3
        clear bel
        rintro n_ a_ w23 ⟨m, j21, j22, j23, j24, j25, j26, hn, rfl, B3, bel, hkm, hm, hrm⟩
        refine wp_seq ?_
        refine wp_seq ?_
        refine wp_region_lit ?_
        refine st_value (v := (.agg (setA S))) (by rfl) (run_load_set (.tmp 1) rfl _ rfl S B3) ?_
        simp only [Act.put, List.setIfInBounds_toArray, List.set_cons_zero, List.set_cons_succ]
        refine st_value (v := (.int .i64 (m : Int))) (by rfl) (by rfl) ?_
        simp only [Act.put, List.setIfInBounds_toArray, List.set_cons_zero, List.set_cons_succ]
        refine st_value (v := (.int .i64 ((m : Int) + 1))) (by rfl) (run_add_in (.tmp 22) (.const (.int .i64 1)) rfl rfl rfl (by omega) w23) ?_
        simp only [Act.put, List.setIfInBounds_toArray, List.set_cons_zero, List.set_cons_succ]
        refine st_call1 (v := (.bool (has S ((m : Int) + 1)))) (by rfl) (run_call_26_2 (.tmp 21) (.tmp 23) rfl rfl rfl _) (refHas_below S hS ((m : Int) + 1) w23) ?_
        intro w24 hb25
        simp only [Act.put, List.setIfInBounds_toArray, List.set_cons_zero, List.set_cons_succ]
        replace B3 := B3.below hb25
        replace bel := bl_step bel hb25
        clear hb25
        refine wpList_nil ?_
        show Code.wp _ _ _ _ _
        cases hg26 : has S ((m : Int) + 1)
        · have hp27 := trivial
          have hre := hrm.trans (runEnd_last hg26)
          have d1 := hdl k
          have d2 := hdl m
          refine wp_cond_false rfl ?_
          refine wp_exit ?_
          show Code.wp _ _ _ _ _
          refine wp_seq ?_
          refine wp_seq ?_
          refine wp_region_lit ?_
          refine st_value (v := (.string (str (Lib.join (parts S k) [44])))) (by rfl) (by rfl) ?_
          simp only [Act.put, List.setIfInBounds_toArray, List.set_cons_zero, List.set_cons_succ]
          refine st_value (v := (.bool (!decide ((Lib.join (parts S k) [44]) = [])))) (by rfl) (run_neq_text (.tmp 27) (.const (.string ⟨#[]⟩)) (l := (Lib.join (parts S k) [44])) (m := []) rfl rfl rfl w24) ?_
          simp only [Act.put, List.setIfInBounds_toArray, List.set_cons_zero, List.set_cons_succ]
          refine wpList_nil ?_
          show Code.wp _ _ _ _ _
          cases hg28 : decide ((Lib.join (parts S k) [44]) = [])
          · have hp29 := of_decide_eq_false hg28
            refine wp_cond_true rfl ?_
            refine wp_region_lit ?_
            refine st_value (v := (.string (str (Lib.join (parts S k) [44])))) (by rfl) (by rfl) ?_
            simp only [Act.put, List.setIfInBounds_toArray, List.set_cons_zero, List.set_cons_succ]
            refine st_value (v := (.string (str ((Lib.join (parts S k) [44]) ++ [44])))) (by rfl) (run_add_text (.tmp 29) (.const (.string ⟨#[44]⟩)) (l := (Lib.join (parts S k) [44])) (m := [44]) rfl rfl rfl (by (try simp only [List.length_append, List.length_cons, List.length_nil]); omega) w24) ?_
            simp only [Act.put, List.setIfInBounds_toArray, List.set_cons_zero, List.set_cons_succ]
            refine st_value (v := (.string (str ((Lib.join (parts S k) [44]) ++ [44])))) (by rfl) (by rfl) ?_
            simp only [Act.put, List.setIfInBounds_toArray, List.set_cons_zero, List.set_cons_succ]
            refine wpList_nil ?_
            show Code.wp _ _ _ _ _
            refine wp_seq ?_
            refine wp_region_lit ?_
            refine st_value (v := (.string (str ((Lib.join (parts S k) [44]) ++ [44])))) (by rfl) (by rfl) ?_
            simp only [Act.put, List.setIfInBounds_toArray, List.set_cons_zero, List.set_cons_succ]
            refine st_value (v := (.int .i64 (k : Int))) (by rfl) (by rfl) ?_
            simp only [Act.put, List.setIfInBounds_toArray, List.set_cons_zero, List.set_cons_succ]
            refine st_call1 (v := (.string (str (dec k)))) (by rfl) (run_call_37_1 (.tmp 32) rfl rfl _) (refDec_calls 3 k w24 (by omega) (by omega)) ?_
            intro w30 hb31
            simp only [Act.put, List.setIfInBounds_toArray, List.set_cons_zero, List.set_cons_succ]
            replace B3 := B3.below hb31
            replace bel := bl_step bel hb31
            clear hb31
            refine st_value (v := (.string (str (((Lib.join (parts S k) [44]) ++ [44]) ++ (dec k))))) (by rfl) (run_add_text (.tmp 31) (.tmp 33) (l := ((Lib.join (parts S k) [44]) ++ [44])) (m := (dec k)) rfl rfl rfl (by (try simp only [List.length_append, List.length_cons, List.length_nil]); omega) w30) ?_
            simp only [Act.put, List.setIfInBounds_toArray, List.set_cons_zero, List.set_cons_succ]
            refine st_value (v := (.string (str (((Lib.join (parts S k) [44]) ++ [44]) ++ (dec k))))) (by rfl) (by rfl) ?_
            simp only [Act.put, List.setIfInBounds_toArray, List.set_cons_zero, List.set_cons_succ]
            refine wpList_nil ?_
            show Code.wp _ _ _ _ _
            refine wp_seq ?_
            refine wp_region_lit ?_
            refine st_value (v := (.int .i64 (m : Int))) (by rfl) (by rfl) ?_
            simp only [Act.put, List.setIfInBounds_toArray, List.set_cons_zero, List.set_cons_succ]
            refine st_value (v := (.int .i64 (k : Int))) (by rfl) (by rfl) ?_
            simp only [Act.put, List.setIfInBounds_toArray, List.set_cons_zero, List.set_cons_succ]
            refine st_value (v := (.bool (decide ((k : Int) < (m : Int))))) (by rfl) (run_gtr (.tmp 35) (.tmp 36) rfl rfl rfl w30) ?_
            simp only [Act.put, List.setIfInBounds_toArray, List.set_cons_zero, List.set_cons_succ]
            refine wpList_nil ?_
            show Code.wp _ _ _ _ _
            cases hg32 : decide ((k : Int) < (m : Int))
            · have hp33 := of_decide_eq_false hg32
              refine wp_cond_false rfl ?_
              refine wp_skip ?_
              show Code.wp _ _ _ _ _
              refine wp_region_lit ?_
              refine st_value (v := (.int .i64 (k : Int))) (by rfl) (by rfl) ?_
              simp only [Act.put, List.setIfInBounds_toArray, List.set_cons_zero, List.set_cons_succ]
              refine st_value (v := (.int .i64 ((k : Int) + 1))) (by rfl) (run_add_in (.tmp 8) (.const (.int .i64 1)) rfl rfl rfl (by omega) w30) ?_
              simp only [Act.put, List.setIfInBounds_toArray, List.set_cons_zero, List.set_cons_succ]
              refine st_value (v := (.int .i64 ((k : Int) + 1))) (by rfl) (by rfl) ?_
              simp only [Act.put, List.setIfInBounds_toArray, List.set_cons_zero, List.set_cons_succ]
              refine wpList_nil ?_
              show ∃ m, m < _ ∧ _
              exact ⟨_, (by omega), (k + 1), (.int .i64 (m : Int)), (.int .i64 (k : Int)), (.bool true), (.int .i64 (k : Int)), (.int .i64 ((k : Int) + 1)), (.agg (setA S)), (.int .i64 (k : Int)), (.bool (has S (k : Int))), (.bool false), (.bool false), (.agg (setA S)), (.int .i64 (k : Int)), (.int .i64 ((k : Int) - 1)), (.bool false), (.bool false), (.int .i64 (k : Int)), (.agg (setA S)), (.int .i64 (m : Int)), (.int .i64 ((m : Int) + 1)), (.bool false), j25, j26, (.string (str (Lib.join (parts S k) [44]))), (.bool true), (.string (str (Lib.join (parts S k) [44]))), (.string (str ((Lib.join (parts S k) [44]) ++ [44]))), (.string (str ((Lib.join (parts S k) [44]) ++ [44]))), (.int .i64 (k : Int)), (.string (str (dec k))), (.string (str (((Lib.join (parts S k) [44]) ++ [44]) ++ (dec k)))), (.int .i64 (m : Int)), (.int .i64 (k : Int)), (.bool false), j38, j39, j40, j41, j42, rfl, (by rw [jn_c (start_of hg12 hg21) hp29 hre (by omega)]; rfl), B3, bel, (by omega)⟩
            · have hp34 := of_decide_eq_true hg32
              refine wp_cond_true rfl ?_
              refine wp_region_lit ?_
              refine st_value (v := (.string (str (((Lib.join (parts S k) [44]) ++ [44]) ++ (dec k))))) (by rfl) (by rfl) ?_
              simp only [Act.put, List.setIfInBounds_toArray, List.set_cons_zero, List.set_cons_succ]
              refine st_value (v := (.int .i64 (m : Int))) (by rfl) (by rfl) ?_
              simp only [Act.put, List.setIfInBounds_toArray, List.set_cons_zero, List.set_cons_succ]
              refine st_call1 (v := (.string (str (dec m)))) (by rfl) (run_call_37_1 (.tmp 39) rfl rfl _) (refDec_calls 3 m w30 (by omega) (by omega)) ?_
              intro w35 hb36
              simp only [Act.put, List.setIfInBounds_toArray, List.set_cons_zero, List.set_cons_succ]
              replace B3 := B3.below hb36
              replace bel := bl_step bel hb36
              clear hb36
              refine st_value (v := (.string (str ([45] ++ (dec m))))) (by rfl) (run_add_text (.const (.string ⟨#[45]⟩)) (.tmp 40) (l := [45]) (m := (dec m)) rfl rfl rfl (by (try simp only [List.length_append, List.length_cons, List.length_nil]); omega) w35) ?_
              simp only [Act.put, List.setIfInBounds_toArray, List.set_cons_zero, List.set_cons_succ]
              refine st_value (v := (.string (str ((((Lib.join (parts S k) [44]) ++ [44]) ++ (dec k)) ++ ([45] ++ (dec m)))))) (by rfl) (run_add_text (.tmp 38) (.tmp 41) (l := (((Lib.join (parts S k) [44]) ++ [44]) ++ (dec k))) (m := ([45] ++ (dec m))) rfl rfl rfl (by (try simp only [List.length_append, List.length_cons, List.length_nil]); omega) w35) ?_
              simp only [Act.put, List.setIfInBounds_toArray, List.set_cons_zero, List.set_cons_succ]
              refine st_value (v := (.string (str ((((Lib.join (parts S k) [44]) ++ [44]) ++ (dec k)) ++ ([45] ++ (dec m)))))) (by rfl) (by rfl) ?_
              simp only [Act.put, List.setIfInBounds_toArray, List.set_cons_zero, List.set_cons_succ]
              refine wpList_nil ?_
              show Code.wp _ _ _ _ _
              refine wp_region_lit ?_
              refine st_value (v := (.int .i64 (k : Int))) (by rfl) (by rfl) ?_
              simp only [Act.put, List.setIfInBounds_toArray, List.set_cons_zero, List.set_cons_succ]
              refine st_value (v := (.int .i64 ((k : Int) + 1))) (by rfl) (run_add_in (.tmp 8) (.const (.int .i64 1)) rfl rfl rfl (by omega) w35) ?_
              simp only [Act.put, List.setIfInBounds_toArray, List.set_cons_zero, List.set_cons_succ]
              refine st_value (v := (.int .i64 ((k : Int) + 1))) (by rfl) (by rfl) ?_
              simp only [Act.put, List.setIfInBounds_toArray, List.set_cons_zero, List.set_cons_succ]
              refine wpList_nil ?_
              show ∃ m, m < _ ∧ _
              exact ⟨_, (by omega), (k + 1), (.int .i64 (m : Int)), (.int .i64 (k : Int)), (.bool true), (.int .i64 (k : Int)), (.int .i64 ((k : Int) + 1)), (.agg (setA S)), (.int .i64 (k : Int)), (.bool (has S (k : Int))), (.bool false), (.bool false), (.agg (setA S)), (.int .i64 (k : Int)), (.int .i64 ((k : Int) - 1)), (.bool false), (.bool false), (.int .i64 (k : Int)), (.agg (setA S)), (.int .i64 (m : Int)), (.int .i64 ((m : Int) + 1)), (.bool false), j25, j26, (.string (str (Lib.join (parts S k) [44]))), (.bool true), (.string (str (Lib.join (parts S k) [44]))), (.string (str ((Lib.join (parts S k) [44]) ++ [44]))), (.string (str ((Lib.join (parts S k) [44]) ++ [44]))), (.int .i64 (k : Int)), (.string (str (dec k))), (.string (str (((Lib.join (parts S k) [44]) ++ [44]) ++ (dec k)))), (.int .i64 (m : Int)), (.int .i64 (k : Int)), (.bool true), (.string (str (((Lib.join (parts S k) [44]) ++ [44]) ++ (dec k)))), (.int .i64 (m : Int)), (.string (str (dec m))), (.string (str ([45] ++ (dec m)))), (.string (str ((((Lib.join (parts S k) [44]) ++ [44]) ++ (dec k)) ++ ([45] ++ (dec m))))), rfl, (by rw [jn_d (start_of hg12 hg21) hp29 hre (by omega)]; rfl), B3, bel, (by omega)⟩
          · have hp37 := of_decide_eq_true hg28
            refine wp_cond_false rfl ?_
            refine wp_skip ?_
            show Code.wp _ _ _ _ _
            refine wp_seq ?_
            refine wp_region_lit ?_
            refine st_value (v := (.string (str (Lib.join (parts S k) [44])))) (by rfl) (by rfl) ?_
            simp only [Act.put, List.setIfInBounds_toArray, List.set_cons_zero, List.set_cons_succ]
            refine st_value (v := (.int .i64 (k : Int))) (by rfl) (by rfl) ?_
            simp only [Act.put, List.setIfInBounds_toArray, List.set_cons_zero, List.set_cons_succ]
            refine st_call1 (v := (.string (str (dec k)))) (by rfl) (run_call_37_1 (.tmp 32) rfl rfl _) (refDec_calls 3 k w24 (by omega) (by omega)) ?_
            intro w38 hb39
            simp only [Act.put, List.setIfInBounds_toArray, List.set_cons_zero, List.set_cons_succ]
            replace B3 := B3.below hb39
            replace bel := bl_step bel hb39
            clear hb39
            refine st_value (v := (.string (str ((Lib.join (parts S k) [44]) ++ (dec k))))) (by rfl) (run_add_text (.tmp 31) (.tmp 33) (l := (Lib.join (parts S k) [44])) (m := (dec k)) rfl rfl rfl (by (try simp only [List.length_append, List.length_cons, List.length_nil]); omega) w38) ?_
            simp only [Act.put, List.setIfInBounds_toArray, List.set_cons_zero, List.set_cons_succ]
            refine st_value (v := (.string (str ((Lib.join (parts S k) [44]) ++ (dec k))))) (by rfl) (by rfl) ?_
            simp only [Act.put, List.setIfInBounds_toArray, List.set_cons_zero, List.set_cons_succ]
            refine wpList_nil ?_
            show Code.wp _ _ _ _ _
            refine wp_seq ?_
            refine wp_region_lit ?_
            refine st_value (v := (.int .i64 (m : Int))) (by rfl) (by rfl) ?_
            simp only [Act.put, List.setIfInBounds_toArray, List.set_cons_zero, List.set_cons_succ]
            refine st_value (v := (.int .i64 (k : Int))) (by rfl) (by rfl) ?_
            simp only [Act.put, List.setIfInBounds_toArray, List.set_cons_zero, List.set_cons_succ]
            refine st_value (v := (.bool (decide ((k : Int) < (m : Int))))) (by rfl) (run_gtr (.tmp 35) (.tmp 36) rfl rfl rfl w38) ?_
            simp only [Act.put, List.setIfInBounds_toArray, List.set_cons_zero, List.set_cons_succ]
            refine wpList_nil ?_
            show Code.wp _ _ _ _ _
            cases hg40 : decide ((k : Int) < (m : Int))
            · have hp41 := of_decide_eq_false hg40
              refine wp_cond_false rfl ?_
              refine wp_skip ?_
              show Code.wp _ _ _ _ _
              refine wp_region_lit ?_
              refine st_value (v := (.int .i64 (k : Int))) (by rfl) (by rfl) ?_
              simp only [Act.put, List.setIfInBounds_toArray, List.set_cons_zero, List.set_cons_succ]
              refine st_value (v := (.int .i64 ((k : Int) + 1))) (by rfl) (run_add_in (.tmp 8) (.const (.int .i64 1)) rfl rfl rfl (by omega) w38) ?_
              simp only [Act.put, List.setIfInBounds_toArray, List.set_cons_zero, List.set_cons_succ]
              refine st_value (v := (.int .i64 ((k : Int) + 1))) (by rfl) (by rfl) ?_
              simp only [Act.put, List.setIfInBounds_toArray, List.set_cons_zero, List.set_cons_succ]
              refine wpList_nil ?_
              show ∃ m, m < _ ∧ _
              exact ⟨_, (by omega), (k + 1), (.int .i64 (m : Int)), (.int .i64 (k : Int)), (.bool true), (.int .i64 (k : Int)), (.int .i64 ((k : Int) + 1)), (.agg (setA S)), (.int .i64 (k : Int)), (.bool (has S (k : Int))), (.bool false), (.bool false), (.agg (setA S)), (.int .i64 (k : Int)), (.int .i64 ((k : Int) - 1)), (.bool false), (.bool false), (.int .i64 (k : Int)), (.agg (setA S)), (.int .i64 (m : Int)), (.int .i64 ((m : Int) + 1)), (.bool false), j25, j26, (.string (str (Lib.join (parts S k) [44]))), (.bool false), j29, j30, (.string (str (Lib.join (parts S k) [44]))), (.int .i64 (k : Int)), (.string (str (dec k))), (.string (str ((Lib.join (parts S k) [44]) ++ (dec k)))), (.int .i64 (m : Int)), (.int .i64 (k : Int)), (.bool false), j38, j39, j40, j41, j42, rfl, (by rw [jn_a (start_of hg12 hg21) hp37 hre (by omega)]; rfl), B3, bel, (by omega)⟩
            · have hp42 := of_decide_eq_true hg40
              refine wp_cond_true rfl ?_
              refine wp_region_lit ?_
              refine st_value (v := (.string (str ((Lib.join (parts S k) [44]) ++ (dec k))))) (by rfl) (by rfl) ?_
              simp only [Act.put, List.setIfInBounds_toArray, List.set_cons_zero, List.set_cons_succ]
              refine st_value (v := (.int .i64 (m : Int))) (by rfl) (by rfl) ?_
              simp only [Act.put, List.setIfInBounds_toArray, List.set_cons_zero, List.set_cons_succ]
              refine st_call1 (v := (.string (str (dec m)))) (by rfl) (run_call_37_1 (.tmp 39) rfl rfl _) (refDec_calls 3 m w38 (by omega) (by omega)) ?_
              intro w43 hb44
              simp only [Act.put, List.setIfInBounds_toArray, List.set_cons_zero, List.set_cons_succ]
              replace B3 := B3.below hb44
              replace bel := bl_step bel hb44
              clear hb44
              refine st_value (v := (.string (str ([45] ++ (dec m))))) (by rfl) (run_add_text (.const (.string ⟨#[45]⟩)) (.tmp 40) (l := [45]) (m := (dec m)) rfl rfl rfl (by (try simp only [List.length_append, List.length_cons, List.length_nil]); omega) w43) ?_
              simp only [Act.put, List.setIfInBounds_toArray, List.set_cons_zero, List.set_cons_succ]
              refine st_value (v := (.string (str (((Lib.join (parts S k) [44]) ++ (dec k)) ++ ([45] ++ (dec m)))))) (by rfl) (run_add_text (.tmp 38) (.tmp 41) (l := ((Lib.join (parts S k) [44]) ++ (dec k))) (m := ([45] ++ (dec m))) rfl rfl rfl (by (try simp only [List.length_append, List.length_cons, List.length_nil]); omega) w43) ?_
              simp only [Act.put, List.setIfInBounds_toArray, List.set_cons_zero, List.set_cons_succ]
              refine st_value (v := (.string (str (((Lib.join (parts S k) [44]) ++ (dec k)) ++ ([45] ++ (dec m)))))) (by rfl) (by rfl) ?_
              simp only [Act.put, List.setIfInBounds_toArray, List.set_cons_zero, List.set_cons_succ]
              refine wpList_nil ?_
              show Code.wp _ _ _ _ _
              refine wp_region_lit ?_
              refine st_value (v := (.int .i64 (k : Int))) (by rfl) (by rfl) ?_
              simp only [Act.put, List.setIfInBounds_toArray, List.set_cons_zero, List.set_cons_succ]
              refine st_value (v := (.int .i64 ((k : Int) + 1))) (by rfl) (run_add_in (.tmp 8) (.const (.int .i64 1)) rfl rfl rfl (by omega) w43) ?_
              simp only [Act.put, List.setIfInBounds_toArray, List.set_cons_zero, List.set_cons_succ]
              refine st_value (v := (.int .i64 ((k : Int) + 1))) (by rfl) (by rfl) ?_
              simp only [Act.put, List.setIfInBounds_toArray, List.set_cons_zero, List.set_cons_succ]
              refine wpList_nil ?_
              show ∃ m, m < _ ∧ _
              exact ⟨_, (by omega), (k + 1), (.int .i64 (m : Int)), (.int .i64 (k : Int)), (.bool true), (.int .i64 (k : Int)), (.int .i64 ((k : Int) + 1)), (.agg (setA S)), (.int .i64 (k : Int)), (.bool (has S (k : Int))), (.bool false), (.bool false), (.agg (setA S)), (.int .i64 (k : Int)), (.int .i64 ((k : Int) - 1)), (.bool false), (.bool false), (.int .i64 (k : Int)), (.agg (setA S)), (.int .i64 (m : Int)), (.int .i64 ((m : Int) + 1)), (.bool false), j25, j26, (.string (str (Lib.join (parts S k) [44]))), (.bool false), j29, j30, (.string (str (Lib.join (parts S k) [44]))), (.int .i64 (k : Int)), (.string (str (dec k))), (.string (str ((Lib.join (parts S k) [44]) ++ (dec k)))), (.int .i64 (m : Int)), (.int .i64 (k : Int)), (.bool true), (.string (str ((Lib.join (parts S k) [44]) ++ (dec k)))), (.int .i64 (m : Int)), (.string (str (dec m))), (.string (str ([45] ++ (dec m)))), (.string (str (((Lib.join (parts S k) [44]) ++ (dec k)) ++ ([45] ++ (dec m))))), rfl, (by rw [jn_b (start_of hg12 hg21) hp37 hre (by omega)]; rfl), B3, bel, (by omega)⟩
        · have hp45 := trivial
          refine wp_cond_true rfl ?_
          refine wp_skip ?_
          show Code.wp _ _ _ _ _
          refine wp_block ?_
          refine wp_region_lit ?_
          refine st_value (v := (.int .i64 (m : Int))) (by rfl) (by rfl) ?_
          simp only [Act.put, List.setIfInBounds_toArray, List.set_cons_zero, List.set_cons_succ]
          refine st_value (v := (.int .i64 ((m : Int) + 1))) (by rfl) (run_add_in (.tmp 25) (.const (.int .i64 1)) rfl rfl rfl (by omega) w24) ?_
          simp only [Act.put, List.setIfInBounds_toArray, List.set_cons_zero, List.set_cons_succ]
          refine st_value (v := (.int .i64 ((m : Int) + 1))) (by rfl) (by rfl) ?_
          simp only [Act.put, List.setIfInBounds_toArray, List.set_cons_zero, List.set_cons_succ]
          refine wpList_nil ?_
          show ∃ m, m < _ ∧ _
          exact ⟨_, (by have := bit_lt hS hg26; omega), (m + 1), (.agg (setA S)), (.int .i64 (m : Int)), (.int .i64 ((m : Int) + 1)), (.bool true), (.int .i64 (m : Int)), (.int .i64 ((m : Int) + 1)), rfl, rfl, B3, bel, (by omega), (bit_lt hS hg26), (hrm.trans (runEnd_next hS hg26))⟩
      · have hp46 := trivial
        refine wp_cond_true rfl ?_
        refine wp_exit ?_
        show Code.wp _ _ _ _ _
        refine wp_region_lit ?_
        refine st_value (v := (.int .i64 (k : Int))) (by rfl) (by rfl) ?_
        simp only [Act.put, List.setIfInBounds_toArray, List.set_cons_zero, List.set_cons_succ]
        refine st_value (v := (.int .i64 ((k : Int) + 1))) (by rfl) (run_add_in (.tmp 8) (.const (.int .i64 1)) rfl rfl rfl (by omega) w19) ?_
        simp only [Act.put, List.setIfInBounds_toArray, List.set_cons_zero, List.set_cons_succ]
        refine st_value (v := (.int .i64 ((k : Int) + 1))) (by rfl) (by rfl) ?_
        simp only [Act.put, List.setIfInBounds_toArray, List.set_cons_zero, List.set_cons_succ]
        refine wpList_nil ?_
        show ∃ m, m < _ ∧ _
        exact ⟨_, (by omega), (k + 1), j5, (.int .i64 (k : Int)), (.bool true), (.int .i64 (k : Int)), (.int .i64 ((k : Int) + 1)), (.agg (setA S)), (.int .i64 (k : Int)), (.bool (has S (k : Int))), (.bool false), (.bool false), (.agg (setA S)), (.int .i64 (k : Int)), (.int .i64 ((k : Int) - 1)), (.bool true), (.bool true), j20, j21, j22, j23, j24, j25, j26, j27, j28, j29, j30, j31, j32, j33, j34, j35, j36, j37, j38, j39, j40, j41, j42, rfl, (by rw [jn_no (.inr hg21)]; rfl), B3, bel, (by omega)⟩
end Go.Proofs.YthgamlklpfkkhaaDoor

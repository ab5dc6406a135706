/- Lemmas that the chapter's laws rest on: ScReads, ScPrints, Irow, Facts8, Store8, EvText4, ScParse, ScLives. -/
import Derived.Test.YtackcmlkicjlnaaDoorM03aebed476
/- Numbers, as the program and the document read them; a draw's digits. -/
namespace Go.Proofs.YtackcmlkicjlnaaDoor
open Go.RowKit Go.WideShapes Go.ChangeShapes
set_option linter.unusedSimpArgs false
set_option linter.unusedVariables false

theorem c_run_call_21_2 {o : Oper} {a : Act} (x0 : Operand) (x1 : Operand) {ts : Array TypeId} (ho : o.op = .call { callee := .value (.func 21), args := #[x0, x1], argTypes := ts }) {v0 : Value} (h0 : a.eval x0 = v0) {v1 : Value} (h1 : a.eval x1 = v1) (W : World) : (execOp a.eval o).run Tryd.prog W = .ok (.enter 21 #[v0, v1]) W := by
  unfold execOp
  simp only [ho]
  subst h0 h1
  go_simp
theorem c_run_lit_45_1 {o : Oper} {a : Act} (x0 : Operand) (ho : o.op = .buildSlice 45 1 #[(0, x0)]) {m0 : Int} (h0 : a.eval x0 = (.int .u8 m0)) (W : World) : (execOp a.eval o).run Tryd.prog W = .ok (.value (.slice (some ⟨W.heap.size, 0, none⟩) 1 1)) (W.alloc (.cells #[(.int .u8 m0)] 5)) := by
  unfold execOp
  simp only [ho, List.map_toArray, List.map_cons, List.map_nil, h0]
  go_simp
theorem trim45_calls (l : List UInt8) (w : World) : Calls Tryd.prog 21 #[.string (str l), .string ⟨#[45]⟩] w fun e w' => e = .returned (.string (str (cutD l))) ∧ Below w.heap.size w w' := by
  refine (Tryd.strings_TrimPrefix (str l) ⟨#[45]⟩ w).mono ?_
  rintro e w' ⟨rfl, rfl⟩
  refine ⟨?_, Below.refl _ _⟩
  rw [show (str l).data.toList = l from rfl, show (⟨#[45]⟩ : ByteArray).data.toList = [45] from rfl]
  have : Lib.trimPrefix l [45] = cutD l := by
    unfold Lib.trimPrefix cutD
    rw [pre45]
    by_cases h : l.head? = some 45 <;> simp [h]
  rw [this]
  rfl
theorem run_negU {P : Program} {o : Oper} {a : Act} {t : TypeId} (x : Operand) (ho : o.op = .unOp .neg t x) {z : Int} (hx : a.eval x = .int .u64 z) (W : World) : (execOp a.eval o).run P W = .ok (.value (.int .u64 (IntKind.u64.wrap (-z)))) W := by
  unfold execOp; simp only [ho, hx]
  simp [go_sem]
theorem cutD_ne {l : List UInt8} (h : ¬ cutD l = l) : l.head? = some 45 := by
  unfold cutD at h
  by_cases hh : l.head? = some 45
  · exact hh
  · rw [if_neg hh] at h; exact absurd rfl h
theorem cutD_eq {l : List UInt8} (h : cutD l = l) : ¬ l.head? = some 45 := by
  intro hh
  unfold cutD at h
  rw [if_pos hh] at h
  cases l with
  | nil => cases hh
  | cons x r => have := congrArg List.length h; simp at this
theorem powD_next {i m : Nat} (hi : i < 20) (h : m < 10 ^ (20 - i)) : m / 10 < 10 ^ (20 - (i + 1)) := by
  have e : 10 ^ (20 - i) = 10 ^ (20 - (i + 1)) * 10 := by rw [← Nat.pow_succ]; congr 1; omega
  omega

attribute [local irreducible] Go.wpList Go.Code.wp
set_option maxRecDepth 100000 in
set_option maxHeartbeats 4000000 in
theorem snumber_calls (l : List UInt8) (hl : l.length ≤ 1000000) (w : World) : Calls Tryd.prog 12 #[.string (str l)] w fun e w' => e = .returned (.int .u64 (numU l)) ∧ Below w.heap.size w w' := by
  have bel : Below w.heap.size w w := Below.refl _ _
  have hcl : (cutD l).length ≤ l.length := by unfold cutD; split; (· rw [List.length_drop]; omega); exact Nat.le_refl _
  go_enter Tryd.func12, Tryd.ntmps12
  refine wp_seq ?_
  refine wp_region_lit ?_
  refine st_mv (.int .u64 0) ?_
  simp only [nf0, nf1, nf2, nf3, nf4]
  refine wpList_nil ?_
  show Code.wp _ _ _ _ _
  refine wp_seq ?_
  refine wp_region_lit ?_
  refine st_mv (.string (str l)) ?_
  simp only [nf0, nf1, nf2, nf3, nf4]
  refine st_call1 (v := (.string (str (cutD l)))) (by rfl) (c_run_call_21_2 (.tmp 6) (.const (.string ⟨#[45]⟩)) rfl rfl rfl _) (trim45_calls l w) ?_
  intro w1 hb2
  simp only [nf0, nf1, nf2, nf3, nf4]
  replace bel := bl_step bel hb2
  clear hb2
  refine st_mv (.string (str (cutD l))) ?_
  simp only [nf0, nf1, nf2, nf3, nf4]
  refine wpList_nil ?_
  show Code.wp _ _ _ _ _
  refine wp_seq ?_
  refine wp_region_lit ?_
  refine st_mv (.int .u64 0) ?_
  simp only [nf0, nf1, nf2, nf3, nf4]
  refine wpList_nil ?_
  show Code.wp _ _ _ _ _
  refine wp_seq ?_
  refine wp_seq ?_
  refine wp_region_lit ?_
  refine st_mv (.string (str (cutD l))) ?_
  simp only [nf0, nf1, nf2, nf3, nf4]
  refine st_value (v := (.int .i64 ((cutD l).length : Int))) (by rfl) (run_len_text (.tmp 8) rfl Tryd.underlying9 (l := (cutD l)) rfl w1) ?_
  simp only [nf0, nf1, nf2, nf3, nf4]
  refine st_mv (.int .i64 0) ?_
  simp only [nf0, nf1, nf2, nf3, nf4]
  refine wpList_nil ?_
  show Code.wp _ _ _ _ _
  refine wp_block ?_
  refine wp_loop_left (fun n_ a_ wr_ => (fun J3 => ∃ (k : Nat), n_ = (cutD l).length - k ∧ a_ = ⟨#[.string (str l), J3 1, .int .u64 0, .string (str (cutD l)), .int .u64 ((nval 18446744073709551616 0 ((cutD l).take k) : Nat) : Int), J3 5, J3 6, J3 7, J3 8, .int .i64 ((cutD l).length : Int), .int .i64 (k : Int), J3 11, J3 12, J3 13, J3 14, J3 15, J3 16, J3 17, J3 18, J3 19, J3 20, J3 21, J3 22, J3 23, J3 24, J3 25, J3 26, J3 27], []⟩ ∧ Below w.heap.size w wr_ ∧ (k ≤ (cutD l).length)) (jk a_)) ((cutD l).length - 0) ⟨0, rfl, rfl, bel, (Nat.zero_le _)⟩ ?_
  clear bel
  intro n_ a_ w4 h_
  revert h_
  generalize jk a_ = J3
  rintro ⟨k, hms, rfl, bel, hk⟩
  refine wp_seq ?_
  refine wp_region_lit ?_
  refine st_value (v := (.bool (decide ((k : Int) < ((cutD l).length : Int))))) (by rfl) (run_lss (.tmp 10) (.tmp 9) rfl rfl rfl w4) ?_
  simp only [nf0, nf1, nf2, nf3, nf4]
  refine wpList_nil ?_
  show Code.wp _ _ _ _ _
  refine wp_seq ?_
  cases hg5 : decide ((k : Int) < ((cutD l).length : Int))
  rotate_left
  · have hp10 := of_decide_eq_true hg5
    refine wp_cond_true rfl ?_
    refine wp_skip ?_
    show Code.wp _ _ _ _ _
    refine wp_seq ?_
    refine wp_block ?_
    refine wp_seq ?_
    refine wp_region_lit ?_
    refine st_mv (.int .i64 (k : Int)) ?_
    simp only [nf0, nf1, nf2, nf3, nf4]
    refine st_mv (.int .i64 (k : Int)) ?_
    simp only [nf0, nf1, nf2, nf3, nf4]
    refine wpList_nil ?_
    show Code.wp _ _ _ _ _
    refine wp_region_lit ?_
    refine st_mv (.int .u64 ((nval 18446744073709551616 0 ((cutD l).take k) : Nat) : Int)) ?_
    simp only [nf0, nf1, nf2, nf3, nf4]
    refine st_value (v := (.int .u64 (IntKind.u64.wrap (10 * ((nval 18446744073709551616 0 ((cutD l).take k) : Nat) : Int))))) (by rfl) (run_mul (.const (.int .u64 10)) (.tmp 13) rfl rfl rfl w4) ?_
    simp only [nf0, nf1, nf2, nf3, nf4]
    refine st_mv (.string (str (cutD l))) ?_
    simp only [nf0, nf1, nf2, nf3, nf4]
    refine st_mv (.int .i64 (k : Int)) ?_
    simp only [nf0, nf1, nf2, nf3, nf4]
    refine st_value (v := (.int .u8 (chr (cutD l) k))) (by rfl) (run_index_text (.tmp 15) (.tmp 16) rfl Tryd.underlying9 (l := (cutD l)) rfl rfl k (by omega) (by omega) w4) ?_
    simp only [nf0, nf1, nf2, nf3, nf4]
    refine st_value (v := (.int .u8 (IntKind.u8.wrap (chr (cutD l) k - 48)))) (by rfl) (run_sub (.tmp 17) (.const (.int .u8 48)) rfl rfl rfl w4) ?_
    simp only [nf0, nf1, nf2, nf3, nf4]
    refine st_value (v := (.int .u64 (IntKind.u64.wrap (IntKind.u8.wrap (chr (cutD l) k - 48))))) (by rfl) (run_conv_u8_u64 (.tmp 18) rfl Tryd.underlying5 Tryd.underlying34 (z := IntKind.u8.wrap (chr (cutD l) k - 48)) rfl rfl w4) ?_
    simp only [nf0, nf1, nf2, nf3, nf4]
    refine st_value (v := (.int .u64 ((nval 18446744073709551616 0 ((cutD l).take (k + 1)) : Nat) : Int))) (by rfl) ((run_add (.tmp 14) (.tmp 19) rfl rfl rfl w4).trans (by rw [num_step (by omega)])) ?_
    simp only [nf0, nf1, nf2, nf3, nf4]
    refine st_mv (.int .u64 ((nval 18446744073709551616 0 ((cutD l).take (k + 1)) : Nat) : Int)) ?_
    simp only [nf0, nf1, nf2, nf3, nf4]
    refine wpList_nil ?_
    show Code.wp _ _ _ _ _
    refine wp_region_lit ?_
    refine st_value (v := (.int .i64 ((k : Int) + 1))) (by rfl) (run_add_in (.tmp 10) (.const (.int .i64 1)) rfl rfl rfl (by omega) w4) ?_
    simp only [nf0, nf1, nf2, nf3, nf4]
    refine st_mv (.int .i64 ((k : Int) + 1)) ?_
    simp only [nf0, nf1, nf2, nf3, nf4]
    refine wpList_nil ?_
    show ∃ m, m < _ ∧ _
    exact ⟨_, (by omega), (k + 1), rfl, rfl, bel, (by omega)⟩
  have hp6 := of_decide_eq_false hg5
  refine wp_cond_false rfl ?_
  refine wp_exit ?_
  show Code.wp _ _ _ _ _
  refine wp_seq ?_
  refine wp_seq ?_
  have hkl : k = (cutD l).length := by omega
  have hN : ((nval 18446744073709551616 0 ((cutD l).take k) : Nat) : Int) = (numN (cutD l) : Int) := by rw [hkl, List.take_length]; rfl
  rw [hN]
  refine wp_region_lit ?_
  refine st_mv (.string (str (cutD l))) ?_
  simp only [nf0, nf1, nf2, nf3, nf4]
  refine st_mv (.string (str l)) ?_
  simp only [nf0, nf1, nf2, nf3, nf4]
  refine st_value (v := (.bool (!decide ((cutD l) = l)))) (by rfl) (run_neq_text (.tmp 22) (.tmp 23) (l := (cutD l)) (m := l) rfl rfl rfl w4) ?_
  simp only [nf0, nf1, nf2, nf3, nf4]
  refine wpList_nil ?_
  show Code.wp _ _ _ _ _
  cases hg7 : decide ((cutD l) = l)
  · have hp8 := of_decide_eq_false hg7
    refine wp_cond_true rfl ?_
    refine wp_seq ?_
    refine wp_region_lit ?_
    refine st_mv (.int .u64 (numN (cutD l) : Int)) ?_
    simp only [nf0, nf1, nf2, nf3, nf4]
    refine st_value (v := (.int .u64 (IntKind.u64.wrap (-(numN (cutD l) : Int))))) (by rfl) (run_negU (.tmp 25) rfl (z := (numN (cutD l) : Int)) rfl w4) ?_
    simp only [nf0, nf1, nf2, nf3, nf4]
    refine st_mv (.int .u64 (IntKind.u64.wrap (-(numN (cutD l) : Int)))) ?_
    simp only [nf0, nf1, nf2, nf3, nf4]
    refine wpList_nil ?_
    show Code.wp _ _ _ _ _
    refine wp_ret ?_
    first | show bodyPost _ _ _ _ _ _ | (simp only [Exit.then, Exit.inBlock]; show bodyPost _ _ _ _ _ _)
    have hE : numU l = (IntKind.u64.wrap (-(numN (cutD l) : Int))) := by have h_ : l.head? = some 45 := cutD_ne (by assumption); unfold numU cutD; rw [if_pos h_, if_pos h_]
    exact bodyPost_ret (results_tmp rfl _ _ _) rfl ⟨by rw [hE]; rfl, bel⟩
  have hp9 := of_decide_eq_true hg7
  refine wp_cond_false rfl ?_
  refine wp_skip ?_
  show Code.wp _ _ _ _ _
  refine wp_seq ?_
  refine wp_region_lit ?_
  refine st_mv (.int .u64 (numN (cutD l) : Int)) ?_
  simp only [nf0, nf1, nf2, nf3, nf4]
  refine st_mv (.int .u64 (numN (cutD l) : Int)) ?_
  simp only [nf0, nf1, nf2, nf3, nf4]
  refine wpList_nil ?_
  show Code.wp _ _ _ _ _
  refine wp_ret ?_
  first | show bodyPost _ _ _ _ _ _ | (simp only [Exit.then, Exit.inBlock]; show bodyPost _ _ _ _ _ _)
  have hE : numU l = (numN (cutD l) : Int) := by have h_ : ¬ l.head? = some 45 := cutD_eq (by assumption); unfold numU cutD; rw [if_neg h_, if_neg h_]
  exact bodyPost_ret (results_tmp rfl _ _ _) rfl ⟨by rw [hE]; rfl, bel⟩
set_option maxRecDepth 100000 in
set_option maxHeartbeats 4000000 in
theorem refSNumber_calls (l : List UInt8) (hl : l.length ≤ 1000000) (w : World) : Calls Tryd.prog 14 #[.string (str l)] w fun e w' => e = .returned (.tuple #[.int .u64 (rnumU l).1, .int .i64 (((rnumU l).2 : Nat) : Int)]) ∧ Below w.heap.size w w' := by
  have bel : Below w.heap.size w w := Below.refl _ _
  go_enter Tryd.func14, Tryd.ntmps14
  refine wp_seq ?_
  refine wp_region_lit ?_
  refine st_mv (.int .u64 0) ?_
  simp only [nf0, nf1, nf2, nf3, nf4]
  refine st_mv (.int .i64 0) ?_
  simp only [nf0, nf1, nf2, nf3, nf4]
  refine wpList_nil ?_
  show Code.wp _ _ _ _ _
  refine wp_seq ?_
  refine wp_region_lit ?_
  refine st_mv (.int .i64 0) ?_
  simp only [nf0, nf1, nf2, nf3, nf4]
  refine wpList_nil ?_
  show Code.wp _ _ _ _ _
  refine wp_seq ?_
  refine wp_seq ?_
  cases hg1 : decide (0 < (l.length : Int))
  · have hp2 := of_decide_eq_false hg1
    refine wp_region_lit ?_
    refine st_mv (.string (str l)) ?_
    simp only [nf0, nf1, nf2, nf3, nf4]
    refine st_value (v := (.int .i64 (l.length : Int))) (by rfl) (run_len_text (.tmp 6) rfl Tryd.underlying9 (l := l) rfl w) ?_
    simp only [nf0, nf1, nf2, nf3, nf4]
    refine st_value (v := (.bool false)) (by rfl) ((run_gtr (.tmp 7) (.const (.int .i64 0)) rfl rfl rfl w).trans (by rw [hg1])) ?_
    simp only [nf0, nf1, nf2, nf3, nf4]
    refine st_mv (.bool false) ?_
    simp only [nf0, nf1, nf2, nf3, nf4]
    refine st_nob (j := 3) (t := 9) (c := false) rfl rfl rfl rfl rfl ?_
    simp only [nf0, nf1, nf2, nf3, nf4]
    refine st_nob (j := 3) (t := 9) (c := false) rfl rfl rfl rfl rfl ?_
    simp only [nf0, nf1, nf2, nf3, nf4]
    refine st_nob (j := 3) (t := 9) (c := false) rfl rfl rfl rfl rfl ?_
    simp only [nf0, nf1, nf2, nf3, nf4]
    refine st_mv (.bool false) ?_
    simp only [nf0, nf1, nf2, nf3, nf4]
    refine wpList_nil ?_
    show Code.wp _ _ _ _ _
    refine wp_cond_false rfl ?_
    refine wp_skip ?_
    show Code.wp _ _ _ _ _
    refine wp_seq ?_
    refine wp_region_lit ?_
    refine st_mv (.int .u64 0) ?_
    simp only [nf0, nf1, nf2, nf3, nf4]
    refine wpList_nil ?_
    show Code.wp _ _ _ _ _
    refine wp_seq ?_
    refine wp_block ?_
    have hm2 : ¬ l.head? = some 45 := by rw [head45]; rintro ⟨h1, h2⟩; first | contradiction | omega
    refine wp_loop_left (fun n_ a_ wr_ => (fun J3 => ∃ (i : Nat) (z : Int), n_ = l.length - i ∧ a_ = ⟨#[.string (str l), J3 1, .int .u64 0, .int .i64 0, .int .i64 (i : Int), .int .u64 z, J3 6, J3 7, J3 8, J3 9, J3 10, J3 11, J3 12, J3 13, J3 14, J3 15, J3 16, J3 17, J3 18, J3 19, J3 20, J3 21, J3 22, J3 23, J3 24, J3 25, J3 26, J3 27, J3 28, J3 29, J3 30, J3 31, J3 32, J3 33, J3 34, J3 35, J3 36, J3 37, J3 38, J3 39, J3 40, J3 41, J3 42, J3 43, J3 44, J3 45, J3 46, J3 47, J3 48, J3 49, J3 50, J3 51], []⟩ ∧ Below w.heap.size w wr_ ∧ (i ≤ l.length) ∧ (0 ≤ z ∧ z < 18446744073709551616) ∧ (0 + (rgoU (l.drop 0) 0).2 = i + (rgoU (l.drop i) z).2 ∧ (rgoU (l.drop 0) 0).1 = (rgoU (l.drop i) z).1)) (jk a_)) (l.length - 0) ⟨0, 0, rfl, rfl, bel, (by omega), (by omega), ⟨rfl, rfl⟩⟩ ?_
    clear bel
    intro n_ a_ w4 h_
    revert h_
    generalize jk a_ = J3
    rintro ⟨i, z, hms, rfl, bel, hi, hz, hr⟩
    refine wp_seq ?_
    refine wp_seq ?_
    cases hg5 : decide ((i : Int) < (l.length : Int))
    · have hp6 := of_decide_eq_false hg5
      refine wp_region_lit ?_
      refine st_mv (.int .i64 (i : Int)) ?_
      simp only [nf0, nf1, nf2, nf3, nf4]
      refine st_mv (.string (str l)) ?_
      simp only [nf0, nf1, nf2, nf3, nf4]
      refine st_value (v := (.int .i64 (l.length : Int))) (by rfl) (run_len_text (.tmp 15) rfl Tryd.underlying9 (l := l) rfl w4) ?_
      simp only [nf0, nf1, nf2, nf3, nf4]
      refine st_value (v := (.bool false)) (by rfl) ((run_lss (.tmp 14) (.tmp 16) rfl rfl rfl w4).trans (by rw [hg5])) ?_
      simp only [nf0, nf1, nf2, nf3, nf4]
      refine st_mv (.bool false) ?_
      simp only [nf0, nf1, nf2, nf3, nf4]
      refine st_nob (j := 4) (t := 18) (c := false) rfl rfl rfl rfl rfl ?_
      simp only [nf0, nf1, nf2, nf3, nf4]
      refine st_nob (j := 4) (t := 18) (c := false) rfl rfl rfl rfl rfl ?_
      simp only [nf0, nf1, nf2, nf3, nf4]
      refine st_nob (j := 4) (t := 18) (c := false) rfl rfl rfl rfl rfl ?_
      simp only [nf0, nf1, nf2, nf3, nf4]
      refine st_nob (j := 4) (t := 18) (c := false) rfl rfl rfl rfl rfl ?_
      simp only [nf0, nf1, nf2, nf3, nf4]
      refine st_mv (.bool false) ?_
      simp only [nf0, nf1, nf2, nf3, nf4]
      refine st_mv (.bool false) ?_
      simp only [nf0, nf1, nf2, nf3, nf4]
      refine st_nob (j := 10) (t := 24) (c := false) rfl rfl rfl rfl rfl ?_
      simp only [nf0, nf1, nf2, nf3, nf4]
      refine st_nob (j := 10) (t := 24) (c := false) rfl rfl rfl rfl rfl ?_
      simp only [nf0, nf1, nf2, nf3, nf4]
      refine st_nob (j := 10) (t := 24) (c := false) rfl rfl rfl rfl rfl ?_
      simp only [nf0, nf1, nf2, nf3, nf4]
      refine st_nob (j := 10) (t := 24) (c := false) rfl rfl rfl rfl rfl ?_
      simp only [nf0, nf1, nf2, nf3, nf4]
      refine st_mv (.bool false) ?_
      simp only [nf0, nf1, nf2, nf3, nf4]
      refine wpList_nil ?_
      show Code.wp _ _ _ _ _
      refine wp_cond_false rfl ?_
      refine wp_exit ?_
      show Code.wp _ _ _ _ _
      refine wp_seq ?_
      refine wp_seq ?_
      refine wp_region_lit ?_
      refine st_mv (.string (str l)) ?_
      simp only [nf0, nf1, nf2, nf3, nf4]
      refine st_value (v := (.int .i64 (l.length : Int))) (by rfl) (run_len_text (.tmp 40) rfl Tryd.underlying9 (l := l) rfl w4) ?_
      simp only [nf0, nf1, nf2, nf3, nf4]
      refine st_value (v := (.bool false)) (by rfl) ((run_gtr (.tmp 41) (.const (.int .i64 0)) rfl rfl rfl w4).trans (by rw [hg1])) ?_
      simp only [nf0, nf1, nf2, nf3, nf4]
      refine st_mv (.bool false) ?_
      simp only [nf0, nf1, nf2, nf3, nf4]
      refine st_nob (j := 3) (t := 43) (c := false) rfl rfl rfl rfl rfl ?_
      simp only [nf0, nf1, nf2, nf3, nf4]
      refine st_nob (j := 3) (t := 43) (c := false) rfl rfl rfl rfl rfl ?_
      simp only [nf0, nf1, nf2, nf3, nf4]
      refine st_nob (j := 3) (t := 43) (c := false) rfl rfl rfl rfl rfl ?_
      simp only [nf0, nf1, nf2, nf3, nf4]
      refine st_mv (.bool false) ?_
      simp only [nf0, nf1, nf2, nf3, nf4]
      refine wpList_nil ?_
      show Code.wp _ _ _ _ _
      refine wp_cond_false rfl ?_
      refine wp_skip ?_
      show Code.wp _ _ _ _ _
      refine wp_seq ?_
      refine wp_region_lit ?_
      refine st_mv (.int .u64 z) ?_
      simp only [nf0, nf1, nf2, nf3, nf4]
      refine st_mv (.int .i64 (i : Int)) ?_
      simp only [nf0, nf1, nf2, nf3, nf4]
      refine st_mv (.int .u64 z) ?_
      simp only [nf0, nf1, nf2, nf3, nf4]
      refine st_mv (.int .i64 (i : Int)) ?_
      simp only [nf0, nf1, nf2, nf3, nf4]
      refine wpList_nil ?_
      show Code.wp _ _ _ _ _
      refine wp_ret ?_
      first | show bodyPost _ _ _ _ _ _ | (simp only [Exit.then, Exit.inBlock]; show bodyPost _ _ _ _ _ _)
      have hE := rgoU_end (l := l) (i := i) (n := z) (fun h1 h2 => by omega)
      rw [hE] at hr
      obtain ⟨h1_, h2_⟩ := hr
      simp only at h1_ h2_
      have hE2 : rnumU l = (z, i) := by unfold rnumU; rw [if_neg hm2]; exact Prod.ext h2_ (by show (rgoU (l.drop 0) 0).2 = i; omega)
      exact bodyPost_ret (results_tmp2 rfl _ _ _) rfl ⟨by rw [hE2]; rfl, bel⟩
    have hp7 := of_decide_eq_true hg5
    cases hg8 : decide (48 ≤ (chr l i))
    · have hp9 := of_decide_eq_false hg8
      refine wp_region_lit ?_
      refine st_mv (.int .i64 (i : Int)) ?_
      simp only [nf0, nf1, nf2, nf3, nf4]
      refine st_mv (.string (str l)) ?_
      simp only [nf0, nf1, nf2, nf3, nf4]
      refine st_value (v := (.int .i64 (l.length : Int))) (by rfl) (run_len_text (.tmp 15) rfl Tryd.underlying9 (l := l) rfl w4) ?_
      simp only [nf0, nf1, nf2, nf3, nf4]
      refine st_value (v := (.bool true)) (by rfl) ((run_lss (.tmp 14) (.tmp 16) rfl rfl rfl w4).trans (by rw [hg5])) ?_
      simp only [nf0, nf1, nf2, nf3, nf4]
      refine st_mv (.bool true) ?_
      simp only [nf0, nf1, nf2, nf3, nf4]
      refine st_mv (.string (str l)) ?_
      simp only [nf0, nf1, nf2, nf3, nf4]
      refine st_mv (.int .i64 (i : Int)) ?_
      simp only [nf0, nf1, nf2, nf3, nf4]
      refine st_value (v := (.int .u8 (chr l i))) (by rfl) (run_index_text (.tmp 19) (.tmp 20) rfl Tryd.underlying9 (l := l) rfl rfl i (by omega) (by omega) w4) ?_
      simp only [nf0, nf1, nf2, nf3, nf4]
      refine st_value (v := (.bool false)) (by rfl) ((run_geq (.tmp 21) (.const (.int .u8 48)) rfl rfl rfl w4).trans (by rw [hg8])) ?_
      simp only [nf0, nf1, nf2, nf3, nf4]
      refine st_mv (.bool false) ?_
      simp only [nf0, nf1, nf2, nf3, nf4]
      refine st_mv (.bool false) ?_
      simp only [nf0, nf1, nf2, nf3, nf4]
      refine st_nob (j := 10) (t := 24) (c := false) rfl rfl rfl rfl rfl ?_
      simp only [nf0, nf1, nf2, nf3, nf4]
      refine st_nob (j := 10) (t := 24) (c := false) rfl rfl rfl rfl rfl ?_
      simp only [nf0, nf1, nf2, nf3, nf4]
      refine st_nob (j := 10) (t := 24) (c := false) rfl rfl rfl rfl rfl ?_
      simp only [nf0, nf1, nf2, nf3, nf4]
      refine st_nob (j := 10) (t := 24) (c := false) rfl rfl rfl rfl rfl ?_
      simp only [nf0, nf1, nf2, nf3, nf4]
      refine st_mv (.bool false) ?_
      simp only [nf0, nf1, nf2, nf3, nf4]
      refine wpList_nil ?_
      show Code.wp _ _ _ _ _
      refine wp_cond_false rfl ?_
      refine wp_exit ?_
      show Code.wp _ _ _ _ _
      refine wp_seq ?_
      refine wp_seq ?_
      refine wp_region_lit ?_
      refine st_mv (.string (str l)) ?_
      simp only [nf0, nf1, nf2, nf3, nf4]
      refine st_value (v := (.int .i64 (l.length : Int))) (by rfl) (run_len_text (.tmp 40) rfl Tryd.underlying9 (l := l) rfl w4) ?_
      simp only [nf0, nf1, nf2, nf3, nf4]
      refine st_value (v := (.bool false)) (by rfl) ((run_gtr (.tmp 41) (.const (.int .i64 0)) rfl rfl rfl w4).trans (by rw [hg1])) ?_
      simp only [nf0, nf1, nf2, nf3, nf4]
      refine st_mv (.bool false) ?_
      simp only [nf0, nf1, nf2, nf3, nf4]
      refine st_nob (j := 3) (t := 43) (c := false) rfl rfl rfl rfl rfl ?_
      simp only [nf0, nf1, nf2, nf3, nf4]
      refine st_nob (j := 3) (t := 43) (c := false) rfl rfl rfl rfl rfl ?_
      simp only [nf0, nf1, nf2, nf3, nf4]
      refine st_nob (j := 3) (t := 43) (c := false) rfl rfl rfl rfl rfl ?_
      simp only [nf0, nf1, nf2, nf3, nf4]
      refine st_mv (.bool false) ?_
      simp only [nf0, nf1, nf2, nf3, nf4]
      refine wpList_nil ?_
      show Code.wp _ _ _ _ _
      refine wp_cond_false rfl ?_
      refine wp_skip ?_
      show Code.wp _ _ _ _ _
      refine wp_seq ?_
      refine wp_region_lit ?_
      refine st_mv (.int .u64 z) ?_
      simp only [nf0, nf1, nf2, nf3, nf4]
      refine st_mv (.int .i64 (i : Int)) ?_
      simp only [nf0, nf1, nf2, nf3, nf4]
      refine st_mv (.int .u64 z) ?_
      simp only [nf0, nf1, nf2, nf3, nf4]
      refine st_mv (.int .i64 (i : Int)) ?_
      simp only [nf0, nf1, nf2, nf3, nf4]
      refine wpList_nil ?_
      show Code.wp _ _ _ _ _
      refine wp_ret ?_
      first | show bodyPost _ _ _ _ _ _ | (simp only [Exit.then, Exit.inBlock]; show bodyPost _ _ _ _ _ _)
      have hE := rgoU_end (l := l) (i := i) (n := z) (fun h1 h2 => by omega)
      rw [hE] at hr
      obtain ⟨h1_, h2_⟩ := hr
      simp only at h1_ h2_
      have hE2 : rnumU l = (z, i) := by unfold rnumU; rw [if_neg hm2]; exact Prod.ext h2_ (by show (rgoU (l.drop 0) 0).2 = i; omega)
      exact bodyPost_ret (results_tmp2 rfl _ _ _) rfl ⟨by rw [hE2]; rfl, bel⟩
    have hp10 := of_decide_eq_true hg8
    refine wp_region_lit ?_
    refine st_mv (.int .i64 (i : Int)) ?_
    simp only [nf0, nf1, nf2, nf3, nf4]
    refine st_mv (.string (str l)) ?_
    simp only [nf0, nf1, nf2, nf3, nf4]
    refine st_value (v := (.int .i64 (l.length : Int))) (by rfl) (run_len_text (.tmp 15) rfl Tryd.underlying9 (l := l) rfl w4) ?_
    simp only [nf0, nf1, nf2, nf3, nf4]
    refine st_value (v := (.bool true)) (by rfl) ((run_lss (.tmp 14) (.tmp 16) rfl rfl rfl w4).trans (by rw [hg5])) ?_
    simp only [nf0, nf1, nf2, nf3, nf4]
    refine st_mv (.bool true) ?_
    simp only [nf0, nf1, nf2, nf3, nf4]
    refine st_mv (.string (str l)) ?_
    simp only [nf0, nf1, nf2, nf3, nf4]
    refine st_mv (.int .i64 (i : Int)) ?_
    simp only [nf0, nf1, nf2, nf3, nf4]
    refine st_value (v := (.int .u8 (chr l i))) (by rfl) (run_index_text (.tmp 19) (.tmp 20) rfl Tryd.underlying9 (l := l) rfl rfl i (by omega) (by omega) w4) ?_
    simp only [nf0, nf1, nf2, nf3, nf4]
    refine st_value (v := (.bool true)) (by rfl) ((run_geq (.tmp 21) (.const (.int .u8 48)) rfl rfl rfl w4).trans (by rw [hg8])) ?_
    simp only [nf0, nf1, nf2, nf3, nf4]
    refine st_mv (.bool true) ?_
    simp only [nf0, nf1, nf2, nf3, nf4]
    refine st_mv (.bool true) ?_
    simp only [nf0, nf1, nf2, nf3, nf4]
    refine st_mv (.string (str l)) ?_
    simp only [nf0, nf1, nf2, nf3, nf4]
    refine st_mv (.int .i64 (i : Int)) ?_
    simp only [nf0, nf1, nf2, nf3, nf4]
    refine st_value (v := (.int .u8 (chr l i))) (by rfl) (run_index_text (.tmp 25) (.tmp 26) rfl Tryd.underlying9 (l := l) rfl rfl i (by omega) (by omega) w4) ?_
    simp only [nf0, nf1, nf2, nf3, nf4]
    refine st_value (v := (.bool (decide ((chr l i) ≤ 57)))) (by rfl) (run_leq (.tmp 27) (.const (.int .u8 57)) rfl rfl rfl w4) ?_
    simp only [nf0, nf1, nf2, nf3, nf4]
    refine st_mv (.bool (decide ((chr l i) ≤ 57))) ?_
    simp only [nf0, nf1, nf2, nf3, nf4]
    refine wpList_nil ?_
    show Code.wp _ _ _ _ _
    cases hg11 : decide ((chr l i) ≤ 57)
    rotate_left
    · have hp13 := of_decide_eq_true hg11
      refine wp_cond_true rfl ?_
      refine wp_skip ?_
      show Code.wp _ _ _ _ _
      refine wp_block ?_
      refine wp_seq ?_
      refine wp_region_lit ?_
      refine st_mv (.int .u64 z) ?_
      simp only [nf0, nf1, nf2, nf3, nf4]
      refine st_value (v := (.int .u64 (IntKind.u64.wrap (z * 10)))) (by rfl) (run_mul (.tmp 30) (.const (.int .u64 10)) rfl rfl rfl w4) ?_
      simp only [nf0, nf1, nf2, nf3, nf4]
      refine st_mv (.string (str l)) ?_
      simp only [nf0, nf1, nf2, nf3, nf4]
      refine st_mv (.int .i64 (i : Int)) ?_
      simp only [nf0, nf1, nf2, nf3, nf4]
      refine st_value (v := (.int .u8 (chr l i))) (by rfl) (run_index_text (.tmp 32) (.tmp 33) rfl Tryd.underlying9 (l := l) rfl rfl i (by omega) (by omega) w4) ?_
      simp only [nf0, nf1, nf2, nf3, nf4]
      refine st_value (v := (.int .u64 (chr l i))) (by rfl) (run_conv_u8_u64 (.tmp 34) rfl Tryd.underlying5 Tryd.underlying34 (z := (chr l i)) rfl (by rw [wrap_u64z]; have h_ := chr_range l i; omega) w4) ?_
      simp only [nf0, nf1, nf2, nf3, nf4]
      refine st_value (v := (.int .u64 (IntKind.u64.wrap (IntKind.u64.wrap (z * 10) + (chr l i))))) (by rfl) (run_add (.tmp 31) (.tmp 35) rfl rfl rfl w4) ?_
      simp only [nf0, nf1, nf2, nf3, nf4]
      refine st_value (v := (.int .u64 (rstepU z (chr l i)))) (by rfl) ((run_sub (.tmp 36) (.const (.int .u64 48)) rfl rfl rfl w4).trans (by rw [show IntKind.u64.wrap (IntKind.u64.wrap (IntKind.u64.wrap (z * 10) + (chr l i)) - 48) = rstepU z (chr l i) by unfold rstepU; simp only [wrap_u64z]; omega])) ?_
      simp only [nf0, nf1, nf2, nf3, nf4]
      refine st_mv (.int .u64 (rstepU z (chr l i))) ?_
      simp only [nf0, nf1, nf2, nf3, nf4]
      refine wpList_nil ?_
      show Code.wp _ _ _ _ _
      refine wp_region_lit ?_
      refine st_mv (.int .i64 (i : Int)) ?_
      simp only [nf0, nf1, nf2, nf3, nf4]
      refine st_value (v := (.int .i64 ((i : Int) + 1))) (by rfl) (run_add_in (.tmp 38) (.const (.int .i64 1)) rfl rfl rfl (by omega) w4) ?_
      simp only [nf0, nf1, nf2, nf3, nf4]
      refine st_mv (.int .i64 ((i : Int) + 1)) ?_
      simp only [nf0, nf1, nf2, nf3, nf4]
      refine wpList_nil ?_
      show ∃ m, m < _ ∧ _
      exact ⟨_, (by omega), (i + 1), (rstepU z (chr l i)), rfl, rfl, bel, (by omega), (by unfold rstepU; rw [wrap_u64z]; omega), (by have h_ := hr; rw [rgoU_next (l := l) (i := i) (n := z) (by omega) ⟨by omega, by omega⟩] at h_; exact ⟨by have h2_ := h_.1; simp only at h2_; omega, h_.2⟩)⟩
    have hp12 := of_decide_eq_false hg11
    refine wp_cond_false rfl ?_
    refine wp_exit ?_
    show Code.wp _ _ _ _ _
    refine wp_seq ?_
    refine wp_seq ?_
    refine wp_region_lit ?_
    refine st_mv (.string (str l)) ?_
    simp only [nf0, nf1, nf2, nf3, nf4]
    refine st_value (v := (.int .i64 (l.length : Int))) (by rfl) (run_len_text (.tmp 40) rfl Tryd.underlying9 (l := l) rfl w4) ?_
    simp only [nf0, nf1, nf2, nf3, nf4]
    refine st_value (v := (.bool false)) (by rfl) ((run_gtr (.tmp 41) (.const (.int .i64 0)) rfl rfl rfl w4).trans (by rw [hg1])) ?_
    simp only [nf0, nf1, nf2, nf3, nf4]
    refine st_mv (.bool false) ?_
    simp only [nf0, nf1, nf2, nf3, nf4]
    refine st_nob (j := 3) (t := 43) (c := false) rfl rfl rfl rfl rfl ?_
    simp only [nf0, nf1, nf2, nf3, nf4]
    refine st_nob (j := 3) (t := 43) (c := false) rfl rfl rfl rfl rfl ?_
    simp only [nf0, nf1, nf2, nf3, nf4]
    refine st_nob (j := 3) (t := 43) (c := false) rfl rfl rfl rfl rfl ?_
    simp only [nf0, nf1, nf2, nf3, nf4]
    refine st_mv (.bool false) ?_
    simp only [nf0, nf1, nf2, nf3, nf4]
    refine wpList_nil ?_
    show Code.wp _ _ _ _ _
    refine wp_cond_false rfl ?_
    refine wp_skip ?_
    show Code.wp _ _ _ _ _
    refine wp_seq ?_
    refine wp_region_lit ?_
    refine st_mv (.int .u64 z) ?_
    simp only [nf0, nf1, nf2, nf3, nf4]
    refine st_mv (.int .i64 (i : Int)) ?_
    simp only [nf0, nf1, nf2, nf3, nf4]
    refine st_mv (.int .u64 z) ?_
    simp only [nf0, nf1, nf2, nf3, nf4]
    refine st_mv (.int .i64 (i : Int)) ?_
    simp only [nf0, nf1, nf2, nf3, nf4]
    refine wpList_nil ?_
    show Code.wp _ _ _ _ _
    refine wp_ret ?_
    first | show bodyPost _ _ _ _ _ _ | (simp only [Exit.then, Exit.inBlock]; show bodyPost _ _ _ _ _ _)
    have hE := rgoU_end (l := l) (i := i) (n := z) (fun h1 h2 => by omega)
    rw [hE] at hr
    obtain ⟨h1_, h2_⟩ := hr
    simp only at h1_ h2_
    have hE2 : rnumU l = (z, i) := by unfold rnumU; rw [if_neg hm2]; exact Prod.ext h2_ (by show (rgoU (l.drop 0) 0).2 = i; omega)
    exact bodyPost_ret (results_tmp2 rfl _ _ _) rfl ⟨by rw [hE2]; rfl, bel⟩
  have hp14 := of_decide_eq_true hg1
  refine wp_region_lit ?_
  refine st_mv (.string (str l)) ?_
  simp only [nf0, nf1, nf2, nf3, nf4]
  refine st_value (v := (.int .i64 (l.length : Int))) (by rfl) (run_len_text (.tmp 6) rfl Tryd.underlying9 (l := l) rfl w) ?_
  simp only [nf0, nf1, nf2, nf3, nf4]
  refine st_value (v := (.bool true)) (by rfl) ((run_gtr (.tmp 7) (.const (.int .i64 0)) rfl rfl rfl w).trans (by rw [hg1])) ?_
  simp only [nf0, nf1, nf2, nf3, nf4]
  refine st_mv (.bool true) ?_
  simp only [nf0, nf1, nf2, nf3, nf4]
  refine st_mv (.string (str l)) ?_
  simp only [nf0, nf1, nf2, nf3, nf4]
  refine st_value (v := (.int .u8 (chr l 0))) (by rfl) (run_index_text (.tmp 10) (.const (.int .i64 0)) rfl Tryd.underlying9 (l := l) rfl rfl 0 (by omega) (by omega) w) ?_
  simp only [nf0, nf1, nf2, nf3, nf4]
  refine st_value (v := (.bool (decide ((chr l 0) = 45)))) (by rfl) (run_eql_int (.tmp 11) (.const (.int .u8 45)) rfl rfl rfl w) ?_
  simp only [nf0, nf1, nf2, nf3, nf4]
  refine st_mv (.bool (decide ((chr l 0) = 45))) ?_
  simp only [nf0, nf1, nf2, nf3, nf4]
  refine wpList_nil ?_
  show Code.wp _ _ _ _ _
  cases hg15 : decide ((chr l 0) = 45)
  · have hp16 := of_decide_eq_false hg15
    refine wp_cond_false rfl ?_
    refine wp_skip ?_
    show Code.wp _ _ _ _ _
    refine wp_seq ?_
    refine wp_region_lit ?_
    refine st_mv (.int .u64 0) ?_
    simp only [nf0, nf1, nf2, nf3, nf4]
    refine wpList_nil ?_
    show Code.wp _ _ _ _ _
    refine wp_seq ?_
    refine wp_block ?_
    have hm2 : ¬ l.head? = some 45 := by rw [head45]; rintro ⟨h1, h2⟩; first | contradiction | omega
    refine wp_loop_left (fun n_ a_ wr_ => (fun J17 => ∃ (i : Nat) (z : Int), n_ = l.length - i ∧ a_ = ⟨#[.string (str l), J17 1, .int .u64 0, .int .i64 0, .int .i64 (i : Int), .int .u64 z, J17 6, J17 7, J17 8, J17 9, J17 10, J17 11, J17 12, J17 13, J17 14, J17 15, J17 16, J17 17, J17 18, J17 19, J17 20, J17 21, J17 22, J17 23, J17 24, J17 25, J17 26, J17 27, J17 28, J17 29, J17 30, J17 31, J17 32, J17 33, J17 34, J17 35, J17 36, J17 37, J17 38, J17 39, J17 40, J17 41, J17 42, J17 43, J17 44, J17 45, J17 46, J17 47, J17 48, J17 49, J17 50, J17 51], []⟩ ∧ Below w.heap.size w wr_ ∧ (i ≤ l.length) ∧ (0 ≤ z ∧ z < 18446744073709551616) ∧ (0 + (rgoU (l.drop 0) 0).2 = i + (rgoU (l.drop i) z).2 ∧ (rgoU (l.drop 0) 0).1 = (rgoU (l.drop i) z).1)) (jk a_)) (l.length - 0) ⟨0, 0, rfl, rfl, bel, (by omega), (by omega), ⟨rfl, rfl⟩⟩ ?_
    clear bel
    intro n_ a_ w18 h_
    revert h_
    generalize jk a_ = J17
    rintro ⟨i, z, hms, rfl, bel, hi, hz, hr⟩
    refine wp_seq ?_
    refine wp_seq ?_
    cases hg19 : decide ((i : Int) < (l.length : Int))
    · have hp20 := of_decide_eq_false hg19
      refine wp_region_lit ?_
      refine st_mv (.int .i64 (i : Int)) ?_
      simp only [nf0, nf1, nf2, nf3, nf4]
      refine st_mv (.string (str l)) ?_
      simp only [nf0, nf1, nf2, nf3, nf4]
      refine st_value (v := (.int .i64 (l.length : Int))) (by rfl) (run_len_text (.tmp 15) rfl Tryd.underlying9 (l := l) rfl w18) ?_
      simp only [nf0, nf1, nf2, nf3, nf4]
      refine st_value (v := (.bool false)) (by rfl) ((run_lss (.tmp 14) (.tmp 16) rfl rfl rfl w18).trans (by rw [hg19])) ?_
      simp only [nf0, nf1, nf2, nf3, nf4]
      refine st_mv (.bool false) ?_
      simp only [nf0, nf1, nf2, nf3, nf4]
      refine st_nob (j := 4) (t := 18) (c := false) rfl rfl rfl rfl rfl ?_
      simp only [nf0, nf1, nf2, nf3, nf4]
      refine st_nob (j := 4) (t := 18) (c := false) rfl rfl rfl rfl rfl ?_
      simp only [nf0, nf1, nf2, nf3, nf4]
      refine st_nob (j := 4) (t := 18) (c := false) rfl rfl rfl rfl rfl ?_
      simp only [nf0, nf1, nf2, nf3, nf4]
      refine st_nob (j := 4) (t := 18) (c := false) rfl rfl rfl rfl rfl ?_
      simp only [nf0, nf1, nf2, nf3, nf4]
      refine st_mv (.bool false) ?_
      simp only [nf0, nf1, nf2, nf3, nf4]
      refine st_mv (.bool false) ?_
      simp only [nf0, nf1, nf2, nf3, nf4]
      refine st_nob (j := 10) (t := 24) (c := false) rfl rfl rfl rfl rfl ?_
      simp only [nf0, nf1, nf2, nf3, nf4]
      refine st_nob (j := 10) (t := 24) (c := false) rfl rfl rfl rfl rfl ?_
      simp only [nf0, nf1, nf2, nf3, nf4]
      refine st_nob (j := 10) (t := 24) (c := false) rfl rfl rfl rfl rfl ?_
      simp only [nf0, nf1, nf2, nf3, nf4]
      refine st_nob (j := 10) (t := 24) (c := false) rfl rfl rfl rfl rfl ?_
      simp only [nf0, nf1, nf2, nf3, nf4]
      refine st_mv (.bool false) ?_
      simp only [nf0, nf1, nf2, nf3, nf4]
      refine wpList_nil ?_
      show Code.wp _ _ _ _ _
      refine wp_cond_false rfl ?_
      refine wp_exit ?_
      show Code.wp _ _ _ _ _
      refine wp_seq ?_
      refine wp_seq ?_
      refine wp_region_lit ?_
      refine st_mv (.string (str l)) ?_
      simp only [nf0, nf1, nf2, nf3, nf4]
      refine st_value (v := (.int .i64 (l.length : Int))) (by rfl) (run_len_text (.tmp 40) rfl Tryd.underlying9 (l := l) rfl w18) ?_
      simp only [nf0, nf1, nf2, nf3, nf4]
      refine st_value (v := (.bool true)) (by rfl) ((run_gtr (.tmp 41) (.const (.int .i64 0)) rfl rfl rfl w18).trans (by rw [hg1])) ?_
      simp only [nf0, nf1, nf2, nf3, nf4]
      refine st_mv (.bool true) ?_
      simp only [nf0, nf1, nf2, nf3, nf4]
      refine st_mv (.string (str l)) ?_
      simp only [nf0, nf1, nf2, nf3, nf4]
      refine st_value (v := (.int .u8 (chr l 0))) (by rfl) (run_index_text (.tmp 44) (.const (.int .i64 0)) rfl Tryd.underlying9 (l := l) rfl rfl 0 (by omega) (by omega) w18) ?_
      simp only [nf0, nf1, nf2, nf3, nf4]
      refine st_value (v := (.bool false)) (by rfl) ((run_eql_int (.tmp 45) (.const (.int .u8 45)) rfl rfl rfl w18).trans (by rw [hg15])) ?_
      simp only [nf0, nf1, nf2, nf3, nf4]
      refine st_mv (.bool false) ?_
      simp only [nf0, nf1, nf2, nf3, nf4]
      refine wpList_nil ?_
      show Code.wp _ _ _ _ _
      refine wp_cond_false rfl ?_
      refine wp_skip ?_
      show Code.wp _ _ _ _ _
      refine wp_seq ?_
      refine wp_region_lit ?_
      refine st_mv (.int .u64 z) ?_
      simp only [nf0, nf1, nf2, nf3, nf4]
      refine st_mv (.int .i64 (i : Int)) ?_
      simp only [nf0, nf1, nf2, nf3, nf4]
      refine st_mv (.int .u64 z) ?_
      simp only [nf0, nf1, nf2, nf3, nf4]
      refine st_mv (.int .i64 (i : Int)) ?_
      simp only [nf0, nf1, nf2, nf3, nf4]
      refine wpList_nil ?_
      show Code.wp _ _ _ _ _
      refine wp_ret ?_
      first | show bodyPost _ _ _ _ _ _ | (simp only [Exit.then, Exit.inBlock]; show bodyPost _ _ _ _ _ _)
      have hE := rgoU_end (l := l) (i := i) (n := z) (fun h1 h2 => by omega)
      rw [hE] at hr
      obtain ⟨h1_, h2_⟩ := hr
      simp only at h1_ h2_
      have hE2 : rnumU l = (z, i) := by unfold rnumU; rw [if_neg hm2]; exact Prod.ext h2_ (by show (rgoU (l.drop 0) 0).2 = i; omega)
      exact bodyPost_ret (results_tmp2 rfl _ _ _) rfl ⟨by rw [hE2]; rfl, bel⟩
    have hp21 := of_decide_eq_true hg19
    cases hg22 : decide (48 ≤ (chr l i))
    · have hp23 := of_decide_eq_false hg22
      refine wp_region_lit ?_
      refine st_mv (.int .i64 (i : Int)) ?_
      simp only [nf0, nf1, nf2, nf3, nf4]
      refine st_mv (.string (str l)) ?_
      simp only [nf0, nf1, nf2, nf3, nf4]
      refine st_value (v := (.int .i64 (l.length : Int))) (by rfl) (run_len_text (.tmp 15) rfl Tryd.underlying9 (l := l) rfl w18) ?_
      simp only [nf0, nf1, nf2, nf3, nf4]
      refine st_value (v := (.bool true)) (by rfl) ((run_lss (.tmp 14) (.tmp 16) rfl rfl rfl w18).trans (by rw [hg19])) ?_
      simp only [nf0, nf1, nf2, nf3, nf4]
      refine st_mv (.bool true) ?_
      simp only [nf0, nf1, nf2, nf3, nf4]
      refine st_mv (.string (str l)) ?_
      simp only [nf0, nf1, nf2, nf3, nf4]
      refine st_mv (.int .i64 (i : Int)) ?_
      simp only [nf0, nf1, nf2, nf3, nf4]
      refine st_value (v := (.int .u8 (chr l i))) (by rfl) (run_index_text (.tmp 19) (.tmp 20) rfl Tryd.underlying9 (l := l) rfl rfl i (by omega) (by omega) w18) ?_
      simp only [nf0, nf1, nf2, nf3, nf4]
      refine st_value (v := (.bool false)) (by rfl) ((run_geq (.tmp 21) (.const (.int .u8 48)) rfl rfl rfl w18).trans (by rw [hg22])) ?_
      simp only [nf0, nf1, nf2, nf3, nf4]
      refine st_mv (.bool false) ?_
      simp only [nf0, nf1, nf2, nf3, nf4]
      refine st_mv (.bool false) ?_
      simp only [nf0, nf1, nf2, nf3, nf4]
      refine st_nob (j := 10) (t := 24) (c := false) rfl rfl rfl rfl rfl ?_
      simp only [nf0, nf1, nf2, nf3, nf4]
      refine st_nob (j := 10) (t := 24) (c := false) rfl rfl rfl rfl rfl ?_
      simp only [nf0, nf1, nf2, nf3, nf4]
      refine st_nob (j := 10) (t := 24) (c := false) rfl rfl rfl rfl rfl ?_
      simp only [nf0, nf1, nf2, nf3, nf4]
      refine st_nob (j := 10) (t := 24) (c := false) rfl rfl rfl rfl rfl ?_
      simp only [nf0, nf1, nf2, nf3, nf4]
      refine st_mv (.bool false) ?_
      simp only [nf0, nf1, nf2, nf3, nf4]
      refine wpList_nil ?_
      show Code.wp _ _ _ _ _
      refine wp_cond_false rfl ?_
      refine wp_exit ?_
      show Code.wp _ _ _ _ _
      refine wp_seq ?_
      refine wp_seq ?_
      refine wp_region_lit ?_
      refine st_mv (.string (str l)) ?_
      simp only [nf0, nf1, nf2, nf3, nf4]
      refine st_value (v := (.int .i64 (l.length : Int))) (by rfl) (run_len_text (.tmp 40) rfl Tryd.underlying9 (l := l) rfl w18) ?_
      simp only [nf0, nf1, nf2, nf3, nf4]
      refine st_value (v := (.bool true)) (by rfl) ((run_gtr (.tmp 41) (.const (.int .i64 0)) rfl rfl rfl w18).trans (by rw [hg1])) ?_
      simp only [nf0, nf1, nf2, nf3, nf4]
      refine st_mv (.bool true) ?_
      simp only [nf0, nf1, nf2, nf3, nf4]
      refine st_mv (.string (str l)) ?_
      simp only [nf0, nf1, nf2, nf3, nf4]
      refine st_value (v := (.int .u8 (chr l 0))) (by rfl) (run_index_text (.tmp 44) (.const (.int .i64 0)) rfl Tryd.underlying9 (l := l) rfl rfl 0 (by omega) (by omega) w18) ?_
      simp only [nf0, nf1, nf2, nf3, nf4]
      refine st_value (v := (.bool false)) (by rfl) ((run_eql_int (.tmp 45) (.const (.int .u8 45)) rfl rfl rfl w18).trans (by rw [hg15])) ?_
      simp only [nf0, nf1, nf2, nf3, nf4]
      refine st_mv (.bool false) ?_
      simp only [nf0, nf1, nf2, nf3, nf4]
      refine wpList_nil ?_
      show Code.wp _ _ _ _ _
      refine wp_cond_false rfl ?_
      refine wp_skip ?_
      show Code.wp _ _ _ _ _
      refine wp_seq ?_
      refine wp_region_lit ?_
      refine st_mv (.int .u64 z) ?_
      simp only [nf0, nf1, nf2, nf3, nf4]
      refine st_mv (.int .i64 (i : Int)) ?_
      simp only [nf0, nf1, nf2, nf3, nf4]
      refine st_mv (.int .u64 z) ?_
      simp only [nf0, nf1, nf2, nf3, nf4]
      refine st_mv (.int .i64 (i : Int)) ?_
      simp only [nf0, nf1, nf2, nf3, nf4]
      refine wpList_nil ?_
      show Code.wp _ _ _ _ _
      refine wp_ret ?_
      first | show bodyPost _ _ _ _ _ _ | (simp only [Exit.then, Exit.inBlock]; show bodyPost _ _ _ _ _ _)
      have hE := rgoU_end (l := l) (i := i) (n := z) (fun h1 h2 => by omega)
      rw [hE] at hr
      obtain ⟨h1_, h2_⟩ := hr
      simp only at h1_ h2_
      have hE2 : rnumU l = (z, i) := by unfold rnumU; rw [if_neg hm2]; exact Prod.ext h2_ (by show (rgoU (l.drop 0) 0).2 = i; omega)
      exact bodyPost_ret (results_tmp2 rfl _ _ _) rfl ⟨by rw [hE2]; rfl, bel⟩
    have hp24 := of_decide_eq_true hg22
    refine wp_region_lit ?_
    refine st_mv (.int .i64 (i : Int)) ?_
    simp only [nf0, nf1, nf2, nf3, nf4]
    refine st_mv (.string (str l)) ?_
    simp only [nf0, nf1, nf2, nf3, nf4]
    refine st_value (v := (.int .i64 (l.length : Int))) (by rfl) (run_len_text (.tmp 15) rfl Tryd.underlying9 (l := l) rfl w18) ?_
    simp only [nf0, nf1, nf2, nf3, nf4]
    refine st_value (v := (.bool true)) (by rfl) ((run_lss (.tmp 14) (.tmp 16) rfl rfl rfl w18).trans (by rw [hg19])) ?_
    simp only [nf0, nf1, nf2, nf3, nf4]
    refine st_mv (.bool true) ?_
    simp only [nf0, nf1, nf2, nf3, nf4]
    refine st_mv (.string (str l)) ?_
    simp only [nf0, nf1, nf2, nf3, nf4]
    refine st_mv (.int .i64 (i : Int)) ?_
    simp only [nf0, nf1, nf2, nf3, nf4]
    refine st_value (v := (.int .u8 (chr l i))) (by rfl) (run_index_text (.tmp 19) (.tmp 20) rfl Tryd.underlying9 (l := l) rfl rfl i (by omega) (by omega) w18) ?_
    simp only [nf0, nf1, nf2, nf3, nf4]
    refine st_value (v := (.bool true)) (by rfl) ((run_geq (.tmp 21) (.const (.int .u8 48)) rfl rfl rfl w18).trans (by rw [hg22])) ?_
    simp only [nf0, nf1, nf2, nf3, nf4]
    refine st_mv (.bool true) ?_
    simp only [nf0, nf1, nf2, nf3, nf4]
    refine st_mv (.bool true) ?_
    simp only [nf0, nf1, nf2, nf3, nf4]
    refine st_mv (.string (str l)) ?_
    simp only [nf0, nf1, nf2, nf3, nf4]
    refine st_mv (.int .i64 (i : Int)) ?_
    simp only [nf0, nf1, nf2, nf3, nf4]
    refine st_value (v := (.int .u8 (chr l i))) (by rfl) (run_index_text (.tmp 25) (.tmp 26) rfl Tryd.underlying9 (l := l) rfl rfl i (by omega) (by omega) w18) ?_
    simp only [nf0, nf1, nf2, nf3, nf4]
    refine st_value (v := (.bool (decide ((chr l i) ≤ 57)))) (by rfl) (run_leq (.tmp 27) (.const (.int .u8 57)) rfl rfl rfl w18) ?_
    simp only [nf0, nf1, nf2, nf3, nf4]
    refine st_mv (.bool (decide ((chr l i) ≤ 57))) ?_
    simp only [nf0, nf1, nf2, nf3, nf4]
    refine wpList_nil ?_
    show Code.wp _ _ _ _ _
    cases hg25 : decide ((chr l i) ≤ 57)
    rotate_left
    · have hp27 := of_decide_eq_true hg25
      refine wp_cond_true rfl ?_
      refine wp_skip ?_
      show Code.wp _ _ _ _ _
      refine wp_block ?_
      refine wp_seq ?_
      refine wp_region_lit ?_
      refine st_mv (.int .u64 z) ?_
      simp only [nf0, nf1, nf2, nf3, nf4]
      refine st_value (v := (.int .u64 (IntKind.u64.wrap (z * 10)))) (by rfl) (run_mul (.tmp 30) (.const (.int .u64 10)) rfl rfl rfl w18) ?_
      simp only [nf0, nf1, nf2, nf3, nf4]
      refine st_mv (.string (str l)) ?_
      simp only [nf0, nf1, nf2, nf3, nf4]
      refine st_mv (.int .i64 (i : Int)) ?_
      simp only [nf0, nf1, nf2, nf3, nf4]
      refine st_value (v := (.int .u8 (chr l i))) (by rfl) (run_index_text (.tmp 32) (.tmp 33) rfl Tryd.underlying9 (l := l) rfl rfl i (by omega) (by omega) w18) ?_
      simp only [nf0, nf1, nf2, nf3, nf4]
      refine st_value (v := (.int .u64 (chr l i))) (by rfl) (run_conv_u8_u64 (.tmp 34) rfl Tryd.underlying5 Tryd.underlying34 (z := (chr l i)) rfl (by rw [wrap_u64z]; have h_ := chr_range l i; omega) w18) ?_
      simp only [nf0, nf1, nf2, nf3, nf4]
      refine st_value (v := (.int .u64 (IntKind.u64.wrap (IntKind.u64.wrap (z * 10) + (chr l i))))) (by rfl) (run_add (.tmp 31) (.tmp 35) rfl rfl rfl w18) ?_
      simp only [nf0, nf1, nf2, nf3, nf4]
      refine st_value (v := (.int .u64 (rstepU z (chr l i)))) (by rfl) ((run_sub (.tmp 36) (.const (.int .u64 48)) rfl rfl rfl w18).trans (by rw [show IntKind.u64.wrap (IntKind.u64.wrap (IntKind.u64.wrap (z * 10) + (chr l i)) - 48) = rstepU z (chr l i) by unfold rstepU; simp only [wrap_u64z]; omega])) ?_
      simp only [nf0, nf1, nf2, nf3, nf4]
      refine st_mv (.int .u64 (rstepU z (chr l i))) ?_
      simp only [nf0, nf1, nf2, nf3, nf4]
      refine wpList_nil ?_
      show Code.wp _ _ _ _ _
      refine wp_region_lit ?_
      refine st_mv (.int .i64 (i : Int)) ?_
      simp only [nf0, nf1, nf2, nf3, nf4]
      refine st_value (v := (.int .i64 ((i : Int) + 1))) (by rfl) (run_add_in (.tmp 38) (.const (.int .i64 1)) rfl rfl rfl (by omega) w18) ?_
      simp only [nf0, nf1, nf2, nf3, nf4]
      refine st_mv (.int .i64 ((i : Int) + 1)) ?_
      simp only [nf0, nf1, nf2, nf3, nf4]
      refine wpList_nil ?_
      show ∃ m, m < _ ∧ _
      exact ⟨_, (by omega), (i + 1), (rstepU z (chr l i)), rfl, rfl, bel, (by omega), (by unfold rstepU; rw [wrap_u64z]; omega), (by have h_ := hr; rw [rgoU_next (l := l) (i := i) (n := z) (by omega) ⟨by omega, by omega⟩] at h_; exact ⟨by have h2_ := h_.1; simp only at h2_; omega, h_.2⟩)⟩
    have hp26 := of_decide_eq_false hg25
    refine wp_cond_false rfl ?_
    refine wp_exit ?_
    show Code.wp _ _ _ _ _
    refine wp_seq ?_
    refine wp_seq ?_
    refine wp_region_lit ?_
    refine st_mv (.string (str l)) ?_
    simp only [nf0, nf1, nf2, nf3, nf4]
    refine st_value (v := (.int .i64 (l.length : Int))) (by rfl) (run_len_text (.tmp 40) rfl Tryd.underlying9 (l := l) rfl w18) ?_
    simp only [nf0, nf1, nf2, nf3, nf4]
    refine st_value (v := (.bool true)) (by rfl) ((run_gtr (.tmp 41) (.const (.int .i64 0)) rfl rfl rfl w18).trans (by rw [hg1])) ?_
    simp only [nf0, nf1, nf2, nf3, nf4]
    refine st_mv (.bool true) ?_
    simp only [nf0, nf1, nf2, nf3, nf4]
    refine st_mv (.string (str l)) ?_
    simp only [nf0, nf1, nf2, nf3, nf4]
    refine st_value (v := (.int .u8 (chr l 0))) (by rfl) (run_index_text (.tmp 44) (.const (.int .i64 0)) rfl Tryd.underlying9 (l := l) rfl rfl 0 (by omega) (by omega) w18) ?_
    simp only [nf0, nf1, nf2, nf3, nf4]
    refine st_value (v := (.bool false)) (by rfl) ((run_eql_int (.tmp 45) (.const (.int .u8 45)) rfl rfl rfl w18).trans (by rw [hg15])) ?_
    simp only [nf0, nf1, nf2, nf3, nf4]
    refine st_mv (.bool false) ?_
    simp only [nf0, nf1, nf2, nf3, nf4]
    refine wpList_nil ?_
    show Code.wp _ _ _ _ _
    refine wp_cond_false rfl ?_
    refine wp_skip ?_
    show Code.wp _ _ _ _ _
    refine wp_seq ?_
    refine wp_region_lit ?_
    refine st_mv (.int .u64 z) ?_
    simp only [nf0, nf1, nf2, nf3, nf4]
    refine st_mv (.int .i64 (i : Int)) ?_
    simp only [nf0, nf1, nf2, nf3, nf4]
    refine st_mv (.int .u64 z) ?_
    simp only [nf0, nf1, nf2, nf3, nf4]
    refine st_mv (.int .i64 (i : Int)) ?_
    simp only [nf0, nf1, nf2, nf3, nf4]
    refine wpList_nil ?_
    show Code.wp _ _ _ _ _
    refine wp_ret ?_
    first | show bodyPost _ _ _ _ _ _ | (simp only [Exit.then, Exit.inBlock]; show bodyPost _ _ _ _ _ _)
    have hE := rgoU_end (l := l) (i := i) (n := z) (fun h1 h2 => by omega)
    rw [hE] at hr
    obtain ⟨h1_, h2_⟩ := hr
    simp only at h1_ h2_
    have hE2 : rnumU l = (z, i) := by unfold rnumU; rw [if_neg hm2]; exact Prod.ext h2_ (by show (rgoU (l.drop 0) 0).2 = i; omega)
    exact bodyPost_ret (results_tmp2 rfl _ _ _) rfl ⟨by rw [hE2]; rfl, bel⟩
  have hp28 := of_decide_eq_true hg15
  refine wp_cond_true rfl ?_
  refine wp_region_lit ?_
  refine st_mv (.int .i64 1) ?_
  simp only [nf0, nf1, nf2, nf3, nf4]
  refine wpList_nil ?_
  show Code.wp _ _ _ _ _
  refine wp_seq ?_
  refine wp_region_lit ?_
  refine st_mv (.int .u64 0) ?_
  simp only [nf0, nf1, nf2, nf3, nf4]
  refine wpList_nil ?_
  show Code.wp _ _ _ _ _
  refine wp_seq ?_
  refine wp_block ?_
  have hm2 : l.head? = some 45 := by rw [head45]; exact ⟨by omega, by assumption⟩
  refine wp_loop_left (fun n_ a_ wr_ => (fun J29 => ∃ (i : Nat) (z : Int), n_ = l.length - i ∧ a_ = ⟨#[.string (str l), J29 1, .int .u64 0, .int .i64 0, .int .i64 (i : Int), .int .u64 z, J29 6, J29 7, J29 8, J29 9, J29 10, J29 11, J29 12, J29 13, J29 14, J29 15, J29 16, J29 17, J29 18, J29 19, J29 20, J29 21, J29 22, J29 23, J29 24, J29 25, J29 26, J29 27, J29 28, J29 29, J29 30, J29 31, J29 32, J29 33, J29 34, J29 35, J29 36, J29 37, J29 38, J29 39, J29 40, J29 41, J29 42, J29 43, J29 44, J29 45, J29 46, J29 47, J29 48, J29 49, J29 50, J29 51], []⟩ ∧ Below w.heap.size w wr_ ∧ (i ≤ l.length) ∧ (0 ≤ z ∧ z < 18446744073709551616) ∧ (1 + (rgoU (l.drop 1) 0).2 = i + (rgoU (l.drop i) z).2 ∧ (rgoU (l.drop 1) 0).1 = (rgoU (l.drop i) z).1)) (jk a_)) (l.length - 1) ⟨1, 0, rfl, rfl, bel, (by omega), (by omega), ⟨rfl, rfl⟩⟩ ?_
  clear bel
  intro n_ a_ w30 h_
  revert h_
  generalize jk a_ = J29
  rintro ⟨i, z, hms, rfl, bel, hi, hz, hr⟩
  refine wp_seq ?_
  refine wp_seq ?_
  cases hg31 : decide ((i : Int) < (l.length : Int))
  · have hp32 := of_decide_eq_false hg31
    refine wp_region_lit ?_
    refine st_mv (.int .i64 (i : Int)) ?_
    simp only [nf0, nf1, nf2, nf3, nf4]
    refine st_mv (.string (str l)) ?_
    simp only [nf0, nf1, nf2, nf3, nf4]
    refine st_value (v := (.int .i64 (l.length : Int))) (by rfl) (run_len_text (.tmp 15) rfl Tryd.underlying9 (l := l) rfl w30) ?_
    simp only [nf0, nf1, nf2, nf3, nf4]
    refine st_value (v := (.bool false)) (by rfl) ((run_lss (.tmp 14) (.tmp 16) rfl rfl rfl w30).trans (by rw [hg31])) ?_
    simp only [nf0, nf1, nf2, nf3, nf4]
    refine st_mv (.bool false) ?_
    simp only [nf0, nf1, nf2, nf3, nf4]
    refine st_nob (j := 4) (t := 18) (c := false) rfl rfl rfl rfl rfl ?_
    simp only [nf0, nf1, nf2, nf3, nf4]
    refine st_nob (j := 4) (t := 18) (c := false) rfl rfl rfl rfl rfl ?_
    simp only [nf0, nf1, nf2, nf3, nf4]
    refine st_nob (j := 4) (t := 18) (c := false) rfl rfl rfl rfl rfl ?_
    simp only [nf0, nf1, nf2, nf3, nf4]
    refine st_nob (j := 4) (t := 18) (c := false) rfl rfl rfl rfl rfl ?_
    simp only [nf0, nf1, nf2, nf3, nf4]
    refine st_mv (.bool false) ?_
    simp only [nf0, nf1, nf2, nf3, nf4]
    refine st_mv (.bool false) ?_
    simp only [nf0, nf1, nf2, nf3, nf4]
    refine st_nob (j := 10) (t := 24) (c := false) rfl rfl rfl rfl rfl ?_
    simp only [nf0, nf1, nf2, nf3, nf4]
    refine st_nob (j := 10) (t := 24) (c := false) rfl rfl rfl rfl rfl ?_
    simp only [nf0, nf1, nf2, nf3, nf4]
    refine st_nob (j := 10) (t := 24) (c := false) rfl rfl rfl rfl rfl ?_
    simp only [nf0, nf1, nf2, nf3, nf4]
    refine st_nob (j := 10) (t := 24) (c := false) rfl rfl rfl rfl rfl ?_
    simp only [nf0, nf1, nf2, nf3, nf4]
    refine st_mv (.bool false) ?_
    simp only [nf0, nf1, nf2, nf3, nf4]
    refine wpList_nil ?_
    show Code.wp _ _ _ _ _
    refine wp_cond_false rfl ?_
    refine wp_exit ?_
    show Code.wp _ _ _ _ _
    refine wp_seq ?_
    refine wp_seq ?_
    refine wp_region_lit ?_
    refine st_mv (.string (str l)) ?_
    simp only [nf0, nf1, nf2, nf3, nf4]
    refine st_value (v := (.int .i64 (l.length : Int))) (by rfl) (run_len_text (.tmp 40) rfl Tryd.underlying9 (l := l) rfl w30) ?_
    simp only [nf0, nf1, nf2, nf3, nf4]
    refine st_value (v := (.bool true)) (by rfl) ((run_gtr (.tmp 41) (.const (.int .i64 0)) rfl rfl rfl w30).trans (by rw [hg1])) ?_
    simp only [nf0, nf1, nf2, nf3, nf4]
    refine st_mv (.bool true) ?_
    simp only [nf0, nf1, nf2, nf3, nf4]
    refine st_mv (.string (str l)) ?_
    simp only [nf0, nf1, nf2, nf3, nf4]
    refine st_value (v := (.int .u8 (chr l 0))) (by rfl) (run_index_text (.tmp 44) (.const (.int .i64 0)) rfl Tryd.underlying9 (l := l) rfl rfl 0 (by omega) (by omega) w30) ?_
    simp only [nf0, nf1, nf2, nf3, nf4]
    refine st_value (v := (.bool true)) (by rfl) ((run_eql_int (.tmp 45) (.const (.int .u8 45)) rfl rfl rfl w30).trans (by rw [hg15])) ?_
    simp only [nf0, nf1, nf2, nf3, nf4]
    refine st_mv (.bool true) ?_
    simp only [nf0, nf1, nf2, nf3, nf4]
    refine wpList_nil ?_
    show Code.wp _ _ _ _ _
    refine wp_cond_true rfl ?_
    refine wp_region_lit ?_
    refine st_mv (.int .u64 z) ?_
    simp only [nf0, nf1, nf2, nf3, nf4]
    refine st_value (v := (.int .u64 (IntKind.u64.wrap (0 - z)))) (by rfl) (run_sub (.const (.int .u64 0)) (.tmp 48) rfl rfl rfl w30) ?_
    simp only [nf0, nf1, nf2, nf3, nf4]
    refine st_mv (.int .u64 (IntKind.u64.wrap (0 - z))) ?_
    simp only [nf0, nf1, nf2, nf3, nf4]
    refine wpList_nil ?_
    show Code.wp _ _ _ _ _
    refine wp_seq ?_
    refine wp_region_lit ?_
    refine st_mv (.int .u64 (IntKind.u64.wrap (0 - z))) ?_
    simp only [nf0, nf1, nf2, nf3, nf4]
    refine st_mv (.int .i64 (i : Int)) ?_
    simp only [nf0, nf1, nf2, nf3, nf4]
    refine st_mv (.int .u64 (IntKind.u64.wrap (0 - z))) ?_
    simp only [nf0, nf1, nf2, nf3, nf4]
    refine st_mv (.int .i64 (i : Int)) ?_
    simp only [nf0, nf1, nf2, nf3, nf4]
    refine wpList_nil ?_
    show Code.wp _ _ _ _ _
    refine wp_ret ?_
    first | show bodyPost _ _ _ _ _ _ | (simp only [Exit.then, Exit.inBlock]; show bodyPost _ _ _ _ _ _)
    have hE := rgoU_end (l := l) (i := i) (n := z) (fun h1 h2 => by omega)
    rw [hE] at hr
    obtain ⟨h1_, h2_⟩ := hr
    simp only at h1_ h2_
    have hE2 : rnumU l = (IntKind.u64.wrap (0 - z), i) := by unfold rnumU; rw [if_pos hm2]; exact Prod.ext (by show IntKind.u64.wrap (0 - _) = _; rw [h2_]) (by show 1 + _ = i; omega)
    exact bodyPost_ret (results_tmp2 rfl _ _ _) rfl ⟨by rw [hE2]; rfl, bel⟩
  have hp33 := of_decide_eq_true hg31
  cases hg34 : decide (48 ≤ (chr l i))
  · have hp35 := of_decide_eq_false hg34
    refine wp_region_lit ?_
    refine st_mv (.int .i64 (i : Int)) ?_
    simp only [nf0, nf1, nf2, nf3, nf4]
    refine st_mv (.string (str l)) ?_
    simp only [nf0, nf1, nf2, nf3, nf4]
    refine st_value (v := (.int .i64 (l.length : Int))) (by rfl) (run_len_text (.tmp 15) rfl Tryd.underlying9 (l := l) rfl w30) ?_
    simp only [nf0, nf1, nf2, nf3, nf4]
    refine st_value (v := (.bool true)) (by rfl) ((run_lss (.tmp 14) (.tmp 16) rfl rfl rfl w30).trans (by rw [hg31])) ?_
    simp only [nf0, nf1, nf2, nf3, nf4]
    refine st_mv (.bool true) ?_
    simp only [nf0, nf1, nf2, nf3, nf4]
    refine st_mv (.string (str l)) ?_
    simp only [nf0, nf1, nf2, nf3, nf4]
    refine st_mv (.int .i64 (i : Int)) ?_
    simp only [nf0, nf1, nf2, nf3, nf4]
    refine st_value (v := (.int .u8 (chr l i))) (by rfl) (run_index_text (.tmp 19) (.tmp 20) rfl Tryd.underlying9 (l := l) rfl rfl i (by omega) (by omega) w30) ?_
    simp only [nf0, nf1, nf2, nf3, nf4]
    refine st_value (v := (.bool false)) (by rfl) ((run_geq (.tmp 21) (.const (.int .u8 48)) rfl rfl rfl w30).trans (by rw [hg34])) ?_
    simp only [nf0, nf1, nf2, nf3, nf4]
    refine st_mv (.bool false) ?_
    simp only [nf0, nf1, nf2, nf3, nf4]
    refine st_mv (.bool false) ?_
    simp only [nf0, nf1, nf2, nf3, nf4]
    refine st_nob (j := 10) (t := 24) (c := false) rfl rfl rfl rfl rfl ?_
    simp only [nf0, nf1, nf2, nf3, nf4]
    refine st_nob (j := 10) (t := 24) (c := false) rfl rfl rfl rfl rfl ?_
    simp only [nf0, nf1, nf2, nf3, nf4]
    refine st_nob (j := 10) (t := 24) (c := false) rfl rfl rfl rfl rfl ?_
    simp only [nf0, nf1, nf2, nf3, nf4]
    refine st_nob (j := 10) (t := 24) (c := false) rfl rfl rfl rfl rfl ?_
    simp only [nf0, nf1, nf2, nf3, nf4]
    refine st_mv (.bool false) ?_
    simp only [nf0, nf1, nf2, nf3, nf4]
    refine wpList_nil ?_
    show Code.wp _ _ _ _ _
    refine wp_cond_false rfl ?_
    refine wp_exit ?_
    show Code.wp _ _ _ _ _
    refine wp_seq ?_
    refine wp_seq ?_
    refine wp_region_lit ?_
    refine st_mv (.string (str l)) ?_
    simp only [nf0, nf1, nf2, nf3, nf4]
    refine st_value (v := (.int .i64 (l.length : Int))) (by rfl) (run_len_text (.tmp 40) rfl Tryd.underlying9 (l := l) rfl w30) ?_
    simp only [nf0, nf1, nf2, nf3, nf4]
    refine st_value (v := (.bool true)) (by rfl) ((run_gtr (.tmp 41) (.const (.int .i64 0)) rfl rfl rfl w30).trans (by rw [hg1])) ?_
    simp only [nf0, nf1, nf2, nf3, nf4]
    refine st_mv (.bool true) ?_
    simp only [nf0, nf1, nf2, nf3, nf4]
    refine st_mv (.string (str l)) ?_
    simp only [nf0, nf1, nf2, nf3, nf4]
    refine st_value (v := (.int .u8 (chr l 0))) (by rfl) (run_index_text (.tmp 44) (.const (.int .i64 0)) rfl Tryd.underlying9 (l := l) rfl rfl 0 (by omega) (by omega) w30) ?_
    simp only [nf0, nf1, nf2, nf3, nf4]
    refine st_value (v := (.bool true)) (by rfl) ((run_eql_int (.tmp 45) (.const (.int .u8 45)) rfl rfl rfl w30).trans (by rw [hg15])) ?_
    simp only [nf0, nf1, nf2, nf3, nf4]
    refine st_mv (.bool true) ?_
    simp only [nf0, nf1, nf2, nf3, nf4]
    refine wpList_nil ?_
    show Code.wp _ _ _ _ _
    refine wp_cond_true rfl ?_
    refine wp_region_lit ?_
    refine st_mv (.int .u64 z) ?_
    simp only [nf0, nf1, nf2, nf3, nf4]
    refine st_value (v := (.int .u64 (IntKind.u64.wrap (0 - z)))) (by rfl) (run_sub (.const (.int .u64 0)) (.tmp 48) rfl rfl rfl w30) ?_
    simp only [nf0, nf1, nf2, nf3, nf4]
    refine st_mv (.int .u64 (IntKind.u64.wrap (0 - z))) ?_
    simp only [nf0, nf1, nf2, nf3, nf4]
    refine wpList_nil ?_
    show Code.wp _ _ _ _ _
    refine wp_seq ?_
    refine wp_region_lit ?_
    refine st_mv (.int .u64 (IntKind.u64.wrap (0 - z))) ?_
    simp only [nf0, nf1, nf2, nf3, nf4]
    refine st_mv (.int .i64 (i : Int)) ?_
    simp only [nf0, nf1, nf2, nf3, nf4]
    refine st_mv (.int .u64 (IntKind.u64.wrap (0 - z))) ?_
    simp only [nf0, nf1, nf2, nf3, nf4]
    refine st_mv (.int .i64 (i : Int)) ?_
    simp only [nf0, nf1, nf2, nf3, nf4]
    refine wpList_nil ?_
    show Code.wp _ _ _ _ _
    refine wp_ret ?_
    first | show bodyPost _ _ _ _ _ _ | (simp only [Exit.then, Exit.inBlock]; show bodyPost _ _ _ _ _ _)
    have hE := rgoU_end (l := l) (i := i) (n := z) (fun h1 h2 => by omega)
    rw [hE] at hr
    obtain ⟨h1_, h2_⟩ := hr
    simp only at h1_ h2_
    have hE2 : rnumU l = (IntKind.u64.wrap (0 - z), i) := by unfold rnumU; rw [if_pos hm2]; exact Prod.ext (by show IntKind.u64.wrap (0 - _) = _; rw [h2_]) (by show 1 + _ = i; omega)
    exact bodyPost_ret (results_tmp2 rfl _ _ _) rfl ⟨by rw [hE2]; rfl, bel⟩
  have hp36 := of_decide_eq_true hg34
  refine wp_region_lit ?_
  refine st_mv (.int .i64 (i : Int)) ?_
  simp only [nf0, nf1, nf2, nf3, nf4]
  refine st_mv (.string (str l)) ?_
  simp only [nf0, nf1, nf2, nf3, nf4]
  refine st_value (v := (.int .i64 (l.length : Int))) (by rfl) (run_len_text (.tmp 15) rfl Tryd.underlying9 (l := l) rfl w30) ?_
  simp only [nf0, nf1, nf2, nf3, nf4]
  refine st_value (v := (.bool true)) (by rfl) ((run_lss (.tmp 14) (.tmp 16) rfl rfl rfl w30).trans (by rw [hg31])) ?_
  simp only [nf0, nf1, nf2, nf3, nf4]
  refine st_mv (.bool true) ?_
  simp only [nf0, nf1, nf2, nf3, nf4]
  refine st_mv (.string (str l)) ?_
  simp only [nf0, nf1, nf2, nf3, nf4]
  refine st_mv (.int .i64 (i : Int)) ?_
  simp only [nf0, nf1, nf2, nf3, nf4]
  refine st_value (v := (.int .u8 (chr l i))) (by rfl) (run_index_text (.tmp 19) (.tmp 20) rfl Tryd.underlying9 (l := l) rfl rfl i (by omega) (by omega) w30) ?_
  simp only [nf0, nf1, nf2, nf3, nf4]
  refine st_value (v := (.bool true)) (by rfl) ((run_geq (.tmp 21) (.const (.int .u8 48)) rfl rfl rfl w30).trans (by rw [hg34])) ?_
  simp only [nf0, nf1, nf2, nf3, nf4]
  refine st_mv (.bool true) ?_
  simp only [nf0, nf1, nf2, nf3, nf4]
  refine st_mv (.bool true) ?_
  simp only [nf0, nf1, nf2, nf3, nf4]
  refine st_mv (.string (str l)) ?_
  simp only [nf0, nf1, nf2, nf3, nf4]
  refine st_mv (.int .i64 (i : Int)) ?_
  simp only [nf0, nf1, nf2, nf3, nf4]
  refine st_value (v := (.int .u8 (chr l i))) (by rfl) (run_index_text (.tmp 25) (.tmp 26) rfl Tryd.underlying9 (l := l) rfl rfl i (by omega) (by omega) w30) ?_
  simp only [nf0, nf1, nf2, nf3, nf4]
  refine st_value (v := (.bool (decide ((chr l i) ≤ 57)))) (by rfl) (run_leq (.tmp 27) (.const (.int .u8 57)) rfl rfl rfl w30) ?_
  simp only [nf0, nf1, nf2, nf3, nf4]
  refine st_mv (.bool (decide ((chr l i) ≤ 57))) ?_
  simp only [nf0, nf1, nf2, nf3, nf4]
  refine wpList_nil ?_
  show Code.wp _ _ _ _ _
  cases hg37 : decide ((chr l i) ≤ 57)
  rotate_left
  · have hp39 := of_decide_eq_true hg37
    refine wp_cond_true rfl ?_
    refine wp_skip ?_
    show Code.wp _ _ _ _ _
    refine wp_block ?_
    refine wp_seq ?_
    refine wp_region_lit ?_
    refine st_mv (.int .u64 z) ?_
    simp only [nf0, nf1, nf2, nf3, nf4]
    refine st_value (v := (.int .u64 (IntKind.u64.wrap (z * 10)))) (by rfl) (run_mul (.tmp 30) (.const (.int .u64 10)) rfl rfl rfl w30) ?_
    simp only [nf0, nf1, nf2, nf3, nf4]
    refine st_mv (.string (str l)) ?_
    simp only [nf0, nf1, nf2, nf3, nf4]
    refine st_mv (.int .i64 (i : Int)) ?_
    simp only [nf0, nf1, nf2, nf3, nf4]
    refine st_value (v := (.int .u8 (chr l i))) (by rfl) (run_index_text (.tmp 32) (.tmp 33) rfl Tryd.underlying9 (l := l) rfl rfl i (by omega) (by omega) w30) ?_
    simp only [nf0, nf1, nf2, nf3, nf4]
    refine st_value (v := (.int .u64 (chr l i))) (by rfl) (run_conv_u8_u64 (.tmp 34) rfl Tryd.underlying5 Tryd.underlying34 (z := (chr l i)) rfl (by rw [wrap_u64z]; have h_ := chr_range l i; omega) w30) ?_
    simp only [nf0, nf1, nf2, nf3, nf4]
    refine st_value (v := (.int .u64 (IntKind.u64.wrap (IntKind.u64.wrap (z * 10) + (chr l i))))) (by rfl) (run_add (.tmp 31) (.tmp 35) rfl rfl rfl w30) ?_
    simp only [nf0, nf1, nf2, nf3, nf4]
    refine st_value (v := (.int .u64 (rstepU z (chr l i)))) (by rfl) ((run_sub (.tmp 36) (.const (.int .u64 48)) rfl rfl rfl w30).trans (by rw [show IntKind.u64.wrap (IntKind.u64.wrap (IntKind.u64.wrap (z * 10) + (chr l i)) - 48) = rstepU z (chr l i) by unfold rstepU; simp only [wrap_u64z]; omega])) ?_
    simp only [nf0, nf1, nf2, nf3, nf4]
    refine st_mv (.int .u64 (rstepU z (chr l i))) ?_
    simp only [nf0, nf1, nf2, nf3, nf4]
    refine wpList_nil ?_
    show Code.wp _ _ _ _ _
    refine wp_region_lit ?_
    refine st_mv (.int .i64 (i : Int)) ?_
    simp only [nf0, nf1, nf2, nf3, nf4]
    refine st_value (v := (.int .i64 ((i : Int) + 1))) (by rfl) (run_add_in (.tmp 38) (.const (.int .i64 1)) rfl rfl rfl (by omega) w30) ?_
    simp only [nf0, nf1, nf2, nf3, nf4]
    refine st_mv (.int .i64 ((i : Int) + 1)) ?_
    simp only [nf0, nf1, nf2, nf3, nf4]
    refine wpList_nil ?_
    show ∃ m, m < _ ∧ _
    exact ⟨_, (by omega), (i + 1), (rstepU z (chr l i)), rfl, rfl, bel, (by omega), (by unfold rstepU; rw [wrap_u64z]; omega), (by have h_ := hr; rw [rgoU_next (l := l) (i := i) (n := z) (by omega) ⟨by omega, by omega⟩] at h_; exact ⟨by have h2_ := h_.1; simp only at h2_; omega, h_.2⟩)⟩
  have hp38 := of_decide_eq_false hg37
  refine wp_cond_false rfl ?_
  refine wp_exit ?_
  show Code.wp _ _ _ _ _
  refine wp_seq ?_
  refine wp_seq ?_
  refine wp_region_lit ?_
  refine st_mv (.string (str l)) ?_
  simp only [nf0, nf1, nf2, nf3, nf4]
  refine st_value (v := (.int .i64 (l.length : Int))) (by rfl) (run_len_text (.tmp 40) rfl Tryd.underlying9 (l := l) rfl w30) ?_
  simp only [nf0, nf1, nf2, nf3, nf4]
  refine st_value (v := (.bool true)) (by rfl) ((run_gtr (.tmp 41) (.const (.int .i64 0)) rfl rfl rfl w30).trans (by rw [hg1])) ?_
  simp only [nf0, nf1, nf2, nf3, nf4]
  refine st_mv (.bool true) ?_
  simp only [nf0, nf1, nf2, nf3, nf4]
  refine st_mv (.string (str l)) ?_
  simp only [nf0, nf1, nf2, nf3, nf4]
  refine st_value (v := (.int .u8 (chr l 0))) (by rfl) (run_index_text (.tmp 44) (.const (.int .i64 0)) rfl Tryd.underlying9 (l := l) rfl rfl 0 (by omega) (by omega) w30) ?_
  simp only [nf0, nf1, nf2, nf3, nf4]
  refine st_value (v := (.bool true)) (by rfl) ((run_eql_int (.tmp 45) (.const (.int .u8 45)) rfl rfl rfl w30).trans (by rw [hg15])) ?_
  simp only [nf0, nf1, nf2, nf3, nf4]
  refine st_mv (.bool true) ?_
  simp only [nf0, nf1, nf2, nf3, nf4]
  refine wpList_nil ?_
  show Code.wp _ _ _ _ _
  refine wp_cond_true rfl ?_
  refine wp_region_lit ?_
  refine st_mv (.int .u64 z) ?_
  simp only [nf0, nf1, nf2, nf3, nf4]
  refine st_value (v := (.int .u64 (IntKind.u64.wrap (0 - z)))) (by rfl) (run_sub (.const (.int .u64 0)) (.tmp 48) rfl rfl rfl w30) ?_
  simp only [nf0, nf1, nf2, nf3, nf4]
  refine st_mv (.int .u64 (IntKind.u64.wrap (0 - z))) ?_
  simp only [nf0, nf1, nf2, nf3, nf4]
  refine wpList_nil ?_
  show Code.wp _ _ _ _ _
  refine wp_seq ?_
  refine wp_region_lit ?_
  refine st_mv (.int .u64 (IntKind.u64.wrap (0 - z))) ?_
  simp only [nf0, nf1, nf2, nf3, nf4]
  refine st_mv (.int .i64 (i : Int)) ?_
  simp only [nf0, nf1, nf2, nf3, nf4]
  refine st_mv (.int .u64 (IntKind.u64.wrap (0 - z))) ?_
  simp only [nf0, nf1, nf2, nf3, nf4]
  refine st_mv (.int .i64 (i : Int)) ?_
  simp only [nf0, nf1, nf2, nf3, nf4]
  refine wpList_nil ?_
  show Code.wp _ _ _ _ _
  refine wp_ret ?_
  first | show bodyPost _ _ _ _ _ _ | (simp only [Exit.then, Exit.inBlock]; show bodyPost _ _ _ _ _ _)
  have hE := rgoU_end (l := l) (i := i) (n := z) (fun h1 h2 => by omega)
  rw [hE] at hr
  obtain ⟨h1_, h2_⟩ := hr
  simp only at h1_ h2_
  have hE2 : rnumU l = (IntKind.u64.wrap (0 - z), i) := by unfold rnumU; rw [if_pos hm2]; exact Prod.ext (by show IntKind.u64.wrap (0 - _) = _; rw [h2_]) (by show 1 + _ = i; omega)
  exact bodyPost_ret (results_tmp2 rfl _ _ _) rfl ⟨by rw [hE2]; rfl, bel⟩
set_option maxRecDepth 100000 in
set_option maxHeartbeats 4000000 in
theorem drawN_calls {n : Nat} (hn : n < 2 ^ 64) (w : World) : Calls Tryd.prog 19 #[.int .u64 (n : Int)] w fun e w' => e = .returned (.string (str (tdec n))) ∧ Below w.heap.size w w' := by
  have bel : Below w.heap.size w w := Below.refl _ _
  go_enter Tryd.func19, Tryd.ntmps19
  refine wp_seq ?_
  refine wp_region_lit ?_
  refine st_mv (.string (str [])) ?_
  simp only [nf0, nf1, nf2, nf3, nf4]
  refine wpList_nil ?_
  show Code.wp _ _ _ _ _
  refine wp_seq ?_
  refine wp_region_lit ?_
  refine st_mv (.int .u64 ((n : Nat) : Int)) ?_
  simp only [nf0, nf1, nf2, nf3, nf4]
  refine st_value (v := (.int .u64 ((n % 10 : Nat) : Int))) (by rfl) (run_remU (.tmp 5) (.const (.int .u64 10)) rfl (m := n) (n := 10) rfl rfl (by omega) w) ?_
  simp only [nf0, nf1, nf2, nf3, nf4]
  refine st_value (v := (.int .u64 ((48 + n % 10 : Nat) : Int))) (by rfl) ((run_add (.const (.int .u64 48)) (.tmp 6) rfl rfl rfl w).trans (by rw [wrap_u64z, show ((48 : Int) + ((n % 10 : Nat) : Int)) % 18446744073709551616 = ((48 + n % 10 : Nat) : Int) by omega])) ?_
  simp only [nf0, nf1, nf2, nf3, nf4]
  refine st_value (v := (.int .u8 ((tdg n).toNat : Int))) (by rfl) (run_conv_u64_u8 (.tmp 7) rfl Tryd.underlying22 Tryd.underlying5 (z := ((48 + n % 10 : Nat) : Int)) (z' := ((tdg n).toNat : Int)) rfl (by rw [tdg_val, wrap_u8]; omega) w) ?_
  simp only [nf0, nf1, nf2, nf3, nf4]
  refine st_lit (by rfl) (c_run_lit_45_1 (.tmp 8) rfl rfl _) ?_
  intro g1 w2 B3 hb4 lo5
  simp only [nf0, nf1, nf2, nf3, nf4]
  replace lo5 := low_le bel lo5
  replace bel := bl_step bel hb4
  clear hb4
  refine st_value (v := (.string (str ([tdg n] : List UInt8)))) (by rfl) (run_convB (.tmp 9) rfl rfl (OwnR.built (xs := ([tdg n] : List UInt8)) B3 (by rfl) (Nat.zero_le _) (by simp) rfl)) ?_
  simp only [nf0, nf1, nf2, nf3, nf4]
  refine st_mv (.string (str ([tdg n] : List UInt8))) ?_
  simp only [nf0, nf1, nf2, nf3, nf4]
  refine wpList_nil ?_
  show Code.wp _ _ _ _ _
  refine wp_seq ?_
  refine wp_seq ?_
  refine wp_region_lit ?_
  refine st_mv (.int .i64 0) ?_
  simp only [nf0, nf1, nf2, nf3, nf4]
  refine wpList_nil ?_
  show Code.wp _ _ _ _ _
  refine wp_block ?_
  refine wp_loop_left (fun n_ a_ wr_ => (fun J6 => ∃ (i : Nat) (z : Nat) (r : List UInt8), n_ = 20 - i ∧ a_ = ⟨#[.int .u64 ((z : Nat) : Int), J6 1, .string (str []), .string (str (tdg z :: r)), .int .i64 (i : Int), J6 5, J6 6, J6 7, J6 8, J6 9, J6 10, J6 11, J6 12, J6 13, J6 14, J6 15, J6 16, J6 17, J6 18, J6 19, J6 20, J6 21, J6 22, J6 23, J6 24, J6 25, J6 26, J6 27, J6 28, J6 29], []⟩ ∧ Blk wr_ g1 #[.int .u8 ((tdg n).toNat : Int)] 5 ∧ Below w.heap.size w wr_ ∧ (i ≤ 20) ∧ (z < 10 ^ (20 - i)) ∧ (z ≤ n) ∧ (tdec n = tdec z ++ r) ∧ (r.length ≤ i)) (jk a_)) (20 - 0) ⟨0, n, [], rfl, rfl, B3, bel, (by omega), (by show n < 100000000000000000000; omega), (Nat.le_refl _), (by rw [List.append_nil]), (by simp)⟩ ?_
  clear B3
  clear bel
  intro n_ a_ w7 h_
  revert h_
  generalize jk a_ = J6
  rintro ⟨i, z, r, hms, rfl, B3, bel, hi, hz, hzn, hs, hsl⟩
  refine wp_seq ?_
  refine wp_seq ?_
  cases hg8 : decide ((i : Int) < 20)
  · have hp9 := of_decide_eq_false hg8
    refine wp_region_lit ?_
    refine st_mv (.int .i64 (i : Int)) ?_
    simp only [nf0, nf1, nf2, nf3, nf4]
    refine st_value (v := (.bool false)) (by rfl) ((run_lss (.tmp 11) (.const (.int .i64 20)) rfl rfl rfl w7).trans (by rw [hg8])) ?_
    simp only [nf0, nf1, nf2, nf3, nf4]
    refine st_mv (.bool false) ?_
    simp only [nf0, nf1, nf2, nf3, nf4]
    refine st_nob (j := 2) (t := 13) (c := false) rfl rfl rfl rfl rfl ?_
    simp only [nf0, nf1, nf2, nf3, nf4]
    refine st_nob (j := 2) (t := 13) (c := false) rfl rfl rfl rfl rfl ?_
    simp only [nf0, nf1, nf2, nf3, nf4]
    refine st_mv (.bool false) ?_
    simp only [nf0, nf1, nf2, nf3, nf4]
    refine wpList_nil ?_
    show Code.wp _ _ _ _ _
    refine wp_cond_false rfl ?_
    refine wp_exit ?_
    show Code.wp _ _ _ _ _
    refine wp_seq ?_
    refine wp_region_lit ?_
    refine st_mv (.string (str (tdg z :: r))) ?_
    simp only [nf0, nf1, nf2, nf3, nf4]
    refine st_mv (.string (str (tdg z :: r))) ?_
    simp only [nf0, nf1, nf2, nf3, nf4]
    refine wpList_nil ?_
    show Code.wp _ _ _ _ _
    refine wp_ret ?_
    first | show bodyPost _ _ _ _ _ _ | (simp only [Exit.then, Exit.inBlock]; show bodyPost _ _ _ _ _ _)
    have hz9 : z < 10 := by rcases Nat.lt_or_ge i 20 with g_ | g_; (· omega); (obtain rfl : i = 20 := by omega); have h_ : z < 1 := hz; omega
    exact bodyPost_ret (results_tmp rfl _ _ _) rfl ⟨by rw [tdec_last hs hz9]; rfl, bel⟩
  have hp10 := of_decide_eq_true hg8
  refine wp_region_lit ?_
  refine st_mv (.int .i64 (i : Int)) ?_
  simp only [nf0, nf1, nf2, nf3, nf4]
  refine st_value (v := (.bool true)) (by rfl) ((run_lss (.tmp 11) (.const (.int .i64 20)) rfl rfl rfl w7).trans (by rw [hg8])) ?_
  simp only [nf0, nf1, nf2, nf3, nf4]
  refine st_mv (.bool true) ?_
  simp only [nf0, nf1, nf2, nf3, nf4]
  refine st_mv (.int .u64 ((z : Nat) : Int)) ?_
  simp only [nf0, nf1, nf2, nf3, nf4]
  refine st_value (v := (.bool (decide (10 ≤ z)))) (by rfl) ((run_geq (.tmp 14) (.const (.int .u64 10)) rfl rfl rfl w7).trans (by rw [show decide ((10 : Int) ≤ ((z : Nat) : Int)) = decide (10 ≤ z) by rw [decide_eq_decide]; omega])) ?_
  simp only [nf0, nf1, nf2, nf3, nf4]
  refine st_mv (.bool (decide (10 ≤ z))) ?_
  simp only [nf0, nf1, nf2, nf3, nf4]
  refine wpList_nil ?_
  show Code.wp _ _ _ _ _
  cases hg11 : decide (10 ≤ z)
  · have hp12 := of_decide_eq_false hg11
    refine wp_cond_false rfl ?_
    refine wp_exit ?_
    show Code.wp _ _ _ _ _
    refine wp_seq ?_
    refine wp_region_lit ?_
    refine st_mv (.string (str (tdg z :: r))) ?_
    simp only [nf0, nf1, nf2, nf3, nf4]
    refine st_mv (.string (str (tdg z :: r))) ?_
    simp only [nf0, nf1, nf2, nf3, nf4]
    refine wpList_nil ?_
    show Code.wp _ _ _ _ _
    refine wp_ret ?_
    first | show bodyPost _ _ _ _ _ _ | (simp only [Exit.then, Exit.inBlock]; show bodyPost _ _ _ _ _ _)
    have hz9 : z < 10 := by rcases Nat.lt_or_ge i 20 with g_ | g_; (· omega); (obtain rfl : i = 20 := by omega); have h_ : z < 1 := hz; omega
    exact bodyPost_ret (results_tmp rfl _ _ _) rfl ⟨by rw [tdec_last hs hz9]; rfl, bel⟩
  have hp13 := of_decide_eq_true hg11
  refine wp_cond_true rfl ?_
  refine wp_skip ?_
  show Code.wp _ _ _ _ _
  refine wp_seq ?_
  refine wp_block ?_
  refine wp_seq ?_
  refine wp_region_lit ?_
  refine st_mv (.int .u64 ((z : Nat) : Int)) ?_
  simp only [nf0, nf1, nf2, nf3, nf4]
  refine st_value (v := (.int .u64 ((z / 10 : Nat) : Int))) (by rfl) (run_quoU (.tmp 19) (.const (.int .u64 10)) rfl (m := z) (n := 10) rfl rfl (by omega) (by omega) w7) ?_
  simp only [nf0, nf1, nf2, nf3, nf4]
  refine st_mv (.int .u64 ((z / 10 : Nat) : Int)) ?_
  simp only [nf0, nf1, nf2, nf3, nf4]
  refine wpList_nil ?_
  show Code.wp _ _ _ _ _
  refine wp_region_lit ?_
  refine st_mv (.int .u64 ((z / 10 : Nat) : Int)) ?_
  simp only [nf0, nf1, nf2, nf3, nf4]
  refine st_value (v := (.int .u64 (((z / 10) % 10 : Nat) : Int))) (by rfl) (run_remU (.tmp 21) (.const (.int .u64 10)) rfl (m := (z / 10)) (n := 10) rfl rfl (by omega) w7) ?_
  simp only [nf0, nf1, nf2, nf3, nf4]
  refine st_value (v := (.int .u64 ((48 + (z / 10) % 10 : Nat) : Int))) (by rfl) ((run_add (.const (.int .u64 48)) (.tmp 22) rfl rfl rfl w7).trans (by rw [wrap_u64z, show ((48 : Int) + (((z / 10) % 10 : Nat) : Int)) % 18446744073709551616 = ((48 + (z / 10) % 10 : Nat) : Int) by omega])) ?_
  simp only [nf0, nf1, nf2, nf3, nf4]
  refine st_value (v := (.int .u8 ((tdg (z / 10)).toNat : Int))) (by rfl) (run_conv_u64_u8 (.tmp 23) rfl Tryd.underlying22 Tryd.underlying5 (z := ((48 + (z / 10) % 10 : Nat) : Int)) (z' := ((tdg (z / 10)).toNat : Int)) rfl (by rw [tdg_val, wrap_u8]; omega) w7) ?_
  simp only [nf0, nf1, nf2, nf3, nf4]
  refine st_lit (by rfl) (c_run_lit_45_1 (.tmp 24) rfl rfl _) ?_
  intro g14 w15 B16 hb17 lo18
  simp only [nf0, nf1, nf2, nf3, nf4]
  have n19 := B3.ne lo18
  replace lo18 := low_le bel lo18
  replace B3 := B3.below hb17
  replace bel := bl_step bel hb17
  clear hb17
  refine st_value (v := (.string (str ([tdg (z / 10)] : List UInt8)))) (by rfl) (run_convB (.tmp 25) rfl rfl (OwnR.built (xs := ([tdg (z / 10)] : List UInt8)) B16 (by rfl) (Nat.zero_le _) (by simp) rfl)) ?_
  simp only [nf0, nf1, nf2, nf3, nf4]
  refine st_mv (.string (str (tdg z :: r))) ?_
  simp only [nf0, nf1, nf2, nf3, nf4]
  refine st_value (v := (.string (str (([tdg (z / 10)] : List UInt8) ++ (tdg z :: r))))) (by rfl) (run_add_text (.tmp 26) (.tmp 27) (l := ([tdg (z / 10)] : List UInt8)) (m := (tdg z :: r)) rfl rfl rfl (by (try simp only [List.length_append, List.length_cons, List.length_nil]); omega) w15) ?_
  simp only [nf0, nf1, nf2, nf3, nf4]
  refine st_mv (.string (str (([tdg (z / 10)] : List UInt8) ++ (tdg z :: r)))) ?_
  simp only [nf0, nf1, nf2, nf3, nf4]
  refine wpList_nil ?_
  show Code.wp _ _ _ _ _
  refine wp_region_lit ?_
  refine st_mv (.int .i64 (i : Int)) ?_
  simp only [nf0, nf1, nf2, nf3, nf4]
  refine st_value (v := (.int .i64 ((i : Int) + 1))) (by rfl) (run_add_in (.tmp 17) (.const (.int .i64 1)) rfl rfl rfl (by omega) w15) ?_
  simp only [nf0, nf1, nf2, nf3, nf4]
  refine st_mv (.int .i64 ((i : Int) + 1)) ?_
  simp only [nf0, nf1, nf2, nf3, nf4]
  refine wpList_nil ?_
  show ∃ m, m < _ ∧ _
  exact ⟨_, (by omega), (i + 1), (z / 10), (tdg z :: r), rfl, rfl, B3, bel, (by omega), (powD_next (by omega) hz), (by omega), (tdec_next hs (by omega)), (by simp only [List.length_cons]; omega)⟩
theorem draw_calls (d : Int) (hd : 0 ≤ d ∧ d < 18446744073709551616) (w : World) : Calls Tryd.prog 19 #[.int .u64 d] w fun e w' => e = .returned (.string (str (tdecI d))) ∧ Below w.heap.size w w' := by
  obtain ⟨n, rfl⟩ : ∃ n : Nat, d = (n : Int) := ⟨d.toNat, by omega⟩
  have h_ := drawN_calls (n := n) (by omega) w
  rw [show tdecI (n : Int) = tdec n by unfold tdecI; rw [if_neg (by omega)]; rfl]
  exact h_
end Go.Proofs.YtackcmlkicjlnaaDoor

/- An entry's line: the program's and the document's. -/
namespace Go.Proofs.YtackcmlkicjlnaaDoor
open Go.RowKit Go.WideShapes Go.ChangeShapes
set_option linter.unusedSimpArgs false
set_option linter.unusedVariables false

theorem d_fld_24_0 : FieldAt Tryd.prog 24 0 0 := fieldAt_of (s := 0) Tryd.underlying24 (by kernel_rfl)
theorem d_one_3 : One Tryd.prog 3 := one_of Tryd.underlying3 rfl (by kernel_rfl)
theorem d_fld_24_1 : FieldAt Tryd.prog 24 1 1 := fieldAt_of (s := 0) Tryd.underlying24 (by kernel_rfl)
theorem d_fld_24_2 : FieldAt Tryd.prog 24 2 2 := fieldAt_of (s := 0) Tryd.underlying24 (by kernel_rfl)
theorem d_fld_24_3 : FieldAt Tryd.prog 24 3 3 := fieldAt_of (s := 0) Tryd.underlying24 (by kernel_rfl)
theorem d_fld_24_4 : FieldAt Tryd.prog 24 4 4 := fieldAt_of (s := 0) Tryd.underlying24 (by kernel_rfl)
theorem d_one_22 : One Tryd.prog 22 := one_of Tryd.underlying22 rfl (by kernel_rfl)
theorem d_run_call_9_1 {o : Oper} {a : Act} (x0 : Operand) {ts : Array TypeId} (ho : o.op = .call { callee := .value (.func 9), args := #[x0], argTypes := ts }) {v0 : Value} (h0 : a.eval x0 = v0) (W : World) : (execOp a.eval o).run Tryd.prog W = .ok (.enter 9 #[v0]) W := by
  unfold execOp
  simp only [ho]
  subst h0
  go_simp
theorem d_run_call_15_1 {o : Oper} {a : Act} (x0 : Operand) {ts : Array TypeId} (ho : o.op = .call { callee := .value (.func 15), args := #[x0], argTypes := ts }) {v0 : Value} (h0 : a.eval x0 = v0) (W : World) : (execOp a.eval o).run Tryd.prog W = .ok (.enter 15 #[v0]) W := by
  unfold execOp
  simp only [ho]
  subst h0
  go_simp
theorem d_run_call_16_1 {o : Oper} {a : Act} (x0 : Operand) {ts : Array TypeId} (ho : o.op = .call { callee := .value (.func 16), args := #[x0], argTypes := ts }) {v0 : Value} (h0 : a.eval x0 = v0) (W : World) : (execOp a.eval o).run Tryd.prog W = .ok (.enter 16 #[v0]) W := by
  unfold execOp
  simp only [ho]
  subst h0
  go_simp
theorem d_run_call_17_1 {o : Oper} {a : Act} (x0 : Operand) {ts : Array TypeId} (ho : o.op = .call { callee := .value (.func 17), args := #[x0], argTypes := ts }) {v0 : Value} (h0 : a.eval x0 = v0) (W : World) : (execOp a.eval o).run Tryd.prog W = .ok (.enter 17 #[v0]) W := by
  unfold execOp
  simp only [ho]
  subst h0
  go_simp
theorem d_run_lit_31_2 {o : Oper} {a : Act} (x0 : Operand) (x1 : Operand) (ho : o.op = .buildSlice 31 2 #[(0, x0), (1, x1)]) {m0 : List UInt8} (h0 : a.eval x0 = (.string (str m0))) {m1 : List UInt8} (h1 : a.eval x1 = (.string (str m1))) (W : World) : (execOp a.eval o).run Tryd.prog W = .ok (.value (.slice (some ⟨W.heap.size, 0, none⟩) 2 2)) (W.alloc (.cells #[(.string (str m0)), (.string (str m1))] 9)) := by
  unfold execOp
  simp only [ho, List.map_toArray, List.map_cons, List.map_nil, h0, h1]
  go_simp
theorem d_run_lit_31_3 {o : Oper} {a : Act} (x0 : Operand) (x1 : Operand) (x2 : Operand) (ho : o.op = .buildSlice 31 3 #[(0, x0), (1, x1), (2, x2)]) {m0 : List UInt8} (h0 : a.eval x0 = (.string (str m0))) {m1 : List UInt8} (h1 : a.eval x1 = (.string (str m1))) {m2 : List UInt8} (h2 : a.eval x2 = (.string (str m2))) (W : World) : (execOp a.eval o).run Tryd.prog W = .ok (.value (.slice (some ⟨W.heap.size, 0, none⟩) 3 3)) (W.alloc (.cells #[(.string (str m0)), (.string (str m1)), (.string (str m2))] 9)) := by
  unfold execOp
  simp only [ho, List.map_toArray, List.map_cons, List.map_nil, h0, h1, h2]
  go_simp
theorem d_run_lit_31_4 {o : Oper} {a : Act} (x0 : Operand) (x1 : Operand) (x2 : Operand) (x3 : Operand) (ho : o.op = .buildSlice 31 4 #[(0, x0), (1, x1), (2, x2), (3, x3)]) {m0 : List UInt8} (h0 : a.eval x0 = (.string (str m0))) {m1 : List UInt8} (h1 : a.eval x1 = (.string (str m1))) {m2 : List UInt8} (h2 : a.eval x2 = (.string (str m2))) {m3 : List UInt8} (h3 : a.eval x3 = (.string (str m3))) (W : World) : (execOp a.eval o).run Tryd.prog W = .ok (.value (.slice (some ⟨W.heap.size, 0, none⟩) 4 4)) (W.alloc (.cells #[(.string (str m0)), (.string (str m1)), (.string (str m2)), (.string (str m3))] 9)) := by
  unfold execOp
  simp only [ho, List.map_toArray, List.map_cons, List.map_nil, h0, h1, h2, h3]
  go_simp
theorem d_run_call_10_1 {o : Oper} {a : Act} (x0 : Operand) {ts : Array TypeId} (ho : o.op = .call { callee := .value (.func 10), args := #[x0], argTypes := ts }) {v0 : Value} (h0 : a.eval x0 = v0) (W : World) : (execOp a.eval o).run Tryd.prog W = .ok (.enter 10 #[v0]) W := by
  unfold execOp
  simp only [ho]
  subst h0
  go_simp
theorem d_run_call_13_1 {o : Oper} {a : Act} (x0 : Operand) {ts : Array TypeId} (ho : o.op = .call { callee := .value (.func 13), args := #[x0], argTypes := ts }) {v0 : Value} (h0 : a.eval x0 = v0) (W : World) : (execOp a.eval o).run Tryd.prog W = .ok (.enter 13 #[v0]) W := by
  unfold execOp
  simp only [ho]
  subst h0
  go_simp
theorem d_run_call_18_1 {o : Oper} {a : Act} (x0 : Operand) {ts : Array TypeId} (ho : o.op = .call { callee := .value (.func 18), args := #[x0], argTypes := ts }) {v0 : Value} (h0 : a.eval x0 = v0) (W : World) : (execOp a.eval o).run Tryd.prog W = .ok (.enter 18 #[v0]) W := by
  unfold execOp
  simp only [ho]
  subst h0
  go_simp
theorem d_run_call_19_1 {o : Oper} {a : Act} (x0 : Operand) {ts : Array TypeId} (ho : o.op = .call { callee := .value (.func 19), args := #[x0], argTypes := ts }) {v0 : Value} (h0 : a.eval x0 = v0) (W : World) : (execOp a.eval o).run Tryd.prog W = .ok (.enter 19 #[v0]) W := by
  unfold execOp
  simp only [ho]
  subst h0
  go_simp
theorem joinTail_tails : ∀ ns : List Int, Lib.joinTail [32] (ns.map tdecI) = tails ns
  | [] => rfl
  | n :: ns => by
    have ih := joinTail_tails ns
    unfold Lib.joinTail at ih ⊢
    rw [tails, List.map_cons, List.map_cons, List.flatten_cons, ih]
    rfl
theorem prS_join {e : TEnt} {cs : List UInt8} (h : shS e.1 = cs) : Lib.join (nmS e.1 :: (cs.map (fld e)).map tdecI) [32] = prS e := by
  subst h
  rw [Lib.join_cons, joinTail_tails]
  rfl

attribute [local irreducible] Go.wpList Go.Code.wp
theorem digitsI_calls (d : Int) (hd : 0 ≤ d ∧ d < 18446744073709551616) (w : World) : Calls Tryd.prog 17 #[.int .u64 d] w fun e w' => e = .returned (.string (str (tdecI d))) ∧ Below w.heap.size w w' := by
  obtain ⟨n, rfl⟩ : ∃ n : Nat, d = (n : Int) := ⟨d.toNat, by omega⟩
  have h_ := digits_calls (n := n) (by omega) w
  rw [show tdecI (n : Int) = tdec n by unfold tdecI; rw [if_neg (by omega)]; rfl]
  exact h_
theorem pg_run_join {o : Oper} {a : Act} (x0 x1 : Operand) {ts : Array TypeId} (ho : o.op = .call { callee := .value (.func 22), args := #[x0, x1], argTypes := ts }) {v0 : Value} (h0 : a.eval x0 = v0) {v1 : Value} (h1 : a.eval x1 = v1) (W : World) : (execOp a.eval o).run Tryd.prog W = .ok (.enter 22 #[v0, v1]) W := by
  unfold execOp
  simp only [ho]
  subst h0 h1
  go_simp
set_option maxRecDepth 100000 in
theorem line_calls {w : World} {base : Nat} {v : Value} {xs : List (List UInt8)} (h : OwnR w base 9 eTx v xs) (h1 : xs.length ≤ 140737488355328) (h2 : (Lib.join xs [32]).length ≤ 140737488355328) :
    Calls Tryd.prog 15 #[v] w fun e w' => e = .returned (.string (str (Lib.join xs [32]))) ∧ Below w.heap.size w w' := by
  go_enter Tryd.func15, Tryd.ntmps15
  refine wp_seq ?_
  refine wp_region_lit ?_
  refine st_mv (.string ⟨#[]⟩) ?_
  simp only [nf0, nf1, nf2, nf3, nf4]
  refine wpList_nil ?_
  show Code.wp _ _ _ _ _
  refine wp_seq ?_
  refine wp_region_lit ?_
  refine st_mv v ?_
  simp only [nf0, nf1, nf2, nf3, nf4]
  refine st_call1 (v := .string (str (Lib.join xs [32]))) (by rfl) (pg_run_join (.tmp 3) (.const (.string ⟨#[32]⟩)) rfl rfl rfl _) (joins_calls [32] h h1 h2) ?_
  intro w2 hb
  simp only [nf0, nf1, nf2, nf3, nf4]
  refine st_mv (.string (str (Lib.join xs [32]))) ?_
  simp only [nf0, nf1, nf2, nf3, nf4]
  refine wpList_nil ?_
  show Code.wp _ _ _ _ _
  refine wp_ret ?_
  first | show bodyPost _ _ _ _ _ _ | (simp only [Exit.then, Exit.inBlock]; show bodyPost _ _ _ _ _ _)
  exact bodyPost_ret (results_tmp rfl _ _ _) rfl ⟨rfl, hb⟩
set_option maxRecDepth 100000 in
set_option maxHeartbeats 4000000 in
theorem sprint_calls (p : TEnt) (hp : okEnt p) (w : World) : Calls Tryd.prog 7 #[.agg (eEnt.enc p).toArray] w fun e w' => e = .returned (.string (str (prS p))) ∧ Below w.heap.size w w' := by
  have bel : Below w.heap.size w w := Below.refl _ _
  go_enter Tryd.func7, Tryd.ntmps7
  refine wp_seq ?_
  refine wp_region_lit ?_
  refine st_new (cs := #[.int .i64 p.1, .int .i64 p.2.1, .int .i64 p.2.2.1, .int .i64 p.2.2.2.1, .int .u64 p.2.2.2.2]) (t := 24) (by rfl) (run_boxV (.tmp 0) rfl (v := (.agg #[.int .i64 p.1, .int .i64 p.2.1, .int .i64 p.2.2.1, .int .i64 p.2.2.2.1, .int .u64 p.2.2.2.2])) rfl rfl _) ?_
  intro g1 w2 B3 hb4 lo5
  simp only [nf0, nf1, nf2, nf3, nf4]
  replace lo5 := low_le bel lo5
  replace bel := bl_step bel hb4
  clear hb4
  refine st_mv (.string (str [])) ?_
  simp only [nf0, nf1, nf2, nf3, nf4]
  refine wpList_nil ?_
  show Code.wp _ _ _ _ _
  refine wp_seq ?_
  refine wp_region_lit ?_
  refine st_value (v := (.pointer (some ⟨g1, 0, none⟩))) (by rfl) (run_fieldA (.tmp 1) rfl d_fld_24_0 rfl rfl w2) ?_
  simp only [nf0, nf1, nf2, nf3, nf4]
  refine st_value (v := (.int .i64 p.1)) (by rfl) (run_loadB (.tmp 4) rfl d_one_3 rfl B3 rfl) ?_
  simp only [nf0, nf1, nf2, nf3, nf4]
  refine st_call1 (v := (.string (str (nmS p.1)))) (by rfl) (d_run_call_9_1 (.tmp 5) rfl rfl _) (sname_calls p.1 w2) ?_
  intro w6 hb7
  simp only [nf0, nf1, nf2, nf3, nf4]
  replace B3 := B3.below hb7
  replace bel := bl_step bel hb7
  clear hb7
  refine st_mv (.string (str (nmS p.1))) ?_
  simp only [nf0, nf1, nf2, nf3, nf4]
  refine wpList_nil ?_
  show Code.wp _ _ _ _ _
  refine wp_seq ?_
  refine wp_seq ?_
  refine wp_region_lit ?_
  refine st_value (v := (.pointer (some ⟨g1, 0, none⟩))) (by rfl) (run_fieldA (.tmp 1) rfl d_fld_24_0 rfl rfl w6) ?_
  simp only [nf0, nf1, nf2, nf3, nf4]
  refine st_value (v := (.int .i64 p.1)) (by rfl) (run_loadB (.tmp 7) rfl d_one_3 rfl B3 rfl) ?_
  simp only [nf0, nf1, nf2, nf3, nf4]
  refine wpList_nil ?_
  show Code.wp _ _ _ _ _
  refine wp_block ?_
  refine wp_seq ?_
  refine wp_region_lit ?_
  refine st_value (v := (.bool (decide (p.1 = 1)))) (by rfl) (run_eql_int (.tmp 8) (.const (.int .i64 1)) rfl rfl rfl w6) ?_
  simp only [nf0, nf1, nf2, nf3, nf4]
  refine st_mv (.bool (decide (p.1 = 1))) ?_
  simp only [nf0, nf1, nf2, nf3, nf4]
  refine wpList_nil ?_
  show Code.wp _ _ _ _ _
  cases hg8 : decide (p.1 = 1)
  rotate_left
  · have hp55 := of_decide_eq_true hg8
    refine wp_cond_true rfl ?_
    refine wp_seq ?_
    refine wp_region_facts2_lit (C := Abv w6) 10 [.val (.string (str (nmS p.1))), .val (.pointer (some ⟨g1, 1, none⟩)), .val (.int .i64 p.2.1), .val (.string (str (tdecI p.2.1))), .val (.pointer (some ⟨g1, 4, none⟩)), .val (.int .u64 p.2.2.2.2), .val (.string (str (tdecI p.2.2.2.2))), .ex (fun v_ z_ => OwnR z_ w6.heap.size 9 eTx v_ ([(nmS p.1), (tdecI p.2.1), (tdecI p.2.2.2.2)] : List (List UInt8))) (fun v_ z_ y_ hG h => h.same hG), .val (.string (str (prS p))), .val (.string (str (prS p)))] w6.heap.size (by kernel_rfl) (by simp) (by kernel_rfl) (by kernel_rfl) (fun _ h => h.size) (Abv.start _) ?_
    simp only [List.take_succ_cons, List.take_zero, List.drop_succ_cons, List.drop_zero]
    refine fst2_val (fun W hC hh => ok2_value (v := (.string (str (nmS p.1)))) (by rfl) (by rfl) rfl hC (G0.refl _)) ?_
    simp only [nf0, nf1, nf2, nf3, nf4]
    refine fst2_val (fun W hC hh => ok2_value (v := (.pointer (some ⟨g1, 1, none⟩))) (by rfl) (run_fieldA (.tmp 1) rfl d_fld_24_1 rfl rfl W) rfl hC (G0.refl _)) ?_
    simp only [nf0, nf1, nf2, nf3, nf4]
    refine fst2_val (fun W hC hh => ok2_value (v := (.int .i64 p.2.1)) (by rfl) (run_loadB (.tmp 12) rfl d_one_3 rfl (B3.below hC) rfl) rfl hC (G0.refl _)) ?_
    simp only [nf0, nf1, nf2, nf3, nf4]
    refine fst2_val (fun W hC hh => ok2_call (by rfl) (d_run_call_16_1 (.tmp 13) rfl rfl W) ((dec_calls (n := p.2.1) hp.2.1 W).mono fun e W' ⟨h1, h2⟩ => ⟨h1, hC.step h2, h2⟩)) ?_
    simp only [nf0, nf1, nf2, nf3, nf4]
    refine fst2_val (fun W hC hh => ok2_value (v := (.pointer (some ⟨g1, 4, none⟩))) (by rfl) (run_fieldA (.tmp 1) rfl d_fld_24_4 rfl rfl W) rfl hC (G0.refl _)) ?_
    simp only [nf0, nf1, nf2, nf3, nf4]
    refine fst2_val (fun W hC hh => ok2_value (v := (.int .u64 p.2.2.2.2)) (by rfl) (run_loadB (.tmp 15) rfl d_one_22 rfl (B3.below hC) rfl) rfl hC (G0.refl _)) ?_
    simp only [nf0, nf1, nf2, nf3, nf4]
    refine fst2_val (fun W hC hh => ok2_call (by rfl) (d_run_call_17_1 (.tmp 16) rfl rfl W) ((digitsI_calls p.2.2.2.2 hp.2.2.2.2 W).mono fun e W' ⟨h1, h2⟩ => ⟨h1, hC.step h2, h2⟩)) ?_
    simp only [nf0, nf1, nf2, nf3, nf4]
    refine fst2_ex (fun W hC hh => ok2_ex (by rfl) (d_run_lit_31_3 (.tmp 11) (.tmp 14) (.tmp 17) rfl rfl rfl rfl W) (OwnR.built (xs := ([(nmS p.1), (tdecI p.2.1), (tdecI p.2.2.2.2)] : List (List UInt8))) (Blk.new _ _ _ _ rfl) (by rfl) hC.size (by simp) rfl) (hC.step (bl_alloc (Below.refl _ _) _)) (bl_alloc (Below.refl _ _) _)) fun v56 => ?_
    simp only [nf0, nf1, nf2, nf3, nf4]
    refine fst2_val (fun W hC hh => ok2_call (by rfl) (d_run_call_15_1 (.tmp 18) rfl rfl W) (((show Calls _ _ _ _ fun e w' => e = .returned (.string (str (prS p))) ∧ Below W.heap.size W w' from by have hj_ : Lib.join ([(nmS p.1), (tdecI p.2.1), (tdecI p.2.2.2.2)] : List (List UInt8)) [32] = prS p := (by rw [← prS_join (cs := [65, 68]) (by rw [(by assumption : p.1 = 1)]; rfl)]; rfl); have h_ := line_calls (hh _ (.head _) (by show (7 : Nat) ∈ _; decide)) (by simp only [List.length_cons, List.length_nil]; omega) (by rw [hj_]; have hl_ := prS_len hp; omega); rw [hj_] at h_; exact h_)).mono fun e W' ⟨h1, h2⟩ => ⟨h1, hC.step h2, h2⟩)) ?_
    simp only [nf0, nf1, nf2, nf3, nf4]
    refine fst2_val (fun W hC hh => ok2_value (v := (.string (str (prS p)))) (by rfl) (by rfl) rfl hC (G0.refl _)) ?_
    simp only [nf0, nf1, nf2, nf3, nf4]
    refine fst2_nil fun w57 hC hh hnd => ?_
    replace hC : Below w6.heap.size w6 w57 := hC
    clear hh hnd
    replace B3 := B3.below hC
    replace bel := bl_step bel hC
    clear hC
    refine wpList_nil ?_
    show Code.wp _ _ _ _ _
    refine wp_ret ?_
    first | show bodyPost _ _ _ _ _ _ | (simp only [Exit.then, Exit.inBlock]; show bodyPost _ _ _ _ _ _)
    exact bodyPost_ret (results_tmp rfl _ _ _) rfl ⟨rfl, bel⟩
  have hp9 := of_decide_eq_false hg8
  refine wp_cond_false rfl ?_
  refine wp_seq ?_
  refine wp_region_lit ?_
  refine st_value (v := (.bool (decide (p.1 = 2)))) (by rfl) (run_eql_int (.tmp 8) (.const (.int .i64 2)) rfl rfl rfl w6) ?_
  simp only [nf0, nf1, nf2, nf3, nf4]
  refine st_mv (.bool (decide (p.1 = 2))) ?_
  simp only [nf0, nf1, nf2, nf3, nf4]
  refine wpList_nil ?_
  show Code.wp _ _ _ _ _
  cases hg10 : decide (p.1 = 2)
  rotate_left
  · have hp54 := of_decide_eq_true hg10
    refine wp_cond_true rfl ?_
    refine wp_seq ?_
    refine wp_region_lit ?_
    refine st_mv (.string (str (nmS p.1))) ?_
    simp only [nf0, nf1, nf2, nf3, nf4]
    refine st_mv (.string (str (nmS p.1))) ?_
    simp only [nf0, nf1, nf2, nf3, nf4]
    refine wpList_nil ?_
    show Code.wp _ _ _ _ _
    refine wp_ret ?_
    first | show bodyPost _ _ _ _ _ _ | (simp only [Exit.then, Exit.inBlock]; show bodyPost _ _ _ _ _ _)
    have hE : prS p = nmS p.1 := by rw [← prS_join (cs := []) (by rw [(by assumption : p.1 = 2)]; rfl)]; exact Lib.join_one _ _
    exact bodyPost_ret (results_tmp rfl _ _ _) rfl ⟨by rw [hE]; rfl, bel⟩
  have hp11 := of_decide_eq_false hg10
  refine wp_cond_false rfl ?_
  refine wp_seq ?_
  refine wp_region_lit ?_
  refine st_value (v := (.bool (decide (p.1 = 3)))) (by rfl) (run_eql_int (.tmp 8) (.const (.int .i64 3)) rfl rfl rfl w6) ?_
  simp only [nf0, nf1, nf2, nf3, nf4]
  refine st_mv (.bool (decide (p.1 = 3))) ?_
  simp only [nf0, nf1, nf2, nf3, nf4]
  refine wpList_nil ?_
  show Code.wp _ _ _ _ _
  cases hg12 : decide (p.1 = 3)
  rotate_left
  · have hp51 := of_decide_eq_true hg12
    refine wp_cond_true rfl ?_
    refine wp_seq ?_
    refine wp_region_facts2_lit (C := Abv w6) 13 [.val (.string (str (nmS p.1))), .val (.pointer (some ⟨g1, 1, none⟩)), .val (.int .i64 p.2.1), .val (.string (str (tdecI p.2.1))), .val (.pointer (some ⟨g1, 2, none⟩)), .val (.int .i64 p.2.2.1), .val (.string (str (tdecI p.2.2.1))), .val (.pointer (some ⟨g1, 3, none⟩)), .val (.int .i64 p.2.2.2.1), .val (.string (str (tdecI p.2.2.2.1))), .ex (fun v_ z_ => OwnR z_ w6.heap.size 9 eTx v_ ([(nmS p.1), (tdecI p.2.1), (tdecI p.2.2.1), (tdecI p.2.2.2.1)] : List (List UInt8))) (fun v_ z_ y_ hG h => h.same hG), .val (.string (str (prS p))), .val (.string (str (prS p)))] w6.heap.size (by kernel_rfl) (by simp) (by kernel_rfl) (by kernel_rfl) (fun _ h => h.size) (Abv.start _) ?_
    simp only [List.take_succ_cons, List.take_zero, List.drop_succ_cons, List.drop_zero]
    refine fst2_val (fun W hC hh => ok2_value (v := (.string (str (nmS p.1)))) (by rfl) (by rfl) rfl hC (G0.refl _)) ?_
    simp only [nf0, nf1, nf2, nf3, nf4]
    refine fst2_val (fun W hC hh => ok2_value (v := (.pointer (some ⟨g1, 1, none⟩))) (by rfl) (run_fieldA (.tmp 1) rfl d_fld_24_1 rfl rfl W) rfl hC (G0.refl _)) ?_
    simp only [nf0, nf1, nf2, nf3, nf4]
    refine fst2_val (fun W hC hh => ok2_value (v := (.int .i64 p.2.1)) (by rfl) (run_loadB (.tmp 26) rfl d_one_3 rfl (B3.below hC) rfl) rfl hC (G0.refl _)) ?_
    simp only [nf0, nf1, nf2, nf3, nf4]
    refine fst2_val (fun W hC hh => ok2_call (by rfl) (d_run_call_16_1 (.tmp 27) rfl rfl W) ((dec_calls (n := p.2.1) hp.2.1 W).mono fun e W' ⟨h1, h2⟩ => ⟨h1, hC.step h2, h2⟩)) ?_
    simp only [nf0, nf1, nf2, nf3, nf4]
    refine fst2_val (fun W hC hh => ok2_value (v := (.pointer (some ⟨g1, 2, none⟩))) (by rfl) (run_fieldA (.tmp 1) rfl d_fld_24_2 rfl rfl W) rfl hC (G0.refl _)) ?_
    simp only [nf0, nf1, nf2, nf3, nf4]
    refine fst2_val (fun W hC hh => ok2_value (v := (.int .i64 p.2.2.1)) (by rfl) (run_loadB (.tmp 29) rfl d_one_3 rfl (B3.below hC) rfl) rfl hC (G0.refl _)) ?_
    simp only [nf0, nf1, nf2, nf3, nf4]
    refine fst2_val (fun W hC hh => ok2_call (by rfl) (d_run_call_16_1 (.tmp 30) rfl rfl W) ((dec_calls (n := p.2.2.1) hp.2.2.1 W).mono fun e W' ⟨h1, h2⟩ => ⟨h1, hC.step h2, h2⟩)) ?_
    simp only [nf0, nf1, nf2, nf3, nf4]
    refine fst2_val (fun W hC hh => ok2_value (v := (.pointer (some ⟨g1, 3, none⟩))) (by rfl) (run_fieldA (.tmp 1) rfl d_fld_24_3 rfl rfl W) rfl hC (G0.refl _)) ?_
    simp only [nf0, nf1, nf2, nf3, nf4]
    refine fst2_val (fun W hC hh => ok2_value (v := (.int .i64 p.2.2.2.1)) (by rfl) (run_loadB (.tmp 32) rfl d_one_3 rfl (B3.below hC) rfl) rfl hC (G0.refl _)) ?_
    simp only [nf0, nf1, nf2, nf3, nf4]
    refine fst2_val (fun W hC hh => ok2_call (by rfl) (d_run_call_16_1 (.tmp 33) rfl rfl W) ((dec_calls (n := p.2.2.2.1) hp.2.2.2.1 W).mono fun e W' ⟨h1, h2⟩ => ⟨h1, hC.step h2, h2⟩)) ?_
    simp only [nf0, nf1, nf2, nf3, nf4]
    refine fst2_ex (fun W hC hh => ok2_ex (by rfl) (d_run_lit_31_4 (.tmp 25) (.tmp 28) (.tmp 31) (.tmp 34) rfl rfl rfl rfl rfl W) (OwnR.built (xs := ([(nmS p.1), (tdecI p.2.1), (tdecI p.2.2.1), (tdecI p.2.2.2.1)] : List (List UInt8))) (Blk.new _ _ _ _ rfl) (by rfl) hC.size (by simp) rfl) (hC.step (bl_alloc (Below.refl _ _) _)) (bl_alloc (Below.refl _ _) _)) fun v52 => ?_
    simp only [nf0, nf1, nf2, nf3, nf4]
    refine fst2_val (fun W hC hh => ok2_call (by rfl) (d_run_call_15_1 (.tmp 35) rfl rfl W) (((show Calls _ _ _ _ fun e w' => e = .returned (.string (str (prS p))) ∧ Below W.heap.size W w' from by have hj_ : Lib.join ([(nmS p.1), (tdecI p.2.1), (tdecI p.2.2.1), (tdecI p.2.2.2.1)] : List (List UInt8)) [32] = prS p := (by rw [← prS_join (cs := [65, 66, 67]) (by rw [(by assumption : p.1 = 3)]; rfl)]; rfl); have h_ := line_calls (hh _ (.head _) (by show (10 : Nat) ∈ _; decide)) (by simp only [List.length_cons, List.length_nil]; omega) (by rw [hj_]; have hl_ := prS_len hp; omega); rw [hj_] at h_; exact h_)).mono fun e W' ⟨h1, h2⟩ => ⟨h1, hC.step h2, h2⟩)) ?_
    simp only [nf0, nf1, nf2, nf3, nf4]
    refine fst2_val (fun W hC hh => ok2_value (v := (.string (str (prS p)))) (by rfl) (by rfl) rfl hC (G0.refl _)) ?_
    simp only [nf0, nf1, nf2, nf3, nf4]
    refine fst2_nil fun w53 hC hh hnd => ?_
    replace hC : Below w6.heap.size w6 w53 := hC
    clear hh hnd
    replace B3 := B3.below hC
    replace bel := bl_step bel hC
    clear hC
    refine wpList_nil ?_
    show Code.wp _ _ _ _ _
    refine wp_ret ?_
    first | show bodyPost _ _ _ _ _ _ | (simp only [Exit.then, Exit.inBlock]; show bodyPost _ _ _ _ _ _)
    exact bodyPost_ret (results_tmp rfl _ _ _) rfl ⟨rfl, bel⟩
  have hp13 := of_decide_eq_false hg12
  refine wp_cond_false rfl ?_
  refine wp_seq ?_
  refine wp_seq ?_
  refine wp_region_lit ?_
  refine st_value (v := (.bool (decide (p.1 = 4)))) (by rfl) (run_eql_int (.tmp 8) (.const (.int .i64 4)) rfl rfl rfl w6) ?_
  simp only [nf0, nf1, nf2, nf3, nf4]
  refine st_mv (.bool (decide (p.1 = 4))) ?_
  simp only [nf0, nf1, nf2, nf3, nf4]
  refine wpList_nil ?_
  show Code.wp _ _ _ _ _
  cases hg14 : decide (p.1 = 4)
  rotate_left
  · have hp48 := of_decide_eq_true hg14
    refine wp_cond_true rfl ?_
    refine wp_skip ?_
    show Code.wp _ _ _ _ _
    refine wp_cond_true rfl ?_
    refine wp_seq ?_
    refine wp_region_facts2_lit (C := Abv w6) 10 [.val (.string (str (nmS p.1))), .val (.pointer (some ⟨g1, 1, none⟩)), .val (.int .i64 p.2.1), .val (.string (str (tdecI p.2.1))), .val (.pointer (some ⟨g1, 2, none⟩)), .val (.int .i64 p.2.2.1), .val (.string (str (tdecI p.2.2.1))), .ex (fun v_ z_ => OwnR z_ w6.heap.size 9 eTx v_ ([(nmS p.1), (tdecI p.2.1), (tdecI p.2.2.1)] : List (List UInt8))) (fun v_ z_ y_ hG h => h.same hG), .val (.string (str (prS p))), .val (.string (str (prS p)))] w6.heap.size (by kernel_rfl) (by simp) (by kernel_rfl) (by kernel_rfl) (fun _ h => h.size) (Abv.start _) ?_
    simp only [List.take_succ_cons, List.take_zero, List.drop_succ_cons, List.drop_zero]
    refine fst2_val (fun W hC hh => ok2_value (v := (.string (str (nmS p.1)))) (by rfl) (by rfl) rfl hC (G0.refl _)) ?_
    simp only [nf0, nf1, nf2, nf3, nf4]
    refine fst2_val (fun W hC hh => ok2_value (v := (.pointer (some ⟨g1, 1, none⟩))) (by rfl) (run_fieldA (.tmp 1) rfl d_fld_24_1 rfl rfl W) rfl hC (G0.refl _)) ?_
    simp only [nf0, nf1, nf2, nf3, nf4]
    refine fst2_val (fun W hC hh => ok2_value (v := (.int .i64 p.2.1)) (by rfl) (run_loadB (.tmp 44) rfl d_one_3 rfl (B3.below hC) rfl) rfl hC (G0.refl _)) ?_
    simp only [nf0, nf1, nf2, nf3, nf4]
    refine fst2_val (fun W hC hh => ok2_call (by rfl) (d_run_call_16_1 (.tmp 45) rfl rfl W) ((dec_calls (n := p.2.1) hp.2.1 W).mono fun e W' ⟨h1, h2⟩ => ⟨h1, hC.step h2, h2⟩)) ?_
    simp only [nf0, nf1, nf2, nf3, nf4]
    refine fst2_val (fun W hC hh => ok2_value (v := (.pointer (some ⟨g1, 2, none⟩))) (by rfl) (run_fieldA (.tmp 1) rfl d_fld_24_2 rfl rfl W) rfl hC (G0.refl _)) ?_
    simp only [nf0, nf1, nf2, nf3, nf4]
    refine fst2_val (fun W hC hh => ok2_value (v := (.int .i64 p.2.2.1)) (by rfl) (run_loadB (.tmp 47) rfl d_one_3 rfl (B3.below hC) rfl) rfl hC (G0.refl _)) ?_
    simp only [nf0, nf1, nf2, nf3, nf4]
    refine fst2_val (fun W hC hh => ok2_call (by rfl) (d_run_call_16_1 (.tmp 48) rfl rfl W) ((dec_calls (n := p.2.2.1) hp.2.2.1 W).mono fun e W' ⟨h1, h2⟩ => ⟨h1, hC.step h2, h2⟩)) ?_
    simp only [nf0, nf1, nf2, nf3, nf4]
    refine fst2_ex (fun W hC hh => ok2_ex (by rfl) (d_run_lit_31_3 (.tmp 43) (.tmp 46) (.tmp 49) rfl rfl rfl rfl W) (OwnR.built (xs := ([(nmS p.1), (tdecI p.2.1), (tdecI p.2.2.1)] : List (List UInt8))) (Blk.new _ _ _ _ rfl) (by rfl) hC.size (by simp) rfl) (hC.step (bl_alloc (Below.refl _ _) _)) (bl_alloc (Below.refl _ _) _)) fun v49 => ?_
    simp only [nf0, nf1, nf2, nf3, nf4]
    refine fst2_val (fun W hC hh => ok2_call (by rfl) (d_run_call_15_1 (.tmp 50) rfl rfl W) (((show Calls _ _ _ _ fun e w' => e = .returned (.string (str (prS p))) ∧ Below W.heap.size W w' from by have hj_ : Lib.join ([(nmS p.1), (tdecI p.2.1), (tdecI p.2.2.1)] : List (List UInt8)) [32] = prS p := (by rw [← prS_join (cs := [65, 66]) (by rw [(by assumption : p.1 = 4)]; rfl)]; rfl); have h_ := line_calls (hh _ (.head _) (by show (7 : Nat) ∈ _; decide)) (by simp only [List.length_cons, List.length_nil]; omega) (by rw [hj_]; have hl_ := prS_len hp; omega); rw [hj_] at h_; exact h_)).mono fun e W' ⟨h1, h2⟩ => ⟨h1, hC.step h2, h2⟩)) ?_
    simp only [nf0, nf1, nf2, nf3, nf4]
    refine fst2_val (fun W hC hh => ok2_value (v := (.string (str (prS p)))) (by rfl) (by rfl) rfl hC (G0.refl _)) ?_
    simp only [nf0, nf1, nf2, nf3, nf4]
    refine fst2_nil fun w50 hC hh hnd => ?_
    replace hC : Below w6.heap.size w6 w50 := hC
    clear hh hnd
    replace B3 := B3.below hC
    replace bel := bl_step bel hC
    clear hC
    refine wpList_nil ?_
    show Code.wp _ _ _ _ _
    refine wp_ret ?_
    first | show bodyPost _ _ _ _ _ _ | (simp only [Exit.then, Exit.inBlock]; show bodyPost _ _ _ _ _ _)
    exact bodyPost_ret (results_tmp rfl _ _ _) rfl ⟨rfl, bel⟩
  have hp15 := of_decide_eq_false hg14
  refine wp_cond_false rfl ?_
  refine wp_seq ?_
  refine wp_region_lit ?_
  refine st_value (v := (.bool (decide (p.1 = 5)))) (by rfl) (run_eql_int (.tmp 8) (.const (.int .i64 5)) rfl rfl rfl w6) ?_
  simp only [nf0, nf1, nf2, nf3, nf4]
  refine st_mv (.bool (decide (p.1 = 5))) ?_
  simp only [nf0, nf1, nf2, nf3, nf4]
  refine wpList_nil ?_
  show Code.wp _ _ _ _ _
  cases hg16 : decide (p.1 = 5)
  rotate_left
  · have hp45 := of_decide_eq_true hg16
    refine wp_cond_true rfl ?_
    refine wp_skip ?_
    show Code.wp _ _ _ _ _
    refine wp_cond_true rfl ?_
    refine wp_seq ?_
    refine wp_region_facts2_lit (C := Abv w6) 10 [.val (.string (str (nmS p.1))), .val (.pointer (some ⟨g1, 1, none⟩)), .val (.int .i64 p.2.1), .val (.string (str (tdecI p.2.1))), .val (.pointer (some ⟨g1, 2, none⟩)), .val (.int .i64 p.2.2.1), .val (.string (str (tdecI p.2.2.1))), .ex (fun v_ z_ => OwnR z_ w6.heap.size 9 eTx v_ ([(nmS p.1), (tdecI p.2.1), (tdecI p.2.2.1)] : List (List UInt8))) (fun v_ z_ y_ hG h => h.same hG), .val (.string (str (prS p))), .val (.string (str (prS p)))] w6.heap.size (by kernel_rfl) (by simp) (by kernel_rfl) (by kernel_rfl) (fun _ h => h.size) (Abv.start _) ?_
    simp only [List.take_succ_cons, List.take_zero, List.drop_succ_cons, List.drop_zero]
    refine fst2_val (fun W hC hh => ok2_value (v := (.string (str (nmS p.1)))) (by rfl) (by rfl) rfl hC (G0.refl _)) ?_
    simp only [nf0, nf1, nf2, nf3, nf4]
    refine fst2_val (fun W hC hh => ok2_value (v := (.pointer (some ⟨g1, 1, none⟩))) (by rfl) (run_fieldA (.tmp 1) rfl d_fld_24_1 rfl rfl W) rfl hC (G0.refl _)) ?_
    simp only [nf0, nf1, nf2, nf3, nf4]
    refine fst2_val (fun W hC hh => ok2_value (v := (.int .i64 p.2.1)) (by rfl) (run_loadB (.tmp 44) rfl d_one_3 rfl (B3.below hC) rfl) rfl hC (G0.refl _)) ?_
    simp only [nf0, nf1, nf2, nf3, nf4]
    refine fst2_val (fun W hC hh => ok2_call (by rfl) (d_run_call_16_1 (.tmp 45) rfl rfl W) ((dec_calls (n := p.2.1) hp.2.1 W).mono fun e W' ⟨h1, h2⟩ => ⟨h1, hC.step h2, h2⟩)) ?_
    simp only [nf0, nf1, nf2, nf3, nf4]
    refine fst2_val (fun W hC hh => ok2_value (v := (.pointer (some ⟨g1, 2, none⟩))) (by rfl) (run_fieldA (.tmp 1) rfl d_fld_24_2 rfl rfl W) rfl hC (G0.refl _)) ?_
    simp only [nf0, nf1, nf2, nf3, nf4]
    refine fst2_val (fun W hC hh => ok2_value (v := (.int .i64 p.2.2.1)) (by rfl) (run_loadB (.tmp 47) rfl d_one_3 rfl (B3.below hC) rfl) rfl hC (G0.refl _)) ?_
    simp only [nf0, nf1, nf2, nf3, nf4]
    refine fst2_val (fun W hC hh => ok2_call (by rfl) (d_run_call_16_1 (.tmp 48) rfl rfl W) ((dec_calls (n := p.2.2.1) hp.2.2.1 W).mono fun e W' ⟨h1, h2⟩ => ⟨h1, hC.step h2, h2⟩)) ?_
    simp only [nf0, nf1, nf2, nf3, nf4]
    refine fst2_ex (fun W hC hh => ok2_ex (by rfl) (d_run_lit_31_3 (.tmp 43) (.tmp 46) (.tmp 49) rfl rfl rfl rfl W) (OwnR.built (xs := ([(nmS p.1), (tdecI p.2.1), (tdecI p.2.2.1)] : List (List UInt8))) (Blk.new _ _ _ _ rfl) (by rfl) hC.size (by simp) rfl) (hC.step (bl_alloc (Below.refl _ _) _)) (bl_alloc (Below.refl _ _) _)) fun v46 => ?_
    simp only [nf0, nf1, nf2, nf3, nf4]
    refine fst2_val (fun W hC hh => ok2_call (by rfl) (d_run_call_15_1 (.tmp 50) rfl rfl W) (((show Calls _ _ _ _ fun e w' => e = .returned (.string (str (prS p))) ∧ Below W.heap.size W w' from by have hj_ : Lib.join ([(nmS p.1), (tdecI p.2.1), (tdecI p.2.2.1)] : List (List UInt8)) [32] = prS p := (by rw [← prS_join (cs := [65, 66]) (by rw [(by assumption : p.1 = 5)]; rfl)]; rfl); have h_ := line_calls (hh _ (.head _) (by show (7 : Nat) ∈ _; decide)) (by simp only [List.length_cons, List.length_nil]; omega) (by rw [hj_]; have hl_ := prS_len hp; omega); rw [hj_] at h_; exact h_)).mono fun e W' ⟨h1, h2⟩ => ⟨h1, hC.step h2, h2⟩)) ?_
    simp only [nf0, nf1, nf2, nf3, nf4]
    refine fst2_val (fun W hC hh => ok2_value (v := (.string (str (prS p)))) (by rfl) (by rfl) rfl hC (G0.refl _)) ?_
    simp only [nf0, nf1, nf2, nf3, nf4]
    refine fst2_nil fun w47 hC hh hnd => ?_
    replace hC : Below w6.heap.size w6 w47 := hC
    clear hh hnd
    replace B3 := B3.below hC
    replace bel := bl_step bel hC
    clear hC
    refine wpList_nil ?_
    show Code.wp _ _ _ _ _
    refine wp_ret ?_
    first | show bodyPost _ _ _ _ _ _ | (simp only [Exit.then, Exit.inBlock]; show bodyPost _ _ _ _ _ _)
    exact bodyPost_ret (results_tmp rfl _ _ _) rfl ⟨rfl, bel⟩
  have hp17 := of_decide_eq_false hg16
  refine wp_cond_false rfl ?_
  refine wp_seq ?_
  refine wp_region_lit ?_
  refine st_value (v := (.bool (decide (p.1 = 9)))) (by rfl) (run_eql_int (.tmp 8) (.const (.int .i64 9)) rfl rfl rfl w6) ?_
  simp only [nf0, nf1, nf2, nf3, nf4]
  refine st_mv (.bool (decide (p.1 = 9))) ?_
  simp only [nf0, nf1, nf2, nf3, nf4]
  refine wpList_nil ?_
  show Code.wp _ _ _ _ _
  cases hg18 : decide (p.1 = 9)
  rotate_left
  · have hp42 := of_decide_eq_true hg18
    refine wp_cond_true rfl ?_
    refine wp_skip ?_
    show Code.wp _ _ _ _ _
    refine wp_cond_true rfl ?_
    refine wp_seq ?_
    refine wp_region_facts2_lit (C := Abv w6) 10 [.val (.string (str (nmS p.1))), .val (.pointer (some ⟨g1, 1, none⟩)), .val (.int .i64 p.2.1), .val (.string (str (tdecI p.2.1))), .val (.pointer (some ⟨g1, 2, none⟩)), .val (.int .i64 p.2.2.1), .val (.string (str (tdecI p.2.2.1))), .ex (fun v_ z_ => OwnR z_ w6.heap.size 9 eTx v_ ([(nmS p.1), (tdecI p.2.1), (tdecI p.2.2.1)] : List (List UInt8))) (fun v_ z_ y_ hG h => h.same hG), .val (.string (str (prS p))), .val (.string (str (prS p)))] w6.heap.size (by kernel_rfl) (by simp) (by kernel_rfl) (by kernel_rfl) (fun _ h => h.size) (Abv.start _) ?_
    simp only [List.take_succ_cons, List.take_zero, List.drop_succ_cons, List.drop_zero]
    refine fst2_val (fun W hC hh => ok2_value (v := (.string (str (nmS p.1)))) (by rfl) (by rfl) rfl hC (G0.refl _)) ?_
    simp only [nf0, nf1, nf2, nf3, nf4]
    refine fst2_val (fun W hC hh => ok2_value (v := (.pointer (some ⟨g1, 1, none⟩))) (by rfl) (run_fieldA (.tmp 1) rfl d_fld_24_1 rfl rfl W) rfl hC (G0.refl _)) ?_
    simp only [nf0, nf1, nf2, nf3, nf4]
    refine fst2_val (fun W hC hh => ok2_value (v := (.int .i64 p.2.1)) (by rfl) (run_loadB (.tmp 44) rfl d_one_3 rfl (B3.below hC) rfl) rfl hC (G0.refl _)) ?_
    simp only [nf0, nf1, nf2, nf3, nf4]
    refine fst2_val (fun W hC hh => ok2_call (by rfl) (d_run_call_16_1 (.tmp 45) rfl rfl W) ((dec_calls (n := p.2.1) hp.2.1 W).mono fun e W' ⟨h1, h2⟩ => ⟨h1, hC.step h2, h2⟩)) ?_
    simp only [nf0, nf1, nf2, nf3, nf4]
    refine fst2_val (fun W hC hh => ok2_value (v := (.pointer (some ⟨g1, 2, none⟩))) (by rfl) (run_fieldA (.tmp 1) rfl d_fld_24_2 rfl rfl W) rfl hC (G0.refl _)) ?_
    simp only [nf0, nf1, nf2, nf3, nf4]
    refine fst2_val (fun W hC hh => ok2_value (v := (.int .i64 p.2.2.1)) (by rfl) (run_loadB (.tmp 47) rfl d_one_3 rfl (B3.below hC) rfl) rfl hC (G0.refl _)) ?_
    simp only [nf0, nf1, nf2, nf3, nf4]
    refine fst2_val (fun W hC hh => ok2_call (by rfl) (d_run_call_16_1 (.tmp 48) rfl rfl W) ((dec_calls (n := p.2.2.1) hp.2.2.1 W).mono fun e W' ⟨h1, h2⟩ => ⟨h1, hC.step h2, h2⟩)) ?_
    simp only [nf0, nf1, nf2, nf3, nf4]
    refine fst2_ex (fun W hC hh => ok2_ex (by rfl) (d_run_lit_31_3 (.tmp 43) (.tmp 46) (.tmp 49) rfl rfl rfl rfl W) (OwnR.built (xs := ([(nmS p.1), (tdecI p.2.1), (tdecI p.2.2.1)] : List (List UInt8))) (Blk.new _ _ _ _ rfl) (by rfl) hC.size (by simp) rfl) (hC.step (bl_alloc (Below.refl _ _) _)) (bl_alloc (Below.refl _ _) _)) fun v43 => ?_
    simp only [nf0, nf1, nf2, nf3, nf4]
    refine fst2_val (fun W hC hh => ok2_call (by rfl) (d_run_call_15_1 (.tmp 50) rfl rfl W) (((show Calls _ _ _ _ fun e w' => e = .returned (.string (str (prS p))) ∧ Below W.heap.size W w' from by have hj_ : Lib.join ([(nmS p.1), (tdecI p.2.1), (tdecI p.2.2.1)] : List (List UInt8)) [32] = prS p := (by rw [← prS_join (cs := [65, 66]) (by rw [(by assumption : p.1 = 9)]; rfl)]; rfl); have h_ := line_calls (hh _ (.head _) (by show (7 : Nat) ∈ _; decide)) (by simp only [List.length_cons, List.length_nil]; omega) (by rw [hj_]; have hl_ := prS_len hp; omega); rw [hj_] at h_; exact h_)).mono fun e W' ⟨h1, h2⟩ => ⟨h1, hC.step h2, h2⟩)) ?_
    simp only [nf0, nf1, nf2, nf3, nf4]
    refine fst2_val (fun W hC hh => ok2_value (v := (.string (str (prS p)))) (by rfl) (by rfl) rfl hC (G0.refl _)) ?_
    simp only [nf0, nf1, nf2, nf3, nf4]
    refine fst2_nil fun w44 hC hh hnd => ?_
    replace hC : Below w6.heap.size w6 w44 := hC
    clear hh hnd
    replace B3 := B3.below hC
    replace bel := bl_step bel hC
    clear hC
    refine wpList_nil ?_
    show Code.wp _ _ _ _ _
    refine wp_ret ?_
    first | show bodyPost _ _ _ _ _ _ | (simp only [Exit.then, Exit.inBlock]; show bodyPost _ _ _ _ _ _)
    exact bodyPost_ret (results_tmp rfl _ _ _) rfl ⟨rfl, bel⟩
  have hp19 := of_decide_eq_false hg18
  refine wp_cond_false rfl ?_
  refine wp_seq ?_
  refine wp_region_lit ?_
  refine st_value (v := (.bool (decide (p.1 = 10)))) (by rfl) (run_eql_int (.tmp 8) (.const (.int .i64 10)) rfl rfl rfl w6) ?_
  simp only [nf0, nf1, nf2, nf3, nf4]
  refine st_mv (.bool (decide (p.1 = 10))) ?_
  simp only [nf0, nf1, nf2, nf3, nf4]
  refine wpList_nil ?_
  show Code.wp _ _ _ _ _
  cases hg20 : decide (p.1 = 10)
  rotate_left
  · have hp39 := of_decide_eq_true hg20
    refine wp_cond_true rfl ?_
    refine wp_skip ?_
    show Code.wp _ _ _ _ _
    refine wp_cond_true rfl ?_
    refine wp_seq ?_
    refine wp_region_facts2_lit (C := Abv w6) 10 [.val (.string (str (nmS p.1))), .val (.pointer (some ⟨g1, 1, none⟩)), .val (.int .i64 p.2.1), .val (.string (str (tdecI p.2.1))), .val (.pointer (some ⟨g1, 2, none⟩)), .val (.int .i64 p.2.2.1), .val (.string (str (tdecI p.2.2.1))), .ex (fun v_ z_ => OwnR z_ w6.heap.size 9 eTx v_ ([(nmS p.1), (tdecI p.2.1), (tdecI p.2.2.1)] : List (List UInt8))) (fun v_ z_ y_ hG h => h.same hG), .val (.string (str (prS p))), .val (.string (str (prS p)))] w6.heap.size (by kernel_rfl) (by simp) (by kernel_rfl) (by kernel_rfl) (fun _ h => h.size) (Abv.start _) ?_
    simp only [List.take_succ_cons, List.take_zero, List.drop_succ_cons, List.drop_zero]
    refine fst2_val (fun W hC hh => ok2_value (v := (.string (str (nmS p.1)))) (by rfl) (by rfl) rfl hC (G0.refl _)) ?_
    simp only [nf0, nf1, nf2, nf3, nf4]
    refine fst2_val (fun W hC hh => ok2_value (v := (.pointer (some ⟨g1, 1, none⟩))) (by rfl) (run_fieldA (.tmp 1) rfl d_fld_24_1 rfl rfl W) rfl hC (G0.refl _)) ?_
    simp only [nf0, nf1, nf2, nf3, nf4]
    refine fst2_val (fun W hC hh => ok2_value (v := (.int .i64 p.2.1)) (by rfl) (run_loadB (.tmp 44) rfl d_one_3 rfl (B3.below hC) rfl) rfl hC (G0.refl _)) ?_
    simp only [nf0, nf1, nf2, nf3, nf4]
    refine fst2_val (fun W hC hh => ok2_call (by rfl) (d_run_call_16_1 (.tmp 45) rfl rfl W) ((dec_calls (n := p.2.1) hp.2.1 W).mono fun e W' ⟨h1, h2⟩ => ⟨h1, hC.step h2, h2⟩)) ?_
    simp only [nf0, nf1, nf2, nf3, nf4]
    refine fst2_val (fun W hC hh => ok2_value (v := (.pointer (some ⟨g1, 2, none⟩))) (by rfl) (run_fieldA (.tmp 1) rfl d_fld_24_2 rfl rfl W) rfl hC (G0.refl _)) ?_
    simp only [nf0, nf1, nf2, nf3, nf4]
    refine fst2_val (fun W hC hh => ok2_value (v := (.int .i64 p.2.2.1)) (by rfl) (run_loadB (.tmp 47) rfl d_one_3 rfl (B3.below hC) rfl) rfl hC (G0.refl _)) ?_
    simp only [nf0, nf1, nf2, nf3, nf4]
    refine fst2_val (fun W hC hh => ok2_call (by rfl) (d_run_call_16_1 (.tmp 48) rfl rfl W) ((dec_calls (n := p.2.2.1) hp.2.2.1 W).mono fun e W' ⟨h1, h2⟩ => ⟨h1, hC.step h2, h2⟩)) ?_
    simp only [nf0, nf1, nf2, nf3, nf4]
    refine fst2_ex (fun W hC hh => ok2_ex (by rfl) (d_run_lit_31_3 (.tmp 43) (.tmp 46) (.tmp 49) rfl rfl rfl rfl W) (OwnR.built (xs := ([(nmS p.1), (tdecI p.2.1), (tdecI p.2.2.1)] : List (List UInt8))) (Blk.new _ _ _ _ rfl) (by rfl) hC.size (by simp) rfl) (hC.step (bl_alloc (Below.refl _ _) _)) (bl_alloc (Below.refl _ _) _)) fun v40 => ?_
    simp only [nf0, nf1, nf2, nf3, nf4]
    refine fst2_val (fun W hC hh => ok2_call (by rfl) (d_run_call_15_1 (.tmp 50) rfl rfl W) (((show Calls _ _ _ _ fun e w' => e = .returned (.string (str (prS p))) ∧ Below W.heap.size W w' from by have hj_ : Lib.join ([(nmS p.1), (tdecI p.2.1), (tdecI p.2.2.1)] : List (List UInt8)) [32] = prS p := (by rw [← prS_join (cs := [65, 66]) (by rw [(by assumption : p.1 = 10)]; rfl)]; rfl); have h_ := line_calls (hh _ (.head _) (by show (7 : Nat) ∈ _; decide)) (by simp only [List.length_cons, List.length_nil]; omega) (by rw [hj_]; have hl_ := prS_len hp; omega); rw [hj_] at h_; exact h_)).mono fun e W' ⟨h1, h2⟩ => ⟨h1, hC.step h2, h2⟩)) ?_
    simp only [nf0, nf1, nf2, nf3, nf4]
    refine fst2_val (fun W hC hh => ok2_value (v := (.string (str (prS p)))) (by rfl) (by rfl) rfl hC (G0.refl _)) ?_
    simp only [nf0, nf1, nf2, nf3, nf4]
    refine fst2_nil fun w41 hC hh hnd => ?_
    replace hC : Below w6.heap.size w6 w41 := hC
    clear hh hnd
    replace B3 := B3.below hC
    replace bel := bl_step bel hC
    clear hC
    refine wpList_nil ?_
    show Code.wp _ _ _ _ _
    refine wp_ret ?_
    first | show bodyPost _ _ _ _ _ _ | (simp only [Exit.then, Exit.inBlock]; show bodyPost _ _ _ _ _ _)
    exact bodyPost_ret (results_tmp rfl _ _ _) rfl ⟨rfl, bel⟩
  have hp21 := of_decide_eq_false hg20
  refine wp_cond_false rfl ?_
  refine wp_region_lit ?_
  refine st_value (v := (.bool (decide (p.1 = 12)))) (by rfl) (run_eql_int (.tmp 8) (.const (.int .i64 12)) rfl rfl rfl w6) ?_
  simp only [nf0, nf1, nf2, nf3, nf4]
  refine st_mv (.bool (decide (p.1 = 12))) ?_
  simp only [nf0, nf1, nf2, nf3, nf4]
  refine wpList_nil ?_
  show Code.wp _ _ _ _ _
  cases hg22 : decide (p.1 = 12)
  rotate_left
  · have hp36 := of_decide_eq_true hg22
    refine wp_cond_true rfl ?_
    refine wp_seq ?_
    refine wp_region_facts2_lit (C := Abv w6) 10 [.val (.string (str (nmS p.1))), .val (.pointer (some ⟨g1, 1, none⟩)), .val (.int .i64 p.2.1), .val (.string (str (tdecI p.2.1))), .val (.pointer (some ⟨g1, 2, none⟩)), .val (.int .i64 p.2.2.1), .val (.string (str (tdecI p.2.2.1))), .ex (fun v_ z_ => OwnR z_ w6.heap.size 9 eTx v_ ([(nmS p.1), (tdecI p.2.1), (tdecI p.2.2.1)] : List (List UInt8))) (fun v_ z_ y_ hG h => h.same hG), .val (.string (str (prS p))), .val (.string (str (prS p)))] w6.heap.size (by kernel_rfl) (by simp) (by kernel_rfl) (by kernel_rfl) (fun _ h => h.size) (Abv.start _) ?_
    simp only [List.take_succ_cons, List.take_zero, List.drop_succ_cons, List.drop_zero]
    refine fst2_val (fun W hC hh => ok2_value (v := (.string (str (nmS p.1)))) (by rfl) (by rfl) rfl hC (G0.refl _)) ?_
    simp only [nf0, nf1, nf2, nf3, nf4]
    refine fst2_val (fun W hC hh => ok2_value (v := (.pointer (some ⟨g1, 1, none⟩))) (by rfl) (run_fieldA (.tmp 1) rfl d_fld_24_1 rfl rfl W) rfl hC (G0.refl _)) ?_
    simp only [nf0, nf1, nf2, nf3, nf4]
    refine fst2_val (fun W hC hh => ok2_value (v := (.int .i64 p.2.1)) (by rfl) (run_loadB (.tmp 44) rfl d_one_3 rfl (B3.below hC) rfl) rfl hC (G0.refl _)) ?_
    simp only [nf0, nf1, nf2, nf3, nf4]
    refine fst2_val (fun W hC hh => ok2_call (by rfl) (d_run_call_16_1 (.tmp 45) rfl rfl W) ((dec_calls (n := p.2.1) hp.2.1 W).mono fun e W' ⟨h1, h2⟩ => ⟨h1, hC.step h2, h2⟩)) ?_
    simp only [nf0, nf1, nf2, nf3, nf4]
    refine fst2_val (fun W hC hh => ok2_value (v := (.pointer (some ⟨g1, 2, none⟩))) (by rfl) (run_fieldA (.tmp 1) rfl d_fld_24_2 rfl rfl W) rfl hC (G0.refl _)) ?_
    simp only [nf0, nf1, nf2, nf3, nf4]
    refine fst2_val (fun W hC hh => ok2_value (v := (.int .i64 p.2.2.1)) (by rfl) (run_loadB (.tmp 47) rfl d_one_3 rfl (B3.below hC) rfl) rfl hC (G0.refl _)) ?_
    simp only [nf0, nf1, nf2, nf3, nf4]
    refine fst2_val (fun W hC hh => ok2_call (by rfl) (d_run_call_16_1 (.tmp 48) rfl rfl W) ((dec_calls (n := p.2.2.1) hp.2.2.1 W).mono fun e W' ⟨h1, h2⟩ => ⟨h1, hC.step h2, h2⟩)) ?_
    simp only [nf0, nf1, nf2, nf3, nf4]
    refine fst2_ex (fun W hC hh => ok2_ex (by rfl) (d_run_lit_31_3 (.tmp 43) (.tmp 46) (.tmp 49) rfl rfl rfl rfl W) (OwnR.built (xs := ([(nmS p.1), (tdecI p.2.1), (tdecI p.2.2.1)] : List (List UInt8))) (Blk.new _ _ _ _ rfl) (by rfl) hC.size (by simp) rfl) (hC.step (bl_alloc (Below.refl _ _) _)) (bl_alloc (Below.refl _ _) _)) fun v37 => ?_
    simp only [nf0, nf1, nf2, nf3, nf4]
    refine fst2_val (fun W hC hh => ok2_call (by rfl) (d_run_call_15_1 (.tmp 50) rfl rfl W) (((show Calls _ _ _ _ fun e w' => e = .returned (.string (str (prS p))) ∧ Below W.heap.size W w' from by have hj_ : Lib.join ([(nmS p.1), (tdecI p.2.1), (tdecI p.2.2.1)] : List (List UInt8)) [32] = prS p := (by rw [← prS_join (cs := [65, 66]) (by rw [(by assumption : p.1 = 12)]; rfl)]; rfl); have h_ := line_calls (hh _ (.head _) (by show (7 : Nat) ∈ _; decide)) (by simp only [List.length_cons, List.length_nil]; omega) (by rw [hj_]; have hl_ := prS_len hp; omega); rw [hj_] at h_; exact h_)).mono fun e W' ⟨h1, h2⟩ => ⟨h1, hC.step h2, h2⟩)) ?_
    simp only [nf0, nf1, nf2, nf3, nf4]
    refine fst2_val (fun W hC hh => ok2_value (v := (.string (str (prS p)))) (by rfl) (by rfl) rfl hC (G0.refl _)) ?_
    simp only [nf0, nf1, nf2, nf3, nf4]
    refine fst2_nil fun w38 hC hh hnd => ?_
    replace hC : Below w6.heap.size w6 w38 := hC
    clear hh hnd
    replace B3 := B3.below hC
    replace bel := bl_step bel hC
    clear hC
    refine wpList_nil ?_
    show Code.wp _ _ _ _ _
    refine wp_ret ?_
    first | show bodyPost _ _ _ _ _ _ | (simp only [Exit.then, Exit.inBlock]; show bodyPost _ _ _ _ _ _)
    exact bodyPost_ret (results_tmp rfl _ _ _) rfl ⟨rfl, bel⟩
  have hp23 := of_decide_eq_false hg22
  refine wp_cond_false rfl ?_
  refine wp_skip ?_
  show Code.wp _ _ _ _ _
  refine wp_seq ?_
  refine wp_region_lit ?_
  refine st_mv (.string (str (nmS p.1))) ?_
  simp only [nf0, nf1, nf2, nf3, nf4]
  refine st_value (v := (.pointer (some ⟨g1, 1, none⟩))) (by rfl) (run_fieldA (.tmp 1) rfl d_fld_24_1 rfl rfl w6) ?_
  simp only [nf0, nf1, nf2, nf3, nf4]
  refine st_value (v := (.int .i64 p.2.1)) (by rfl) (run_loadB (.tmp 53) rfl d_one_3 rfl B3 rfl) ?_
  simp only [nf0, nf1, nf2, nf3, nf4]
  refine st_call1 (v := (.string (str (tdecI p.2.1)))) (by rfl) (d_run_call_16_1 (.tmp 54) rfl rfl _) (dec_calls (n := p.2.1) hp.2.1 w6) ?_
  intro w24 hb25
  simp only [nf0, nf1, nf2, nf3, nf4]
  replace B3 := B3.below hb25
  replace bel := bl_step bel hb25
  clear hb25
  refine st_lit (by rfl) (d_run_lit_31_2 (.tmp 52) (.tmp 55) rfl rfl rfl _) ?_
  intro g26 w27 B28 hb29 lo30
  simp only [nf0, nf1, nf2, nf3, nf4]
  have n31 := B3.ne lo30
  replace lo30 := low_le bel lo30
  replace B3 := B3.below hb29
  replace bel := bl_step bel hb29
  clear hb29
  have n33 : Off (.slice (some ⟨g26, 0, none⟩) 2 2) g1 := fun e => n31.symm (Option.some.inj e)
  have O32 : OwnR w27 w.heap.size 9 eTx (.slice (some ⟨g26, 0, none⟩) 2 2) ([(nmS p.1), (tdecI p.2.1)] : List (List UInt8)) := OwnR.built (xs := ([(nmS p.1), (tdecI p.2.1)] : List (List UInt8))) B28 (by rfl) lo30 (by simp) rfl
  clear B28
  refine st_call1 (v := (.string (str (prS p)))) (by rfl) (d_run_call_15_1 (.tmp 56) rfl rfl _) (show Calls _ _ _ _ fun e w' => e = .returned (.string (str (prS p))) ∧ Below w27.heap.size w27 w' from by have hj_ : Lib.join ([(nmS p.1), (tdecI p.2.1)] : List (List UInt8)) [32] = prS p := (by rw [← prS_join (cs := [65]) (by exact shS_A (by assumption) (by assumption) (by assumption) (by assumption) (by assumption) (by assumption) (by assumption) (by assumption))]; rfl); have h_ := line_calls O32 (by simp only [List.length_cons, List.length_nil]; omega) (by rw [hj_]; have hl_ := prS_len hp; omega); rw [hj_] at h_; exact h_) ?_
  intro w34 hb35
  simp only [nf0, nf1, nf2, nf3, nf4]
  replace B3 := B3.below hb35
  replace O32 := O32.same hb35
  replace bel := bl_step bel hb35
  clear hb35
  refine st_mv (.string (str (prS p))) ?_
  simp only [nf0, nf1, nf2, nf3, nf4]
  refine wpList_nil ?_
  show Code.wp _ _ _ _ _
  refine wp_ret ?_
  first | show bodyPost _ _ _ _ _ _ | (simp only [Exit.then, Exit.inBlock]; show bodyPost _ _ _ _ _ _)
  exact bodyPost_ret (results_tmp rfl _ _ _) rfl ⟨rfl, bel⟩
set_option maxRecDepth 100000 in
set_option maxHeartbeats 4000000 in
theorem refSPrint_calls (p : TEnt) (hp : okEnt p) (w : World) : Calls Tryd.prog 8 #[.agg (eEnt.enc p).toArray] w fun e w' => e = .returned (.string (str (prS p))) ∧ Below w.heap.size w w' := by
  have bel : Below w.heap.size w w := Below.refl _ _
  have hs3 := (shS_ok p.1).1
  have h0 := nmS_len p.1
  have h1 := tdecI_len hp.2.1
  have h2 := tdecI_len hp.2.2.1
  have h3 := tdecI_len hp.2.2.2.1
  have h4 := dec_len_ent hp 68
  change (tdecI p.2.2.2.2).length ≤ 20 at h4
  have hpi := prI_len hp
  go_enter Tryd.func8, Tryd.ntmps8
  refine wp_seq ?_
  refine wp_region_lit ?_
  refine st_new (cs := #[.int .i64 p.1, .int .i64 p.2.1, .int .i64 p.2.2.1, .int .i64 p.2.2.2.1, .int .u64 p.2.2.2.2]) (t := 24) (by rfl) (run_boxV (.tmp 0) rfl (v := (.agg #[.int .i64 p.1, .int .i64 p.2.1, .int .i64 p.2.2.1, .int .i64 p.2.2.2.1, .int .u64 p.2.2.2.2])) rfl rfl _) ?_
  intro g1 w2 B3 hb4 lo5
  simp only [nf0, nf1, nf2, nf3, nf4]
  replace lo5 := low_le bel lo5
  replace bel := bl_step bel hb4
  clear hb4
  refine st_mv (.string (str [])) ?_
  simp only [nf0, nf1, nf2, nf3, nf4]
  refine wpList_nil ?_
  show Code.wp _ _ _ _ _
  refine wp_seq ?_
  refine wp_region_lit ?_
  refine st_value (v := (.pointer (some ⟨g1, 0, none⟩))) (by rfl) (run_fieldA (.tmp 1) rfl d_fld_24_0 rfl rfl w2) ?_
  simp only [nf0, nf1, nf2, nf3, nf4]
  refine st_value (v := (.int .i64 p.1)) (by rfl) (run_loadB (.tmp 6) rfl d_one_3 rfl B3 rfl) ?_
  simp only [nf0, nf1, nf2, nf3, nf4]
  refine st_call1 (v := (.string (str (nmS p.1)))) (by rfl) (d_run_call_10_1 (.tmp 7) rfl rfl _) (refSName_calls p.1 w2) ?_
  intro w6 hb7
  simp only [nf0, nf1, nf2, nf3, nf4]
  replace B3 := B3.below hb7
  replace bel := bl_step bel hb7
  clear hb7
  refine st_mv (.string (str (nmS p.1))) ?_
  simp only [nf0, nf1, nf2, nf3, nf4]
  refine wpList_nil ?_
  show Code.wp _ _ _ _ _
  refine wp_seq ?_
  refine wp_region_lit ?_
  refine st_value (v := (.pointer (some ⟨g1, 0, none⟩))) (by rfl) (run_fieldA (.tmp 1) rfl d_fld_24_0 rfl rfl w6) ?_
  simp only [nf0, nf1, nf2, nf3, nf4]
  refine st_value (v := (.int .i64 p.1)) (by rfl) (run_loadB (.tmp 9) rfl d_one_3 rfl B3 rfl) ?_
  simp only [nf0, nf1, nf2, nf3, nf4]
  refine st_call1 (v := (.string (str (shS p.1)))) (by rfl) (d_run_call_13_1 (.tmp 10) rfl rfl _) (sshape_calls p.1 w6) ?_
  intro w8 hb9
  simp only [nf0, nf1, nf2, nf3, nf4]
  replace B3 := B3.below hb9
  replace bel := bl_step bel hb9
  clear hb9
  refine st_mv (.string (str (shS p.1))) ?_
  simp only [nf0, nf1, nf2, nf3, nf4]
  refine wpList_nil ?_
  show Code.wp _ _ _ _ _
  refine wp_seq ?_
  refine wp_seq ?_
  refine wp_region_lit ?_
  refine st_mv (.int .i64 0) ?_
  simp only [nf0, nf1, nf2, nf3, nf4]
  refine wpList_nil ?_
  show Code.wp _ _ _ _ _
  refine wp_block ?_
  refine wp_loop_left (fun n_ a_ wr_ => (fun J10 => ∃ (i : Nat), n_ = (shS p.1).length - i ∧ a_ = ⟨#[J10 0, .pointer (some ⟨g1, 0, none⟩), .string (str []), .string (str (prI_ p i)), .string (str (shS p.1)), .int .i64 (i : Int), J10 6, J10 7, J10 8, J10 9, J10 10, J10 11, J10 12, J10 13, J10 14, J10 15, J10 16, J10 17, J10 18, J10 19, J10 20, J10 21, J10 22, J10 23, J10 24, J10 25, J10 26, J10 27, J10 28, J10 29, J10 30, J10 31, J10 32, J10 33, J10 34, J10 35, J10 36, J10 37, J10 38, J10 39, J10 40, J10 41, J10 42, J10 43, J10 44, J10 45, J10 46, J10 47, J10 48, J10 49, J10 50, J10 51], []⟩ ∧ Blk wr_ g1 #[.int .i64 p.1, .int .i64 p.2.1, .int .i64 p.2.2.1, .int .i64 p.2.2.2.1, .int .u64 p.2.2.2.2] 24 ∧ Below w.heap.size w wr_ ∧ (i ≤ (shS p.1).length)) (jk a_)) ((shS p.1).length - 0) ⟨0, rfl, (by rw [prI_start]; rfl), B3, bel, (Nat.zero_le _)⟩ ?_
  clear B3
  clear bel
  intro n_ a_ w11 h_
  revert h_
  generalize jk a_ = J10
  rintro ⟨i, hms, rfl, B3, bel, hi⟩
  have hpl_ := hpi i
  refine wp_seq ?_
  refine wp_seq ?_
  refine wp_region_lit ?_
  refine st_mv (.int .i64 (i : Int)) ?_
  simp only [nf0, nf1, nf2, nf3, nf4]
  refine st_mv (.string (str (shS p.1))) ?_
  simp only [nf0, nf1, nf2, nf3, nf4]
  refine st_value (v := (.int .i64 ((shS p.1).length : Int))) (by rfl) (run_len_text (.tmp 13) rfl Tryd.underlying9 (l := (shS p.1)) rfl w11) ?_
  simp only [nf0, nf1, nf2, nf3, nf4]
  refine st_value (v := (.bool (decide ((i : Int) < ((shS p.1).length : Int))))) (by rfl) (run_lss (.tmp 12) (.tmp 14) rfl rfl rfl w11) ?_
  simp only [nf0, nf1, nf2, nf3, nf4]
  refine wpList_nil ?_
  show Code.wp _ _ _ _ _
  cases hg12 : decide ((i : Int) < ((shS p.1).length : Int))
  · have hp13 := of_decide_eq_false hg12
    refine wp_cond_false rfl ?_
    refine wp_exit ?_
    show Code.wp _ _ _ _ _
    refine wp_seq ?_
    obtain rfl : i = (shS p.1).length := by omega
    rw [prI_end]
    refine wp_region_lit ?_
    refine st_mv (.string (str (prS p))) ?_
    simp only [nf0, nf1, nf2, nf3, nf4]
    refine st_mv (.string (str (prS p))) ?_
    simp only [nf0, nf1, nf2, nf3, nf4]
    refine wpList_nil ?_
    show Code.wp _ _ _ _ _
    refine wp_ret ?_
    first | show bodyPost _ _ _ _ _ _ | (simp only [Exit.then, Exit.inBlock]; show bodyPost _ _ _ _ _ _)
    exact bodyPost_ret (results_tmp rfl _ _ _) rfl ⟨rfl, bel⟩
  have hp14 := of_decide_eq_true hg12
  refine wp_cond_true rfl ?_
  refine wp_skip ?_
  show Code.wp _ _ _ _ _
  refine wp_seq ?_
  refine wp_block ?_
  refine wp_seq ?_
  refine wp_region_lit ?_
  refine st_mv (.string (str (shS p.1))) ?_
  simp only [nf0, nf1, nf2, nf3, nf4]
  refine st_mv (.int .i64 (i : Int)) ?_
  simp only [nf0, nf1, nf2, nf3, nf4]
  refine st_value (v := (.int .u8 (chr (shS p.1) i))) (by rfl) (run_index_text (.tmp 18) (.tmp 19) rfl Tryd.underlying9 (l := (shS p.1)) rfl rfl i (by omega) (by omega) w11) ?_
  simp only [nf0, nf1, nf2, nf3, nf4]
  refine wpList_nil ?_
  show Code.wp _ _ _ _ _
  refine wp_block ?_
  refine wp_seq ?_
  refine wp_region_lit ?_
  refine st_value (v := (.bool (decide ((chr (shS p.1) i) = 65)))) (by rfl) (run_eql_int (.tmp 20) (.const (.int .u8 65)) rfl rfl rfl w11) ?_
  simp only [nf0, nf1, nf2, nf3, nf4]
  refine st_mv (.bool (decide ((chr (shS p.1) i) = 65))) ?_
  simp only [nf0, nf1, nf2, nf3, nf4]
  refine wpList_nil ?_
  show Code.wp _ _ _ _ _
  cases hg15 : decide ((chr (shS p.1) i) = 65)
  rotate_left
  · have hp29 := of_decide_eq_true hg15
    refine wp_cond_true rfl ?_
    refine wp_region_lit ?_
    refine st_mv (.string (str (prI_ p i))) ?_
    simp only [nf0, nf1, nf2, nf3, nf4]
    refine st_value (v := (.pointer (some ⟨g1, 1, none⟩))) (by rfl) (run_fieldA (.tmp 1) rfl d_fld_24_1 rfl rfl w11) ?_
    simp only [nf0, nf1, nf2, nf3, nf4]
    refine st_value (v := (.int .i64 p.2.1)) (by rfl) (run_loadB (.tmp 30) rfl d_one_3 rfl B3 rfl) ?_
    simp only [nf0, nf1, nf2, nf3, nf4]
    refine st_call1 (v := (.string (str (tdecI p.2.1)))) (by rfl) (d_run_call_18_1 (.tmp 31) rfl rfl _) (refDec_calls (n := p.2.1) hp.2.1 w11) ?_
    intro w30 hb31
    simp only [nf0, nf1, nf2, nf3, nf4]
    replace B3 := B3.below hb31
    replace bel := bl_step bel hb31
    clear hb31
    refine st_value (v := (.string (str ([32] ++ (tdecI p.2.1))))) (by rfl) (run_add_text (.const (.string ⟨#[32]⟩)) (.tmp 32) (l := [32]) (m := (tdecI p.2.1)) rfl rfl rfl (by (try simp only [List.length_append, List.length_cons, List.length_nil]); omega) w30) ?_
    simp only [nf0, nf1, nf2, nf3, nf4]
    refine st_value (v := (.string (str ((prI_ p i) ++ ([32] ++ (tdecI p.2.1)))))) (by rfl) (run_add_text (.tmp 29) (.tmp 33) (l := (prI_ p i)) (m := ([32] ++ (tdecI p.2.1))) rfl rfl rfl (by (try simp only [List.length_append, List.length_cons, List.length_nil]); omega) w30) ?_
    simp only [nf0, nf1, nf2, nf3, nf4]
    refine st_mv (.string (str ((prI_ p i) ++ ([32] ++ (tdecI p.2.1))))) ?_
    simp only [nf0, nf1, nf2, nf3, nf4]
    refine wpList_nil ?_
    show Code.wp _ _ _ _ _
    refine wp_region_lit ?_
    refine st_mv (.int .i64 (i : Int)) ?_
    simp only [nf0, nf1, nf2, nf3, nf4]
    refine st_value (v := (.int .i64 ((i : Int) + 1))) (by rfl) (run_add_in (.tmp 16) (.const (.int .i64 1)) rfl rfl rfl (by omega) w30) ?_
    simp only [nf0, nf1, nf2, nf3, nf4]
    refine st_mv (.int .i64 ((i : Int) + 1)) ?_
    simp only [nf0, nf1, nf2, nf3, nf4]
    refine wpList_nil ?_
    show ∃ m, m < _ ∧ _
    exact ⟨_, (by omega), (i + 1), rfl, (by rw [prI_next (by omega : i < (shS p.1).length) (shS_chr (by omega) (c := 65) (by assumption))]; rfl), B3, bel, (by omega)⟩
  have hp16 := of_decide_eq_false hg15
  refine wp_cond_false rfl ?_
  refine wp_seq ?_
  refine wp_region_lit ?_
  refine st_value (v := (.bool (decide ((chr (shS p.1) i) = 66)))) (by rfl) (run_eql_int (.tmp 20) (.const (.int .u8 66)) rfl rfl rfl w11) ?_
  simp only [nf0, nf1, nf2, nf3, nf4]
  refine st_mv (.bool (decide ((chr (shS p.1) i) = 66))) ?_
  simp only [nf0, nf1, nf2, nf3, nf4]
  refine wpList_nil ?_
  show Code.wp _ _ _ _ _
  cases hg17 : decide ((chr (shS p.1) i) = 66)
  rotate_left
  · have hp26 := of_decide_eq_true hg17
    refine wp_cond_true rfl ?_
    refine wp_region_lit ?_
    refine st_mv (.string (str (prI_ p i))) ?_
    simp only [nf0, nf1, nf2, nf3, nf4]
    refine st_value (v := (.pointer (some ⟨g1, 2, none⟩))) (by rfl) (run_fieldA (.tmp 1) rfl d_fld_24_2 rfl rfl w11) ?_
    simp only [nf0, nf1, nf2, nf3, nf4]
    refine st_value (v := (.int .i64 p.2.2.1)) (by rfl) (run_loadB (.tmp 38) rfl d_one_3 rfl B3 rfl) ?_
    simp only [nf0, nf1, nf2, nf3, nf4]
    refine st_call1 (v := (.string (str (tdecI p.2.2.1)))) (by rfl) (d_run_call_18_1 (.tmp 39) rfl rfl _) (refDec_calls (n := p.2.2.1) hp.2.2.1 w11) ?_
    intro w27 hb28
    simp only [nf0, nf1, nf2, nf3, nf4]
    replace B3 := B3.below hb28
    replace bel := bl_step bel hb28
    clear hb28
    refine st_value (v := (.string (str ([32] ++ (tdecI p.2.2.1))))) (by rfl) (run_add_text (.const (.string ⟨#[32]⟩)) (.tmp 40) (l := [32]) (m := (tdecI p.2.2.1)) rfl rfl rfl (by (try simp only [List.length_append, List.length_cons, List.length_nil]); omega) w27) ?_
    simp only [nf0, nf1, nf2, nf3, nf4]
    refine st_value (v := (.string (str ((prI_ p i) ++ ([32] ++ (tdecI p.2.2.1)))))) (by rfl) (run_add_text (.tmp 37) (.tmp 41) (l := (prI_ p i)) (m := ([32] ++ (tdecI p.2.2.1))) rfl rfl rfl (by (try simp only [List.length_append, List.length_cons, List.length_nil]); omega) w27) ?_
    simp only [nf0, nf1, nf2, nf3, nf4]
    refine st_mv (.string (str ((prI_ p i) ++ ([32] ++ (tdecI p.2.2.1))))) ?_
    simp only [nf0, nf1, nf2, nf3, nf4]
    refine wpList_nil ?_
    show Code.wp _ _ _ _ _
    refine wp_region_lit ?_
    refine st_mv (.int .i64 (i : Int)) ?_
    simp only [nf0, nf1, nf2, nf3, nf4]
    refine st_value (v := (.int .i64 ((i : Int) + 1))) (by rfl) (run_add_in (.tmp 16) (.const (.int .i64 1)) rfl rfl rfl (by omega) w27) ?_
    simp only [nf0, nf1, nf2, nf3, nf4]
    refine st_mv (.int .i64 ((i : Int) + 1)) ?_
    simp only [nf0, nf1, nf2, nf3, nf4]
    refine wpList_nil ?_
    show ∃ m, m < _ ∧ _
    exact ⟨_, (by omega), (i + 1), rfl, (by rw [prI_next (by omega : i < (shS p.1).length) (shS_chr (by omega) (c := 66) (by assumption))]; rfl), B3, bel, (by omega)⟩
  have hp18 := of_decide_eq_false hg17
  refine wp_cond_false rfl ?_
  refine wp_seq ?_
  refine wp_region_lit ?_
  refine st_value (v := (.bool (decide ((chr (shS p.1) i) = 67)))) (by rfl) (run_eql_int (.tmp 20) (.const (.int .u8 67)) rfl rfl rfl w11) ?_
  simp only [nf0, nf1, nf2, nf3, nf4]
  refine st_mv (.bool (decide ((chr (shS p.1) i) = 67))) ?_
  simp only [nf0, nf1, nf2, nf3, nf4]
  refine wpList_nil ?_
  show Code.wp _ _ _ _ _
  cases hg19 : decide ((chr (shS p.1) i) = 67)
  · have hp20 := of_decide_eq_false hg19
    refine wp_cond_false rfl ?_
    refine wp_region_lit ?_
    refine st_mv (.string (str (prI_ p i))) ?_
    simp only [nf0, nf1, nf2, nf3, nf4]
    refine st_value (v := (.pointer (some ⟨g1, 4, none⟩))) (by rfl) (run_fieldA (.tmp 1) rfl d_fld_24_4 rfl rfl w11) ?_
    simp only [nf0, nf1, nf2, nf3, nf4]
    refine st_value (v := (.int .u64 p.2.2.2.2)) (by rfl) (run_loadB (.tmp 22) rfl d_one_22 rfl B3 rfl) ?_
    simp only [nf0, nf1, nf2, nf3, nf4]
    refine st_call1 (v := (.string (str (tdecI p.2.2.2.2)))) (by rfl) (d_run_call_19_1 (.tmp 23) rfl rfl _) (draw_calls p.2.2.2.2 hp.2.2.2.2 w11) ?_
    intro w21 hb22
    simp only [nf0, nf1, nf2, nf3, nf4]
    replace B3 := B3.below hb22
    replace bel := bl_step bel hb22
    clear hb22
    refine st_value (v := (.string (str ([32] ++ (tdecI p.2.2.2.2))))) (by rfl) (run_add_text (.const (.string ⟨#[32]⟩)) (.tmp 24) (l := [32]) (m := (tdecI p.2.2.2.2)) rfl rfl rfl (by (try simp only [List.length_append, List.length_cons, List.length_nil]); omega) w21) ?_
    simp only [nf0, nf1, nf2, nf3, nf4]
    refine st_value (v := (.string (str ((prI_ p i) ++ ([32] ++ (tdecI p.2.2.2.2)))))) (by rfl) (run_add_text (.tmp 21) (.tmp 25) (l := (prI_ p i)) (m := ([32] ++ (tdecI p.2.2.2.2))) rfl rfl rfl (by (try simp only [List.length_append, List.length_cons, List.length_nil]); omega) w21) ?_
    simp only [nf0, nf1, nf2, nf3, nf4]
    refine st_mv (.string (str ((prI_ p i) ++ ([32] ++ (tdecI p.2.2.2.2))))) ?_
    simp only [nf0, nf1, nf2, nf3, nf4]
    refine wpList_nil ?_
    show Code.wp _ _ _ _ _
    refine wp_region_lit ?_
    refine st_mv (.int .i64 (i : Int)) ?_
    simp only [nf0, nf1, nf2, nf3, nf4]
    refine st_value (v := (.int .i64 ((i : Int) + 1))) (by rfl) (run_add_in (.tmp 16) (.const (.int .i64 1)) rfl rfl rfl (by omega) w21) ?_
    simp only [nf0, nf1, nf2, nf3, nf4]
    refine st_mv (.int .i64 ((i : Int) + 1)) ?_
    simp only [nf0, nf1, nf2, nf3, nf4]
    refine wpList_nil ?_
    show ∃ m, m < _ ∧ _
    exact ⟨_, (by omega), (i + 1), rfl, (by rw [prI_next (by omega : i < (shS p.1).length) (shS_else (by omega) (by assumption) (by assumption) (by assumption))]; rfl), B3, bel, (by omega)⟩
  have hp23 := of_decide_eq_true hg19
  refine wp_cond_true rfl ?_
  refine wp_region_lit ?_
  refine st_mv (.string (str (prI_ p i))) ?_
  simp only [nf0, nf1, nf2, nf3, nf4]
  refine st_value (v := (.pointer (some ⟨g1, 3, none⟩))) (by rfl) (run_fieldA (.tmp 1) rfl d_fld_24_3 rfl rfl w11) ?_
  simp only [nf0, nf1, nf2, nf3, nf4]
  refine st_value (v := (.int .i64 p.2.2.2.1)) (by rfl) (run_loadB (.tmp 46) rfl d_one_3 rfl B3 rfl) ?_
  simp only [nf0, nf1, nf2, nf3, nf4]
  refine st_call1 (v := (.string (str (tdecI p.2.2.2.1)))) (by rfl) (d_run_call_18_1 (.tmp 47) rfl rfl _) (refDec_calls (n := p.2.2.2.1) hp.2.2.2.1 w11) ?_
  intro w24 hb25
  simp only [nf0, nf1, nf2, nf3, nf4]
  replace B3 := B3.below hb25
  replace bel := bl_step bel hb25
  clear hb25
  refine st_value (v := (.string (str ([32] ++ (tdecI p.2.2.2.1))))) (by rfl) (run_add_text (.const (.string ⟨#[32]⟩)) (.tmp 48) (l := [32]) (m := (tdecI p.2.2.2.1)) rfl rfl rfl (by (try simp only [List.length_append, List.length_cons, List.length_nil]); omega) w24) ?_
  simp only [nf0, nf1, nf2, nf3, nf4]
  refine st_value (v := (.string (str ((prI_ p i) ++ ([32] ++ (tdecI p.2.2.2.1)))))) (by rfl) (run_add_text (.tmp 45) (.tmp 49) (l := (prI_ p i)) (m := ([32] ++ (tdecI p.2.2.2.1))) rfl rfl rfl (by (try simp only [List.length_append, List.length_cons, List.length_nil]); omega) w24) ?_
  simp only [nf0, nf1, nf2, nf3, nf4]
  refine st_mv (.string (str ((prI_ p i) ++ ([32] ++ (tdecI p.2.2.2.1))))) ?_
  simp only [nf0, nf1, nf2, nf3, nf4]
  refine wpList_nil ?_
  show Code.wp _ _ _ _ _
  refine wp_region_lit ?_
  refine st_mv (.int .i64 (i : Int)) ?_
  simp only [nf0, nf1, nf2, nf3, nf4]
  refine st_value (v := (.int .i64 ((i : Int) + 1))) (by rfl) (run_add_in (.tmp 16) (.const (.int .i64 1)) rfl rfl rfl (by omega) w24) ?_
  simp only [nf0, nf1, nf2, nf3, nf4]
  refine st_mv (.int .i64 ((i : Int) + 1)) ?_
  simp only [nf0, nf1, nf2, nf3, nf4]
  refine wpList_nil ?_
  show ∃ m, m < _ ∧ _
  exact ⟨_, (by omega), (i + 1), rfl, (by rw [prI_next (by omega : i < (shS p.1).length) (shS_chr (by omega) (c := 67) (by assumption))]; rfl), B3, bel, (by omega)⟩
end Go.Proofs.YtackcmlkicjlnaaDoor

/- Rows of numbers of any kind that are written in place (as Mem's ints). -/
namespace Go.Proofs.YtackcmlkicjlnaaDoor
open Go.RowKit Go.WideShapes Go.ChangeShapes

@[irreducible] def irow (k : IntKind) (l : List Int) : Array Value := (l.map (Value.int k)).toArray
theorem irow_size (k : IntKind) (l : List Int) : (irow k l).size = l.length := by unfold irow; simp
theorem irow_get {k : IntKind} (l : List Int) (i : Nat) (h : i < l.length) : (irow k l)[i]? = some (.int k (nth l i)) := by unfold irow nth; simp [h]
theorem irow_set {k : IntKind} (l : List Int) (i : Nat) (x : Int) : (irow k l).setIfInBounds i (.int k x) = irow k (l.set i x) := by unfold irow; simp [List.map_set]
theorem irow_lt {k : IntKind} {l : List Int} {i : Nat} (h : i < l.length) : i < (irow k l).size := by rw [irow_size]; exact h
theorem run_makeRow {P : Program} {o : Oper} {a : Act} {t e : TypeId} {k : IntKind} {bytes : Nat} (x : Operand) (ho : o.op = .makeSlice t x x) (ht : P.underlying t = some (.slice e)) (hi : (P.info? e).map (fun i => (i.zero, i.size, i.bytes)) = some (some (.int k 0), 1, bytes)) {X : Int} {N : Nat} (hx : a.eval x = .int .i64 X) (hX : X = (N : Int)) (hN : N ≤ 16777216) (hb : bytes ≤ 8) (hb0 : 0 < bytes) (W : World) :
    (execOp a.eval o).run P W = .ok (.value (.slice (some ⟨W.heap.size, 0, none⟩) N N)) (W.alloc (.cells (irow k (List.replicate N 0)) e)) := by
  subst hX
  obtain ⟨i, h1, h2, h3, h4⟩ := info_parts hi
  have hle : N * bytes ≤ 16777216 * 8 := Nat.mul_le_mul hN hb
  have hr := run_makeSlice (P := P) W t e i (.int k 0) ht h1 h2 .i64 .i64 (N : Int) (N : Int) (by omega) (Int.le_refl _) (by rw [h3]; omega) (by rw [h4, ← Int.natCast_mul, Nat.mul_comm]; omega) (by omega)
  have hm : madeCells (Value.int k 0).cells (((N : Int)).toNat * i.size) = irow k (List.replicate N 0) := by
    rw [h3]
    unfold irow
    apply Array.ext'
    simp [madeCells, Value.cells, Nat.mod_one, List.map_const']
  rw [hm] at hr
  unfold execOp; simp only [ho, hx, Sem.run_bind, hr]
  simp
/-- A row of bytes, read as a text's. -/
theorem irow_bytes {w : World} {g : Nat} {e : TypeId} {xs : List UInt8} (h : Blk w g (irow .u8 (xs.map fun c => (c.toNat : Int))) e) : Reads w (some ⟨g, 0, none⟩) (eByte.all xs) := by
  intro j u hj
  rw [eByte_all] at hj
  refine ⟨g, 0, rfl, ?_⟩
  rw [Nat.zero_add, h.cell]
  rw [List.getElem?_map] at hj
  cases hx : xs[j]? with
  | none => rw [hx] at hj; cases hj
  | some c =>
    rw [hx] at hj
    injection hj with hj
    subst hj
    unfold irow
    simp [hx]
end Go.Proofs.YtackcmlkicjlnaaDoor

/- The law of a region that draws its order (Facts2), where what holds of a world may hang on what has been done; values only. -/
namespace Go.Proofs.YtackcmlkicjlnaaDoor
open Go.RowKit
/-- One more. -/
def adds (i : Nat) (I : Nat → Prop) : Nat → Prop := fun j => j = i ∨ I j
section
variable {P : Program} {ops : Array Oper} {N0 : Nat}
def opok8 (P : Program) (ops : Array Oper) (C : World → Prop) (N0 : Nat) (o : Oper) (f : Fct) (a : Act) (w : World) : Prop :=
  if Region.wanted o (yielded ops a.tmps) then
    match f with
    | .val c =>
      match (execOp a.eval o).run P w with
      | .ok (.value v) w' => v = c ∧ C w'
      | .ok .skip w' => undef = c ∧ C w'
      | .ok (.enter g args) w' => Calls P g args w' fun e w'' => e = .returned c ∧ C w''
      | _ => False
    | _ => False
  else f.holds N0 undef w ∧ C w
theorem opok8_congr {C : World → Prop} {o : Oper} {f : Fct} {a b : Act} {w : World} (h1 : execOp a.eval o = execOp b.eval o) (h2 : Region.wanted o (yielded ops a.tmps) = Region.wanted o (yielded ops b.tmps)) (h : opok8 P ops C N0 o f a w) : opok8 P ops C N0 o f b w := by
  unfold opok8 at *
  rw [h1, h2] at h
  exact h
theorem ok8_value {C : World → Prop} {o : Oper} {a : Act} {w w' : World} {v c : Value} (hw : Region.wanted o (yielded ops a.tmps) = true) (h : (execOp a.eval o).run P w = .ok (.value v) w') (hf : v = c) (hC : C w') : opok8 P ops C N0 o (.val c) a w := by
  unfold opok8; rw [if_pos hw]; simp only; rw [h]; exact ⟨hf, hC⟩
theorem ok8_skip {C : World → Prop} {o : Oper} {a : Act} {w w' : World} (hw : Region.wanted o (yielded ops a.tmps) = true) (h : (execOp a.eval o).run P w = .ok .skip w') (hC : C w') : opok8 P ops C N0 o (.val undef) a w := by
  unfold opok8; rw [if_pos hw]; simp only; rw [h]; exact ⟨by first | rfl | trivial, hC⟩
theorem ok8_call {C : World → Prop} {o : Oper} {a : Act} {w w' : World} {c : Value} {g : FuncId} {args : Array Value} (hw : Region.wanted o (yielded ops a.tmps) = true) (h : (execOp a.eval o).run P w = .ok (.enter g args) w') (hc : Calls P g args w' fun e w'' => e = .returned c ∧ C w'') : opok8 P ops C N0 o (.val c) a w := by
  unfold opok8; rw [if_pos hw]; simp only; rw [h]; exact hc
theorem ok8_not {C : World → Prop} {o : Oper} {a : Act} {w : World} (hw : Region.wanted o (yielded ops a.tmps) = false) (hC : C w) : opok8 P ops C N0 o (.val undef) a w := by
  unfold opok8; rw [if_neg (by simp [hw])]; exact ⟨rfl, hC⟩
theorem wpOp_of_opok8 {C : World → Prop} {Q : Exit → Act → World → Prop} {K : Act → World → Prop} {i : Nat} {o : Oper} {f : Fct} {a : Act} {w : World} (hi : ops[i]? = some o) (hN : N0 ≤ w.heap.size) (h : opok8 P ops C N0 o f a w)
    (hK : ∀ v w', f.holds N0 v w' → C w' → K (a.put o.dst v) w') : wpOp P ops Q i K a w := by
  unfold wpOp opok8 at *
  simp only [hi]
  by_cases hw : Region.wanted o (yielded ops a.tmps) = true
  · simp only [hw, if_true] at h ⊢
    refine .inl ?_
    unfold Oper.wp
    cases f with
    | new cs t => exact h.elim
    | ex p hp => exact h.elim
    | val c =>
      simp only at h
      generalize (execOp a.eval o).run P w = r at *
      cases r with
      | ok n w' =>
        cases n <;> simp only [Oper.upon] at h ⊢
        case value v => exact hK _ _ h.1 h.2
        case skip => exact hK _ _ h.1 h.2
        case enter g args =>
          refine h.mono fun e w'' ⟨he, h2⟩ => ?_
          subst he
          exact hK _ _ rfl h2
      | halt x w' => exact h.elim
  · simp only [hw, Bool.false_eq_true, if_false] at h ⊢
    exact hK _ _ h.1 h.2
theorem listed_adds {listed : Array Bool} {i : Nat} (h : i < listed.size) : adds (0 + i) (fun j => listed.getD j false = true) = fun j => (listed.setIfInBounds i true).getD j false = true := by
  funext j
  apply propext
  unfold adds
  rw [Nat.zero_add]
  by_cases hj : j = i
  · subst hj; simp [h]
  · rw [getD_set_ne false (Ne.symm hj)]; simp [hj]
variable {C : (Nat → Prop) → World → Prop}
def fst8 (P : Program) (ops : Array Oper) (C : (Nat → Prop) → World → Prop) (N0 : Nat) (Q : Act → World → Prop) : Nat → List Oper → List Fct → Act → List (Nat × (World → Prop)) → List Nat → Prop
  | i, o :: os, f :: fs, a, hs, gs => (∀ I w, C I w → ¬ I i → (∀ p ∈ predsOf o, I p) → (∀ p ∈ hs, p.1 ∈ predsOf o → p.2 w) → opok8 P ops (C (adds i I)) N0 o f a w) ∧
    match f with
    | .val c => fst8 P ops C N0 Q (i + 1) os fs (a.put o.dst c) hs gs
    | .ex p _ => ∀ v, fst8 P ops C N0 Q (i + 1) os fs (a.put o.dst v) ((i, p v) :: hs) gs
    | .new cs t => ∀ g, N0 ≤ g → fst8 P ops C N0 Q (i + 1) os fs (a.put o.dst (.pointer (some ⟨g, 0, none⟩))) ((i, fun w => Blk w g cs t) :: hs) (g :: gs)
  | m, [], [], a, hs, gs => ∀ I w, (∀ j, j < m → I j) → C I w → (∀ p ∈ hs, p.2 w) → gs.Nodup → Q a w
  | _, _, _, _, _, _ => False
theorem fst8_use {Q : Act → World → Prop} {fs0 : List Fct} {vs : Nat → Value} (hv : Agr N0 fs0 vs) : ∀ (os : List Oper) (k : Nat) (fs : List Fct) (a : Act) (hs : List (Nat × (World → Prop))) (gs : List Nat),
    (∀ j, fs[j]? = fs0[k + j]?) →
    (∀ p ∈ hs, ∀ w, (∀ (f : Fct), fs0[p.1]? = some f → f.holds N0 (vs p.1) w) → p.2 w) →
    (∀ (I : Nat → Prop), Dist fs0 vs I → (∀ i, i < k → I i) → gs.Nodup) → (∀ g ∈ gs, ∃ i f, i < k ∧ fs0[i]? = some f ∧ f.isNew = true ∧ vs i = .pointer (some ⟨g, 0, none⟩)) →
    fst8 P ops C N0 Q k os fs a hs gs →
    (∀ j o, os[j]? = some o → ∃ f, fs0[k + j]? = some f ∧ ∀ I w, C I w → ¬ I (k + j) → (∀ p ∈ predsOf o, I p) → Hold N0 fs0 vs (fun i => i ∈ predsOf o) w → opok8 P ops (C (adds (k + j) I)) N0 o f (putsFrom vs k (os.take j) a) w) ∧
    (∀ I w, (∀ j, j < k + os.length → I j) → C I w → Hold N0 fs0 vs (fun _ => True) w → Dist fs0 vs (fun _ => True) → Q (putsFrom vs k os a) w) ∧ fs.length = os.length
  | [], k, [], a, hs, gs, _, hh, hg, _, h => by
    refine ⟨fun j o hj => by simp at hj, fun I w hI hC hq hd => ?_, rfl⟩
    exact h I w (by simpa using hI) hC (fun p hp => hh p hp w fun f hf => hq _ f hf trivial) (hg _ hd fun _ _ => trivial)
  | [], k, f :: fs, a, hs, gs, _, hh, _, _, h => h.elim
  | o :: os, k, [], a, hs, gs, _, hh, _, _, h => h.elim
  | o :: os, k, f :: fs, a, hs, gs, hf, hh, hg, hg2, h => by
    have hk : fs0[k]? = some f := by have := hf 0; simpa using this.symm
    have hf' : ∀ j, fs[j]? = fs0[k + 1 + j]? := fun j => by
      have := hf (j + 1)
      rw [show k + 1 + j = k + (j + 1) from by omega]
      simpa using this
    have hg2' : ∀ g ∈ gs, ∃ i f, i < k + 1 ∧ fs0[i]? = some f ∧ f.isNew = true ∧ vs i = .pointer (some ⟨g, 0, none⟩) := fun g hgm => by
      obtain ⟨i, f, h1, h2⟩ := hg2 g hgm
      exact ⟨i, f, by omega, h2⟩
    have hg' : ∀ (I : Nat → Prop), Dist fs0 vs I → (∀ i, i < k + 1 → I i) → gs.Nodup := fun I hd hi => hg I hd fun i h => hi i (by omega)
    have key : ∃ hs' gs', (∀ p ∈ hs', ∀ w, (∀ (f : Fct), fs0[p.1]? = some f → f.holds N0 (vs p.1) w) → p.2 w) ∧ (∀ (I : Nat → Prop), Dist fs0 vs I → (∀ i, i < k + 1 → I i) → gs'.Nodup) ∧
        (∀ g ∈ gs', ∃ i f, i < k + 1 ∧ fs0[i]? = some f ∧ f.isNew = true ∧ vs i = .pointer (some ⟨g, 0, none⟩)) ∧ fst8 P ops C N0 Q (k + 1) os fs (a.put o.dst (vs k)) hs' gs' := by
      have ha := hv k f hk
      cases f with
      | val c => simp only at ha; rw [ha]; exact ⟨hs, gs, hh, hg', hg2', h.2⟩
      | ex p hp =>
        refine ⟨(k, p (vs k)) :: hs, gs, ?_, hg', hg2', h.2 (vs k)⟩
        intro x hx w hw
        rcases List.mem_cons.1 hx with rfl | hx
        · exact hw _ hk
        · exact hh x hx w hw
      | new cs t =>
        obtain ⟨g, e, hN⟩ := ha
        have h2 := h.2 g hN
        rw [← e] at h2
        refine ⟨(k, fun w => Blk w g cs t) :: hs, g :: gs, ?_, ?_, ?_, h2⟩
        · intro x hx w hw
          rcases List.mem_cons.1 hx with rfl | hx
          · obtain ⟨g', e', _, hb⟩ := hw _ hk
            rw [e] at e'
            injection e' with e'
            injection e' with e'
            injection e' with e'
            subst e'
            exact hb
          · exact hh x hx w hw
        · intro I hd hi
          refine List.nodup_cons.2 ⟨fun hin => ?_, hg' I hd hi⟩
          obtain ⟨i, f, h1, h2, h3, h4⟩ := hg2 g hin
          exact hd i k f _ h2 hk h3 rfl (hi i (by omega)) (hi k (by omega)) (by omega) (h4.trans e.symm)
        · intro x hx
          rcases List.mem_cons.1 hx with rfl | hx
          · exact ⟨k, _, by omega, hk, rfl, e⟩
          · exact hg2' x hx
    obtain ⟨hs', gs', hh', hg'', hg3, h'⟩ := key
    obtain ⟨r1, r2, r3⟩ := fst8_use hv os (k + 1) fs _ hs' gs' hf' hh' hg'' hg3 h'
    refine ⟨fun j oj hj => ?_, fun I w hI => r2 I w (fun j hj => hI j (by simp only [List.length_cons]; omega)), by simp [r3]⟩
    cases j with
    | zero =>
      simp only [List.getElem?_cons_zero, Option.some.injEq] at hj
      subst hj
      refine ⟨f, by simpa using hk, fun I w hC hn hpr hq => h.1 I w hC hn hpr fun p hp hin => hh p hp w fun f' hf' => hq _ f' hf' hin⟩
    | succ j =>
      obtain ⟨f', h1, h2⟩ := r1 j oj (by simpa using hj)
      rw [show k + 1 + j = k + (j + 1) from by omega] at h1 h2
      exact ⟨f', h1, h2⟩

structure FI8 (ops : Array Oper) (C : (Nat → Prop) → World → Prop) (N0 : Nat) (fs0 : List Fct) (m : Nat) (a0 : Act) (listed : Array Bool) (a : Act) (w : World) (vs : Nat → Value) : Prop where
  size : listed.size = ops.size
  cls : C (fun j => listed.getD j false = true) w
  defers : a.defers = a0.defers
  tsize : a.tmps.size = a0.tmps.size
  agree : Agr N0 fs0 vs
  base : ∀ t, (∀ i o, ops[i]? = some o → listed.getD i false = true → o.dst ≠ some t) → a.tmps[t]? = a0.tmps[t]?
  done : ∀ i o d, ops[i]? = some o → listed.getD i false = true → o.dst = some d → a.tmps[d]? = some (vs i)
  facts : Hold N0 fs0 vs (fun i => listed.getD i false = true) w
  dist : Dist fs0 vs (fun i => listed.getD i false = true)
  old : ∀ i f, fs0[i]? = some f → f.isNew = true → listed.getD i false = true → ∃ g, vs i = .pointer (some ⟨g, 0, none⟩) ∧ g < w.heap.size
  down : ∀ (i : Nat) (o : Oper), ops[i]? = some o → listed.getD i false = true → ∀ j ∈ predsOf o, listed.getD j false = true
  head : ∀ i, m ≤ i → listed.getD i false = false

theorem wpAny_of_facts8 {Q : Exit → Act → World → Prop} {fs0 : List Fct} {a0 : Act} {m : Nat} (hB : factsB ops a0.tmps.size = true) (hT : tailB ops m = true) (hN : ∀ I w, C I w → N0 ≤ w.heap.size) (hm : m ≤ ops.size)
    (hV : ∀ (i : Nat) (f : Fct), fs0[i]? = some f → ∃ c, f = Fct.val c) (h : fst8 P ops C N0 (wpList P ops Q (ops.toList.drop m)) 0 (ops.toList.take m) fs0 a0 [] []) : ∀ (fuel : Nat) (listed : Array Bool) (a : Act) (w : World) (vs : Nat → Value), FI8 ops C N0 fs0 m a0 listed a w vs →
    ((List.range ops.size).filter fun i => !listed.getD i false).length ≤ fuel → wpAny P .any ops Q fuel listed a w := by
  have hsel : Region.noSelect ops = true := by simp only [factsB, Bool.and_eq_true] at hB; exact hB.1
  have hedge : ∀ (i : Nat) (o : Oper), ops[i]? = some o → ∀ e ∈ o.after, Region.binds .any e = true → e.on < i := fun i o ho e he hb => (factsOk_of _ hB ho).1 e he hb
  have htail : ∀ i, m ≤ i → i < ops.size → ∀ j, j < i → j ∈ downs ops 3 i := by
    intro i hi hlt j hj
    simp only [tailB, List.all_eq_true, List.mem_range, Bool.or_eq_true, decide_eq_true_eq] at hT
    have := (hT i hlt).resolve_left (by omega) j hj
    simpa using this
  have use : ∀ vs, Agr N0 fs0 vs → _ := fun vs hv => fst8_use (P := P) (ops := ops) (C := C) (N0 := N0) hv (ops.toList.take m) 0 fs0 a0 [] [] (by simp) (by simp) (by simp) (by simp) h
  have hlen : fs0.length = m := by
    have hv : ∃ vs, Agr N0 fs0 vs := ⟨fun i => match fs0[i]? with | some (.val c) => c | some (.new _ _) => .pointer (some ⟨N0, 0, none⟩) | _ => undef, fun i f hf => by
      cases f with
      | val c => simp [hf]
      | ex p hp => trivial
      | new cs t => exact ⟨N0, by simp [hf], Nat.le_refl _⟩⟩
    obtain ⟨vs, hv⟩ := hv
    have := (use vs hv).2.2
    rw [this, List.length_take, Array.length_toList]
    omega
  have fin : ∀ (fuel : Nat) (listed : Array Bool) (a : Act) (w : World) (vs : Nat → Value), FI8 ops C N0 fs0 m a0 listed a w vs → ops.size - m ≤ fuel → (∀ i, i < m → listed.getD i false = true) → wpAny P .any ops Q fuel listed a w := by
    intro fuel listed a w vs I hfuel hall
    obtain ⟨r1, r2, _⟩ := use vs I.agree
    have ea : a = putsFrom vs 0 (ops.toList.take m) a0 := by
      obtain ⟨ts, ds⟩ := a
      have e1 : ds = (putsFrom vs 0 (ops.toList.take m) a0).defers := by rw [putsFrom_defers]; exact I.defers
      have e2 : ts = (putsFrom vs 0 (ops.toList.take m) a0).tmps := by
        apply Array.ext_getElem?
        intro t
        by_cases hex : ∃ (j : Nat) (o : Oper), j < m ∧ ops[j]? = some o ∧ o.dst = some t
        · obtain ⟨j, o, hjm, hj, hd⟩ := hex
          have h1 := I.done j o t hj (hall j hjm) hd
          obtain ⟨_, hlt, _⟩ := factsOk_of _ hB hj
          rw [putsFrom_at vs t (ops.toList.take m) 0 a0 j o (by rw [List.getElem?_take, if_pos hjm]; simpa using hj) hd (hlt t hd) (fun i o' hi hij => by
            rw [List.getElem?_take] at hi
            split at hi
            · obtain ⟨_, _, h3⟩ := factsOk_of _ hB (show ops[i]? = some o' by simpa using hi)
              exact (h3 j o t hj hd).1 (Ne.symm hij)
            · cases hi)]
          simpa using h1
        · rw [putsFrom_other vs t (ops.toList.take m) 0 a0 (fun o ho hd => hex (by
            obtain ⟨i, hi, rfl⟩ := List.mem_iff_getElem.1 ho
            have him : i < m := by simp at hi; omega
            have his : i < ops.size := by simp at hi; omega
            exact ⟨i, _, him, by simp [his], hd⟩))]
          exact I.base t (fun i o hi hl hd => by
            by_cases him : i < m
            · exact hex ⟨i, o, him, hi, hd⟩
            · rw [I.head i (by omega)] at hl; cases hl)
      rw [e1, e2]
    rw [ea]
    have hl : ∀ i f, fs0[i]? = some f → listed.getD i false = true := fun i f hf => hall i (by have := (List.getElem?_eq_some_iff.1 hf).1; omega)
    refine wpAny_tail hedge m htail (ops.size - m) fuel listed _ _ (by omega) hfuel (by omega) I.size (fun j hj => ?_) ?_
    · by_cases hjm : j < m
      · rw [hall j hjm]; simp; omega
      · rw [I.head j (by omega)]; simp; omega
    · rw [show ops.size - (ops.size - m) = m from by omega]
      exact r2 _ w (fun j hj => hall j (by simp at hj; omega)) I.cls (fun i f hf _ => I.facts i f hf (hl i f hf)) (fun i j f g hi hj hf hg _ _ hne => I.dist i j f g hi hj hf hg (hl i f hi) (hl j g hj) hne)
  -- one of the head that has not come up, the lowest, may come up
  have some_ready : ∀ (listed : Array Bool), listed.size = ops.size → Region.ready .any ops listed = [] → ∀ i, i < ops.size → listed.getD i false = true := by
    intro listed hs hr i
    induction i using Nat.strongRecOn with
    | _ i ih =>
      intro hi
      by_cases hl : listed.getD i false = true
      · exact hl
      · exfalso
        have hl' : listed.getD i true = false := by
          have : i < listed.size := by omega
          simp [this] at hl ⊢
          exact hl
        have hm : i ∈ Region.ready .any ops listed := by
          refine mem_ready.2 ⟨hl', ops[i], by simp [hi], fun e he hb => ?_⟩
          have := hedge i _ (show ops[i]? = some ops[i] by simp [hi]) e he hb
          exact ih e.on this (by omega)
        rw [hr] at hm
        cases hm
  intro fuel
  induction fuel with
  | zero =>
    intro listed a w vs I hc
    have hall : ∀ i, i < ops.size → listed.getD i false = true := by
      intro i hi
      have : (List.range ops.size).filter (fun i => !listed.getD i false) = [] := List.length_eq_zero_iff.1 (by omega)
      rw [List.filter_eq_nil_iff] at this
      have := this i (by simp [hi])
      simpa using this
    have hms : m = ops.size := by
      by_cases hlt : m < ops.size
      · have := hall m hlt; rw [I.head m (Nat.le_refl _)] at this; cases this
      · omega
    exact fin 0 listed a w vs I (by omega) fun i hi => hall i (by omega)
  | succ fuel ih =>
    intro listed a w vs I hc
    by_cases hdone : ∀ i, i < m → listed.getD i false = true
    · refine fin (fuel + 1) listed a w vs I ?_ hdone
      -- what is left is the tail
      have : ((List.range ops.size).filter fun i => !listed.getD i false).length ≥ ops.size - m := by
        have h1 : ((List.range ops.size).filter fun i => !listed.getD i false) = (List.range ops.size).filter (fun i => decide (m ≤ i)) := by
          refine List.filter_congr fun i hi => ?_
          by_cases him : i < m
          · rw [hdone i him]; simp; omega
          · rw [I.head i (by omega)]; simp; omega
        rw [h1]
        have h2 : ∀ n, ((List.range n).filter (fun i => decide (m ≤ i))).length = n - m := by
          intro n
          induction n with
          | zero => simp
          | succ n ihn =>
            rw [List.range_succ, List.filter_append, List.length_append, ihn]
            by_cases hmn : m ≤ n
            · simp [hmn]; omega
            · simp [hmn]; omega
        rw [h2]
        exact Nat.le_refl _
      omega
    refine ⟨fun hr => absurd (fun i hi => some_ready listed I.size hr i (by omega)) hdone, fun i hi => ?_⟩
    obtain ⟨h0, o, ho, hall⟩ := mem_ready.1 hi
    have hil := (Array.getElem?_eq_some_iff.1 ho).1
    have hls : i < listed.size := by rw [I.size]; exact hil
    have hun : listed.getD i false = false := by simp [hls] at h0 ⊢; exact h0
    obtain ⟨g1, g2, g3⟩ := factsOk_of _ hB ho
    have hpre : ∀ j ∈ predsOf o, listed.getD j false = true := by
      intro j hj
      simp only [predsOf, List.mem_map, List.mem_filter] at hj
      obtain ⟨e, ⟨he, hb⟩, rfl⟩ := hj
      exact hall e (by simpa using he) hb
    have him : i < m := by
      by_cases h' : i < m
      · exact h'
      · exfalso
        refine hdone fun j hj => ?_
        exact downs_listed listed I.down 3 i o ho hpre j (htail i (by omega) hil j (by omega))
    obtain ⟨r1, _, _⟩ := use vs I.agree
    obtain ⟨f, hf, hok⟩ := r1 i o (by rw [List.getElem?_take, if_pos him]; simpa using ho)
    rw [Nat.zero_add] at hf
    have hok := hok _ w I.cls (by simpa using hun) hpre fun j f hjf hj => I.facts j f hjf (hpre j hj)
    have htk : (ops.toList.take m).take i = ops.toList.take i := by rw [List.take_take, Nat.min_eq_left (by omega)]
    rw [htk] at hok
    -- the two states are alike at what the operation looks at
    have same : ∀ t ∈ o.looksAt ops, (putsFrom vs 0 (ops.toList.take i) a0).tmps[t]? = a.tmps[t]? := by
      intro t ht
      by_cases hex : ∃ (j : Nat) (o' : Oper), ops[j]? = some o' ∧ o'.dst = some t
      · obtain ⟨j, o', hj, hd⟩ := hex
        have hjp := (g3 j o' t hj hd).2 ht
        have hjl := hpre j hjp
        have hji : j < i := by
          simp only [predsOf, List.mem_map, List.mem_filter] at hjp
          obtain ⟨e, ⟨he, hb⟩, rfl⟩ := hjp
          exact g1 e (by simpa using he) hb
        obtain ⟨_, hlt, _⟩ := factsOk_of _ hB hj
        rw [putsFrom_at vs t (ops.toList.take i) 0 a0 j o' (by rw [List.getElem?_take, if_pos hji]; simpa using hj) hd (hlt t hd) (fun k ok hk hkj => by
          rw [List.getElem?_take] at hk
          split at hk
          · obtain ⟨_, _, h3⟩ := factsOk_of _ hB (show ops[k]? = some ok by simpa using hk)
            exact (h3 j o' t hj hd).1 (Ne.symm hkj)
          · cases hk)]
        rw [I.done j o' t hj hjl hd, Nat.zero_add]
      · rw [putsFrom_other vs t (ops.toList.take i) 0 a0 (fun o' ho' hd => hex (by
          obtain ⟨k, hk, rfl⟩ := List.mem_iff_getElem.1 (List.mem_of_mem_take ho')
          exact ⟨k, _, by rw [← Array.getElem?_toList]; exact List.getElem?_eq_getElem hk, hd⟩))]
        exact (I.base t (fun k ok hk _ hd => hex ⟨k, ok, hk, hd⟩)).symm
    have hok : opok8 P ops (C (adds (0 + i) fun j => listed.getD j false = true)) N0 o f a w := by
      refine opok8_congr ?_ ?_ hok
      · refine execOp_congr o (fun cs b => Region.noSelect_spec hsel i o cs b ho) fun x hx => ?_
        cases x with
        | tmp t =>
          have := same t (List.mem_append_left _ (List.mem_filterMap.2 ⟨.tmp t, by simpa using hx, rfl⟩))
          simp only [Act.eval, Array.getD_eq_getD_getElem?, this]
        | _ => rfl
      · unfold Region.wanted
        cases hg : o.guard with
        | none => rfl
        | some gw =>
          obtain ⟨g, want⟩ := gw
          have : yielded ops (putsFrom vs 0 (ops.toList.take i) a0).tmps g = yielded ops a.tmps g := by
            unfold yielded
            cases ht : (ops[g]?).bind (·.dst) with
            | none => rfl
            | some t => rw [Option.bind_some, Option.bind_some, same t (by simp [Oper.looksAt, hg, ht])]
          simp only [this]
    refine wpOp_of_opok8 ho (hN _ w I.cls) hok fun v w' hv hC' => ?_
    refine ih _ _ _ (fun j => if j = i then v else vs j) ⟨by simp [I.size], (listed_adds hls) ▸ hC', ?_, ?_, ?_, ?_, ?_, ?_, ?_, ?_, ?_, ?_⟩ ?_
    · cases hd : o.dst <;> simpa [Act.put] using I.defers
    · cases hd : o.dst <;> simpa [Act.put] using I.tsize
    · intro j fj hj
      by_cases hji : j = i
      · subst hji
        rw [hf] at hj
        injection hj with hj
        subst hj
        simp only [if_true]
        cases f with
        | val c => exact hv
        | ex p hp => trivial
        | new cs t => obtain ⟨g, e1, e2, _⟩ := hv; exact ⟨g, e1, e2⟩
      · simpa [hji] using I.agree j fj hj
    · intro t ht
      have hne : o.dst ≠ some t := ht i o ho (by simp [hls])
      have : (a.put o.dst v).tmps[t]? = a.tmps[t]? := by
        cases hd : o.dst with
        | none => rfl
        | some d =>
          have hne' : d ≠ t := fun e => hne (by rw [hd, e])
          simp [Act.put, Array.getElem?_setIfInBounds_ne hne']
      rw [this]
      exact I.base t fun j oj hj hl => ht j oj hj (getD_set_true hl)
    · intro j oj d hj hl hd
      by_cases hji : j = i
      · subst hji
        rw [ho] at hj
        injection hj with hj
        subst hj
        have := g2 d hd
        rw [← I.tsize] at this
        simp [Act.put, hd, this]
      · rw [getD_set_ne false (Ne.symm hji)] at hl
        have h1 := I.done j oj d hj hl hd
        have hne : o.dst ≠ some d := (g3 j oj d hj hd).1 hji
        have : (a.put o.dst v).tmps[d]? = a.tmps[d]? := by
          cases hd' : o.dst with
          | none => rfl
          | some d' =>
            have hne' : d' ≠ d := fun e => hne (by rw [hd', e])
            simp [Act.put, Array.getElem?_setIfInBounds_ne hne']
        rw [this, h1]
        simp [hji]
    · intro j fj hj hl
      by_cases hji : j = i
      · subst hji
        rw [hf] at hj
        injection hj with hj
        subst hj
        simpa using hv
      · rw [getD_set_ne false (Ne.symm hji)] at hl
        simp only [hji, if_false]
        obtain ⟨c, rfl⟩ := hV j fj hj
        exact I.facts j _ hj hl
    · intro j k fj fk hj hk hnj
      obtain ⟨c, rfl⟩ := hV j fj hj
      cases hnj
    · intro j fj hj hnj
      obtain ⟨c, rfl⟩ := hV j fj hj
      cases hnj
    · intro j oj hj hlj q hq
      by_cases hji : j = i
      · subst hji
        rw [ho] at hj
        injection hj with hj
        subst hj
        exact getD_set_true (hpre q hq)
      · rw [getD_set_ne false (Ne.symm hji)] at hlj
        exact getD_set_true (I.down j oj hj hlj q hq)
    · intro j hj
      rw [getD_set_ne false (by omega)]
      exact I.head j hj
    · -- one less
      have hlen' : ((List.range ops.size).filter fun j => !(listed.setIfInBounds i true).getD j false).length < ((List.range ops.size).filter fun j => !listed.getD j false).length := by
        have e1 : ((List.range ops.size).filter fun j => !(listed.setIfInBounds i true).getD j false) = ((List.range ops.size).filter fun j => !listed.getD j false).filter (fun j => j != i) := by
          rw [List.filter_filter]
          refine List.filter_congr fun j hj => ?_
          by_cases hji : j = i
          · subst hji; simp [hls]
          · rw [getD_set_ne false (Ne.symm hji)]; simp [hji]
        rw [e1]
        refine List.length_filter_lt_length_iff_exists.2 ⟨i, ?_, by simp⟩
        simp [List.mem_filter, hil]
        simpa [hls] using hun
      omega
theorem none_adds (n : Nat) : (fun _ => False) = fun j => (Array.replicate n false).getD j false = true := by
  funext j; apply propext; rw [none_listed]; simp
/-- **One walk of the text's order for the head, then the tail.** -/
theorem wp_region_facts8 {id : Nat} {Q : Exit → Act → World → Prop} {a : Act} {w : World} {l tl : List Oper} (fs : List Fct) (N0 : Nat) (hm : P.follows .mixedOrders = true) (hB : factsB (l ++ tl).toArray a.tmps.size = true) (hT : tailB (l ++ tl).toArray l.length = true) (hN : ∀ I w, C I w → N0 ≤ w.heap.size) (hC : C (fun _ => False) w.drew)
    (hV : ∀ (i : Nat) (f : Fct), fs[i]? = some f → ∃ c, f = Fct.val c) (h : fst8 P (l ++ tl).toArray C N0 (wpList P (l ++ tl).toArray Q tl) 0 l fs a [] []) : (Code.region id (l ++ tl).toArray true).wp P Q a w := by
  have e1 : (l ++ tl).toArray.toList.take l.length = l := by simp
  have e2 : (l ++ tl).toArray.toList.drop l.length = tl := by simp
  refine wp_region_any hm (wpAny_of_facts8 (m := l.length) hB hT hN (by simp) hV (by rw [e1, e2]; exact h) _ _ _ _ (fun i => match fs[i]? with | some (.val c) => c | some (.new _ _) => .pointer (some ⟨N0, 0, none⟩) | _ => undef) ⟨by simp, (none_adds _) ▸ hC, rfl, rfl, ?_, ?_, ?_, ?_, ?_, ?_, ?_, ?_⟩ ?_)
  · intro i f hf
    cases f with
    | val c => simp [hf]
    | ex p hp => trivial
    | new cs t => exact ⟨N0, by simp [hf], Nat.le_refl _⟩
  · intro t _; rfl
  · intro i o d hi hl; rw [none_listed] at hl; cases hl
  · intro i f hf hl; rw [none_listed] at hl; cases hl
  · intro i j f g _ _ _ _ hl; rw [none_listed] at hl; cases hl
  · intro i f _ _ hl; rw [none_listed] at hl; cases hl
  · intro i o _ hl; rw [none_listed] at hl; cases hl
  · intro i _; exact none_listed _ _
  · refine Nat.le_trans (List.length_filter_le _ _) (by simp)
theorem wp_region_facts8_lit {id : Nat} {Q : Exit → Act → World → Prop} {a : Act} {w : World} {l : List Oper} (m : Nat) (fs : List Fct) (N0 : Nat) (hm : P.follows .mixedOrders = true) (hml : m ≤ l.length) (hB : factsB l.toArray a.tmps.size = true) (hT : tailB l.toArray m = true) (hN : ∀ I w, C I w → N0 ≤ w.heap.size) (hC : C (fun _ => False) w.drew)
    (hV : ∀ (i : Nat) (f : Fct), fs[i]? = some f → ∃ c, f = Fct.val c) (h : fst8 P l.toArray C N0 (wpList P l.toArray Q (l.drop m)) 0 (l.take m) fs a [] []) : (Code.region id l.toArray true).wp P Q a w := by
  have e : l.take m ++ l.drop m = l := List.take_append_drop m l
  have r := wp_region_facts8 (P := P) (C := C) (id := id) (Q := Q) (a := a) (w := w) (l := l.take m) (tl := l.drop m) fs N0 hm
  rw [e, List.length_take, Nat.min_eq_left hml] at r
  exact r hB hT hN hC hV h
/-- Two times: until the operation k, and from there on. -/
def Ph (k : Nat) (X Y : World → Prop) (I : Nat → Prop) (W : World) : Prop := (¬ I k → X W) ∧ (I k → Y W)
theorem Ph.other {k i : Nat} {X Y : World → Prop} {I : Nat → Prop} {W : World} (h : Ph k X Y I W) (hi : k ≠ i) : Ph k X Y (adds i I) W :=
  ⟨fun n => h.1 fun m => n (.inr m), fun n => h.2 (n.resolve_left hi)⟩
theorem Ph.now {k : Nat} {X Y : World → Prop} {I : Nat → Prop} {W : World} (h : Y W) : Ph k X Y (adds k I) W := ⟨fun n => absurd (.inl rfl) n, fun _ => h⟩
theorem Ph.both {k : Nat} {X Y Z : World → Prop} {I : Nat → Prop} {W : World} (h : Ph k X Y I W) (hx : X W → Z W) (hy : Y W → Z W) : Z W := by
  by_cases hk : I k
  · exact hy (h.2 hk)
  · exact hx (h.1 hk)
/-! ### One operation at a time -/
theorem vals_all : ∀ (l : List Value) (i : Nat) (f : Fct), (l.map Fct.val)[i]? = some f → ∃ c, f = Fct.val c := by
  intro l i f h
  rw [List.getElem?_map] at h
  cases hl : l[i]? with
  | none => rw [hl] at h; cases h
  | some c => rw [hl] at h; injection h with h; exact ⟨c, h.symm⟩
section
variable {Q : Act → World → Prop} {i : Nat} {o : Oper} {os : List Oper} {fs : List Fct} {a : Act} {hs : List (Nat × (World → Prop))} {gs : List Nat} {w : World}
theorem fst8_val {c : Value} (h1 : ∀ I w, C I w → ¬ I i → (∀ p ∈ predsOf o, I p) → opok8 P ops (C (adds i I)) N0 o (.val c) a w) (h2 : fst8 P ops C N0 Q (i + 1) os fs (a.put o.dst c) hs gs) : fst8 P ops C N0 Q i (o :: os) (.val c :: fs) a hs gs := ⟨fun I w hC hn hp _ => h1 I w hC hn hp, h2⟩
theorem fst8_nil (h : ∀ I w, (∀ j, j < i → I j) → C I w → Q a w) : fst8 P ops C N0 Q i [] [] a hs gs := fun I w hI hC _ _ => h I w hI hC
end
end
end Go.Proofs.YtackcmlkicjlnaaDoor

/- A cell that is written in a region that draws its order. -/
namespace Go.Proofs.YtackcmlkicjlnaaDoor
open Go.RowKit
theorem gb_cell (w : World) (a : Addr) (v : Value) : w.grownBy (w.setCell a v) (some a.block) :=
  ⟨rfl, rfl, rfl, by simp [World.setCell], fun j hj hn => Below.heap_setCell _ _ _ _ (fun e => hn (by rw [e]))⟩
end Go.Proofs.YtackcmlkicjlnaaDoor

/- Lines of a text, one by one. -/
namespace Go.Proofs.YtackcmlkicjlnaaDoor
open Go.RowKit Go.WideShapes Go.ChangeShapes

theorem tx_take {xs : List (List UInt8)} {n k : Nat} (h : k < n) : tx (xs.take n) k = tx xs k := by
  unfold tx
  rw [List.getD_eq_getElem?_getD, List.getD_eq_getElem?_getD, List.getElem?_take, if_pos h]
theorem tx_mem {xs : List (List UInt8)} {k : Nat} (h : k < xs.length) : tx xs k ∈ xs := List.mem_of_getElem? (tx_get h)
theorem rd_take (p : Nat) {w : World} {base : Nat} {e : TypeId} {A : Option Addr} {c : Nat} {xs : List (List UInt8)} (h : OwnR w base e eTx (.slice A xs.length c) xs) : Reads w A (eTx.all (xs.take p)) := by
  have R := h.rdE
  rw [eTx_all, eStr_all, List.map_map] at R ⊢
  rw [List.map_take]
  exact R.take p
theorem drop_tx {xs : List (List UInt8)} {k : Nat} (h : k < xs.length) : xs.drop k = tx xs k :: xs.drop (k + 1) := by
  rw [List.drop_eq_getElem_cons h]
  have := tx_get h
  rw [List.getElem?_eq_getElem h] at this
  injection this with this
  rw [this]
theorem goL_step {ps : List (List UInt8)} {k : Nat} {acc : List TEvt} (h : k + 1 < ps.length) : goL (ps.drop k) k acc = if (pE (tx ps k)).2 = true then goL (ps.drop (k + 1)) (k + 1) (acc ++ [(pE (tx ps k)).1]) else ([], (k : Int) + 1) := by
  rw [drop_tx (by omega : k < ps.length), drop_tx h, goL]
theorem goL_last {ps : List (List UInt8)} {k : Nat} {acc : List TEvt} (h : k + 1 = ps.length) : goL (ps.drop k) k acc = if tx ps k = [] then (acc, 0) else ([], (k : Int) + 1) := by
  rw [drop_tx (by omega : k < ps.length), List.drop_of_length_le (by omega), goL]
theorem goL_cons {t : List UInt8} {r : List (List UInt8)} {k : Nat} {acc : List TEvt} (h : r ≠ []) : goL (t :: r) k acc = if (pE t).2 = true then goL r (k + 1) (acc ++ [(pE t).1]) else ([], (k : Int) + 1) := by
  cases r with
  | nil => exact absurd rfl h
  | cons u r => rw [goL]
/-- A line that ends at i. -/
theorem line_at {l : List UInt8} {fr i : Nat} (h1 : fr ≤ i) (h2 : i < l.length) (hn : ∀ j, fr ≤ j → j < i → chr l j ≠ 10) (hc : chr l i = 10) : pieces 10 (l.drop fr) = ((l.take i).drop fr) :: pieces 10 (l.drop (i + 1)) := by
  have e : l.drop fr = (l.take i).drop fr ++ 10 :: l.drop (i + 1) := by
    have e1 : l = l.take i ++ l.drop i := (List.take_append_drop i l).symm
    have e2 : l.drop i = l[i] :: l.drop (i + 1) := List.drop_eq_getElem_cons h2
    have e3 : l[i] = 10 := by
      apply UInt8.toNat_inj.1
      have : chr l i = (l[i].toNat : Int) := by unfold chr; rw [List.getD_eq_getElem?_getD, List.getElem?_eq_getElem h2]; rfl
      rw [this] at hc
      show l[i].toNat = 10
      omega
    conv => lhs; rw [e1]
    rw [List.drop_append_of_le_length (by rw [List.length_take]; omega), e2, e3]
  rw [e, pieces_app]
  intro hm
  obtain ⟨j, hj, hje⟩ := List.getElem_of_mem hm
  rw [List.length_drop, List.length_take] at hj
  refine hn (fr + j) (by omega) (by omega) ?_
  rw [List.getElem_drop, List.getElem_take] at hje
  unfold chr
  rw [List.getD_eq_getElem?_getD, List.getElem?_eq_getElem (by omega), hje]
  rfl
theorem line_end {l : List UInt8} {fr : Nat} (hn : ∀ j, fr ≤ j → j < l.length → chr l j ≠ 10) : pieces 10 (l.drop fr) = [l.drop fr] := by
  refine pieces_one fun hm => ?_
  obtain ⟨j, hj, hje⟩ := List.getElem_of_mem hm
  rw [List.length_drop] at hj
  refine hn (fr + j) (by omega) (by omega) ?_
  rw [List.getElem_drop] at hje
  unfold chr
  rw [List.getD_eq_getElem?_getD, List.getElem?_eq_getElem (by omega), hje]
  rfl
theorem goL_one {t : List UInt8} {k : Nat} {acc : List TEvt} : goL [t] k acc = if t = [] then (acc, 0) else ([], (k : Int) + 1) := rfl
theorem prA_take {xs : List TEvt} {k : Nat} (h : k < xs.length) : prA (xs.take (k + 1)) = prA (xs.take k) ++ (prE (evtAt xs k) ++ [10]) := by rw [evt_snoc h, prA_snoc]
theorem flt_snoc {xs : List TEvt} {k : Nat} (P : TEvt → Bool) (h : k < xs.length) : (xs.take (k + 1)).filter P = (xs.take k).filter P ++ (if P (evtAt xs k) = true then [evtAt xs k] else []) := by
  rw [evt_snoc h, List.filter_append]
  congr 1
  by_cases hp : P (evtAt xs k) = true <;> simp [hp]
theorem flt_len (xs : List TEvt) (P : TEvt → Bool) (k : Nat) : ((xs.take k).filter P).length ≤ xs.length := by
  have h1 := List.length_filter_le P (xs.take k)
  have h2 := List.length_take_le k xs
  rw [List.length_take] at h1
  omega
end Go.Proofs.YtackcmlkicjlnaaDoor

/- What script.Parse reads. -/
namespace Go.Proofs.YtackcmlkicjlnaaDoor
open Go.RowKit Go.WideShapes Go.ChangeShapes
set_option linter.unusedSimpArgs false
set_option linter.unusedVariables false

theorem e_zero_24 : ZeroOf Tryd.prog 24 #[.int .i64 0, .int .i64 0, .int .i64 0, .int .i64 0, .int .u64 0] := zeroOf (z := .agg #[.int .i64 0, .int .i64 0, .int .i64 0, .int .i64 0, .int .u64 0]) (by kernel_rfl) rfl
theorem e_one_34 : One Tryd.prog 34 := one_of Tryd.underlying34 rfl (by kernel_rfl)
theorem e_fld_24_1 : FieldAt Tryd.prog 24 1 1 := fieldAt_of (s := 0) Tryd.underlying24 (by kernel_rfl)
theorem e_one_3 : One Tryd.prog 3 := one_of Tryd.underlying3 rfl (by kernel_rfl)
theorem e_fld_24_0 : FieldAt Tryd.prog 24 0 0 := fieldAt_of (s := 0) Tryd.underlying24 (by kernel_rfl)
theorem e_fld_24_2 : FieldAt Tryd.prog 24 2 2 := fieldAt_of (s := 0) Tryd.underlying24 (by kernel_rfl)
theorem e_fld_24_3 : FieldAt Tryd.prog 24 3 3 := fieldAt_of (s := 0) Tryd.underlying24 (by kernel_rfl)
theorem e_fld_24_4 : FieldAt Tryd.prog 24 4 4 := fieldAt_of (s := 0) Tryd.underlying24 (by kernel_rfl)
theorem e_one_22 : One Tryd.prog 22 := one_of Tryd.underlying22 rfl (by kernel_rfl)
theorem e_run_call_7_1 {o : Oper} {a : Act} (x0 : Operand) {ts : Array TypeId} (ho : o.op = .call { callee := .value (.func 7), args := #[x0], argTypes := ts }) {v0 : Value} (h0 : a.eval x0 = v0) (W : World) : (execOp a.eval o).run Tryd.prog W = .ok (.enter 7 #[v0]) W := by
  unfold execOp
  simp only [ho]
  subst h0
  go_simp
theorem e_run_call_9_1 {o : Oper} {a : Act} (x0 : Operand) {ts : Array TypeId} (ho : o.op = .call { callee := .value (.func 9), args := #[x0], argTypes := ts }) {v0 : Value} (h0 : a.eval x0 = v0) (W : World) : (execOp a.eval o).run Tryd.prog W = .ok (.enter 9 #[v0]) W := by
  unfold execOp
  simp only [ho]
  subst h0
  go_simp
theorem e_run_call_11_2 {o : Oper} {a : Act} (x0 : Operand) (x1 : Operand) {ts : Array TypeId} (ho : o.op = .call { callee := .value (.func 11), args := #[x0, x1], argTypes := ts }) {v0 : Value} (h0 : a.eval x0 = v0) {v1 : Value} (h1 : a.eval x1 = v1) (W : World) : (execOp a.eval o).run Tryd.prog W = .ok (.enter 11 #[v0, v1]) W := by
  unfold execOp
  simp only [ho]
  subst h0 h1
  go_simp
theorem e_run_call_12_1 {o : Oper} {a : Act} (x0 : Operand) {ts : Array TypeId} (ho : o.op = .call { callee := .value (.func 12), args := #[x0], argTypes := ts }) {v0 : Value} (h0 : a.eval x0 = v0) (W : World) : (execOp a.eval o).run Tryd.prog W = .ok (.enter 12 #[v0]) W := by
  unfold execOp
  simp only [ho]
  subst h0
  go_simp
theorem opS_0 (o : Nat) : ((opS o 1 : Nat) : Int) = 0 := by unfold opS; split <;> omega
/-- What stands in the row of numbers, after so many words. -/
def nsW (ws : List (List UInt8)) (j : Nat) : List Int := [if 0 < j then numU (ws.getD 1 []) else 0, if 1 < j then numU (ws.getD 2 []) else 0, if 2 < j then numU (ws.getD 3 []) else 0, 0]
theorem nsW_0 (ws : List (List UInt8)) : nsW ws 0 = List.replicate 4 0 := rfl
theorem nsW_len (ws : List (List UInt8)) (j : Nat) : (nsW ws j).length = 4 := rfl
theorem nsW_set {ws : List (List UInt8)} {j : Nat} (h : j < ((ws.take (min ws.length 4)).drop 1).length) : (nsW ws j).set j (numU (tx ((ws.take (min ws.length 4)).drop 1) j)) = nsW ws (j + 1) := by
  rw [List.length_drop, List.length_take] at h
  have e : tx ((ws.take (min ws.length 4)).drop 1) j = ws.getD (j + 1) [] := by
    unfold tx
    rw [List.getD_eq_getElem?_getD, List.getD_eq_getElem?_getD, List.getElem?_drop, List.getElem?_take, if_pos (by omega), Nat.add_comm]
  rw [e]
  have hj : j = 0 ∨ j = 1 ∨ j = 2 := by omega
  rcases hj with rfl | rfl | rfl <;> rfl
theorem nsW_end (ws : List (List UInt8)) : nsW ws ((ws.take (min ws.length 4)).drop 1).length = [numU (ws.getD 1 []), numU (ws.getD 2 []), numU (ws.getD 3 []), 0] := by
  have hd : ∀ i, ws.length ≤ i → numU (ws.getD i []) = 0 := fun i hi => by rw [List.getD_eq_getElem?_getD, List.getElem?_eq_none hi]; rfl
  have hl : ((ws.take (min ws.length 4)).drop 1).length = min (min ws.length 4) ws.length - 1 := by rw [List.length_drop, List.length_take]
  rw [hl]
  unfold nsW
  have h1 : (if 0 < min (min ws.length 4) ws.length - 1 then numU (ws.getD 1 []) else 0) = numU (ws.getD 1 []) := by
    split
    · rfl
    · rw [hd 1 (by omega)]
  have h2 : (if 1 < min (min ws.length 4) ws.length - 1 then numU (ws.getD 2 []) else 0) = numU (ws.getD 2 []) := by
    split
    · rfl
    · rw [hd 2 (by omega)]
  have h3 : (if 2 < min (min ws.length 4) ws.length - 1 then numU (ws.getD 3 []) else 0) = numU (ws.getD 3 []) := by
    split
    · rfl
    · rw [hd 3 (by omega)]
  rw [h1, h2, h3]
theorem rd_mid (q : Nat) {w : World} {base : Nat} {e : TypeId} {b o c : Nat} {A : Option Addr} {xs : List (List UInt8)} (hA : cutA (some ⟨b, o, none⟩) c 1 = A) (h : OwnR w base e eTx (.slice (some ⟨b, o, none⟩) xs.length c) xs) : Reads w A (eTx.all ((xs.take q).drop 1)) := by
  subst hA
  by_cases hc : c = 1
  · have hl : xs.length ≤ c := by obtain ⟨A', c', hv, h1, _⟩ := h.reads; injection hv with e1 e2 e3; rw [e3]; exact h1
    have : (xs.take q).drop 1 = [] := List.drop_eq_nil_of_le (by rw [List.length_take]; omega)
    rw [this]
    exact Reads.nil _ _
  · rw [cutA_one hc]
    have R := rd_cut h
    have e2 : (xs.take q).drop 1 = (xs.drop 1).take (q - 1) := by rw [List.drop_take]
    rw [e2]
    exact R.takeE _
theorem run_cutmid {P : Program} {o : Oper} {a : Act} (x y z : Operand) {t e : TypeId} (ho : o.op = .slice t x (some y) (some z) none) (ht : P.underlying t = some (.slice e)) (hs : ∃ i, P.info? e = some i ∧ i.size = 1) {α : Type} {xs : List α} {A : Option Addr} {c p q : Nat} {X Y : Int} (hx : a.eval x = .slice A xs.length c) (hy : a.eval y = .int .i64 X) (hz : a.eval z = .int .i64 Y) (hX : X = (p : Int)) (hY : Y = (q : Int)) (hp : p ≤ q) (hq : q ≤ xs.length) (hc : xs.length ≤ c) (W : World) :
    (execOp a.eval o).run P W = .ok (.value (.slice (cutA A c p) ((xs.take q).drop p).length (c - p))) W := by
  subst hX hY
  obtain ⟨i, hi, h1⟩ := hs
  have hel : P.elem t = e := by simp [Program.elem, ht]
  have he : P.underlying t = some (.slice (P.elem t)) := by rw [hel]; exact ht
  have r1 := run_sliceAt_slice (P := P) W t (.slice A xs.length c) (some (.int .i64 (p : Int))) (some (.int .i64 (q : Int))) none he
  have hb : (Instr.sliceBounds true xs.length c (some (.int .i64 (p : Int))) (some (.int .i64 (q : Int))) none).run P W = .ok (p, q, c) W := by
    simp [Instr.sliceBounds, Instr.sliceBound, asIntOf, hp, (Nat.le_trans hq hc : q ≤ c)]
  have hln : ((xs.take q).drop p).length = q - p := by rw [List.length_drop, List.length_take]; omega
  rw [hln]
  unfold execOp; simp only [ho]; generalize a.eval = ρ at *
  simp only [Option.map_none, Option.map_some, hx, hy, hz, Sem.run_bind, r1, Instr.slice, run_underlying ht, Result.andThen_ok, hb]
  simp [sizeOf, typeInfo, hi, h1, cutA]

attribute [local irreducible] Go.wpList Go.Code.wp
set_option maxRecDepth 100000 in
set_option maxHeartbeats 4000000 in
theorem sparse_calls (l : List UInt8) (hl : l.length ≤ 100000) (w : World) : Calls Tryd.prog 5 #[.string (str l)] w fun e w' => e = .returned (.tuple #[.agg (eEnt.enc (pS l).1).toArray, .bool (pS l).2]) ∧ Below w.heap.size w w' := by
  have bel : Below w.heap.size w w := Below.refl _ _
  have hpl := pieces_len 32 l
  have hk15 := kS_le (tx (pieces 32 l) 0)
  have hnm : ∀ x ∈ pieces 32 l, x.length ≤ l.length := fun x hx => pieces_mem hx
  have hcl : l.count 32 ≤ l.length := List.count_le_length
  go_enter Tryd.func5, Tryd.ntmps5
  refine wp_seq ?_
  refine wp_region_lit ?_
  refine st_new (cs := #[.int .i64 0, .int .i64 0, .int .i64 0, .int .i64 0, .int .u64 0]) (t := 24) (by rfl) (run_allocV rfl e_zero_24 _) ?_
  intro g1 w2 B3 hb4 lo5
  simp only [nf0, nf1, nf2, nf3, nf4]
  replace lo5 := low_le bel lo5
  replace bel := bl_step bel hb4
  clear hb4
  refine st_mv (.bool false) ?_
  simp only [nf0, nf1, nf2, nf3, nf4]
  refine wpList_nil ?_
  show Code.wp _ _ _ _ _
  refine wp_seq ?_
  refine wp_region_lit ?_
  refine st_mv (.string (str l)) ?_
  simp only [nf0, nf1, nf2, nf3, nf4]
  refine st_call (by rfl) (e_run_call_11_2 (.tmp 10) (.const (.string ⟨#[32]⟩)) rfl rfl rfl _) (splits_calls l 32 (by omega) w2) ?_
  rintro v6 w8 ⟨O7, hf9⟩
  simp only [nf0, nf1, nf2, nf3, nf4]
  have n10 := O7.offLow B3
  have O7_ := fun k hk => (O7.lt k hk).1
  replace O7 := O7.lower bel.size
  replace B3 := B3.below hf9
  replace bel := bl_step bel hf9
  clear hf9
  refine st_mv v6 ?_
  simp only [nf0, nf1, nf2, nf3, nf4]
  refine wpList_nil ?_
  show Code.wp _ _ _ _ _
  refine wp_seq ?_
  obtain ⟨A11, c12, hv13, h14, h15, h16, R17⟩ := O7.reads
  subst hv13
  obtain ⟨b18, o19, rfl, _⟩ := R17.at_ (by rw [Enc.all_length]; exact Nat.mul_pos (by omega) (by decide))
  refine wp_region_lit ?_
  refine st_new (cs := #[.int .i64 0, .int .i64 0, .int .i64 0, .int .i64 0, .int .u64 0]) (t := 24) (by rfl) (run_allocV rfl e_zero_24 _) ?_
  intro g20 w21 B22 hb23 lo24
  simp only [nf0, nf1, nf2, nf3, nf4]
  have n25 := B3.ne lo24
  have n26 := O7.off lo24
  replace lo24 := low_le bel lo24
  replace B3 := B3.below hb23
  replace O7 := O7.same hb23
  replace R17 := R17.same hb23
  replace bel := bl_step bel hb23
  clear hb23
  refine wpList_nil ?_
  show Code.wp _ _ _ _ _
  refine wp_seq ?_
  refine wp_seq ?_
  refine wp_region_lit ?_
  refine st_mv (.int .i64 1) ?_
  simp only [nf0, nf1, nf2, nf3, nf4]
  refine wpList_nil ?_
  show Code.wp _ _ _ _ _
  refine wp_block ?_
  refine wp_loop_left (fun n_ a_ wr_ => (fun J27 => ∃ (i : Nat), n_ = 16 - i ∧ a_ = ⟨#[.string (str l), J27 1, .pointer (some ⟨g1, 0, none⟩), .bool false, .slice (some ⟨b18, o19, none⟩) (pieces 32 l).length c12, .pointer (some ⟨g20, 0, none⟩), .int .i64 (i : Int), J27 7, J27 8, J27 9, J27 10, J27 11, J27 12, J27 13, J27 14, J27 15, J27 16, J27 17, J27 18, J27 19, J27 20, J27 21, J27 22, J27 23, J27 24, J27 25, J27 26, J27 27, J27 28, J27 29, J27 30, J27 31, J27 32, J27 33, J27 34, J27 35, J27 36, J27 37, J27 38, J27 39, J27 40, J27 41, J27 42, J27 43, J27 44, J27 45, J27 46, J27 47, J27 48, J27 49, J27 50, J27 51, J27 52, J27 53, J27 54, J27 55, J27 56, J27 57, J27 58, J27 59, J27 60, J27 61, J27 62, J27 63, J27 64, J27 65, J27 66, J27 67, J27 68, J27 69, J27 70, J27 71, J27 72, J27 73, J27 74], []⟩ ∧ Blk wr_ g1 #[.int .i64 0, .int .i64 0, .int .i64 0, .int .i64 0, .int .u64 0] 24 ∧ OwnR wr_ w.heap.size 9 eTx (.slice (some ⟨b18, o19, none⟩) (pieces 32 l).length c12) (pieces 32 l) ∧ Reads wr_ (some ⟨b18, o19, none⟩) (Enc.all eTx (pieces 32 l)) ∧ Blk wr_ g20 #[.int .i64 ((opS (kS (tx (pieces 32 l) 0)) i : Nat) : Int), .int .i64 0, .int .i64 0, .int .i64 0, .int .u64 0] 24 ∧ Off (.slice (some ⟨b18, o19, none⟩) (pieces 32 l).length c12) g1 ∧ Off (.slice (some ⟨b18, o19, none⟩) (pieces 32 l).length c12) g20 ∧ Below w.heap.size w wr_ ∧ (1 ≤ i ∧ i ≤ 16)) (jk a_)) (16 - 1) ⟨1, rfl, rfl, B3, O7, R17, (by rw [opS_0]; exact B22), n10, n26, bel, (by omega)⟩ ?_
  clear B3
  clear O7
  clear R17
  clear B22
  clear n10 n26
  clear bel
  intro n_ a_ w30 h_
  revert h_
  generalize jk a_ = J27
  rintro ⟨i, hms, rfl, B3, O7, R17, B22, n28, n29, bel, hi⟩
  refine wp_seq ?_
  refine wp_seq ?_
  refine wp_region_lit ?_
  refine st_mv (.int .i64 (i : Int)) ?_
  simp only [nf0, nf1, nf2, nf3, nf4]
  refine st_value (v := (.bool (decide ((i : Int) ≤ 15)))) (by rfl) (run_leq (.tmp 12) (.const (.int .i64 15)) rfl rfl rfl w30) ?_
  simp only [nf0, nf1, nf2, nf3, nf4]
  refine wpList_nil ?_
  show Code.wp _ _ _ _ _
  cases hg31 : decide ((i : Int) ≤ 15)
  rotate_left
  · have hp109 := of_decide_eq_true hg31
    refine wp_cond_true rfl ?_
    refine wp_skip ?_
    show Code.wp _ _ _ _ _
    refine wp_seq ?_
    refine wp_block ?_
    refine wp_seq ?_
    refine wp_region_facts2_lit (C := Abv w30) 5 [.val (.int .i64 (i : Int)), .val (.string (str (nmS (i : Int)))), .val (.slice (some ⟨b18, o19, none⟩) (pieces 32 l).length c12), .val (.pointer (some ⟨b18, o19 + 0 * 1, none⟩)), .val (.string (str (tx (pieces 32 l) 0)))] w30.heap.size (by kernel_rfl) (by simp) (by kernel_rfl) (by kernel_rfl) (fun _ h => h.size) (Abv.start _) ?_
    simp only [List.take_succ_cons, List.take_zero, List.drop_succ_cons, List.drop_zero]
    refine fst2_val (fun W hC hh => ok2_value (v := (.int .i64 (i : Int))) (by rfl) (by rfl) rfl hC (G0.refl _)) ?_
    simp only [nf0, nf1, nf2, nf3, nf4]
    refine fst2_val (fun W hC hh => ok2_call (by rfl) (e_run_call_9_1 (.tmp 16) rfl rfl W) ((sname_calls (i : Int) W).mono fun e W' ⟨h1, h2⟩ => ⟨h1, hC.step h2, h2⟩)) ?_
    simp only [nf0, nf1, nf2, nf3, nf4]
    refine fst2_val (fun W hC hh => ok2_value (v := (.slice (some ⟨b18, o19, none⟩) (pieces 32 l).length c12)) (by rfl) (by rfl) rfl hC (G0.refl _)) ?_
    simp only [nf0, nf1, nf2, nf3, nf4]
    refine fst2_val (fun W hC hh => ok2_value (v := (.pointer (some ⟨b18, o19 + 0 * 1, none⟩))) (by rfl) (run_indexAddrN (.tmp 18) (.const (.int .i64 0)) rfl Tryd.underlying31 slTx.sz (i := 0) rfl (by exact (congrArg (Value.int .i64) (show 0 = ((0 : Nat) : Int) by omega))) (by omega) W) rfl hC (G0.refl _)) ?_
    simp only [nf0, nf1, nf2, nf3, nf4]
    refine fst2_val (fun W hC hh => ok2_value (v := (.string (str (tx (pieces 32 l) 0)))) (by rfl) (run_load1 (.tmp 19) rfl Tryd.underlying9 rfl slTx.sz rfl (Reads.txAt (R17.same hC) 0 (by omega))) rfl hC (G0.refl _)) ?_
    simp only [nf0, nf1, nf2, nf3, nf4]
    refine fst2_nil fun w110 hC hh hnd => ?_
    replace hC : Below w30.heap.size w30 w110 := hC
    clear hh hnd
    replace B3 := B3.below hC
    replace O7 := O7.same hC
    replace R17 := R17.same hC
    replace B22 := B22.below hC
    replace bel := bl_step bel hC
    clear hC
    refine st_value (v := (.bool (decide ((nmS (i : Int)) = (tx (pieces 32 l) 0))))) (by rfl) (run_eql_text (.tmp 17) (.tmp 20) (l := (nmS (i : Int))) (m := (tx (pieces 32 l) 0)) rfl rfl rfl w110) ?_
    simp only [nf0, nf1, nf2, nf3, nf4]
    refine wpList_nil ?_
    show Code.wp _ _ _ _ _
    cases hg111 : decide ((nmS (i : Int)) = (tx (pieces 32 l) 0))
    · have hp112 := of_decide_eq_false hg111
      refine wp_cond_false rfl ?_
      refine wp_skip ?_
      show Code.wp _ _ _ _ _
      refine wp_region_lit ?_
      refine st_mv (.int .i64 (i : Int)) ?_
      simp only [nf0, nf1, nf2, nf3, nf4]
      refine st_value (v := (.int .i64 ((i : Int) + 1))) (by rfl) (run_add_in (.tmp 14) (.const (.int .i64 1)) rfl rfl rfl (by omega) w110) ?_
      simp only [nf0, nf1, nf2, nf3, nf4]
      refine st_mv (.int .i64 ((i : Int) + 1)) ?_
      simp only [nf0, nf1, nf2, nf3, nf4]
      refine wpList_nil ?_
      show ∃ m, m < _ ∧ _
      exact ⟨_, (by omega), (i + 1), rfl, rfl, B3, O7, R17, (by have h_ := B22; rw [opS_no (by omega) (by assumption)]; exact h_), n28, n29, bel, (by omega)⟩
    have hp113 := of_decide_eq_true hg111
    refine wp_cond_true rfl ?_
    refine wp_region_lit ?_
    refine st_mv (.int .i64 (i : Int)) ?_
    simp only [nf0, nf1, nf2, nf3, nf4]
    refine st_value (v := (.pointer (some ⟨g20, 0, none⟩))) (by rfl) (run_fieldA (.tmp 5) rfl e_fld_24_0 rfl rfl w110) ?_
    simp only [nf0, nf1, nf2, nf3, nf4]
    refine st_cell (v := (.int .i64 (i : Int))) (by rfl) (run_storeB (.tmp 23) (.tmp 22) rfl e_one_3 B22 (show 0 < 5 by decide) rfl rfl rfl rfl) B22 ?_
    intro w114 B116 hg115
    simp only [nf0, nf1, nf2, nf3, nf4]
    replace B3 := B3.kept hg115 n25
    replace O7 := O7.keptB hg115 n29
    replace bel := bl_kept0 bel hg115 lo24
    replace R17 := OwnR.rdE O7
    clear hg115
    clear B22
    replace B116 : Blk w114 g20 #[.int .i64 (i : Int), .int .i64 0, .int .i64 0, .int .i64 0, .int .u64 0] 24 := B116
    refine wpList_nil ?_
    show Code.wp _ _ _ _ _
    refine wp_region_lit ?_
    refine st_mv (.int .i64 (i : Int)) ?_
    simp only [nf0, nf1, nf2, nf3, nf4]
    refine st_value (v := (.int .i64 ((i : Int) + 1))) (by rfl) (run_add_in (.tmp 14) (.const (.int .i64 1)) rfl rfl rfl (by omega) w114) ?_
    simp only [nf0, nf1, nf2, nf3, nf4]
    refine st_mv (.int .i64 ((i : Int) + 1)) ?_
    simp only [nf0, nf1, nf2, nf3, nf4]
    refine wpList_nil ?_
    show ∃ m, m < _ ∧ _
    exact ⟨_, (by omega), (i + 1), rfl, rfl, B3, O7, R17, (by have h_ := B116; rw [opS_yes (by omega) (by assumption)]; exact h_), n28, n29, bel, (by omega)⟩
  have hp32 := of_decide_eq_false hg31
  refine wp_cond_false rfl ?_
  refine wp_exit ?_
  show Code.wp _ _ _ _ _
  refine wp_seq ?_
  obtain rfl : i = 16 := by omega
  have B33 : Blk w30 g20 #[.int .i64 ((kS (tx (pieces 32 l) 0) : Nat) : Int), .int .i64 0, .int .i64 0, .int .i64 0, .int .u64 0] 24 := by have h_ := B22; rw [opS_end] at h_; exact h_
  clear B22
  refine wp_region_lit ?_
  refine st_lit (n := 4) (by rfl) (run_makeRow (k := .u64) (bytes := 8) (.const (.int .i64 4)) rfl Tryd.underlying33 (by kernel_rfl) (N := 4) rfl (by omega) (by omega) (by omega) (by omega) _) ?_
  intro g34 w35 B36 hb37 lo38
  simp only [nf0, nf1, nf2, nf3, nf4]
  have n39 := B3.ne lo38
  have n40 := O7.off lo38
  have n41 := B33.ne lo38
  replace lo38 := low_le bel lo38
  replace B3 := B3.below hb37
  replace O7 := O7.same hb37
  replace R17 := R17.same hb37
  replace B33 := B33.below hb37
  replace bel := bl_step bel hb37
  clear hb37
  refine st_mv (.slice (some ⟨g34, 0, none⟩) 4 4) ?_
  simp only [nf0, nf1, nf2, nf3, nf4]
  refine wpList_nil ?_
  show Code.wp _ _ _ _ _
  refine wp_seq ?_
  refine wp_seq ?_
  refine wp_region_lit ?_
  refine st_mv (.slice (some ⟨b18, o19, none⟩) (pieces 32 l).length c12) ?_
  simp only [nf0, nf1, nf2, nf3, nf4]
  refine st_mv (.slice (some ⟨b18, o19, none⟩) (pieces 32 l).length c12) ?_
  simp only [nf0, nf1, nf2, nf3, nf4]
  refine st_value (v := (.int .i64 ((pieces 32 l).length : Int))) (by rfl) (run_len (.tmp 26) rfl ⟨_, Tryd.underlying31⟩ rfl w35) ?_
  simp only [nf0, nf1, nf2, nf3, nf4]
  refine st_value (v := (.int .i64 (min ((pieces 32 l).length : Int) 4))) (by rfl) (run_min2 (.tmp 27) (.const (.int .i64 4)) rfl rfl rfl w35) ?_
  simp only [nf0, nf1, nf2, nf3, nf4]
  refine st_value (v := (.slice (cutA (some ⟨b18, o19, none⟩) c12 1) (((pieces 32 l).take (min (pieces 32 l).length 4)).drop 1).length (c12 - 1))) (by rfl) (run_cutmid (.tmp 25) (.const (.int .i64 1)) (.tmp 28) rfl Tryd.underlying31 slTx.sz (xs := (pieces 32 l)) (p := 1) (q := (min (pieces 32 l).length 4)) rfl rfl rfl rfl (by omega) (by omega) (by omega) (by omega) w35) ?_
  simp only [nf0, nf1, nf2, nf3, nf4]
  refine st_value (v := (.int .i64 ((((pieces 32 l).take (min (pieces 32 l).length 4)).drop 1).length : Int))) (by rfl) (run_len (.tmp 29) rfl ⟨_, Tryd.underlying31⟩ rfl w35) ?_
  simp only [nf0, nf1, nf2, nf3, nf4]
  refine st_mv (.int .i64 0) ?_
  simp only [nf0, nf1, nf2, nf3, nf4]
  refine wpList_nil ?_
  show Code.wp _ _ _ _ _
  refine wp_block ?_
  generalize hA2 : cutA (some ⟨b18, o19, none⟩) c12 1 = A2 at *
  have Rmid := rd_mid (min (pieces 32 l).length 4) hA2 O7
  have hmc : (((pieces 32 l).take (min (pieces 32 l).length 4)).drop 1).length ≤ c12 - 1 := by rw [List.length_drop, List.length_take]; omega
  refine wp_loop_left (fun n_ a_ wr_ => (fun J42 => ∃ (j : Nat), n_ = (((pieces 32 l).take (min (pieces 32 l).length 4)).drop 1).length - j ∧ a_ = ⟨#[.string (str l), J42 1, .pointer (some ⟨g1, 0, none⟩), .bool false, .slice (some ⟨b18, o19, none⟩) (pieces 32 l).length c12, .pointer (some ⟨g20, 0, none⟩), J42 6, .slice (some ⟨g34, 0, none⟩) 4 4, J42 8, J42 9, J42 10, J42 11, J42 12, J42 13, J42 14, J42 15, J42 16, J42 17, J42 18, J42 19, J42 20, J42 21, J42 22, J42 23, J42 24, J42 25, J42 26, J42 27, J42 28, .slice A2 (((pieces 32 l).take (min (pieces 32 l).length 4)).drop 1).length (c12 - 1), .int .i64 ((((pieces 32 l).take (min (pieces 32 l).length 4)).drop 1).length : Int), .int .i64 (j : Int), J42 32, J42 33, J42 34, J42 35, J42 36, J42 37, J42 38, J42 39, J42 40, J42 41, J42 42, J42 43, J42 44, J42 45, J42 46, J42 47, J42 48, J42 49, J42 50, J42 51, J42 52, J42 53, J42 54, J42 55, J42 56, J42 57, J42 58, J42 59, J42 60, J42 61, J42 62, J42 63, J42 64, J42 65, J42 66, J42 67, J42 68, J42 69, J42 70, J42 71, J42 72, J42 73, J42 74], []⟩ ∧ Blk wr_ g1 #[.int .i64 0, .int .i64 0, .int .i64 0, .int .i64 0, .int .u64 0] 24 ∧ OwnR wr_ w.heap.size 9 eTx (.slice (some ⟨b18, o19, none⟩) (pieces 32 l).length c12) (pieces 32 l) ∧ Reads wr_ (some ⟨b18, o19, none⟩) (Enc.all eTx (pieces 32 l)) ∧ Blk wr_ g20 #[.int .i64 ((kS (tx (pieces 32 l) 0) : Nat) : Int), .int .i64 0, .int .i64 0, .int .i64 0, .int .u64 0] 24 ∧ Blk wr_ g34 (irow .u64 (nsW (pieces 32 l) j)) 34 ∧ Reads wr_ A2 (Enc.all eTx (((pieces 32 l).take (min (pieces 32 l).length 4)).drop 1)) ∧ Off (.slice (some ⟨b18, o19, none⟩) (pieces 32 l).length c12) g1 ∧ Off (.slice (some ⟨b18, o19, none⟩) (pieces 32 l).length c12) g20 ∧ Off (.slice (some ⟨b18, o19, none⟩) (pieces 32 l).length c12) g34 ∧ Below w.heap.size w wr_ ∧ (j ≤ (((pieces 32 l).take (min (pieces 32 l).length 4)).drop 1).length)) (jk a_)) ((((pieces 32 l).take (min (pieces 32 l).length 4)).drop 1).length - 0) ⟨0, rfl, rfl, B3, O7, R17, B33, (by rw [nsW_0]; exact B36), Rmid, n28, n29, n40, bel, (Nat.zero_le _)⟩ ?_
  clear B3
  clear O7
  clear R17
  clear B33
  clear B36
  clear Rmid
  clear n28 n29 n40
  clear bel
  intro n_ a_ w46 h_
  revert h_
  generalize jk a_ = J42
  rintro ⟨j, hms, rfl, B3, O7, R17, B33, B36, Rmid, n43, n44, n45, bel, hj⟩
  have hfl : (nsW (pieces 32 l) j).length = 4 := nsW_len _ _
  have hcu : (((pieces 32 l).take (min (pieces 32 l).length 4)).drop 1).length = (min (pieces 32 l).length 4) - 1 := by rw [List.length_drop, List.length_take]; omega
  refine wp_seq ?_
  refine wp_region_lit ?_
  refine st_value (v := (.bool (decide ((j : Int) < ((((pieces 32 l).take (min (pieces 32 l).length 4)).drop 1).length : Int))))) (by rfl) (run_lss (.tmp 31) (.tmp 30) rfl rfl rfl w46) ?_
  simp only [nf0, nf1, nf2, nf3, nf4]
  refine wpList_nil ?_
  show Code.wp _ _ _ _ _
  refine wp_seq ?_
  cases hg47 : decide ((j : Int) < ((((pieces 32 l).take (min (pieces 32 l).length 4)).drop 1).length : Int))
  rotate_left
  · have hp101 := of_decide_eq_true hg47
    refine wp_cond_true rfl ?_
    refine wp_skip ?_
    show Code.wp _ _ _ _ _
    refine wp_seq ?_
    refine wp_block ?_
    refine wp_seq ?_
    obtain ⟨b102, o103, rfl, _⟩ := Rmid.at_ (by rw [Enc.all_length]; exact Nat.mul_pos (by omega) (by decide))
    refine wp_region_lit ?_
    refine st_mv (.int .i64 (j : Int)) ?_
    simp only [nf0, nf1, nf2, nf3, nf4]
    refine st_value (v := (.pointer (some ⟨b102, o103 + j * 1, none⟩))) (by rfl) (run_indexAddrN (.tmp 29) (.tmp 31) rfl Tryd.underlying31 slTx.sz (i := j) rfl rfl (by omega) w46) ?_
    simp only [nf0, nf1, nf2, nf3, nf4]
    refine st_value (v := (.string (str (tx (((pieces 32 l).take (min (pieces 32 l).length 4)).drop 1) j)))) (by rfl) (run_load1 (.tmp 34) rfl Tryd.underlying9 rfl slTx.sz rfl (Reads.txAt Rmid j (by omega))) ?_
    simp only [nf0, nf1, nf2, nf3, nf4]
    refine st_mv (.int .i64 (j : Int)) ?_
    simp only [nf0, nf1, nf2, nf3, nf4]
    refine st_mv (.string (str (tx (((pieces 32 l).take (min (pieces 32 l).length 4)).drop 1) j))) ?_
    simp only [nf0, nf1, nf2, nf3, nf4]
    refine wpList_nil ?_
    show Code.wp _ _ _ _ _
    refine wp_region_lit ?_
    refine st_mv (.slice (some ⟨g34, 0, none⟩) 4 4) ?_
    simp only [nf0, nf1, nf2, nf3, nf4]
    refine st_mv (.int .i64 (j : Int)) ?_
    simp only [nf0, nf1, nf2, nf3, nf4]
    refine st_mv (.string (str (tx (((pieces 32 l).take (min (pieces 32 l).length 4)).drop 1) j))) ?_
    simp only [nf0, nf1, nf2, nf3, nf4]
    refine st_call1 (v := (.int .u64 (numU (tx (((pieces 32 l).take (min (pieces 32 l).length 4)).drop 1) j)))) (by rfl) (e_run_call_12_1 (.tmp 38) rfl rfl _) (snumber_calls (tx (((pieces 32 l).take (min (pieces 32 l).length 4)).drop 1) j) (by have h_ := hnm (tx (((pieces 32 l).take (min (pieces 32 l).length 4)).drop 1) j) (List.mem_of_mem_take (List.mem_of_mem_drop (tx_mem (by omega)))); omega) w46) ?_
    intro w104 hb105
    simp only [nf0, nf1, nf2, nf3, nf4]
    replace B3 := B3.below hb105
    replace O7 := O7.same hb105
    replace R17 := R17.same hb105
    replace B33 := B33.below hb105
    replace B36 := B36.below hb105
    replace Rmid := Rmid.same hb105
    replace bel := bl_step bel hb105
    clear hb105
    refine st_value (v := (.pointer (some ⟨g34, j, none⟩))) (by rfl) (run_index1 (.tmp 36) (.tmp 37) rfl Tryd.underlying33 (by kernel_rfl) rfl rfl (by omega) (by omega) w104) ?_
    simp only [nf0, nf1, nf2, nf3, nf4]
    refine st_cell (v := (.int .u64 (numU (tx (((pieces 32 l).take (min (pieces 32 l).length 4)).drop 1) j)))) (by rfl) (run_storeB (.tmp 40) (.tmp 39) rfl e_one_34 B36 (irow_lt (by omega)) rfl rfl rfl rfl) B36 ?_
    intro w106 B108 hg107
    simp only [nf0, nf1, nf2, nf3, nf4]
    replace B3 := B3.kept hg107 n39
    replace O7 := O7.keptB hg107 n45
    replace B33 := B33.kept hg107 n41
    replace bel := bl_kept0 bel hg107 lo38
    replace R17 := OwnR.rdE O7
    replace Rmid := rd_mid (min (pieces 32 l).length 4) hA2 O7
    clear hg107
    clear B36
    rw [irow_set] at B108
    refine wpList_nil ?_
    show Code.wp _ _ _ _ _
    refine wp_region_lit ?_
    refine st_value (v := (.int .i64 ((j : Int) + 1))) (by rfl) (run_add_in (.tmp 31) (.const (.int .i64 1)) rfl rfl rfl (by omega) w106) ?_
    simp only [nf0, nf1, nf2, nf3, nf4]
    refine st_mv (.int .i64 ((j : Int) + 1)) ?_
    simp only [nf0, nf1, nf2, nf3, nf4]
    refine wpList_nil ?_
    show ∃ m, m < _ ∧ _
    exact ⟨_, (by omega), (j + 1), rfl, rfl, B3, O7, R17, B33, (by have h_ := B108; rw [nsW_set (by omega)] at h_; exact h_), Rmid, n43, n44, n45, bel, (by omega)⟩
  have hp48 := of_decide_eq_false hg47
  refine wp_cond_false rfl ?_
  refine wp_exit ?_
  show Code.wp _ _ _ _ _
  refine wp_seq ?_
  have hjl : j = (((pieces 32 l).take (min (pieces 32 l).length 4)).drop 1).length := by omega
  have B49 : Blk w46 g34 #[.int .u64 (numU ((pieces 32 l).getD 1 [])), .int .u64 (numU ((pieces 32 l).getD 2 [])), .int .u64 (numU ((pieces 32 l).getD 3 [])), .int .u64 0] 34 := by have h_ := B36; rw [hjl, nsW_end] at h_; unfold irow at h_; exact h_
  clear B36
  have hn1 := numU_rng ((pieces 32 l).getD 1 [])
  have hn2 := numU_rng ((pieces 32 l).getD 2 [])
  have hn3 := numU_rng ((pieces 32 l).getD 3 [])
  refine wp_region_lit ?_
  refine st_mv (.slice (some ⟨g34, 0, none⟩) 4 4) ?_
  simp only [nf0, nf1, nf2, nf3, nf4]
  refine st_value (v := (.pointer (some ⟨g34, 0, none⟩))) (by rfl) (run_index1 (.tmp 42) (.const (.int .i64 0)) rfl Tryd.underlying33 (by kernel_rfl) rfl rfl (by omega) (by omega) w46) ?_
  simp only [nf0, nf1, nf2, nf3, nf4]
  refine st_value (v := (.int .u64 (numU ((pieces 32 l).getD 1 [])))) (by rfl) (run_loadB (.tmp 43) rfl e_one_34 rfl B49 rfl) ?_
  simp only [nf0, nf1, nf2, nf3, nf4]
  refine st_value (v := (.int .i64 (IntKind.i64.wrap (numU ((pieces 32 l).getD 1 []))))) (by rfl) (run_conv_u64_i64 (.tmp 44) rfl Tryd.underlying34 Tryd.underlying3 (z := (numU ((pieces 32 l).getD 1 []))) (z' := (IntKind.i64.wrap (numU ((pieces 32 l).getD 1 [])))) rfl rfl w46) ?_
  simp only [nf0, nf1, nf2, nf3, nf4]
  refine st_value (v := (.pointer (some ⟨g20, 1, none⟩))) (by rfl) (run_fieldA (.tmp 5) rfl e_fld_24_1 rfl rfl w46) ?_
  simp only [nf0, nf1, nf2, nf3, nf4]
  refine st_cell (v := (.int .i64 (IntKind.i64.wrap (numU ((pieces 32 l).getD 1 []))))) (by rfl) (run_storeB (.tmp 46) (.tmp 45) rfl e_one_3 B33 (show 1 < 5 by decide) rfl rfl rfl rfl) B33 ?_
  intro w50 B52 hg51
  simp only [nf0, nf1, nf2, nf3, nf4]
  replace B3 := B3.kept hg51 n25
  replace O7 := O7.keptB hg51 n44
  replace B49 := B49.kept hg51 n41.symm
  replace bel := bl_kept0 bel hg51 lo24
  replace R17 := OwnR.rdE O7
  replace Rmid := rd_mid (min (pieces 32 l).length 4) hA2 O7
  clear hg51
  clear B33
  replace B52 : Blk w50 g20 #[.int .i64 ((kS (tx (pieces 32 l) 0) : Nat) : Int), .int .i64 (IntKind.i64.wrap (numU ((pieces 32 l).getD 1 []))), .int .i64 0, .int .i64 0, .int .u64 0] 24 := B52
  refine wpList_nil ?_
  show Code.wp _ _ _ _ _
  refine wp_seq ?_
  refine wp_seq ?_
  refine wp_region_lit ?_
  refine st_value (v := (.pointer (some ⟨g20, 0, none⟩))) (by rfl) (run_fieldA (.tmp 5) rfl e_fld_24_0 rfl rfl w50) ?_
  simp only [nf0, nf1, nf2, nf3, nf4]
  refine st_value (v := (.int .i64 ((kS (tx (pieces 32 l) 0) : Nat) : Int))) (by rfl) (run_loadB (.tmp 47) rfl e_one_3 rfl B52 rfl) ?_
  simp only [nf0, nf1, nf2, nf3, nf4]
  refine st_value (v := (.bool (decide (((kS (tx (pieces 32 l) 0) : Nat) : Int) = 1)))) (by rfl) (run_eql_int (.tmp 48) (.const (.int .i64 1)) rfl rfl rfl w50) ?_
  simp only [nf0, nf1, nf2, nf3, nf4]
  refine wpList_nil ?_
  show Code.wp _ _ _ _ _
  cases hg53 : decide (((kS (tx (pieces 32 l) 0) : Nat) : Int) = 1)
  rotate_left
  · have hp80 := of_decide_eq_true hg53
    refine wp_cond_true rfl ?_
    refine wp_region_lit ?_
    refine st_mv (.slice (some ⟨g34, 0, none⟩) 4 4) ?_
    simp only [nf0, nf1, nf2, nf3, nf4]
    refine st_value (v := (.pointer (some ⟨g34, 1, none⟩))) (by rfl) (run_index1 (.tmp 50) (.const (.int .i64 1)) rfl Tryd.underlying33 (by kernel_rfl) rfl rfl (by omega) (by omega) w50) ?_
    simp only [nf0, nf1, nf2, nf3, nf4]
    refine st_value (v := (.int .u64 (numU ((pieces 32 l).getD 2 [])))) (by rfl) (run_loadB (.tmp 51) rfl e_one_34 rfl B49 rfl) ?_
    simp only [nf0, nf1, nf2, nf3, nf4]
    refine st_value (v := (.pointer (some ⟨g20, 4, none⟩))) (by rfl) (run_fieldA (.tmp 5) rfl e_fld_24_4 rfl rfl w50) ?_
    simp only [nf0, nf1, nf2, nf3, nf4]
    refine st_cell (v := (.int .u64 (numU ((pieces 32 l).getD 2 [])))) (by rfl) (run_storeB (.tmp 53) (.tmp 52) rfl e_one_22 B52 (show 4 < 5 by decide) rfl rfl rfl rfl) B52 ?_
    intro w81 B83 hg82
    simp only [nf0, nf1, nf2, nf3, nf4]
    replace B3 := B3.kept hg82 n25
    replace O7 := O7.keptB hg82 n44
    replace B49 := B49.kept hg82 n41.symm
    replace bel := bl_kept0 bel hg82 lo24
    replace R17 := OwnR.rdE O7
    replace Rmid := rd_mid (min (pieces 32 l).length 4) hA2 O7
    clear hg82
    clear B52
    replace B83 : Blk w81 g20 #[.int .i64 ((kS (tx (pieces 32 l) 0) : Nat) : Int), .int .i64 (IntKind.i64.wrap (numU ((pieces 32 l).getD 1 []))), .int .i64 0, .int .i64 0, .int .u64 (numU ((pieces 32 l).getD 2 []))] 24 := B83
    refine wpList_nil ?_
    show Code.wp _ _ _ _ _
    refine wp_seq ?_
    refine wp_seq ?_
    cases hg84 : decide (((kS (tx (pieces 32 l) 0) : Nat) : Int) = 0)
    rotate_left
    · have hp97 := of_decide_eq_true hg84
      have hk1 : kS (tx (pieces 32 l) 0) = 1 := by omega
      have heW : eW (pieces 32 l) = ((((kS (tx (pieces 32 l) 0) : Nat) : Int), (IntKind.i64.wrap (numU ((pieces 32 l).getD 1 []))), 0, 0, (numU ((pieces 32 l).getD 2 []))) : TEnt) := by unfold eW; rw [if_pos (show kS ((pieces 32 l).getD 0 []) = 1 from hk1), if_pos (show kS ((pieces 32 l).getD 0 []) = 1 from hk1), if_pos (show kS ((pieces 32 l).getD 0 []) = 1 from hk1)]; rfl
      have hok : okEnt ((((kS (tx (pieces 32 l) 0) : Nat) : Int), (IntKind.i64.wrap (numU ((pieces 32 l).getD 1 []))), 0, 0, (numU ((pieces 32 l).getD 2 []))) : TEnt) := by rw [← heW]; exact eW_ok _
      have hPR : pS l = if kS (tx (pieces 32 l) 0) = 0 ∨ prS (eW (pieces 32 l)) ≠ l then ((0, 0, 0, 0, 0), false) else (eW (pieces 32 l), true) := pS_read l
      rw [heW] at hPR
      refine wp_region_lit ?_
      refine st_value (v := (.pointer (some ⟨g20, 0, none⟩))) (by rfl) (run_fieldA (.tmp 5) rfl e_fld_24_0 rfl rfl w81) ?_
      simp only [nf0, nf1, nf2, nf3, nf4]
      refine st_value (v := (.int .i64 ((kS (tx (pieces 32 l) 0) : Nat) : Int))) (by rfl) (run_loadB (.tmp 64) rfl e_one_3 rfl B83 rfl) ?_
      simp only [nf0, nf1, nf2, nf3, nf4]
      refine st_value (v := (.bool true)) (by rfl) ((run_eql_int (.tmp 65) (.const (.int .i64 0)) rfl rfl rfl w81).trans (by rw [hg84])) ?_
      simp only [nf0, nf1, nf2, nf3, nf4]
      refine st_mv (.bool true) ?_
      simp only [nf0, nf1, nf2, nf3, nf4]
      refine st_nob (j := 3) (t := 67) (c := true) rfl rfl rfl rfl rfl ?_
      simp only [nf0, nf1, nf2, nf3, nf4]
      refine st_nob (j := 3) (t := 67) (c := true) rfl rfl rfl rfl rfl ?_
      simp only [nf0, nf1, nf2, nf3, nf4]
      refine st_nob (j := 3) (t := 67) (c := true) rfl rfl rfl rfl rfl ?_
      simp only [nf0, nf1, nf2, nf3, nf4]
      refine st_nob (j := 3) (t := 67) (c := true) rfl rfl rfl rfl rfl ?_
      simp only [nf0, nf1, nf2, nf3, nf4]
      refine st_mv (.bool true) ?_
      simp only [nf0, nf1, nf2, nf3, nf4]
      refine wpList_nil ?_
      show Code.wp _ _ _ _ _
      refine wp_cond_true rfl ?_
      refine wp_seq ?_
      refine wp_region_lit ?_
      refine st_value (v := (.agg #[.int .i64 0, .int .i64 0, .int .i64 0, .int .i64 0, .int .u64 0])) (by rfl) (run_buildV rfl (by kernel_rfl) w81) ?_
      simp only [nf0, nf1, nf2, nf3, nf4]
      refine st_row (by rfl) (run_storeW (.tmp 2) (.tmp 73) rfl (cs := #[.int .i64 0, .int .i64 0, .int .i64 0, .int .i64 0, .int .u64 0]) aggEnt rfl rfl B3 rfl (by simp [Value.oneCell'])) B3 ?_
      intro w98 B100 hg99
      simp only [nf0, nf1, nf2, nf3, nf4]
      replace O7 := O7.keptB hg99 n43
      replace B83 := B83.kept hg99 n25.symm
      replace B49 := B49.kept hg99 n39.symm
      replace bel := bl_kept0 bel hg99 lo5
      replace R17 := OwnR.rdE O7
      replace Rmid := rd_mid (min (pieces 32 l).length 4) hA2 O7
      clear hg99
      clear B3
      refine st_mv (.bool false) ?_
      simp only [nf0, nf1, nf2, nf3, nf4]
      refine wpList_nil ?_
      show Code.wp _ _ _ _ _
      refine wp_ret ?_
      first | show bodyPost _ _ _ _ _ _ | (simp only [Exit.then, Exit.inBlock]; show bodyPost _ _ _ _ _ _)
      have hE : pS l = ((0, 0, 0, 0, 0), false) := by rw [hPR]; exact if_pos (by first | exact .inr (by assumption) | exact .inl (by omega))
      exact bodyPost_ret (results_agg1t rfl (cs := #[.int .i64 0, .int .i64 0, .int .i64 0, .int .i64 0, .int .u64 0]) aggEnt (by rfl) B100) rfl ⟨by rw [hE]; rfl, bel⟩
    have hp85 := of_decide_eq_false hg84
    have hk1 : kS (tx (pieces 32 l) 0) = 1 := by omega
    have heW : eW (pieces 32 l) = ((((kS (tx (pieces 32 l) 0) : Nat) : Int), (IntKind.i64.wrap (numU ((pieces 32 l).getD 1 []))), 0, 0, (numU ((pieces 32 l).getD 2 []))) : TEnt) := by unfold eW; rw [if_pos (show kS ((pieces 32 l).getD 0 []) = 1 from hk1), if_pos (show kS ((pieces 32 l).getD 0 []) = 1 from hk1), if_pos (show kS ((pieces 32 l).getD 0 []) = 1 from hk1)]; rfl
    have hok : okEnt ((((kS (tx (pieces 32 l) 0) : Nat) : Int), (IntKind.i64.wrap (numU ((pieces 32 l).getD 1 []))), 0, 0, (numU ((pieces 32 l).getD 2 []))) : TEnt) := by rw [← heW]; exact eW_ok _
    have hPR : pS l = if kS (tx (pieces 32 l) 0) = 0 ∨ prS (eW (pieces 32 l)) ≠ l then ((0, 0, 0, 0, 0), false) else (eW (pieces 32 l), true) := pS_read l
    rw [heW] at hPR
    refine wp_region_lit ?_
    refine st_value (v := (.pointer (some ⟨g20, 0, none⟩))) (by rfl) (run_fieldA (.tmp 5) rfl e_fld_24_0 rfl rfl w81) ?_
    simp only [nf0, nf1, nf2, nf3, nf4]
    refine st_value (v := (.int .i64 ((kS (tx (pieces 32 l) 0) : Nat) : Int))) (by rfl) (run_loadB (.tmp 64) rfl e_one_3 rfl B83 rfl) ?_
    simp only [nf0, nf1, nf2, nf3, nf4]
    refine st_value (v := (.bool false)) (by rfl) ((run_eql_int (.tmp 65) (.const (.int .i64 0)) rfl rfl rfl w81).trans (by rw [hg84])) ?_
    simp only [nf0, nf1, nf2, nf3, nf4]
    refine st_mv (.bool false) ?_
    simp only [nf0, nf1, nf2, nf3, nf4]
    refine st_value (v := (.agg #[.int .i64 ((kS (tx (pieces 32 l) 0) : Nat) : Int), .int .i64 (IntKind.i64.wrap (numU ((pieces 32 l).getD 1 []))), .int .i64 0, .int .i64 0, .int .u64 (numU ((pieces 32 l).getD 2 []))])) (by rfl) (run_loadW (.tmp 5) rfl (cs := #[.int .i64 ((kS (tx (pieces 32 l) 0) : Nat) : Int), .int .i64 (IntKind.i64.wrap (numU ((pieces 32 l).getD 1 []))), .int .i64 0, .int .i64 0, .int .u64 (numU ((pieces 32 l).getD 2 []))]) aggEnt rfl B83) ?_
    simp only [nf0, nf1, nf2, nf3, nf4]
    refine st_call1 (v := (.string (str (prS ((((kS (tx (pieces 32 l) 0) : Nat) : Int), (IntKind.i64.wrap (numU ((pieces 32 l).getD 1 []))), 0, 0, (numU ((pieces 32 l).getD 2 []))) : TEnt))))) (by rfl) (e_run_call_7_1 (.tmp 68) rfl rfl _) (sprint_calls ((((kS (tx (pieces 32 l) 0) : Nat) : Int), (IntKind.i64.wrap (numU ((pieces 32 l).getD 1 []))), 0, 0, (numU ((pieces 32 l).getD 2 []))) : TEnt) hok w81) ?_
    intro w86 hb87
    simp only [nf0, nf1, nf2, nf3, nf4]
    replace B3 := B3.below hb87
    replace O7 := O7.same hb87
    replace R17 := R17.same hb87
    replace B83 := B83.below hb87
    replace B49 := B49.below hb87
    replace Rmid := Rmid.same hb87
    replace bel := bl_step bel hb87
    clear hb87
    refine st_mv (.string (str l)) ?_
    simp only [nf0, nf1, nf2, nf3, nf4]
    refine st_value (v := (.bool (!decide ((prS ((((kS (tx (pieces 32 l) 0) : Nat) : Int), (IntKind.i64.wrap (numU ((pieces 32 l).getD 1 []))), 0, 0, (numU ((pieces 32 l).getD 2 []))) : TEnt)) = l)))) (by rfl) (run_neq_text (.tmp 69) (.tmp 70) (l := (prS ((((kS (tx (pieces 32 l) 0) : Nat) : Int), (IntKind.i64.wrap (numU ((pieces 32 l).getD 1 []))), 0, 0, (numU ((pieces 32 l).getD 2 []))) : TEnt))) (m := l) rfl rfl rfl w86) ?_
    simp only [nf0, nf1, nf2, nf3, nf4]
    refine st_mv (.bool (!decide ((prS ((((kS (tx (pieces 32 l) 0) : Nat) : Int), (IntKind.i64.wrap (numU ((pieces 32 l).getD 1 []))), 0, 0, (numU ((pieces 32 l).getD 2 []))) : TEnt)) = l))) ?_
    simp only [nf0, nf1, nf2, nf3, nf4]
    refine wpList_nil ?_
    show Code.wp _ _ _ _ _
    cases hg88 : decide ((prS ((((kS (tx (pieces 32 l) 0) : Nat) : Int), (IntKind.i64.wrap (numU ((pieces 32 l).getD 1 []))), 0, 0, (numU ((pieces 32 l).getD 2 []))) : TEnt)) = l)
    · have hp89 := of_decide_eq_false hg88
      refine wp_cond_true rfl ?_
      refine wp_seq ?_
      refine wp_region_lit ?_
      refine st_value (v := (.agg #[.int .i64 0, .int .i64 0, .int .i64 0, .int .i64 0, .int .u64 0])) (by rfl) (run_buildV rfl (by kernel_rfl) w86) ?_
      simp only [nf0, nf1, nf2, nf3, nf4]
      refine st_row (by rfl) (run_storeW (.tmp 2) (.tmp 73) rfl (cs := #[.int .i64 0, .int .i64 0, .int .i64 0, .int .i64 0, .int .u64 0]) aggEnt rfl rfl B3 rfl (by simp [Value.oneCell'])) B3 ?_
      intro w90 B92 hg91
      simp only [nf0, nf1, nf2, nf3, nf4]
      replace O7 := O7.keptB hg91 n43
      replace B83 := B83.kept hg91 n25.symm
      replace B49 := B49.kept hg91 n39.symm
      replace bel := bl_kept0 bel hg91 lo5
      replace R17 := OwnR.rdE O7
      replace Rmid := rd_mid (min (pieces 32 l).length 4) hA2 O7
      clear hg91
      clear B3
      refine st_mv (.bool false) ?_
      simp only [nf0, nf1, nf2, nf3, nf4]
      refine wpList_nil ?_
      show Code.wp _ _ _ _ _
      refine wp_ret ?_
      first | show bodyPost _ _ _ _ _ _ | (simp only [Exit.then, Exit.inBlock]; show bodyPost _ _ _ _ _ _)
      have hE : pS l = ((0, 0, 0, 0, 0), false) := by rw [hPR]; exact if_pos (by first | exact .inr (by assumption) | exact .inl (by omega))
      exact bodyPost_ret (results_agg1t rfl (cs := #[.int .i64 0, .int .i64 0, .int .i64 0, .int .i64 0, .int .u64 0]) aggEnt (by rfl) B92) rfl ⟨by rw [hE]; rfl, bel⟩
    have hp93 := of_decide_eq_true hg88
    refine wp_cond_false rfl ?_
    refine wp_skip ?_
    show Code.wp _ _ _ _ _
    refine wp_seq ?_
    refine wp_region_lit ?_
    refine st_value (v := (.agg #[.int .i64 ((kS (tx (pieces 32 l) 0) : Nat) : Int), .int .i64 (IntKind.i64.wrap (numU ((pieces 32 l).getD 1 []))), .int .i64 0, .int .i64 0, .int .u64 (numU ((pieces 32 l).getD 2 []))])) (by rfl) (run_loadW (.tmp 5) rfl (cs := #[.int .i64 ((kS (tx (pieces 32 l) 0) : Nat) : Int), .int .i64 (IntKind.i64.wrap (numU ((pieces 32 l).getD 1 []))), .int .i64 0, .int .i64 0, .int .u64 (numU ((pieces 32 l).getD 2 []))]) aggEnt rfl B83) ?_
    simp only [nf0, nf1, nf2, nf3, nf4]
    refine st_row (by rfl) (run_storeW (.tmp 2) (.tmp 74) rfl (cs := #[.int .i64 ((kS (tx (pieces 32 l) 0) : Nat) : Int), .int .i64 (IntKind.i64.wrap (numU ((pieces 32 l).getD 1 []))), .int .i64 0, .int .i64 0, .int .u64 (numU ((pieces 32 l).getD 2 []))]) aggEnt rfl rfl B3 rfl (by simp [Value.oneCell'])) B3 ?_
    intro w94 B96 hg95
    simp only [nf0, nf1, nf2, nf3, nf4]
    replace O7 := O7.keptB hg95 n43
    replace B83 := B83.kept hg95 n25.symm
    replace B49 := B49.kept hg95 n39.symm
    replace bel := bl_kept0 bel hg95 lo5
    replace R17 := OwnR.rdE O7
    replace Rmid := rd_mid (min (pieces 32 l).length 4) hA2 O7
    clear hg95
    clear B3
    refine st_mv (.bool true) ?_
    simp only [nf0, nf1, nf2, nf3, nf4]
    refine wpList_nil ?_
    show Code.wp _ _ _ _ _
    refine wp_ret ?_
    first | show bodyPost _ _ _ _ _ _ | (simp only [Exit.then, Exit.inBlock]; show bodyPost _ _ _ _ _ _)
    have hE : pS l = (((((kS (tx (pieces 32 l) 0) : Nat) : Int), (IntKind.i64.wrap (numU ((pieces 32 l).getD 1 []))), 0, 0, (numU ((pieces 32 l).getD 2 []))) : TEnt), true) := by rw [hPR]; exact if_neg (by rintro (h_ | h_); (· omega); exact h_ (by assumption))
    exact bodyPost_ret (results_agg1t rfl (cs := #[.int .i64 ((kS (tx (pieces 32 l) 0) : Nat) : Int), .int .i64 (IntKind.i64.wrap (numU ((pieces 32 l).getD 1 []))), .int .i64 0, .int .i64 0, .int .u64 (numU ((pieces 32 l).getD 2 []))]) aggEnt (by rfl) B96) rfl ⟨by rw [hE]; rfl, bel⟩
  have hp54 := of_decide_eq_false hg53
  refine wp_cond_false rfl ?_
  have KK58 : ∀ (I : Nat → Prop) W, (Ph 9 (fun W => Below w50.heap.size w50 W) (fun W => Fr [g20] w50 W ∧ Blk W g20 #[.int .i64 ((kS (tx (pieces 32 l) 0) : Nat) : Int), .int .i64 (IntKind.i64.wrap (numU ((pieces 32 l).getD 1 []))), .int .i64 (IntKind.i64.wrap (numU ((pieces 32 l).getD 2 []))), .int .i64 0, .int .u64 0] 24)) I W → Fr [g20] w50 W := fun I W h => h.both Fr.of_below (fun h => h.1)
  have K_B49 : ∀ (I : Nat → Prop) W, (Ph 9 (fun W => Below w50.heap.size w50 W) (fun W => Fr [g20] w50 W ∧ Blk W g20 #[.int .i64 ((kS (tx (pieces 32 l) 0) : Nat) : Int), .int .i64 (IntKind.i64.wrap (numU ((pieces 32 l).getD 1 []))), .int .i64 (IntKind.i64.wrap (numU ((pieces 32 l).getD 2 []))), .int .i64 0, .int .u64 0] 24)) I W → Blk W g34 #[.int .u64 (numU ((pieces 32 l).getD 1 [])), .int .u64 (numU ((pieces 32 l).getD 2 [])), .int .u64 (numU ((pieces 32 l).getD 3 [])), .int .u64 0] 34 := fun I W h => B49.fr (KK58 I W h) (ni1 n41.symm)
  refine wp_region_facts8_lit (C := Ph 9 (fun W => Below w50.heap.size w50 W) (fun W => Fr [g20] w50 W ∧ Blk W g20 #[.int .i64 ((kS (tx (pieces 32 l) 0) : Nat) : Int), .int .i64 (IntKind.i64.wrap (numU ((pieces 32 l).getD 1 []))), .int .i64 (IntKind.i64.wrap (numU ((pieces 32 l).getD 2 []))), .int .i64 0, .int .u64 0] 24)) 10 ([.slice (some ⟨g34, 0, none⟩) 4 4, .pointer (some ⟨g34, 1, none⟩), .int .u64 (numU ((pieces 32 l).getD 2 [])), .int .i64 (IntKind.i64.wrap (numU ((pieces 32 l).getD 2 []))), .slice (some ⟨g34, 0, none⟩) 4 4, .pointer (some ⟨g34, 2, none⟩), .int .u64 (numU ((pieces 32 l).getD 3 [])), .int .i64 (IntKind.i64.wrap (numU ((pieces 32 l).getD 3 []))), .pointer (some ⟨g20, 2, none⟩), undef].map Fct.val) w50.heap.size (by kernel_rfl) (by simp) (by kernel_rfl) (by kernel_rfl) (fun _ _ h => (KK58 _ _ h).size) ⟨fun _ => bl_drew (Below.refl _ _), fun h => h.elim⟩ (vals_all _) ?_
  simp only [List.take_succ_cons, List.take_zero, List.drop_succ_cons, List.drop_zero, List.map_cons, List.map_nil]
  refine fst8_val (fun I W hC hn hp => ok8_value (v := (.slice (some ⟨g34, 0, none⟩) 4 4)) (by rfl) (by rfl) rfl (hC.other (by decide))) ?_
  simp only [nf0, nf1, nf2, nf3, nf4]
  refine fst8_val (fun I W hC hn hp => ok8_value (v := (.pointer (some ⟨g34, 1, none⟩))) (by rfl) (run_index1 (.tmp 54) (.const (.int .i64 1)) rfl Tryd.underlying33 (by kernel_rfl) rfl rfl (by omega) (by omega) W) rfl (hC.other (by decide))) ?_
  simp only [nf0, nf1, nf2, nf3, nf4]
  refine fst8_val (fun I W hC hn hp => ok8_value (v := (.int .u64 (numU ((pieces 32 l).getD 2 [])))) (by rfl) (run_loadB (.tmp 55) rfl e_one_34 rfl (K_B49 _ W hC) rfl) rfl (hC.other (by decide))) ?_
  simp only [nf0, nf1, nf2, nf3, nf4]
  refine fst8_val (fun I W hC hn hp => ok8_value (v := (.int .i64 (IntKind.i64.wrap (numU ((pieces 32 l).getD 2 []))))) (by rfl) (run_conv_u64_i64 (.tmp 56) rfl Tryd.underlying34 Tryd.underlying3 (z := (numU ((pieces 32 l).getD 2 []))) (z' := (IntKind.i64.wrap (numU ((pieces 32 l).getD 2 [])))) rfl rfl W) rfl (hC.other (by decide))) ?_
  simp only [nf0, nf1, nf2, nf3, nf4]
  refine fst8_val (fun I W hC hn hp => ok8_value (v := (.slice (some ⟨g34, 0, none⟩) 4 4)) (by rfl) (by rfl) rfl (hC.other (by decide))) ?_
  simp only [nf0, nf1, nf2, nf3, nf4]
  refine fst8_val (fun I W hC hn hp => ok8_value (v := (.pointer (some ⟨g34, 2, none⟩))) (by rfl) (run_index1 (.tmp 58) (.const (.int .i64 2)) rfl Tryd.underlying33 (by kernel_rfl) rfl rfl (by omega) (by omega) W) rfl (hC.other (by decide))) ?_
  simp only [nf0, nf1, nf2, nf3, nf4]
  refine fst8_val (fun I W hC hn hp => ok8_value (v := (.int .u64 (numU ((pieces 32 l).getD 3 [])))) (by rfl) (run_loadB (.tmp 59) rfl e_one_34 rfl (K_B49 _ W hC) rfl) rfl (hC.other (by decide))) ?_
  simp only [nf0, nf1, nf2, nf3, nf4]
  refine fst8_val (fun I W hC hn hp => ok8_value (v := (.int .i64 (IntKind.i64.wrap (numU ((pieces 32 l).getD 3 []))))) (by rfl) (run_conv_u64_i64 (.tmp 60) rfl Tryd.underlying34 Tryd.underlying3 (z := (numU ((pieces 32 l).getD 3 []))) (z' := (IntKind.i64.wrap (numU ((pieces 32 l).getD 3 [])))) rfl rfl W) rfl (hC.other (by decide))) ?_
  simp only [nf0, nf1, nf2, nf3, nf4]
  refine fst8_val (fun I W hC hn hp => ok8_value (v := (.pointer (some ⟨g20, 2, none⟩))) (by rfl) (run_fieldA (.tmp 5) rfl e_fld_24_2 rfl rfl W) rfl (hC.other (by decide))) ?_
  simp only [nf0, nf1, nf2, nf3, nf4]
  refine fst8_val (fun I W hC hn hp => ok8_skip (by rfl) (run_storeB (.tmp 62) (.tmp 57) rfl e_one_3 (B52.below (hC.1 hn)) (show 2 < 5 by decide) rfl rfl rfl rfl) (Ph.now ⟨fr_in (Fr.of_below (hC.1 hn)) (gb_cell _ _ _) (by simp), (B52.below (hC.1 hn)).set 2 _⟩)) ?_
  simp only [nf0, nf1, nf2, nf3, nf4]
  refine fst8_nil fun I w55 hI hC => ?_
  obtain ⟨hF56, B57⟩ := hC.2 (hI 9 (by decide))
  clear hC hI KK58
  clear K_B49
  replace B3 := B3.fr hF56 (ni1 n25)
  replace O7 := O7.fr hF56 (of1 n44)
  replace B49 := B49.fr hF56 (ni1 n41.symm)
  clear B52
  replace bel := bl_call bel hF56 (lo1 lo24)
  clear hF56
  replace R17 := OwnR.rdE O7
  replace Rmid := rd_mid (min (pieces 32 l).length 4) hA2 O7
  refine st_value (v := (.pointer (some ⟨g20, 3, none⟩))) (by rfl) (run_fieldA (.tmp 5) rfl e_fld_24_3 rfl rfl w55) ?_
  simp only [nf0, nf1, nf2, nf3, nf4]
  refine st_cell (v := (.int .i64 (IntKind.i64.wrap (numU ((pieces 32 l).getD 3 []))))) (by rfl) (run_storeB (.tmp 63) (.tmp 61) rfl e_one_3 B57 (show 3 < 5 by decide) rfl rfl rfl rfl) B57 ?_
  intro w60 B62 hg61
  simp only [nf0, nf1, nf2, nf3, nf4]
  replace B3 := B3.kept hg61 n25
  replace O7 := O7.keptB hg61 n44
  replace B49 := B49.kept hg61 n41.symm
  replace bel := bl_kept0 bel hg61 lo24
  replace R17 := OwnR.rdE O7
  replace Rmid := rd_mid (min (pieces 32 l).length 4) hA2 O7
  clear hg61
  clear B57
  replace B62 : Blk w60 g20 #[.int .i64 ((kS (tx (pieces 32 l) 0) : Nat) : Int), .int .i64 (IntKind.i64.wrap (numU ((pieces 32 l).getD 1 []))), .int .i64 (IntKind.i64.wrap (numU ((pieces 32 l).getD 2 []))), .int .i64 (IntKind.i64.wrap (numU ((pieces 32 l).getD 3 []))), .int .u64 0] 24 := B62
  refine wpList_nil ?_
  show Code.wp _ _ _ _ _
  refine wp_seq ?_
  refine wp_seq ?_
  cases hg63 : decide (((kS (tx (pieces 32 l) 0) : Nat) : Int) = 0)
  rotate_left
  · have hp76 := of_decide_eq_true hg63
    have hk1 : ¬ kS (tx (pieces 32 l) 0) = 1 := by omega
    have heW : eW (pieces 32 l) = ((((kS (tx (pieces 32 l) 0) : Nat) : Int), (IntKind.i64.wrap (numU ((pieces 32 l).getD 1 []))), (IntKind.i64.wrap (numU ((pieces 32 l).getD 2 []))), (IntKind.i64.wrap (numU ((pieces 32 l).getD 3 []))), 0) : TEnt) := by unfold eW; rw [if_neg (show ¬ kS ((pieces 32 l).getD 0 []) = 1 from hk1), if_neg (show ¬ kS ((pieces 32 l).getD 0 []) = 1 from hk1), if_neg (show ¬ kS ((pieces 32 l).getD 0 []) = 1 from hk1)]; rfl
    have hok : okEnt ((((kS (tx (pieces 32 l) 0) : Nat) : Int), (IntKind.i64.wrap (numU ((pieces 32 l).getD 1 []))), (IntKind.i64.wrap (numU ((pieces 32 l).getD 2 []))), (IntKind.i64.wrap (numU ((pieces 32 l).getD 3 []))), 0) : TEnt) := by rw [← heW]; exact eW_ok _
    have hPR : pS l = if kS (tx (pieces 32 l) 0) = 0 ∨ prS (eW (pieces 32 l)) ≠ l then ((0, 0, 0, 0, 0), false) else (eW (pieces 32 l), true) := pS_read l
    rw [heW] at hPR
    refine wp_region_lit ?_
    refine st_value (v := (.pointer (some ⟨g20, 0, none⟩))) (by rfl) (run_fieldA (.tmp 5) rfl e_fld_24_0 rfl rfl w60) ?_
    simp only [nf0, nf1, nf2, nf3, nf4]
    refine st_value (v := (.int .i64 ((kS (tx (pieces 32 l) 0) : Nat) : Int))) (by rfl) (run_loadB (.tmp 64) rfl e_one_3 rfl B62 rfl) ?_
    simp only [nf0, nf1, nf2, nf3, nf4]
    refine st_value (v := (.bool true)) (by rfl) ((run_eql_int (.tmp 65) (.const (.int .i64 0)) rfl rfl rfl w60).trans (by rw [hg63])) ?_
    simp only [nf0, nf1, nf2, nf3, nf4]
    refine st_mv (.bool true) ?_
    simp only [nf0, nf1, nf2, nf3, nf4]
    refine st_nob (j := 3) (t := 67) (c := true) rfl rfl rfl rfl rfl ?_
    simp only [nf0, nf1, nf2, nf3, nf4]
    refine st_nob (j := 3) (t := 67) (c := true) rfl rfl rfl rfl rfl ?_
    simp only [nf0, nf1, nf2, nf3, nf4]
    refine st_nob (j := 3) (t := 67) (c := true) rfl rfl rfl rfl rfl ?_
    simp only [nf0, nf1, nf2, nf3, nf4]
    refine st_nob (j := 3) (t := 67) (c := true) rfl rfl rfl rfl rfl ?_
    simp only [nf0, nf1, nf2, nf3, nf4]
    refine st_mv (.bool true) ?_
    simp only [nf0, nf1, nf2, nf3, nf4]
    refine wpList_nil ?_
    show Code.wp _ _ _ _ _
    refine wp_cond_true rfl ?_
    refine wp_seq ?_
    refine wp_region_lit ?_
    refine st_value (v := (.agg #[.int .i64 0, .int .i64 0, .int .i64 0, .int .i64 0, .int .u64 0])) (by rfl) (run_buildV rfl (by kernel_rfl) w60) ?_
    simp only [nf0, nf1, nf2, nf3, nf4]
    refine st_row (by rfl) (run_storeW (.tmp 2) (.tmp 73) rfl (cs := #[.int .i64 0, .int .i64 0, .int .i64 0, .int .i64 0, .int .u64 0]) aggEnt rfl rfl B3 rfl (by simp [Value.oneCell'])) B3 ?_
    intro w77 B79 hg78
    simp only [nf0, nf1, nf2, nf3, nf4]
    replace O7 := O7.keptB hg78 n43
    replace B62 := B62.kept hg78 n25.symm
    replace B49 := B49.kept hg78 n39.symm
    replace bel := bl_kept0 bel hg78 lo5
    replace R17 := OwnR.rdE O7
    replace Rmid := rd_mid (min (pieces 32 l).length 4) hA2 O7
    clear hg78
    clear B3
    refine st_mv (.bool false) ?_
    simp only [nf0, nf1, nf2, nf3, nf4]
    refine wpList_nil ?_
    show Code.wp _ _ _ _ _
    refine wp_ret ?_
    first | show bodyPost _ _ _ _ _ _ | (simp only [Exit.then, Exit.inBlock]; show bodyPost _ _ _ _ _ _)
    have hE : pS l = ((0, 0, 0, 0, 0), false) := by rw [hPR]; exact if_pos (by first | exact .inr (by assumption) | exact .inl (by omega))
    exact bodyPost_ret (results_agg1t rfl (cs := #[.int .i64 0, .int .i64 0, .int .i64 0, .int .i64 0, .int .u64 0]) aggEnt (by rfl) B79) rfl ⟨by rw [hE]; rfl, bel⟩
  have hp64 := of_decide_eq_false hg63
  have hk1 : ¬ kS (tx (pieces 32 l) 0) = 1 := by omega
  have heW : eW (pieces 32 l) = ((((kS (tx (pieces 32 l) 0) : Nat) : Int), (IntKind.i64.wrap (numU ((pieces 32 l).getD 1 []))), (IntKind.i64.wrap (numU ((pieces 32 l).getD 2 []))), (IntKind.i64.wrap (numU ((pieces 32 l).getD 3 []))), 0) : TEnt) := by unfold eW; rw [if_neg (show ¬ kS ((pieces 32 l).getD 0 []) = 1 from hk1), if_neg (show ¬ kS ((pieces 32 l).getD 0 []) = 1 from hk1), if_neg (show ¬ kS ((pieces 32 l).getD 0 []) = 1 from hk1)]; rfl
  have hok : okEnt ((((kS (tx (pieces 32 l) 0) : Nat) : Int), (IntKind.i64.wrap (numU ((pieces 32 l).getD 1 []))), (IntKind.i64.wrap (numU ((pieces 32 l).getD 2 []))), (IntKind.i64.wrap (numU ((pieces 32 l).getD 3 []))), 0) : TEnt) := by rw [← heW]; exact eW_ok _
  have hPR : pS l = if kS (tx (pieces 32 l) 0) = 0 ∨ prS (eW (pieces 32 l)) ≠ l then ((0, 0, 0, 0, 0), false) else (eW (pieces 32 l), true) := pS_read l
  rw [heW] at hPR
  refine wp_region_lit ?_
  refine st_value (v := (.pointer (some ⟨g20, 0, none⟩))) (by rfl) (run_fieldA (.tmp 5) rfl e_fld_24_0 rfl rfl w60) ?_
  simp only [nf0, nf1, nf2, nf3, nf4]
  refine st_value (v := (.int .i64 ((kS (tx (pieces 32 l) 0) : Nat) : Int))) (by rfl) (run_loadB (.tmp 64) rfl e_one_3 rfl B62 rfl) ?_
  simp only [nf0, nf1, nf2, nf3, nf4]
  refine st_value (v := (.bool false)) (by rfl) ((run_eql_int (.tmp 65) (.const (.int .i64 0)) rfl rfl rfl w60).trans (by rw [hg63])) ?_
  simp only [nf0, nf1, nf2, nf3, nf4]
  refine st_mv (.bool false) ?_
  simp only [nf0, nf1, nf2, nf3, nf4]
  refine st_value (v := (.agg #[.int .i64 ((kS (tx (pieces 32 l) 0) : Nat) : Int), .int .i64 (IntKind.i64.wrap (numU ((pieces 32 l).getD 1 []))), .int .i64 (IntKind.i64.wrap (numU ((pieces 32 l).getD 2 []))), .int .i64 (IntKind.i64.wrap (numU ((pieces 32 l).getD 3 []))), .int .u64 0])) (by rfl) (run_loadW (.tmp 5) rfl (cs := #[.int .i64 ((kS (tx (pieces 32 l) 0) : Nat) : Int), .int .i64 (IntKind.i64.wrap (numU ((pieces 32 l).getD 1 []))), .int .i64 (IntKind.i64.wrap (numU ((pieces 32 l).getD 2 []))), .int .i64 (IntKind.i64.wrap (numU ((pieces 32 l).getD 3 []))), .int .u64 0]) aggEnt rfl B62) ?_
  simp only [nf0, nf1, nf2, nf3, nf4]
  refine st_call1 (v := (.string (str (prS ((((kS (tx (pieces 32 l) 0) : Nat) : Int), (IntKind.i64.wrap (numU ((pieces 32 l).getD 1 []))), (IntKind.i64.wrap (numU ((pieces 32 l).getD 2 []))), (IntKind.i64.wrap (numU ((pieces 32 l).getD 3 []))), 0) : TEnt))))) (by rfl) (e_run_call_7_1 (.tmp 68) rfl rfl _) (sprint_calls ((((kS (tx (pieces 32 l) 0) : Nat) : Int), (IntKind.i64.wrap (numU ((pieces 32 l).getD 1 []))), (IntKind.i64.wrap (numU ((pieces 32 l).getD 2 []))), (IntKind.i64.wrap (numU ((pieces 32 l).getD 3 []))), 0) : TEnt) hok w60) ?_
  intro w65 hb66
  simp only [nf0, nf1, nf2, nf3, nf4]
  replace B3 := B3.below hb66
  replace O7 := O7.same hb66
  replace R17 := R17.same hb66
  replace B62 := B62.below hb66
  replace B49 := B49.below hb66
  replace Rmid := Rmid.same hb66
  replace bel := bl_step bel hb66
  clear hb66
  refine st_mv (.string (str l)) ?_
  simp only [nf0, nf1, nf2, nf3, nf4]
  refine st_value (v := (.bool (!decide ((prS ((((kS (tx (pieces 32 l) 0) : Nat) : Int), (IntKind.i64.wrap (numU ((pieces 32 l).getD 1 []))), (IntKind.i64.wrap (numU ((pieces 32 l).getD 2 []))), (IntKind.i64.wrap (numU ((pieces 32 l).getD 3 []))), 0) : TEnt)) = l)))) (by rfl) (run_neq_text (.tmp 69) (.tmp 70) (l := (prS ((((kS (tx (pieces 32 l) 0) : Nat) : Int), (IntKind.i64.wrap (numU ((pieces 32 l).getD 1 []))), (IntKind.i64.wrap (numU ((pieces 32 l).getD 2 []))), (IntKind.i64.wrap (numU ((pieces 32 l).getD 3 []))), 0) : TEnt))) (m := l) rfl rfl rfl w65) ?_
  simp only [nf0, nf1, nf2, nf3, nf4]
  refine st_mv (.bool (!decide ((prS ((((kS (tx (pieces 32 l) 0) : Nat) : Int), (IntKind.i64.wrap (numU ((pieces 32 l).getD 1 []))), (IntKind.i64.wrap (numU ((pieces 32 l).getD 2 []))), (IntKind.i64.wrap (numU ((pieces 32 l).getD 3 []))), 0) : TEnt)) = l))) ?_
  simp only [nf0, nf1, nf2, nf3, nf4]
  refine wpList_nil ?_
  show Code.wp _ _ _ _ _
  cases hg67 : decide ((prS ((((kS (tx (pieces 32 l) 0) : Nat) : Int), (IntKind.i64.wrap (numU ((pieces 32 l).getD 1 []))), (IntKind.i64.wrap (numU ((pieces 32 l).getD 2 []))), (IntKind.i64.wrap (numU ((pieces 32 l).getD 3 []))), 0) : TEnt)) = l)
  · have hp68 := of_decide_eq_false hg67
    refine wp_cond_true rfl ?_
    refine wp_seq ?_
    refine wp_region_lit ?_
    refine st_value (v := (.agg #[.int .i64 0, .int .i64 0, .int .i64 0, .int .i64 0, .int .u64 0])) (by rfl) (run_buildV rfl (by kernel_rfl) w65) ?_
    simp only [nf0, nf1, nf2, nf3, nf4]
    refine st_row (by rfl) (run_storeW (.tmp 2) (.tmp 73) rfl (cs := #[.int .i64 0, .int .i64 0, .int .i64 0, .int .i64 0, .int .u64 0]) aggEnt rfl rfl B3 rfl (by simp [Value.oneCell'])) B3 ?_
    intro w69 B71 hg70
    simp only [nf0, nf1, nf2, nf3, nf4]
    replace O7 := O7.keptB hg70 n43
    replace B62 := B62.kept hg70 n25.symm
    replace B49 := B49.kept hg70 n39.symm
    replace bel := bl_kept0 bel hg70 lo5
    replace R17 := OwnR.rdE O7
    replace Rmid := rd_mid (min (pieces 32 l).length 4) hA2 O7
    clear hg70
    clear B3
    refine st_mv (.bool false) ?_
    simp only [nf0, nf1, nf2, nf3, nf4]
    refine wpList_nil ?_
    show Code.wp _ _ _ _ _
    refine wp_ret ?_
    first | show bodyPost _ _ _ _ _ _ | (simp only [Exit.then, Exit.inBlock]; show bodyPost _ _ _ _ _ _)
    have hE : pS l = ((0, 0, 0, 0, 0), false) := by rw [hPR]; exact if_pos (by first | exact .inr (by assumption) | exact .inl (by omega))
    exact bodyPost_ret (results_agg1t rfl (cs := #[.int .i64 0, .int .i64 0, .int .i64 0, .int .i64 0, .int .u64 0]) aggEnt (by rfl) B71) rfl ⟨by rw [hE]; rfl, bel⟩
  have hp72 := of_decide_eq_true hg67
  refine wp_cond_false rfl ?_
  refine wp_skip ?_
  show Code.wp _ _ _ _ _
  refine wp_seq ?_
  refine wp_region_lit ?_
  refine st_value (v := (.agg #[.int .i64 ((kS (tx (pieces 32 l) 0) : Nat) : Int), .int .i64 (IntKind.i64.wrap (numU ((pieces 32 l).getD 1 []))), .int .i64 (IntKind.i64.wrap (numU ((pieces 32 l).getD 2 []))), .int .i64 (IntKind.i64.wrap (numU ((pieces 32 l).getD 3 []))), .int .u64 0])) (by rfl) (run_loadW (.tmp 5) rfl (cs := #[.int .i64 ((kS (tx (pieces 32 l) 0) : Nat) : Int), .int .i64 (IntKind.i64.wrap (numU ((pieces 32 l).getD 1 []))), .int .i64 (IntKind.i64.wrap (numU ((pieces 32 l).getD 2 []))), .int .i64 (IntKind.i64.wrap (numU ((pieces 32 l).getD 3 []))), .int .u64 0]) aggEnt rfl B62) ?_
  simp only [nf0, nf1, nf2, nf3, nf4]
  refine st_row (by rfl) (run_storeW (.tmp 2) (.tmp 74) rfl (cs := #[.int .i64 ((kS (tx (pieces 32 l) 0) : Nat) : Int), .int .i64 (IntKind.i64.wrap (numU ((pieces 32 l).getD 1 []))), .int .i64 (IntKind.i64.wrap (numU ((pieces 32 l).getD 2 []))), .int .i64 (IntKind.i64.wrap (numU ((pieces 32 l).getD 3 []))), .int .u64 0]) aggEnt rfl rfl B3 rfl (by simp [Value.oneCell'])) B3 ?_
  intro w73 B75 hg74
  simp only [nf0, nf1, nf2, nf3, nf4]
  replace O7 := O7.keptB hg74 n43
  replace B62 := B62.kept hg74 n25.symm
  replace B49 := B49.kept hg74 n39.symm
  replace bel := bl_kept0 bel hg74 lo5
  replace R17 := OwnR.rdE O7
  replace Rmid := rd_mid (min (pieces 32 l).length 4) hA2 O7
  clear hg74
  clear B3
  refine st_mv (.bool true) ?_
  simp only [nf0, nf1, nf2, nf3, nf4]
  refine wpList_nil ?_
  show Code.wp _ _ _ _ _
  refine wp_ret ?_
  first | show bodyPost _ _ _ _ _ _ | (simp only [Exit.then, Exit.inBlock]; show bodyPost _ _ _ _ _ _)
  have hE : pS l = (((((kS (tx (pieces 32 l) 0) : Nat) : Int), (IntKind.i64.wrap (numU ((pieces 32 l).getD 1 []))), (IntKind.i64.wrap (numU ((pieces 32 l).getD 2 []))), (IntKind.i64.wrap (numU ((pieces 32 l).getD 3 []))), 0) : TEnt), true) := by rw [hPR]; exact if_neg (by rintro (h_ | h_); (· omega); exact h_ (by assumption))
  exact bodyPost_ret (results_agg1t rfl (cs := #[.int .i64 ((kS (tx (pieces 32 l) 0) : Nat) : Int), .int .i64 (IntKind.i64.wrap (numU ((pieces 32 l).getD 1 []))), .int .i64 (IntKind.i64.wrap (numU ((pieces 32 l).getD 2 []))), .int .i64 (IntKind.i64.wrap (numU ((pieces 32 l).getD 3 []))), .int .u64 0]) aggEnt (by rfl) B75) rfl ⟨by rw [hE]; rfl, bel⟩
end Go.Proofs.YtackcmlkicjlnaaDoor

/- The document's example. -/
namespace Go.Proofs.YtackcmlkicjlnaaDoor
open Go.RowKit Go.WideShapes Go.ChangeShapes
set_option linter.unusedSimpArgs false
set_option linter.unusedVariables false

theorem i_zero_24 : ZeroOf Tryd.prog 24 #[.int .i64 0, .int .i64 0, .int .i64 0, .int .i64 0, .int .u64 0] := zeroOf (z := .agg #[.int .i64 0, .int .i64 0, .int .i64 0, .int .i64 0, .int .u64 0]) (by kernel_rfl) rfl
theorem i_run_call_5_1 {o : Oper} {a : Act} (x0 : Operand) {ts : Array TypeId} (ho : o.op = .call { callee := .value (.func 5), args := #[x0], argTypes := ts }) {v0 : Value} (h0 : a.eval x0 = v0) (W : World) : (execOp a.eval o).run Tryd.prog W = .ok (.enter 5 #[v0]) W := by
  unfold execOp
  simp only [ho]
  subst h0
  go_simp
theorem i_run_call_7_1 {o : Oper} {a : Act} (x0 : Operand) {ts : Array TypeId} (ho : o.op = .call { callee := .value (.func 7), args := #[x0], argTypes := ts }) {v0 : Value} (h0 : a.eval x0 = v0) (W : World) : (execOp a.eval o).run Tryd.prog W = .ok (.enter 7 #[v0]) W := by
  unfold execOp
  simp only [ho]
  subst h0
  go_simp
theorem ex_prS1 : prS ((1, 2, 0, 0, 5) : TEnt) = [115, 116, 101, 112, 32, 50, 32, 53] := by
  simp [prS, tails, tdecI, tdec_small, tdg, nmS, nmSL, shS, shSL, fld]
theorem ex_prS2 : prS ((2, 0, 0, 0, 0) : TEnt) = [116, 105, 99, 107] := by
  simp [prS, tails, nmS, nmSL, shS, shSL]
theorem ex_pS : pS [116, 105, 99, 107] = (((2, 0, 0, 0, 0) : TEnt), true) := pS_yes ⟨by unfold knS; decide, by unfold okEnt; decide, by rintro c (rfl | rfl | rfl | rfl) _ <;> rfl⟩ ex_prS2

attribute [local irreducible] Go.wpList Go.Code.wp
set_option maxRecDepth 100000 in
set_option maxHeartbeats 4000000 in
theorem scLives_calls (w : World) : Calls Tryd.prog 4 #[] w fun e w' => e = .returned (.bool true) ∧ Below w.heap.size w w' := by
  have bel : Below w.heap.size w w := Below.refl _ _
  go_enter Tryd.func4, Tryd.ntmps4
  refine wp_seq ?_
  refine wp_region_lit ?_
  refine st_mv (.bool false) ?_
  simp only [nf0, nf1, nf2, nf3, nf4]
  refine wpList_nil ?_
  show Code.wp _ _ _ _ _
  refine wp_seq ?_
  refine wp_region_lit ?_
  refine st_value (v := (.agg #[.int .i64 1, .int .i64 2, .int .i64 0, .int .i64 0, .int .u64 5])) (by rfl) (run_buildV rfl (by kernel_rfl) w) ?_
  simp only [nf0, nf1, nf2, nf3, nf4]
  refine st_new (cs := #[.int .i64 0, .int .i64 0, .int .i64 0, .int .i64 0, .int .u64 0]) (t := 24) (by rfl) (run_allocV rfl i_zero_24 _) ?_
  intro g1 w2 B3 hb4 lo5
  simp only [nf0, nf1, nf2, nf3, nf4]
  replace lo5 := low_le bel lo5
  replace bel := bl_step bel hb4
  clear hb4
  refine st_row (by rfl) (run_storeW (.tmp 1) (.tmp 4) rfl (cs := #[.int .i64 1, .int .i64 2, .int .i64 0, .int .i64 0, .int .u64 5]) aggEnt rfl rfl B3 rfl (by simp [Value.oneCell'])) B3 ?_
  intro w6 B8 hg7
  simp only [nf0, nf1, nf2, nf3, nf4]
  replace bel := bl_kept0 bel hg7 lo5
  clear hg7
  clear B3
  refine wpList_nil ?_
  show Code.wp _ _ _ _ _
  refine wp_seq ?_
  refine wp_region_lit ?_
  refine st_call1 (v := (.tuple #[.agg #[.int .i64 2, .int .i64 0, .int .i64 0, .int .i64 0, .int .u64 0], .bool true])) (by rfl) (i_run_call_5_1 (.const (.string ⟨#[116, 105, 99, 107]⟩)) rfl rfl _) (show Calls _ _ _ _ fun e w' => e = .returned (.tuple #[.agg (eEnt.enc ((2, 0, 0, 0, 0) : TEnt)).toArray, .bool true]) ∧ Below w6.heap.size w6 w' from by have h_ := sparse_calls [116, 105, 99, 107] (by decide) w6; rw [ex_pS] at h_; exact h_) ?_
  intro w9 hb10
  simp only [nf0, nf1, nf2, nf3, nf4]
  replace B8 := B8.below hb10
  replace bel := bl_step bel hb10
  clear hb10
  refine st_mv (.tuple #[.agg #[.int .i64 2, .int .i64 0, .int .i64 0, .int .i64 0, .int .u64 0], .bool true]) ?_
  simp only [nf0, nf1, nf2, nf3, nf4]
  refine st_mv (.agg #[.int .i64 2, .int .i64 0, .int .i64 0, .int .i64 0, .int .u64 0]) ?_
  simp only [nf0, nf1, nf2, nf3, nf4]
  refine st_mv (.bool true) ?_
  simp only [nf0, nf1, nf2, nf3, nf4]
  refine st_new (cs := #[.int .i64 0, .int .i64 0, .int .i64 0, .int .i64 0, .int .u64 0]) (t := 24) (by rfl) (run_allocV rfl i_zero_24 _) ?_
  intro g11 w12 B13 hb14 lo15
  simp only [nf0, nf1, nf2, nf3, nf4]
  have n16 := B8.ne lo15
  replace lo15 := low_le bel lo15
  replace B8 := B8.below hb14
  replace bel := bl_step bel hb14
  clear hb14
  refine st_row (by rfl) (run_storeW (.tmp 2) (.tmp 7) rfl (cs := #[.int .i64 2, .int .i64 0, .int .i64 0, .int .i64 0, .int .u64 0]) aggEnt rfl rfl B13 rfl (by simp [Value.oneCell'])) B13 ?_
  intro w17 B19 hg18
  simp only [nf0, nf1, nf2, nf3, nf4]
  replace B8 := B8.kept hg18 n16
  replace bel := bl_kept0 bel hg18 lo15
  clear hg18
  clear B13
  refine st_mv (.bool true) ?_
  simp only [nf0, nf1, nf2, nf3, nf4]
  refine wpList_nil ?_
  show Code.wp _ _ _ _ _
  refine wp_seq ?_
  refine wp_region_lit ?_
  refine st_value (v := (.agg #[.int .i64 1, .int .i64 2, .int .i64 0, .int .i64 0, .int .u64 5])) (by rfl) (run_loadW (.tmp 1) rfl (cs := #[.int .i64 1, .int .i64 2, .int .i64 0, .int .i64 0, .int .u64 5]) aggEnt rfl B8) ?_
  simp only [nf0, nf1, nf2, nf3, nf4]
  refine st_call1 (v := (.string (str [115, 116, 101, 112, 32, 50, 32, 53]))) (by rfl) (i_run_call_7_1 (.tmp 9) rfl rfl _) (show Calls _ _ _ _ fun e w' => e = .returned (.string (str [115, 116, 101, 112, 32, 50, 32, 53])) ∧ Below w17.heap.size w17 w' from by have h_ := sprint_calls ((1, 2, 0, 0, 5) : TEnt) (by unfold okEnt; decide) w17; rw [ex_prS1] at h_; exact h_) ?_
  intro w20 hb21
  simp only [nf0, nf1, nf2, nf3, nf4]
  replace B8 := B8.below hb21
  replace B19 := B19.below hb21
  replace bel := bl_step bel hb21
  clear hb21
  refine st_value (v := (.bool true)) (by rfl) (run_eql_text_t (.tmp 10) (.const (.string ⟨#[115, 116, 101, 112, 32, 50, 32, 53]⟩)) rfl (l := [115, 116, 101, 112, 32, 50, 32, 53]) (m := [115, 116, 101, 112, 32, 50, 32, 53]) rfl rfl rfl w20) ?_
  simp only [nf0, nf1, nf2, nf3, nf4]
  refine st_mv (.bool true) ?_
  simp only [nf0, nf1, nf2, nf3, nf4]
  refine st_mv (.bool true) ?_
  simp only [nf0, nf1, nf2, nf3, nf4]
  refine st_mv (.bool true) ?_
  simp only [nf0, nf1, nf2, nf3, nf4]
  refine st_mv (.bool true) ?_
  simp only [nf0, nf1, nf2, nf3, nf4]
  refine st_value (v := (.agg #[.int .i64 2, .int .i64 0, .int .i64 0, .int .i64 0, .int .u64 0])) (by rfl) (run_loadW (.tmp 2) rfl (cs := #[.int .i64 2, .int .i64 0, .int .i64 0, .int .i64 0, .int .u64 0]) aggEnt rfl B19) ?_
  simp only [nf0, nf1, nf2, nf3, nf4]
  refine st_value (v := (.agg #[.int .i64 2, .int .i64 0, .int .i64 0, .int .i64 0, .int .u64 0])) (by rfl) (run_buildV rfl (by kernel_rfl) w20) ?_
  simp only [nf0, nf1, nf2, nf3, nf4]
  refine st_value (v := (.bool true)) (by rfl) ((run_eql_agg (.tmp 16) (.tmp 17) rfl eqEnt (p := ((2, 0, 0, 0, 0) : TEnt)) (q := ((2, 0, 0, 0, 0) : TEnt)) rfl rfl trivial trivial w20).trans (by rw [decide_eq_true rfl])) ?_
  simp only [nf0, nf1, nf2, nf3, nf4]
  refine st_mv (.bool true) ?_
  simp only [nf0, nf1, nf2, nf3, nf4]
  refine st_mv (.bool true) ?_
  simp only [nf0, nf1, nf2, nf3, nf4]
  refine wpList_nil ?_
  show Code.wp _ _ _ _ _
  refine wp_ret ?_
  first | show bodyPost _ _ _ _ _ _ | (simp only [Exit.then, Exit.inBlock]; show bodyPost _ _ _ _ _ _)
  exact bodyPost_ret (results_tmp rfl _ _ _) rfl ⟨rfl, bel⟩
end Go.Proofs.YtackcmlkicjlnaaDoor

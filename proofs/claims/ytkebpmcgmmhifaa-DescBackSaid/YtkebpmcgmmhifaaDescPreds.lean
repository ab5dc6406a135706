/- desc's kinds of bytes. -/
import Derived.Test.YtkebpmcgmmhifaaDescs2
import Derived.Test.YtkebpmcgmmhifaaTexts2
import Derived.Test.YtkebpmcgmmhifaaCuts
import Derived.Test.YtkebpmcgmmhifaaRange
import Derived.Test.YtkebpmcgmmhifaaFacts6
import Derived.Test.YtkebpmcgmmhifaaFacts7
import Derived.Test.YtkebpmcgmmhifaaOwnRd
namespace Go.Proofs.Ytkebpmcgmmhifaa
open Go.RowKit Go.WideShapes Go.ChangeShapes
set_option linter.unusedSimpArgs false
set_option linter.unusedVariables false

theorem a_run_call_24_1 {o : Oper} {a : Act} (x0 : Operand) {ts : Array TypeId} (ho : o.op = .call { callee := .value (.func 24), args := #[x0], argTypes := ts }) {v0 : Value} (h0 : a.eval x0 = v0) (W : World) : (execOp a.eval o).run Try.prog W = .ok (.enter 24 #[v0]) W := by
  unfold execOp
  simp only [ho]
  subst h0
  go_simp
theorem a_run_call_35_1 {o : Oper} {a : Act} (x0 : Operand) {ts : Array TypeId} (ho : o.op = .call { callee := .value (.func 35), args := #[x0], argTypes := ts }) {v0 : Value} (h0 : a.eval x0 = v0) (W : World) : (execOp a.eval o).run Try.prog W = .ok (.enter 35 #[v0]) W := by
  unfold execOp
  simp only [ho]
  subst h0
  go_simp
def isS (c : Int) : Bool := decide (kd c = 1)
def isD (c : Int) : Bool := decide (kd c = 2)
theorem aggPlace : AggT Try.prog 43 3 := aggT Try.underlying43 rfl (by kernel_rfl)
theorem aggReader : AggT Try.prog 45 4 := aggT Try.underlying45 rfl (by kernel_rfl)

attribute [local irreducible] Go.wpList Go.Code.wp
set_option maxRecDepth 100000 in
set_option maxHeartbeats 4000000 in
theorem isBlank_calls (c : Int) (w : World) : Calls Try.prog 32 #[.int .u8 c] w fun e w' => e = .returned (.bool (isB c)) ∧ Below w.heap.size w w' := by
  have bel : Below w.heap.size w w := Below.refl _ _
  go_enter Try.func32, Try.ntmps32
  refine wp_seq ?_
  refine wp_region_lit ?_
  refine st_mv (.bool false) ?_
  simp only [nf0, nf1, nf2, nf3, nf4]
  refine wpList_nil ?_
  show Code.wp _ _ _ _ _
  refine wp_seq ?_
  cases hg1 : decide (c = 32)
  rotate_left
  · have hp9 := of_decide_eq_true hg1
    refine wp_region_lit ?_
    refine st_mv (.int .u8 c) ?_
    simp only [nf0, nf1, nf2, nf3, nf4]
    refine st_value (v := (.bool true)) (by rfl) ((run_eql_int (.tmp 3) (.const (.int .u8 32)) rfl rfl rfl w).trans (by rw [hg1])) ?_
    simp only [nf0, nf1, nf2, nf3, nf4]
    refine st_mv (.bool true) ?_
    simp only [nf0, nf1, nf2, nf3, nf4]
    refine st_nob (j := 2) (t := 5) (c := true) rfl rfl rfl rfl rfl ?_
    simp only [nf0, nf1, nf2, nf3, nf4]
    refine st_nob (j := 2) (t := 5) (c := true) rfl rfl rfl rfl rfl ?_
    simp only [nf0, nf1, nf2, nf3, nf4]
    refine st_mv (.bool true) ?_
    simp only [nf0, nf1, nf2, nf3, nf4]
    refine st_mv (.bool true) ?_
    simp only [nf0, nf1, nf2, nf3, nf4]
    refine st_nob (j := 6) (t := 9) (c := true) rfl rfl rfl rfl rfl ?_
    simp only [nf0, nf1, nf2, nf3, nf4]
    refine st_nob (j := 6) (t := 9) (c := true) rfl rfl rfl rfl rfl ?_
    simp only [nf0, nf1, nf2, nf3, nf4]
    refine st_mv (.bool true) ?_
    simp only [nf0, nf1, nf2, nf3, nf4]
    refine st_mv (.bool true) ?_
    simp only [nf0, nf1, nf2, nf3, nf4]
    refine st_nob (j := 10) (t := 13) (c := true) rfl rfl rfl rfl rfl ?_
    simp only [nf0, nf1, nf2, nf3, nf4]
    refine st_nob (j := 10) (t := 13) (c := true) rfl rfl rfl rfl rfl ?_
    simp only [nf0, nf1, nf2, nf3, nf4]
    refine st_mv (.bool true) ?_
    simp only [nf0, nf1, nf2, nf3, nf4]
    refine st_mv (.bool true) ?_
    simp only [nf0, nf1, nf2, nf3, nf4]
    refine wpList_nil ?_
    show Code.wp _ _ _ _ _
    refine wp_ret ?_
    first | show bodyPost _ _ _ _ _ _ | (simp only [Exit.then, Exit.inBlock]; show bodyPost _ _ _ _ _ _)
    have hE : isB c = true := by
      simp only [isB, kd_6]
      first | exact decide_eq_true (by omega) | exact decide_eq_false (by omega) | (rw [decide_eq_decide]; omega) | (simp only [isS, isD, inW, inL, kd_1, kd_2, kd_3, kd_4]; rw [decide_eq_decide]; omega) | (rw [← decide_not, decide_eq_decide])
    exact bodyPost_ret (results_tmp rfl _ _ _) rfl ⟨by rw [hE]; rfl, bel⟩
  have hp2 := of_decide_eq_false hg1
  cases hg3 : decide (c = 9)
  rotate_left
  · have hp8 := of_decide_eq_true hg3
    refine wp_region_lit ?_
    refine st_mv (.int .u8 c) ?_
    simp only [nf0, nf1, nf2, nf3, nf4]
    refine st_value (v := (.bool false)) (by rfl) ((run_eql_int (.tmp 3) (.const (.int .u8 32)) rfl rfl rfl w).trans (by rw [hg1])) ?_
    simp only [nf0, nf1, nf2, nf3, nf4]
    refine st_mv (.bool false) ?_
    simp only [nf0, nf1, nf2, nf3, nf4]
    refine st_mv (.int .u8 c) ?_
    simp only [nf0, nf1, nf2, nf3, nf4]
    refine st_value (v := (.bool true)) (by rfl) ((run_eql_int (.tmp 6) (.const (.int .u8 9)) rfl rfl rfl w).trans (by rw [hg3])) ?_
    simp only [nf0, nf1, nf2, nf3, nf4]
    refine st_mv (.bool true) ?_
    simp only [nf0, nf1, nf2, nf3, nf4]
    refine st_mv (.bool true) ?_
    simp only [nf0, nf1, nf2, nf3, nf4]
    refine st_nob (j := 6) (t := 9) (c := true) rfl rfl rfl rfl rfl ?_
    simp only [nf0, nf1, nf2, nf3, nf4]
    refine st_nob (j := 6) (t := 9) (c := true) rfl rfl rfl rfl rfl ?_
    simp only [nf0, nf1, nf2, nf3, nf4]
    refine st_mv (.bool true) ?_
    simp only [nf0, nf1, nf2, nf3, nf4]
    refine st_mv (.bool true) ?_
    simp only [nf0, nf1, nf2, nf3, nf4]
    refine st_nob (j := 10) (t := 13) (c := true) rfl rfl rfl rfl rfl ?_
    simp only [nf0, nf1, nf2, nf3, nf4]
    refine st_nob (j := 10) (t := 13) (c := true) rfl rfl rfl rfl rfl ?_
    simp only [nf0, nf1, nf2, nf3, nf4]
    refine st_mv (.bool true) ?_
    simp only [nf0, nf1, nf2, nf3, nf4]
    refine st_mv (.bool true) ?_
    simp only [nf0, nf1, nf2, nf3, nf4]
    refine wpList_nil ?_
    show Code.wp _ _ _ _ _
    refine wp_ret ?_
    first | show bodyPost _ _ _ _ _ _ | (simp only [Exit.then, Exit.inBlock]; show bodyPost _ _ _ _ _ _)
    have hE : isB c = true := by
      simp only [isB, kd_6]
      first | exact decide_eq_true (by omega) | exact decide_eq_false (by omega) | (rw [decide_eq_decide]; omega) | (simp only [isS, isD, inW, inL, kd_1, kd_2, kd_3, kd_4]; rw [decide_eq_decide]; omega) | (rw [← decide_not, decide_eq_decide])
    exact bodyPost_ret (results_tmp rfl _ _ _) rfl ⟨by rw [hE]; rfl, bel⟩
  have hp4 := of_decide_eq_false hg3
  cases hg5 : decide (c = 10)
  · have hp6 := of_decide_eq_false hg5
    refine wp_region_lit ?_
    refine st_mv (.int .u8 c) ?_
    simp only [nf0, nf1, nf2, nf3, nf4]
    refine st_value (v := (.bool false)) (by rfl) ((run_eql_int (.tmp 3) (.const (.int .u8 32)) rfl rfl rfl w).trans (by rw [hg1])) ?_
    simp only [nf0, nf1, nf2, nf3, nf4]
    refine st_mv (.bool false) ?_
    simp only [nf0, nf1, nf2, nf3, nf4]
    refine st_mv (.int .u8 c) ?_
    simp only [nf0, nf1, nf2, nf3, nf4]
    refine st_value (v := (.bool false)) (by rfl) ((run_eql_int (.tmp 6) (.const (.int .u8 9)) rfl rfl rfl w).trans (by rw [hg3])) ?_
    simp only [nf0, nf1, nf2, nf3, nf4]
    refine st_mv (.bool false) ?_
    simp only [nf0, nf1, nf2, nf3, nf4]
    refine st_mv (.bool false) ?_
    simp only [nf0, nf1, nf2, nf3, nf4]
    refine st_mv (.int .u8 c) ?_
    simp only [nf0, nf1, nf2, nf3, nf4]
    refine st_value (v := (.bool false)) (by rfl) ((run_eql_int (.tmp 10) (.const (.int .u8 10)) rfl rfl rfl w).trans (by rw [hg5])) ?_
    simp only [nf0, nf1, nf2, nf3, nf4]
    refine st_mv (.bool false) ?_
    simp only [nf0, nf1, nf2, nf3, nf4]
    refine st_mv (.bool false) ?_
    simp only [nf0, nf1, nf2, nf3, nf4]
    refine st_mv (.int .u8 c) ?_
    simp only [nf0, nf1, nf2, nf3, nf4]
    refine st_value (v := (.bool (decide (c = 13)))) (by rfl) (run_eql_int (.tmp 14) (.const (.int .u8 13)) rfl rfl rfl w) ?_
    simp only [nf0, nf1, nf2, nf3, nf4]
    refine st_mv (.bool (decide (c = 13))) ?_
    simp only [nf0, nf1, nf2, nf3, nf4]
    refine st_mv (.bool (decide (c = 13))) ?_
    simp only [nf0, nf1, nf2, nf3, nf4]
    refine wpList_nil ?_
    show Code.wp _ _ _ _ _
    refine wp_ret ?_
    first | show bodyPost _ _ _ _ _ _ | (simp only [Exit.then, Exit.inBlock]; show bodyPost _ _ _ _ _ _)
    have hE : isB c = decide (c = 13) := by
      simp only [isB, kd_6]
      first | exact decide_eq_true (by omega) | exact decide_eq_false (by omega) | (rw [decide_eq_decide]; omega) | (simp only [isS, isD, inW, inL, kd_1, kd_2, kd_3, kd_4]; rw [decide_eq_decide]; omega) | (rw [← decide_not, decide_eq_decide])
    exact bodyPost_ret (results_tmp rfl _ _ _) rfl ⟨by rw [hE]; rfl, bel⟩
  have hp7 := of_decide_eq_true hg5
  refine wp_region_lit ?_
  refine st_mv (.int .u8 c) ?_
  simp only [nf0, nf1, nf2, nf3, nf4]
  refine st_value (v := (.bool false)) (by rfl) ((run_eql_int (.tmp 3) (.const (.int .u8 32)) rfl rfl rfl w).trans (by rw [hg1])) ?_
  simp only [nf0, nf1, nf2, nf3, nf4]
  refine st_mv (.bool false) ?_
  simp only [nf0, nf1, nf2, nf3, nf4]
  refine st_mv (.int .u8 c) ?_
  simp only [nf0, nf1, nf2, nf3, nf4]
  refine st_value (v := (.bool false)) (by rfl) ((run_eql_int (.tmp 6) (.const (.int .u8 9)) rfl rfl rfl w).trans (by rw [hg3])) ?_
  simp only [nf0, nf1, nf2, nf3, nf4]
  refine st_mv (.bool false) ?_
  simp only [nf0, nf1, nf2, nf3, nf4]
  refine st_mv (.bool false) ?_
  simp only [nf0, nf1, nf2, nf3, nf4]
  refine st_mv (.int .u8 c) ?_
  simp only [nf0, nf1, nf2, nf3, nf4]
  refine st_value (v := (.bool true)) (by rfl) ((run_eql_int (.tmp 10) (.const (.int .u8 10)) rfl rfl rfl w).trans (by rw [hg5])) ?_
  simp only [nf0, nf1, nf2, nf3, nf4]
  refine st_mv (.bool true) ?_
  simp only [nf0, nf1, nf2, nf3, nf4]
  refine st_mv (.bool true) ?_
  simp only [nf0, nf1, nf2, nf3, nf4]
  refine st_nob (j := 10) (t := 13) (c := true) rfl rfl rfl rfl rfl ?_
  simp only [nf0, nf1, nf2, nf3, nf4]
  refine st_nob (j := 10) (t := 13) (c := true) rfl rfl rfl rfl rfl ?_
  simp only [nf0, nf1, nf2, nf3, nf4]
  refine st_mv (.bool true) ?_
  simp only [nf0, nf1, nf2, nf3, nf4]
  refine st_mv (.bool true) ?_
  simp only [nf0, nf1, nf2, nf3, nf4]
  refine wpList_nil ?_
  show Code.wp _ _ _ _ _
  refine wp_ret ?_
  first | show bodyPost _ _ _ _ _ _ | (simp only [Exit.then, Exit.inBlock]; show bodyPost _ _ _ _ _ _)
  have hE : isB c = true := by
    simp only [isB, kd_6]
    first | exact decide_eq_true (by omega) | exact decide_eq_false (by omega) | (rw [decide_eq_decide]; omega) | (simp only [isS, isD, inW, inL, kd_1, kd_2, kd_3, kd_4]; rw [decide_eq_decide]; omega) | (rw [← decide_not, decide_eq_decide])
  exact bodyPost_ret (results_tmp rfl _ _ _) rfl ⟨by rw [hE]; rfl, bel⟩
set_option maxRecDepth 100000 in
set_option maxHeartbeats 4000000 in
theorem isSmall_calls (c : Int) (w : World) : Calls Try.prog 24 #[.int .u8 c] w fun e w' => e = .returned (.bool (isS c)) ∧ Below w.heap.size w w' := by
  have bel : Below w.heap.size w w := Below.refl _ _
  go_enter Try.func24, Try.ntmps24
  refine wp_seq ?_
  refine wp_region_lit ?_
  refine st_mv (.bool false) ?_
  simp only [nf0, nf1, nf2, nf3, nf4]
  refine wpList_nil ?_
  show Code.wp _ _ _ _ _
  refine wp_seq ?_
  cases hg1 : decide (97 ≤ c)
  · have hp2 := of_decide_eq_false hg1
    refine wp_region_lit ?_
    refine st_mv (.int .u8 c) ?_
    simp only [nf0, nf1, nf2, nf3, nf4]
    refine st_value (v := (.bool false)) (by rfl) ((run_geq (.tmp 3) (.const (.int .u8 97)) rfl rfl rfl w).trans (by rw [hg1])) ?_
    simp only [nf0, nf1, nf2, nf3, nf4]
    refine st_mv (.bool false) ?_
    simp only [nf0, nf1, nf2, nf3, nf4]
    refine st_nob (j := 2) (t := 5) (c := false) rfl rfl rfl rfl rfl ?_
    simp only [nf0, nf1, nf2, nf3, nf4]
    refine st_nob (j := 2) (t := 5) (c := false) rfl rfl rfl rfl rfl ?_
    simp only [nf0, nf1, nf2, nf3, nf4]
    refine st_mv (.bool false) ?_
    simp only [nf0, nf1, nf2, nf3, nf4]
    refine st_mv (.bool false) ?_
    simp only [nf0, nf1, nf2, nf3, nf4]
    refine wpList_nil ?_
    show Code.wp _ _ _ _ _
    refine wp_ret ?_
    first | show bodyPost _ _ _ _ _ _ | (simp only [Exit.then, Exit.inBlock]; show bodyPost _ _ _ _ _ _)
    have hE : isS c = false := by
      simp only [isS, kd_1]
      first | exact decide_eq_true (by omega) | exact decide_eq_false (by omega) | (rw [decide_eq_decide]; omega) | (simp only [isS, isD, inW, inL, kd_1, kd_2, kd_3, kd_4]; rw [decide_eq_decide]; omega) | (rw [← decide_not, decide_eq_decide])
    exact bodyPost_ret (results_tmp rfl _ _ _) rfl ⟨by rw [hE]; rfl, bel⟩
  have hp3 := of_decide_eq_true hg1
  refine wp_region_lit ?_
  refine st_mv (.int .u8 c) ?_
  simp only [nf0, nf1, nf2, nf3, nf4]
  refine st_value (v := (.bool true)) (by rfl) ((run_geq (.tmp 3) (.const (.int .u8 97)) rfl rfl rfl w).trans (by rw [hg1])) ?_
  simp only [nf0, nf1, nf2, nf3, nf4]
  refine st_mv (.bool true) ?_
  simp only [nf0, nf1, nf2, nf3, nf4]
  refine st_mv (.int .u8 c) ?_
  simp only [nf0, nf1, nf2, nf3, nf4]
  refine st_value (v := (.bool (decide (c ≤ 122)))) (by rfl) (run_leq (.tmp 6) (.const (.int .u8 122)) rfl rfl rfl w) ?_
  simp only [nf0, nf1, nf2, nf3, nf4]
  refine st_mv (.bool (decide (c ≤ 122))) ?_
  simp only [nf0, nf1, nf2, nf3, nf4]
  refine st_mv (.bool (decide (c ≤ 122))) ?_
  simp only [nf0, nf1, nf2, nf3, nf4]
  refine wpList_nil ?_
  show Code.wp _ _ _ _ _
  refine wp_ret ?_
  first | show bodyPost _ _ _ _ _ _ | (simp only [Exit.then, Exit.inBlock]; show bodyPost _ _ _ _ _ _)
  have hE : isS c = decide (c ≤ 122) := by
    simp only [isS, kd_1]
    first | exact decide_eq_true (by omega) | exact decide_eq_false (by omega) | (rw [decide_eq_decide]; omega) | (simp only [isS, isD, inW, inL, kd_1, kd_2, kd_3, kd_4]; rw [decide_eq_decide]; omega) | (rw [← decide_not, decide_eq_decide])
  exact bodyPost_ret (results_tmp rfl _ _ _) rfl ⟨by rw [hE]; rfl, bel⟩
set_option maxRecDepth 100000 in
set_option maxHeartbeats 4000000 in
theorem isDigit_calls (c : Int) (w : World) : Calls Try.prog 35 #[.int .u8 c] w fun e w' => e = .returned (.bool (isD c)) ∧ Below w.heap.size w w' := by
  have bel : Below w.heap.size w w := Below.refl _ _
  go_enter Try.func35, Try.ntmps35
  refine wp_seq ?_
  refine wp_region_lit ?_
  refine st_mv (.bool false) ?_
  simp only [nf0, nf1, nf2, nf3, nf4]
  refine wpList_nil ?_
  show Code.wp _ _ _ _ _
  refine wp_seq ?_
  cases hg1 : decide (48 ≤ c)
  · have hp2 := of_decide_eq_false hg1
    refine wp_region_lit ?_
    refine st_mv (.int .u8 c) ?_
    simp only [nf0, nf1, nf2, nf3, nf4]
    refine st_value (v := (.bool false)) (by rfl) ((run_geq (.tmp 3) (.const (.int .u8 48)) rfl rfl rfl w).trans (by rw [hg1])) ?_
    simp only [nf0, nf1, nf2, nf3, nf4]
    refine st_mv (.bool false) ?_
    simp only [nf0, nf1, nf2, nf3, nf4]
    refine st_nob (j := 2) (t := 5) (c := false) rfl rfl rfl rfl rfl ?_
    simp only [nf0, nf1, nf2, nf3, nf4]
    refine st_nob (j := 2) (t := 5) (c := false) rfl rfl rfl rfl rfl ?_
    simp only [nf0, nf1, nf2, nf3, nf4]
    refine st_mv (.bool false) ?_
    simp only [nf0, nf1, nf2, nf3, nf4]
    refine st_mv (.bool false) ?_
    simp only [nf0, nf1, nf2, nf3, nf4]
    refine wpList_nil ?_
    show Code.wp _ _ _ _ _
    refine wp_ret ?_
    first | show bodyPost _ _ _ _ _ _ | (simp only [Exit.then, Exit.inBlock]; show bodyPost _ _ _ _ _ _)
    have hE : isD c = false := by
      simp only [isD, kd_2]
      first | exact decide_eq_true (by omega) | exact decide_eq_false (by omega) | (rw [decide_eq_decide]; omega) | (simp only [isS, isD, inW, inL, kd_1, kd_2, kd_3, kd_4]; rw [decide_eq_decide]; omega) | (rw [← decide_not, decide_eq_decide])
    exact bodyPost_ret (results_tmp rfl _ _ _) rfl ⟨by rw [hE]; rfl, bel⟩
  have hp3 := of_decide_eq_true hg1
  refine wp_region_lit ?_
  refine st_mv (.int .u8 c) ?_
  simp only [nf0, nf1, nf2, nf3, nf4]
  refine st_value (v := (.bool true)) (by rfl) ((run_geq (.tmp 3) (.const (.int .u8 48)) rfl rfl rfl w).trans (by rw [hg1])) ?_
  simp only [nf0, nf1, nf2, nf3, nf4]
  refine st_mv (.bool true) ?_
  simp only [nf0, nf1, nf2, nf3, nf4]
  refine st_mv (.int .u8 c) ?_
  simp only [nf0, nf1, nf2, nf3, nf4]
  refine st_value (v := (.bool (decide (c ≤ 57)))) (by rfl) (run_leq (.tmp 6) (.const (.int .u8 57)) rfl rfl rfl w) ?_
  simp only [nf0, nf1, nf2, nf3, nf4]
  refine st_mv (.bool (decide (c ≤ 57))) ?_
  simp only [nf0, nf1, nf2, nf3, nf4]
  refine st_mv (.bool (decide (c ≤ 57))) ?_
  simp only [nf0, nf1, nf2, nf3, nf4]
  refine wpList_nil ?_
  show Code.wp _ _ _ _ _
  refine wp_ret ?_
  first | show bodyPost _ _ _ _ _ _ | (simp only [Exit.then, Exit.inBlock]; show bodyPost _ _ _ _ _ _)
  have hE : isD c = decide (c ≤ 57) := by
    simp only [isD, kd_2]
    first | exact decide_eq_true (by omega) | exact decide_eq_false (by omega) | (rw [decide_eq_decide]; omega) | (simp only [isS, isD, inW, inL, kd_1, kd_2, kd_3, kd_4]; rw [decide_eq_decide]; omega) | (rw [← decide_not, decide_eq_decide])
  exact bodyPost_ret (results_tmp rfl _ _ _) rfl ⟨by rw [hE]; rfl, bel⟩
set_option maxRecDepth 100000 in
set_option maxHeartbeats 4000000 in
theorem inWord_calls (c : Int) (w : World) : Calls Try.prog 23 #[.int .u8 c] w fun e w' => e = .returned (.bool (inW c)) ∧ Below w.heap.size w w' := by
  have bel : Below w.heap.size w w := Below.refl _ _
  go_enter Try.func23, Try.ntmps23
  refine wp_seq ?_
  refine wp_region_lit ?_
  refine st_mv (.bool false) ?_
  simp only [nf0, nf1, nf2, nf3, nf4]
  refine wpList_nil ?_
  show Code.wp _ _ _ _ _
  refine wp_seq ?_
  cases hg3 : isS c
  rotate_left
  · have hp20 := trivial
    have hs20 := hg3
    simp only [isS, decide_eq_true_iff, kd_1, kd_2] at hs20
    refine wp_region_lit ?_
    refine st_mv (.int .u8 c) ?_
    simp only [nf0, nf1, nf2, nf3, nf4]
    refine st_call1 (v := (.bool true)) (by rfl) (a_run_call_24_1 (.tmp 3) rfl rfl _) (by have h_ := isSmall_calls c w; rw [hg3] at h_; exact h_) ?_
    intro w21 hb22
    simp only [nf0, nf1, nf2, nf3, nf4]
    replace bel := bl_step bel hb22
    clear hb22
    refine st_mv (.bool true) ?_
    simp only [nf0, nf1, nf2, nf3, nf4]
    refine st_nob (j := 2) (t := 5) (c := true) rfl rfl rfl rfl rfl ?_
    simp only [nf0, nf1, nf2, nf3, nf4]
    refine st_nob (j := 2) (t := 5) (c := true) rfl rfl rfl rfl rfl ?_
    simp only [nf0, nf1, nf2, nf3, nf4]
    refine st_mv (.bool true) ?_
    simp only [nf0, nf1, nf2, nf3, nf4]
    refine st_mv (.bool true) ?_
    simp only [nf0, nf1, nf2, nf3, nf4]
    refine st_nob (j := 6) (t := 9) (c := true) rfl rfl rfl rfl rfl ?_
    simp only [nf0, nf1, nf2, nf3, nf4]
    refine st_nob (j := 6) (t := 9) (c := true) rfl rfl rfl rfl rfl ?_
    simp only [nf0, nf1, nf2, nf3, nf4]
    refine st_mv (.bool true) ?_
    simp only [nf0, nf1, nf2, nf3, nf4]
    refine st_mv (.bool true) ?_
    simp only [nf0, nf1, nf2, nf3, nf4]
    refine wpList_nil ?_
    show Code.wp _ _ _ _ _
    refine wp_ret ?_
    first | show bodyPost _ _ _ _ _ _ | (simp only [Exit.then, Exit.inBlock]; show bodyPost _ _ _ _ _ _)
    have hE : inW c = true := by
      simp only [inW, kd_1, kd_2, kd_3]
      first | exact decide_eq_true (by omega) | exact decide_eq_false (by omega) | (rw [decide_eq_decide]; omega) | (simp only [isS, isD, inW, inL, kd_1, kd_2, kd_3, kd_4]; rw [decide_eq_decide]; omega) | (rw [← decide_not, decide_eq_decide])
    exact bodyPost_ret (results_tmp rfl _ _ _) rfl ⟨by rw [hE]; rfl, bel⟩
  have hp4 := trivial
  have hs4 := hg3
  simp only [isS, decide_eq_false_iff_not, kd_1, kd_2] at hs4
  cases hg9 : isD c
  · have hp10 := trivial
    have hs10 := hg9
    simp only [isD, decide_eq_false_iff_not, kd_1, kd_2] at hs10
    refine wp_region_lit ?_
    refine st_mv (.int .u8 c) ?_
    simp only [nf0, nf1, nf2, nf3, nf4]
    refine st_call1 (v := (.bool false)) (by rfl) (a_run_call_24_1 (.tmp 3) rfl rfl _) (by have h_ := isSmall_calls c w; rw [hg3] at h_; exact h_) ?_
    intro w11 hb12
    simp only [nf0, nf1, nf2, nf3, nf4]
    replace bel := bl_step bel hb12
    clear hb12
    refine st_mv (.bool false) ?_
    simp only [nf0, nf1, nf2, nf3, nf4]
    refine st_mv (.int .u8 c) ?_
    simp only [nf0, nf1, nf2, nf3, nf4]
    refine st_call1 (v := (.bool false)) (by rfl) (a_run_call_35_1 (.tmp 6) rfl rfl _) (by have h_ := isDigit_calls c w11; rw [hg9] at h_; exact h_) ?_
    intro w13 hb14
    simp only [nf0, nf1, nf2, nf3, nf4]
    replace bel := bl_step bel hb14
    clear hb14
    refine st_mv (.bool false) ?_
    simp only [nf0, nf1, nf2, nf3, nf4]
    refine st_mv (.bool false) ?_
    simp only [nf0, nf1, nf2, nf3, nf4]
    refine st_mv (.int .u8 c) ?_
    simp only [nf0, nf1, nf2, nf3, nf4]
    refine st_value (v := (.bool (decide (c = 95)))) (by rfl) (run_eql_int (.tmp 10) (.const (.int .u8 95)) rfl rfl rfl w13) ?_
    simp only [nf0, nf1, nf2, nf3, nf4]
    refine st_mv (.bool (decide (c = 95))) ?_
    simp only [nf0, nf1, nf2, nf3, nf4]
    refine st_mv (.bool (decide (c = 95))) ?_
    simp only [nf0, nf1, nf2, nf3, nf4]
    refine wpList_nil ?_
    show Code.wp _ _ _ _ _
    refine wp_ret ?_
    first | show bodyPost _ _ _ _ _ _ | (simp only [Exit.then, Exit.inBlock]; show bodyPost _ _ _ _ _ _)
    have hE : inW c = decide (c = 95) := by
      simp only [inW, kd_1, kd_2, kd_3]
      first | exact decide_eq_true (by omega) | exact decide_eq_false (by omega) | (rw [decide_eq_decide]; omega) | (simp only [isS, isD, inW, inL, kd_1, kd_2, kd_3, kd_4]; rw [decide_eq_decide]; omega) | (rw [← decide_not, decide_eq_decide])
    exact bodyPost_ret (results_tmp rfl _ _ _) rfl ⟨by rw [hE]; rfl, bel⟩
  have hp15 := trivial
  have hs15 := hg9
  simp only [isD, decide_eq_true_iff, kd_1, kd_2] at hs15
  refine wp_region_lit ?_
  refine st_mv (.int .u8 c) ?_
  simp only [nf0, nf1, nf2, nf3, nf4]
  refine st_call1 (v := (.bool false)) (by rfl) (a_run_call_24_1 (.tmp 3) rfl rfl _) (by have h_ := isSmall_calls c w; rw [hg3] at h_; exact h_) ?_
  intro w16 hb17
  simp only [nf0, nf1, nf2, nf3, nf4]
  replace bel := bl_step bel hb17
  clear hb17
  refine st_mv (.bool false) ?_
  simp only [nf0, nf1, nf2, nf3, nf4]
  refine st_mv (.int .u8 c) ?_
  simp only [nf0, nf1, nf2, nf3, nf4]
  refine st_call1 (v := (.bool true)) (by rfl) (a_run_call_35_1 (.tmp 6) rfl rfl _) (by have h_ := isDigit_calls c w16; rw [hg9] at h_; exact h_) ?_
  intro w18 hb19
  simp only [nf0, nf1, nf2, nf3, nf4]
  replace bel := bl_step bel hb19
  clear hb19
  refine st_mv (.bool true) ?_
  simp only [nf0, nf1, nf2, nf3, nf4]
  refine st_mv (.bool true) ?_
  simp only [nf0, nf1, nf2, nf3, nf4]
  refine st_nob (j := 6) (t := 9) (c := true) rfl rfl rfl rfl rfl ?_
  simp only [nf0, nf1, nf2, nf3, nf4]
  refine st_nob (j := 6) (t := 9) (c := true) rfl rfl rfl rfl rfl ?_
  simp only [nf0, nf1, nf2, nf3, nf4]
  refine st_mv (.bool true) ?_
  simp only [nf0, nf1, nf2, nf3, nf4]
  refine st_mv (.bool true) ?_
  simp only [nf0, nf1, nf2, nf3, nf4]
  refine wpList_nil ?_
  show Code.wp _ _ _ _ _
  refine wp_ret ?_
  first | show bodyPost _ _ _ _ _ _ | (simp only [Exit.then, Exit.inBlock]; show bodyPost _ _ _ _ _ _)
  have hE : inW c = true := by
    simp only [inW, kd_1, kd_2, kd_3]
    first | exact decide_eq_true (by omega) | exact decide_eq_false (by omega) | (rw [decide_eq_decide]; omega) | (simp only [isS, isD, inW, inL, kd_1, kd_2, kd_3, kd_4]; rw [decide_eq_decide]; omega) | (rw [← decide_not, decide_eq_decide])
  exact bodyPost_ret (results_tmp rfl _ _ _) rfl ⟨by rw [hE]; rfl, bel⟩
set_option maxRecDepth 100000 in
set_option maxHeartbeats 4000000 in
theorem inList_calls (c : Int) (w : World) : Calls Try.prog 36 #[.int .u8 c] w fun e w' => e = .returned (.bool (inL c)) ∧ Below w.heap.size w w' := by
  have bel : Below w.heap.size w w := Below.refl _ _
  go_enter Try.func36, Try.ntmps36
  refine wp_seq ?_
  refine wp_region_lit ?_
  refine st_mv (.bool false) ?_
  simp only [nf0, nf1, nf2, nf3, nf4]
  refine wpList_nil ?_
  show Code.wp _ _ _ _ _
  refine wp_seq ?_
  cases hg3 : isD c
  rotate_left
  · have hp14 := trivial
    have hs14 := hg3
    simp only [isD, decide_eq_true_iff, kd_1, kd_2] at hs14
    refine wp_region_lit ?_
    refine st_mv (.int .u8 c) ?_
    simp only [nf0, nf1, nf2, nf3, nf4]
    refine st_call1 (v := (.bool true)) (by rfl) (a_run_call_35_1 (.tmp 3) rfl rfl _) (by have h_ := isDigit_calls c w; rw [hg3] at h_; exact h_) ?_
    intro w15 hb16
    simp only [nf0, nf1, nf2, nf3, nf4]
    replace bel := bl_step bel hb16
    clear hb16
    refine st_mv (.bool true) ?_
    simp only [nf0, nf1, nf2, nf3, nf4]
    refine st_nob (j := 2) (t := 5) (c := true) rfl rfl rfl rfl rfl ?_
    simp only [nf0, nf1, nf2, nf3, nf4]
    refine st_nob (j := 2) (t := 5) (c := true) rfl rfl rfl rfl rfl ?_
    simp only [nf0, nf1, nf2, nf3, nf4]
    refine st_mv (.bool true) ?_
    simp only [nf0, nf1, nf2, nf3, nf4]
    refine st_mv (.bool true) ?_
    simp only [nf0, nf1, nf2, nf3, nf4]
    refine st_nob (j := 6) (t := 9) (c := true) rfl rfl rfl rfl rfl ?_
    simp only [nf0, nf1, nf2, nf3, nf4]
    refine st_nob (j := 6) (t := 9) (c := true) rfl rfl rfl rfl rfl ?_
    simp only [nf0, nf1, nf2, nf3, nf4]
    refine st_mv (.bool true) ?_
    simp only [nf0, nf1, nf2, nf3, nf4]
    refine st_mv (.bool true) ?_
    simp only [nf0, nf1, nf2, nf3, nf4]
    refine wpList_nil ?_
    show Code.wp _ _ _ _ _
    refine wp_ret ?_
    first | show bodyPost _ _ _ _ _ _ | (simp only [Exit.then, Exit.inBlock]; show bodyPost _ _ _ _ _ _)
    have hE : inL c = true := by
      simp only [inL, kd_2, kd_4]
      first | exact decide_eq_true (by omega) | exact decide_eq_false (by omega) | (rw [decide_eq_decide]; omega) | (simp only [isS, isD, inW, inL, kd_1, kd_2, kd_3, kd_4]; rw [decide_eq_decide]; omega) | (rw [← decide_not, decide_eq_decide])
    exact bodyPost_ret (results_tmp rfl _ _ _) rfl ⟨by rw [hE]; rfl, bel⟩
  have hp4 := trivial
  have hs4 := hg3
  simp only [isD, decide_eq_false_iff_not, kd_1, kd_2] at hs4
  cases hg7 : decide (c = 44)
  · have hp8 := of_decide_eq_false hg7
    refine wp_region_lit ?_
    refine st_mv (.int .u8 c) ?_
    simp only [nf0, nf1, nf2, nf3, nf4]
    refine st_call1 (v := (.bool false)) (by rfl) (a_run_call_35_1 (.tmp 3) rfl rfl _) (by have h_ := isDigit_calls c w; rw [hg3] at h_; exact h_) ?_
    intro w9 hb10
    simp only [nf0, nf1, nf2, nf3, nf4]
    replace bel := bl_step bel hb10
    clear hb10
    refine st_mv (.bool false) ?_
    simp only [nf0, nf1, nf2, nf3, nf4]
    refine st_mv (.int .u8 c) ?_
    simp only [nf0, nf1, nf2, nf3, nf4]
    refine st_value (v := (.bool false)) (by rfl) ((run_eql_int (.tmp 6) (.const (.int .u8 44)) rfl rfl rfl w9).trans (by rw [hg7])) ?_
    simp only [nf0, nf1, nf2, nf3, nf4]
    refine st_mv (.bool false) ?_
    simp only [nf0, nf1, nf2, nf3, nf4]
    refine st_mv (.bool false) ?_
    simp only [nf0, nf1, nf2, nf3, nf4]
    refine st_mv (.int .u8 c) ?_
    simp only [nf0, nf1, nf2, nf3, nf4]
    refine st_value (v := (.bool (decide (c = 45)))) (by rfl) (run_eql_int (.tmp 10) (.const (.int .u8 45)) rfl rfl rfl w9) ?_
    simp only [nf0, nf1, nf2, nf3, nf4]
    refine st_mv (.bool (decide (c = 45))) ?_
    simp only [nf0, nf1, nf2, nf3, nf4]
    refine st_mv (.bool (decide (c = 45))) ?_
    simp only [nf0, nf1, nf2, nf3, nf4]
    refine wpList_nil ?_
    show Code.wp _ _ _ _ _
    refine wp_ret ?_
    first | show bodyPost _ _ _ _ _ _ | (simp only [Exit.then, Exit.inBlock]; show bodyPost _ _ _ _ _ _)
    have hE : inL c = decide (c = 45) := by
      simp only [inL, kd_2, kd_4]
      first | exact decide_eq_true (by omega) | exact decide_eq_false (by omega) | (rw [decide_eq_decide]; omega) | (simp only [isS, isD, inW, inL, kd_1, kd_2, kd_3, kd_4]; rw [decide_eq_decide]; omega) | (rw [← decide_not, decide_eq_decide])
    exact bodyPost_ret (results_tmp rfl _ _ _) rfl ⟨by rw [hE]; rfl, bel⟩
  have hp11 := of_decide_eq_true hg7
  refine wp_region_lit ?_
  refine st_mv (.int .u8 c) ?_
  simp only [nf0, nf1, nf2, nf3, nf4]
  refine st_call1 (v := (.bool false)) (by rfl) (a_run_call_35_1 (.tmp 3) rfl rfl _) (by have h_ := isDigit_calls c w; rw [hg3] at h_; exact h_) ?_
  intro w12 hb13
  simp only [nf0, nf1, nf2, nf3, nf4]
  replace bel := bl_step bel hb13
  clear hb13
  refine st_mv (.bool false) ?_
  simp only [nf0, nf1, nf2, nf3, nf4]
  refine st_mv (.int .u8 c) ?_
  simp only [nf0, nf1, nf2, nf3, nf4]
  refine st_value (v := (.bool true)) (by rfl) ((run_eql_int (.tmp 6) (.const (.int .u8 44)) rfl rfl rfl w12).trans (by rw [hg7])) ?_
  simp only [nf0, nf1, nf2, nf3, nf4]
  refine st_mv (.bool true) ?_
  simp only [nf0, nf1, nf2, nf3, nf4]
  refine st_mv (.bool true) ?_
  simp only [nf0, nf1, nf2, nf3, nf4]
  refine st_nob (j := 6) (t := 9) (c := true) rfl rfl rfl rfl rfl ?_
  simp only [nf0, nf1, nf2, nf3, nf4]
  refine st_nob (j := 6) (t := 9) (c := true) rfl rfl rfl rfl rfl ?_
  simp only [nf0, nf1, nf2, nf3, nf4]
  refine st_mv (.bool true) ?_
  simp only [nf0, nf1, nf2, nf3, nf4]
  refine st_mv (.bool true) ?_
  simp only [nf0, nf1, nf2, nf3, nf4]
  refine wpList_nil ?_
  show Code.wp _ _ _ _ _
  refine wp_ret ?_
  first | show bodyPost _ _ _ _ _ _ | (simp only [Exit.then, Exit.inBlock]; show bodyPost _ _ _ _ _ _)
  have hE : inL c = true := by
    simp only [inL, kd_2, kd_4]
    first | exact decide_eq_true (by omega) | exact decide_eq_false (by omega) | (rw [decide_eq_decide]; omega) | (simp only [isS, isD, inW, inL, kd_1, kd_2, kd_3, kd_4]; rw [decide_eq_decide]; omega) | (rw [← decide_not, decide_eq_decide])
  exact bodyPost_ret (results_tmp rfl _ _ _) rfl ⟨by rw [hE]; rfl, bel⟩
set_option maxRecDepth 100000 in
set_option maxHeartbeats 4000000 in
theorem gap1_calls (c : Int) (w : World) : Calls Try.prog 33 #[.int .u8 c] w fun e w' => e = .returned (.bool (noNL c)) ∧ Below w.heap.size w w' := by
  have bel : Below w.heap.size w w := Below.refl _ _
  go_enter Try.func33, Try.ntmps33
  refine wp_seq ?_
  refine wp_region_lit ?_
  refine st_mv (.bool false) ?_
  simp only [nf0, nf1, nf2, nf3, nf4]
  refine wpList_nil ?_
  show Code.wp _ _ _ _ _
  refine wp_seq ?_
  refine wp_region_lit ?_
  refine st_mv (.int .u8 c) ?_
  simp only [nf0, nf1, nf2, nf3, nf4]
  refine st_value (v := (.bool (!decide (c = 10)))) (by rfl) (run_neq_int (.tmp 3) (.const (.int .u8 10)) rfl rfl rfl w) ?_
  simp only [nf0, nf1, nf2, nf3, nf4]
  refine st_mv (.bool (!decide (c = 10))) ?_
  simp only [nf0, nf1, nf2, nf3, nf4]
  refine wpList_nil ?_
  show Code.wp _ _ _ _ _
  refine wp_ret ?_
  first | show bodyPost _ _ _ _ _ _ | (simp only [Exit.then, Exit.inBlock]; show bodyPost _ _ _ _ _ _)
  have hE : noNL c = !decide (c = 10) := by
    simp only [noNL]
    first | exact decide_eq_true (by omega) | exact decide_eq_false (by omega) | (rw [decide_eq_decide]; omega) | (simp only [isS, isD, inW, inL, kd_1, kd_2, kd_3, kd_4]; rw [decide_eq_decide]; omega) | (rw [← decide_not, decide_eq_decide])
  exact bodyPost_ret (results_tmp rfl _ _ _) rfl ⟨by rw [hE]; rfl, bel⟩
set_option maxRecDepth 100000 in
set_option maxHeartbeats 4000000 in
theorem kind_calls (c : Int) (w : World) : Calls Try.prog 22 #[.int .u8 c] w fun e w' => e = .returned (.int .i64 ((kd c : Nat) : Int)) ∧ Below w.heap.size w w' := by
  have bel : Below w.heap.size w w := Below.refl _ _
  go_enter Try.func22, Try.ntmps22
  refine wp_seq ?_
  refine wp_region_lit ?_
  refine st_mv (.int .i64 0) ?_
  simp only [nf0, nf1, nf2, nf3, nf4]
  refine wpList_nil ?_
  show Code.wp _ _ _ _ _
  refine wp_seq ?_
  refine wp_block ?_
  refine wp_seq ?_
  cases hg1 : decide (97 ≤ c)
  · have hp2 := of_decide_eq_false hg1
    refine wp_region_lit ?_
    refine st_mv (.int .u8 c) ?_
    simp only [nf0, nf1, nf2, nf3, nf4]
    refine st_value (v := (.bool false)) (by rfl) ((run_geq (.tmp 4) (.const (.int .u8 97)) rfl rfl rfl w).trans (by rw [hg1])) ?_
    simp only [nf0, nf1, nf2, nf3, nf4]
    refine st_mv (.bool false) ?_
    simp only [nf0, nf1, nf2, nf3, nf4]
    refine st_nob (j := 2) (t := 6) (c := false) rfl rfl rfl rfl rfl ?_
    simp only [nf0, nf1, nf2, nf3, nf4]
    refine st_nob (j := 2) (t := 6) (c := false) rfl rfl rfl rfl rfl ?_
    simp only [nf0, nf1, nf2, nf3, nf4]
    refine st_mv (.bool false) ?_
    simp only [nf0, nf1, nf2, nf3, nf4]
    refine st_mv (.bool false) ?_
    simp only [nf0, nf1, nf2, nf3, nf4]
    refine wpList_nil ?_
    show Code.wp _ _ _ _ _
    refine wp_cond_false rfl ?_
    refine wp_seq ?_
    cases hg3 : decide (48 ≤ c)
    · have hp4 := of_decide_eq_false hg3
      refine wp_region_lit ?_
      refine st_mv (.int .u8 c) ?_
      simp only [nf0, nf1, nf2, nf3, nf4]
      refine st_value (v := (.bool false)) (by rfl) ((run_geq (.tmp 11) (.const (.int .u8 48)) rfl rfl rfl w).trans (by rw [hg3])) ?_
      simp only [nf0, nf1, nf2, nf3, nf4]
      refine st_mv (.bool false) ?_
      simp only [nf0, nf1, nf2, nf3, nf4]
      refine st_nob (j := 2) (t := 13) (c := false) rfl rfl rfl rfl rfl ?_
      simp only [nf0, nf1, nf2, nf3, nf4]
      refine st_nob (j := 2) (t := 13) (c := false) rfl rfl rfl rfl rfl ?_
      simp only [nf0, nf1, nf2, nf3, nf4]
      refine st_mv (.bool false) ?_
      simp only [nf0, nf1, nf2, nf3, nf4]
      refine st_mv (.bool false) ?_
      simp only [nf0, nf1, nf2, nf3, nf4]
      refine wpList_nil ?_
      show Code.wp _ _ _ _ _
      refine wp_cond_false rfl ?_
      refine wp_seq ?_
      refine wp_region_lit ?_
      refine st_mv (.int .u8 c) ?_
      simp only [nf0, nf1, nf2, nf3, nf4]
      refine st_value (v := (.bool (decide (c = 95)))) (by rfl) (run_eql_int (.tmp 18) (.const (.int .u8 95)) rfl rfl rfl w) ?_
      simp only [nf0, nf1, nf2, nf3, nf4]
      refine st_mv (.bool (decide (c = 95))) ?_
      simp only [nf0, nf1, nf2, nf3, nf4]
      refine wpList_nil ?_
      show Code.wp _ _ _ _ _
      cases hg5 : decide (c = 95)
      rotate_left
      · have hp37 := of_decide_eq_true hg5
        refine wp_cond_true rfl ?_
        refine wp_seq ?_
        refine wp_region_lit ?_
        refine st_mv (.int .i64 3) ?_
        simp only [nf0, nf1, nf2, nf3, nf4]
        refine wpList_nil ?_
        show Code.wp _ _ _ _ _
        refine wp_ret ?_
        first | show bodyPost _ _ _ _ _ _ | (simp only [Exit.then, Exit.inBlock]; show bodyPost _ _ _ _ _ _)
        exact bodyPost_ret (results_tmp rfl _ _ _) rfl ⟨by rw [show kd c = 3 from by unfold kd; (repeat' split) <;> omega]; rfl, bel⟩
      have hp6 := of_decide_eq_false hg5
      refine wp_cond_false rfl ?_
      refine wp_seq ?_
      cases hg7 : decide (c = 44)
      rotate_left
      · have hp36 := of_decide_eq_true hg7
        refine wp_region_lit ?_
        refine st_mv (.int .u8 c) ?_
        simp only [nf0, nf1, nf2, nf3, nf4]
        refine st_value (v := (.bool true)) (by rfl) ((run_eql_int (.tmp 21) (.const (.int .u8 44)) rfl rfl rfl w).trans (by rw [hg7])) ?_
        simp only [nf0, nf1, nf2, nf3, nf4]
        refine st_mv (.bool true) ?_
        simp only [nf0, nf1, nf2, nf3, nf4]
        refine st_nob (j := 2) (t := 23) (c := true) rfl rfl rfl rfl rfl ?_
        simp only [nf0, nf1, nf2, nf3, nf4]
        refine st_nob (j := 2) (t := 23) (c := true) rfl rfl rfl rfl rfl ?_
        simp only [nf0, nf1, nf2, nf3, nf4]
        refine st_mv (.bool true) ?_
        simp only [nf0, nf1, nf2, nf3, nf4]
        refine st_mv (.bool true) ?_
        simp only [nf0, nf1, nf2, nf3, nf4]
        refine wpList_nil ?_
        show Code.wp _ _ _ _ _
        refine wp_cond_true rfl ?_
        refine wp_seq ?_
        refine wp_region_lit ?_
        refine st_mv (.int .i64 4) ?_
        simp only [nf0, nf1, nf2, nf3, nf4]
        refine wpList_nil ?_
        show Code.wp _ _ _ _ _
        refine wp_ret ?_
        first | show bodyPost _ _ _ _ _ _ | (simp only [Exit.then, Exit.inBlock]; show bodyPost _ _ _ _ _ _)
        exact bodyPost_ret (results_tmp rfl _ _ _) rfl ⟨by rw [show kd c = 4 from by unfold kd; (repeat' split) <;> omega]; rfl, bel⟩
      have hp8 := of_decide_eq_false hg7
      refine wp_region_lit ?_
      refine st_mv (.int .u8 c) ?_
      simp only [nf0, nf1, nf2, nf3, nf4]
      refine st_value (v := (.bool false)) (by rfl) ((run_eql_int (.tmp 21) (.const (.int .u8 44)) rfl rfl rfl w).trans (by rw [hg7])) ?_
      simp only [nf0, nf1, nf2, nf3, nf4]
      refine st_mv (.bool false) ?_
      simp only [nf0, nf1, nf2, nf3, nf4]
      refine st_mv (.int .u8 c) ?_
      simp only [nf0, nf1, nf2, nf3, nf4]
      refine st_value (v := (.bool (decide (c = 45)))) (by rfl) (run_eql_int (.tmp 24) (.const (.int .u8 45)) rfl rfl rfl w) ?_
      simp only [nf0, nf1, nf2, nf3, nf4]
      refine st_mv (.bool (decide (c = 45))) ?_
      simp only [nf0, nf1, nf2, nf3, nf4]
      refine st_mv (.bool (decide (c = 45))) ?_
      simp only [nf0, nf1, nf2, nf3, nf4]
      refine wpList_nil ?_
      show Code.wp _ _ _ _ _
      cases hg9 : decide (c = 45)
      rotate_left
      · have hp35 := of_decide_eq_true hg9
        refine wp_cond_true rfl ?_
        refine wp_seq ?_
        refine wp_region_lit ?_
        refine st_mv (.int .i64 4) ?_
        simp only [nf0, nf1, nf2, nf3, nf4]
        refine wpList_nil ?_
        show Code.wp _ _ _ _ _
        refine wp_ret ?_
        first | show bodyPost _ _ _ _ _ _ | (simp only [Exit.then, Exit.inBlock]; show bodyPost _ _ _ _ _ _)
        exact bodyPost_ret (results_tmp rfl _ _ _) rfl ⟨by rw [show kd c = 4 from by unfold kd; (repeat' split) <;> omega]; rfl, bel⟩
      have hp10 := of_decide_eq_false hg9
      refine wp_cond_false rfl ?_
      refine wp_seq ?_
      cases hg11 : decide (c = 123)
      rotate_left
      · have hp34 := of_decide_eq_true hg11
        refine wp_region_lit ?_
        refine st_mv (.int .u8 c) ?_
        simp only [nf0, nf1, nf2, nf3, nf4]
        refine st_value (v := (.bool true)) (by rfl) ((run_eql_int (.tmp 28) (.const (.int .u8 123)) rfl rfl rfl w).trans (by rw [hg11])) ?_
        simp only [nf0, nf1, nf2, nf3, nf4]
        refine st_mv (.bool true) ?_
        simp only [nf0, nf1, nf2, nf3, nf4]
        refine st_nob (j := 2) (t := 30) (c := true) rfl rfl rfl rfl rfl ?_
        simp only [nf0, nf1, nf2, nf3, nf4]
        refine st_nob (j := 2) (t := 30) (c := true) rfl rfl rfl rfl rfl ?_
        simp only [nf0, nf1, nf2, nf3, nf4]
        refine st_mv (.bool true) ?_
        simp only [nf0, nf1, nf2, nf3, nf4]
        refine st_mv (.bool true) ?_
        simp only [nf0, nf1, nf2, nf3, nf4]
        refine st_nob (j := 6) (t := 34) (c := true) rfl rfl rfl rfl rfl ?_
        simp only [nf0, nf1, nf2, nf3, nf4]
        refine st_nob (j := 6) (t := 34) (c := true) rfl rfl rfl rfl rfl ?_
        simp only [nf0, nf1, nf2, nf3, nf4]
        refine st_mv (.bool true) ?_
        simp only [nf0, nf1, nf2, nf3, nf4]
        refine st_mv (.bool true) ?_
        simp only [nf0, nf1, nf2, nf3, nf4]
        refine wpList_nil ?_
        show Code.wp _ _ _ _ _
        refine wp_cond_true rfl ?_
        refine wp_seq ?_
        refine wp_region_lit ?_
        refine st_mv (.int .i64 5) ?_
        simp only [nf0, nf1, nf2, nf3, nf4]
        refine wpList_nil ?_
        show Code.wp _ _ _ _ _
        refine wp_ret ?_
        first | show bodyPost _ _ _ _ _ _ | (simp only [Exit.then, Exit.inBlock]; show bodyPost _ _ _ _ _ _)
        exact bodyPost_ret (results_tmp rfl _ _ _) rfl ⟨by rw [show kd c = 5 from by unfold kd; (repeat' split) <;> omega]; rfl, bel⟩
      have hp12 := of_decide_eq_false hg11
      cases hg13 : decide (c = 125)
      rotate_left
      · have hp33 := of_decide_eq_true hg13
        refine wp_region_lit ?_
        refine st_mv (.int .u8 c) ?_
        simp only [nf0, nf1, nf2, nf3, nf4]
        refine st_value (v := (.bool false)) (by rfl) ((run_eql_int (.tmp 28) (.const (.int .u8 123)) rfl rfl rfl w).trans (by rw [hg11])) ?_
        simp only [nf0, nf1, nf2, nf3, nf4]
        refine st_mv (.bool false) ?_
        simp only [nf0, nf1, nf2, nf3, nf4]
        refine st_mv (.int .u8 c) ?_
        simp only [nf0, nf1, nf2, nf3, nf4]
        refine st_value (v := (.bool true)) (by rfl) ((run_eql_int (.tmp 31) (.const (.int .u8 125)) rfl rfl rfl w).trans (by rw [hg13])) ?_
        simp only [nf0, nf1, nf2, nf3, nf4]
        refine st_mv (.bool true) ?_
        simp only [nf0, nf1, nf2, nf3, nf4]
        refine st_mv (.bool true) ?_
        simp only [nf0, nf1, nf2, nf3, nf4]
        refine st_nob (j := 6) (t := 34) (c := true) rfl rfl rfl rfl rfl ?_
        simp only [nf0, nf1, nf2, nf3, nf4]
        refine st_nob (j := 6) (t := 34) (c := true) rfl rfl rfl rfl rfl ?_
        simp only [nf0, nf1, nf2, nf3, nf4]
        refine st_mv (.bool true) ?_
        simp only [nf0, nf1, nf2, nf3, nf4]
        refine st_mv (.bool true) ?_
        simp only [nf0, nf1, nf2, nf3, nf4]
        refine wpList_nil ?_
        show Code.wp _ _ _ _ _
        refine wp_cond_true rfl ?_
        refine wp_seq ?_
        refine wp_region_lit ?_
        refine st_mv (.int .i64 5) ?_
        simp only [nf0, nf1, nf2, nf3, nf4]
        refine wpList_nil ?_
        show Code.wp _ _ _ _ _
        refine wp_ret ?_
        first | show bodyPost _ _ _ _ _ _ | (simp only [Exit.then, Exit.inBlock]; show bodyPost _ _ _ _ _ _)
        exact bodyPost_ret (results_tmp rfl _ _ _) rfl ⟨by rw [show kd c = 5 from by unfold kd; (repeat' split) <;> omega]; rfl, bel⟩
      have hp14 := of_decide_eq_false hg13
      refine wp_region_lit ?_
      refine st_mv (.int .u8 c) ?_
      simp only [nf0, nf1, nf2, nf3, nf4]
      refine st_value (v := (.bool false)) (by rfl) ((run_eql_int (.tmp 28) (.const (.int .u8 123)) rfl rfl rfl w).trans (by rw [hg11])) ?_
      simp only [nf0, nf1, nf2, nf3, nf4]
      refine st_mv (.bool false) ?_
      simp only [nf0, nf1, nf2, nf3, nf4]
      refine st_mv (.int .u8 c) ?_
      simp only [nf0, nf1, nf2, nf3, nf4]
      refine st_value (v := (.bool false)) (by rfl) ((run_eql_int (.tmp 31) (.const (.int .u8 125)) rfl rfl rfl w).trans (by rw [hg13])) ?_
      simp only [nf0, nf1, nf2, nf3, nf4]
      refine st_mv (.bool false) ?_
      simp only [nf0, nf1, nf2, nf3, nf4]
      refine st_mv (.bool false) ?_
      simp only [nf0, nf1, nf2, nf3, nf4]
      refine st_mv (.int .u8 c) ?_
      simp only [nf0, nf1, nf2, nf3, nf4]
      refine st_value (v := (.bool (decide (c = 59)))) (by rfl) (run_eql_int (.tmp 35) (.const (.int .u8 59)) rfl rfl rfl w) ?_
      simp only [nf0, nf1, nf2, nf3, nf4]
      refine st_mv (.bool (decide (c = 59))) ?_
      simp only [nf0, nf1, nf2, nf3, nf4]
      refine st_mv (.bool (decide (c = 59))) ?_
      simp only [nf0, nf1, nf2, nf3, nf4]
      refine wpList_nil ?_
      show Code.wp _ _ _ _ _
      cases hg15 : decide (c = 59)
      rotate_left
      · have hp32 := of_decide_eq_true hg15
        refine wp_cond_true rfl ?_
        refine wp_seq ?_
        refine wp_region_lit ?_
        refine st_mv (.int .i64 5) ?_
        simp only [nf0, nf1, nf2, nf3, nf4]
        refine wpList_nil ?_
        show Code.wp _ _ _ _ _
        refine wp_ret ?_
        first | show bodyPost _ _ _ _ _ _ | (simp only [Exit.then, Exit.inBlock]; show bodyPost _ _ _ _ _ _)
        exact bodyPost_ret (results_tmp rfl _ _ _) rfl ⟨by rw [show kd c = 5 from by unfold kd; (repeat' split) <;> omega]; rfl, bel⟩
      have hp16 := of_decide_eq_false hg15
      refine wp_cond_false rfl ?_
      refine wp_seq ?_
      cases hg17 : decide (c = 32)
      rotate_left
      · have hp31 := of_decide_eq_true hg17
        refine wp_region_lit ?_
        refine st_mv (.int .u8 c) ?_
        simp only [nf0, nf1, nf2, nf3, nf4]
        refine st_value (v := (.bool true)) (by rfl) ((run_eql_int (.tmp 39) (.const (.int .u8 32)) rfl rfl rfl w).trans (by rw [hg17])) ?_
        simp only [nf0, nf1, nf2, nf3, nf4]
        refine st_mv (.bool true) ?_
        simp only [nf0, nf1, nf2, nf3, nf4]
        refine st_nob (j := 2) (t := 41) (c := true) rfl rfl rfl rfl rfl ?_
        simp only [nf0, nf1, nf2, nf3, nf4]
        refine st_nob (j := 2) (t := 41) (c := true) rfl rfl rfl rfl rfl ?_
        simp only [nf0, nf1, nf2, nf3, nf4]
        refine st_mv (.bool true) ?_
        simp only [nf0, nf1, nf2, nf3, nf4]
        refine st_mv (.bool true) ?_
        simp only [nf0, nf1, nf2, nf3, nf4]
        refine st_nob (j := 6) (t := 45) (c := true) rfl rfl rfl rfl rfl ?_
        simp only [nf0, nf1, nf2, nf3, nf4]
        refine st_nob (j := 6) (t := 45) (c := true) rfl rfl rfl rfl rfl ?_
        simp only [nf0, nf1, nf2, nf3, nf4]
        refine st_mv (.bool true) ?_
        simp only [nf0, nf1, nf2, nf3, nf4]
        refine st_mv (.bool true) ?_
        simp only [nf0, nf1, nf2, nf3, nf4]
        refine st_nob (j := 10) (t := 49) (c := true) rfl rfl rfl rfl rfl ?_
        simp only [nf0, nf1, nf2, nf3, nf4]
        refine st_nob (j := 10) (t := 49) (c := true) rfl rfl rfl rfl rfl ?_
        simp only [nf0, nf1, nf2, nf3, nf4]
        refine st_mv (.bool true) ?_
        simp only [nf0, nf1, nf2, nf3, nf4]
        refine st_mv (.bool true) ?_
        simp only [nf0, nf1, nf2, nf3, nf4]
        refine wpList_nil ?_
        show Code.wp _ _ _ _ _
        refine wp_cond_true rfl ?_
        refine wp_seq ?_
        refine wp_region_lit ?_
        refine st_mv (.int .i64 6) ?_
        simp only [nf0, nf1, nf2, nf3, nf4]
        refine wpList_nil ?_
        show Code.wp _ _ _ _ _
        refine wp_ret ?_
        first | show bodyPost _ _ _ _ _ _ | (simp only [Exit.then, Exit.inBlock]; show bodyPost _ _ _ _ _ _)
        exact bodyPost_ret (results_tmp rfl _ _ _) rfl ⟨by rw [show kd c = 6 from by unfold kd; (repeat' split) <;> omega]; rfl, bel⟩
      have hp18 := of_decide_eq_false hg17
      cases hg19 : decide (c = 9)
      rotate_left
      · have hp30 := of_decide_eq_true hg19
        refine wp_region_lit ?_
        refine st_mv (.int .u8 c) ?_
        simp only [nf0, nf1, nf2, nf3, nf4]
        refine st_value (v := (.bool false)) (by rfl) ((run_eql_int (.tmp 39) (.const (.int .u8 32)) rfl rfl rfl w).trans (by rw [hg17])) ?_
        simp only [nf0, nf1, nf2, nf3, nf4]
        refine st_mv (.bool false) ?_
        simp only [nf0, nf1, nf2, nf3, nf4]
        refine st_mv (.int .u8 c) ?_
        simp only [nf0, nf1, nf2, nf3, nf4]
        refine st_value (v := (.bool true)) (by rfl) ((run_eql_int (.tmp 42) (.const (.int .u8 9)) rfl rfl rfl w).trans (by rw [hg19])) ?_
        simp only [nf0, nf1, nf2, nf3, nf4]
        refine st_mv (.bool true) ?_
        simp only [nf0, nf1, nf2, nf3, nf4]
        refine st_mv (.bool true) ?_
        simp only [nf0, nf1, nf2, nf3, nf4]
        refine st_nob (j := 6) (t := 45) (c := true) rfl rfl rfl rfl rfl ?_
        simp only [nf0, nf1, nf2, nf3, nf4]
        refine st_nob (j := 6) (t := 45) (c := true) rfl rfl rfl rfl rfl ?_
        simp only [nf0, nf1, nf2, nf3, nf4]
        refine st_mv (.bool true) ?_
        simp only [nf0, nf1, nf2, nf3, nf4]
        refine st_mv (.bool true) ?_
        simp only [nf0, nf1, nf2, nf3, nf4]
        refine st_nob (j := 10) (t := 49) (c := true) rfl rfl rfl rfl rfl ?_
        simp only [nf0, nf1, nf2, nf3, nf4]
        refine st_nob (j := 10) (t := 49) (c := true) rfl rfl rfl rfl rfl ?_
        simp only [nf0, nf1, nf2, nf3, nf4]
        refine st_mv (.bool true) ?_
        simp only [nf0, nf1, nf2, nf3, nf4]
        refine st_mv (.bool true) ?_
        simp only [nf0, nf1, nf2, nf3, nf4]
        refine wpList_nil ?_
        show Code.wp _ _ _ _ _
        refine wp_cond_true rfl ?_
        refine wp_seq ?_
        refine wp_region_lit ?_
        refine st_mv (.int .i64 6) ?_
        simp only [nf0, nf1, nf2, nf3, nf4]
        refine wpList_nil ?_
        show Code.wp _ _ _ _ _
        refine wp_ret ?_
        first | show bodyPost _ _ _ _ _ _ | (simp only [Exit.then, Exit.inBlock]; show bodyPost _ _ _ _ _ _)
        exact bodyPost_ret (results_tmp rfl _ _ _) rfl ⟨by rw [show kd c = 6 from by unfold kd; (repeat' split) <;> omega]; rfl, bel⟩
      have hp20 := of_decide_eq_false hg19
      cases hg21 : decide (c = 10)
      rotate_left
      · have hp29 := of_decide_eq_true hg21
        refine wp_region_lit ?_
        refine st_mv (.int .u8 c) ?_
        simp only [nf0, nf1, nf2, nf3, nf4]
        refine st_value (v := (.bool false)) (by rfl) ((run_eql_int (.tmp 39) (.const (.int .u8 32)) rfl rfl rfl w).trans (by rw [hg17])) ?_
        simp only [nf0, nf1, nf2, nf3, nf4]
        refine st_mv (.bool false) ?_
        simp only [nf0, nf1, nf2, nf3, nf4]
        refine st_mv (.int .u8 c) ?_
        simp only [nf0, nf1, nf2, nf3, nf4]
        refine st_value (v := (.bool false)) (by rfl) ((run_eql_int (.tmp 42) (.const (.int .u8 9)) rfl rfl rfl w).trans (by rw [hg19])) ?_
        simp only [nf0, nf1, nf2, nf3, nf4]
        refine st_mv (.bool false) ?_
        simp only [nf0, nf1, nf2, nf3, nf4]
        refine st_mv (.bool false) ?_
        simp only [nf0, nf1, nf2, nf3, nf4]
        refine st_mv (.int .u8 c) ?_
        simp only [nf0, nf1, nf2, nf3, nf4]
        refine st_value (v := (.bool true)) (by rfl) ((run_eql_int (.tmp 46) (.const (.int .u8 10)) rfl rfl rfl w).trans (by rw [hg21])) ?_
        simp only [nf0, nf1, nf2, nf3, nf4]
        refine st_mv (.bool true) ?_
        simp only [nf0, nf1, nf2, nf3, nf4]
        refine st_mv (.bool true) ?_
        simp only [nf0, nf1, nf2, nf3, nf4]
        refine st_nob (j := 10) (t := 49) (c := true) rfl rfl rfl rfl rfl ?_
        simp only [nf0, nf1, nf2, nf3, nf4]
        refine st_nob (j := 10) (t := 49) (c := true) rfl rfl rfl rfl rfl ?_
        simp only [nf0, nf1, nf2, nf3, nf4]
        refine st_mv (.bool true) ?_
        simp only [nf0, nf1, nf2, nf3, nf4]
        refine st_mv (.bool true) ?_
        simp only [nf0, nf1, nf2, nf3, nf4]
        refine wpList_nil ?_
        show Code.wp _ _ _ _ _
        refine wp_cond_true rfl ?_
        refine wp_seq ?_
        refine wp_region_lit ?_
        refine st_mv (.int .i64 6) ?_
        simp only [nf0, nf1, nf2, nf3, nf4]
        refine wpList_nil ?_
        show Code.wp _ _ _ _ _
        refine wp_ret ?_
        first | show bodyPost _ _ _ _ _ _ | (simp only [Exit.then, Exit.inBlock]; show bodyPost _ _ _ _ _ _)
        exact bodyPost_ret (results_tmp rfl _ _ _) rfl ⟨by rw [show kd c = 6 from by unfold kd; (repeat' split) <;> omega]; rfl, bel⟩
      have hp22 := of_decide_eq_false hg21
      refine wp_region_lit ?_
      refine st_mv (.int .u8 c) ?_
      simp only [nf0, nf1, nf2, nf3, nf4]
      refine st_value (v := (.bool false)) (by rfl) ((run_eql_int (.tmp 39) (.const (.int .u8 32)) rfl rfl rfl w).trans (by rw [hg17])) ?_
      simp only [nf0, nf1, nf2, nf3, nf4]
      refine st_mv (.bool false) ?_
      simp only [nf0, nf1, nf2, nf3, nf4]
      refine st_mv (.int .u8 c) ?_
      simp only [nf0, nf1, nf2, nf3, nf4]
      refine st_value (v := (.bool false)) (by rfl) ((run_eql_int (.tmp 42) (.const (.int .u8 9)) rfl rfl rfl w).trans (by rw [hg19])) ?_
      simp only [nf0, nf1, nf2, nf3, nf4]
      refine st_mv (.bool false) ?_
      simp only [nf0, nf1, nf2, nf3, nf4]
      refine st_mv (.bool false) ?_
      simp only [nf0, nf1, nf2, nf3, nf4]
      refine st_mv (.int .u8 c) ?_
      simp only [nf0, nf1, nf2, nf3, nf4]
      refine st_value (v := (.bool false)) (by rfl) ((run_eql_int (.tmp 46) (.const (.int .u8 10)) rfl rfl rfl w).trans (by rw [hg21])) ?_
      simp only [nf0, nf1, nf2, nf3, nf4]
      refine st_mv (.bool false) ?_
      simp only [nf0, nf1, nf2, nf3, nf4]
      refine st_mv (.bool false) ?_
      simp only [nf0, nf1, nf2, nf3, nf4]
      refine st_mv (.int .u8 c) ?_
      simp only [nf0, nf1, nf2, nf3, nf4]
      refine st_value (v := (.bool (decide (c = 13)))) (by rfl) (run_eql_int (.tmp 50) (.const (.int .u8 13)) rfl rfl rfl w) ?_
      simp only [nf0, nf1, nf2, nf3, nf4]
      refine st_mv (.bool (decide (c = 13))) ?_
      simp only [nf0, nf1, nf2, nf3, nf4]
      refine st_mv (.bool (decide (c = 13))) ?_
      simp only [nf0, nf1, nf2, nf3, nf4]
      refine wpList_nil ?_
      show Code.wp _ _ _ _ _
      cases hg23 : decide (c = 13)
      rotate_left
      · have hp28 := of_decide_eq_true hg23
        refine wp_cond_true rfl ?_
        refine wp_seq ?_
        refine wp_region_lit ?_
        refine st_mv (.int .i64 6) ?_
        simp only [nf0, nf1, nf2, nf3, nf4]
        refine wpList_nil ?_
        show Code.wp _ _ _ _ _
        refine wp_ret ?_
        first | show bodyPost _ _ _ _ _ _ | (simp only [Exit.then, Exit.inBlock]; show bodyPost _ _ _ _ _ _)
        exact bodyPost_ret (results_tmp rfl _ _ _) rfl ⟨by rw [show kd c = 6 from by unfold kd; (repeat' split) <;> omega]; rfl, bel⟩
      have hp24 := of_decide_eq_false hg23
      refine wp_cond_false rfl ?_
      refine wp_seq ?_
      refine wp_region_lit ?_
      refine st_mv (.int .u8 c) ?_
      simp only [nf0, nf1, nf2, nf3, nf4]
      refine st_value (v := (.bool (decide (c = 35)))) (by rfl) (run_eql_int (.tmp 54) (.const (.int .u8 35)) rfl rfl rfl w) ?_
      simp only [nf0, nf1, nf2, nf3, nf4]
      refine st_mv (.bool (decide (c = 35))) ?_
      simp only [nf0, nf1, nf2, nf3, nf4]
      refine wpList_nil ?_
      show Code.wp _ _ _ _ _
      cases hg25 : decide (c = 35)
      rotate_left
      · have hp27 := of_decide_eq_true hg25
        refine wp_cond_true rfl ?_
        refine wp_seq ?_
        refine wp_region_lit ?_
        refine st_mv (.int .i64 7) ?_
        simp only [nf0, nf1, nf2, nf3, nf4]
        refine wpList_nil ?_
        show Code.wp _ _ _ _ _
        refine wp_ret ?_
        first | show bodyPost _ _ _ _ _ _ | (simp only [Exit.then, Exit.inBlock]; show bodyPost _ _ _ _ _ _)
        exact bodyPost_ret (results_tmp rfl _ _ _) rfl ⟨by rw [show kd c = 7 from by unfold kd; (repeat' split) <;> omega]; rfl, bel⟩
      have hp26 := of_decide_eq_false hg25
      refine wp_cond_false rfl ?_
      refine wp_skip ?_
      show Code.wp _ _ _ _ _
      refine wp_seq ?_
      refine wp_region_lit ?_
      refine st_mv (.int .i64 0) ?_
      simp only [nf0, nf1, nf2, nf3, nf4]
      refine wpList_nil ?_
      show Code.wp _ _ _ _ _
      refine wp_ret ?_
      first | show bodyPost _ _ _ _ _ _ | (simp only [Exit.then, Exit.inBlock]; show bodyPost _ _ _ _ _ _)
      exact bodyPost_ret (results_tmp rfl _ _ _) rfl ⟨by rw [show kd c = 0 from by unfold kd; (repeat' split) <;> omega]; rfl, bel⟩
    have hp38 := of_decide_eq_true hg3
    refine wp_region_lit ?_
    refine st_mv (.int .u8 c) ?_
    simp only [nf0, nf1, nf2, nf3, nf4]
    refine st_value (v := (.bool true)) (by rfl) ((run_geq (.tmp 11) (.const (.int .u8 48)) rfl rfl rfl w).trans (by rw [hg3])) ?_
    simp only [nf0, nf1, nf2, nf3, nf4]
    refine st_mv (.bool true) ?_
    simp only [nf0, nf1, nf2, nf3, nf4]
    refine st_mv (.int .u8 c) ?_
    simp only [nf0, nf1, nf2, nf3, nf4]
    refine st_value (v := (.bool (decide (c ≤ 57)))) (by rfl) (run_leq (.tmp 14) (.const (.int .u8 57)) rfl rfl rfl w) ?_
    simp only [nf0, nf1, nf2, nf3, nf4]
    refine st_mv (.bool (decide (c ≤ 57))) ?_
    simp only [nf0, nf1, nf2, nf3, nf4]
    refine st_mv (.bool (decide (c ≤ 57))) ?_
    simp only [nf0, nf1, nf2, nf3, nf4]
    refine wpList_nil ?_
    show Code.wp _ _ _ _ _
    cases hg39 : decide (c ≤ 57)
    rotate_left
    · have hp74 := of_decide_eq_true hg39
      refine wp_cond_true rfl ?_
      refine wp_seq ?_
      refine wp_region_lit ?_
      refine st_mv (.int .i64 2) ?_
      simp only [nf0, nf1, nf2, nf3, nf4]
      refine wpList_nil ?_
      show Code.wp _ _ _ _ _
      refine wp_ret ?_
      first | show bodyPost _ _ _ _ _ _ | (simp only [Exit.then, Exit.inBlock]; show bodyPost _ _ _ _ _ _)
      exact bodyPost_ret (results_tmp rfl _ _ _) rfl ⟨by rw [show kd c = 2 from by unfold kd; (repeat' split) <;> omega]; rfl, bel⟩
    have hp40 := of_decide_eq_false hg39
    refine wp_cond_false rfl ?_
    refine wp_seq ?_
    refine wp_region_lit ?_
    refine st_mv (.int .u8 c) ?_
    simp only [nf0, nf1, nf2, nf3, nf4]
    refine st_value (v := (.bool (decide (c = 95)))) (by rfl) (run_eql_int (.tmp 18) (.const (.int .u8 95)) rfl rfl rfl w) ?_
    simp only [nf0, nf1, nf2, nf3, nf4]
    refine st_mv (.bool (decide (c = 95))) ?_
    simp only [nf0, nf1, nf2, nf3, nf4]
    refine wpList_nil ?_
    show Code.wp _ _ _ _ _
    cases hg41 : decide (c = 95)
    rotate_left
    · have hp73 := of_decide_eq_true hg41
      refine wp_cond_true rfl ?_
      refine wp_seq ?_
      refine wp_region_lit ?_
      refine st_mv (.int .i64 3) ?_
      simp only [nf0, nf1, nf2, nf3, nf4]
      refine wpList_nil ?_
      show Code.wp _ _ _ _ _
      refine wp_ret ?_
      first | show bodyPost _ _ _ _ _ _ | (simp only [Exit.then, Exit.inBlock]; show bodyPost _ _ _ _ _ _)
      exact bodyPost_ret (results_tmp rfl _ _ _) rfl ⟨by rw [show kd c = 3 from by unfold kd; (repeat' split) <;> omega]; rfl, bel⟩
    have hp42 := of_decide_eq_false hg41
    refine wp_cond_false rfl ?_
    refine wp_seq ?_
    cases hg43 : decide (c = 44)
    rotate_left
    · have hp72 := of_decide_eq_true hg43
      refine wp_region_lit ?_
      refine st_mv (.int .u8 c) ?_
      simp only [nf0, nf1, nf2, nf3, nf4]
      refine st_value (v := (.bool true)) (by rfl) ((run_eql_int (.tmp 21) (.const (.int .u8 44)) rfl rfl rfl w).trans (by rw [hg43])) ?_
      simp only [nf0, nf1, nf2, nf3, nf4]
      refine st_mv (.bool true) ?_
      simp only [nf0, nf1, nf2, nf3, nf4]
      refine st_nob (j := 2) (t := 23) (c := true) rfl rfl rfl rfl rfl ?_
      simp only [nf0, nf1, nf2, nf3, nf4]
      refine st_nob (j := 2) (t := 23) (c := true) rfl rfl rfl rfl rfl ?_
      simp only [nf0, nf1, nf2, nf3, nf4]
      refine st_mv (.bool true) ?_
      simp only [nf0, nf1, nf2, nf3, nf4]
      refine st_mv (.bool true) ?_
      simp only [nf0, nf1, nf2, nf3, nf4]
      refine wpList_nil ?_
      show Code.wp _ _ _ _ _
      refine wp_cond_true rfl ?_
      refine wp_seq ?_
      refine wp_region_lit ?_
      refine st_mv (.int .i64 4) ?_
      simp only [nf0, nf1, nf2, nf3, nf4]
      refine wpList_nil ?_
      show Code.wp _ _ _ _ _
      refine wp_ret ?_
      first | show bodyPost _ _ _ _ _ _ | (simp only [Exit.then, Exit.inBlock]; show bodyPost _ _ _ _ _ _)
      exact bodyPost_ret (results_tmp rfl _ _ _) rfl ⟨by rw [show kd c = 4 from by unfold kd; (repeat' split) <;> omega]; rfl, bel⟩
    have hp44 := of_decide_eq_false hg43
    refine wp_region_lit ?_
    refine st_mv (.int .u8 c) ?_
    simp only [nf0, nf1, nf2, nf3, nf4]
    refine st_value (v := (.bool false)) (by rfl) ((run_eql_int (.tmp 21) (.const (.int .u8 44)) rfl rfl rfl w).trans (by rw [hg43])) ?_
    simp only [nf0, nf1, nf2, nf3, nf4]
    refine st_mv (.bool false) ?_
    simp only [nf0, nf1, nf2, nf3, nf4]
    refine st_mv (.int .u8 c) ?_
    simp only [nf0, nf1, nf2, nf3, nf4]
    refine st_value (v := (.bool (decide (c = 45)))) (by rfl) (run_eql_int (.tmp 24) (.const (.int .u8 45)) rfl rfl rfl w) ?_
    simp only [nf0, nf1, nf2, nf3, nf4]
    refine st_mv (.bool (decide (c = 45))) ?_
    simp only [nf0, nf1, nf2, nf3, nf4]
    refine st_mv (.bool (decide (c = 45))) ?_
    simp only [nf0, nf1, nf2, nf3, nf4]
    refine wpList_nil ?_
    show Code.wp _ _ _ _ _
    cases hg45 : decide (c = 45)
    rotate_left
    · have hp71 := of_decide_eq_true hg45
      refine wp_cond_true rfl ?_
      refine wp_seq ?_
      refine wp_region_lit ?_
      refine st_mv (.int .i64 4) ?_
      simp only [nf0, nf1, nf2, nf3, nf4]
      refine wpList_nil ?_
      show Code.wp _ _ _ _ _
      refine wp_ret ?_
      first | show bodyPost _ _ _ _ _ _ | (simp only [Exit.then, Exit.inBlock]; show bodyPost _ _ _ _ _ _)
      exact bodyPost_ret (results_tmp rfl _ _ _) rfl ⟨by rw [show kd c = 4 from by unfold kd; (repeat' split) <;> omega]; rfl, bel⟩
    have hp46 := of_decide_eq_false hg45
    refine wp_cond_false rfl ?_
    refine wp_seq ?_
    cases hg47 : decide (c = 123)
    rotate_left
    · have hp70 := of_decide_eq_true hg47
      refine wp_region_lit ?_
      refine st_mv (.int .u8 c) ?_
      simp only [nf0, nf1, nf2, nf3, nf4]
      refine st_value (v := (.bool true)) (by rfl) ((run_eql_int (.tmp 28) (.const (.int .u8 123)) rfl rfl rfl w).trans (by rw [hg47])) ?_
      simp only [nf0, nf1, nf2, nf3, nf4]
      refine st_mv (.bool true) ?_
      simp only [nf0, nf1, nf2, nf3, nf4]
      refine st_nob (j := 2) (t := 30) (c := true) rfl rfl rfl rfl rfl ?_
      simp only [nf0, nf1, nf2, nf3, nf4]
      refine st_nob (j := 2) (t := 30) (c := true) rfl rfl rfl rfl rfl ?_
      simp only [nf0, nf1, nf2, nf3, nf4]
      refine st_mv (.bool true) ?_
      simp only [nf0, nf1, nf2, nf3, nf4]
      refine st_mv (.bool true) ?_
      simp only [nf0, nf1, nf2, nf3, nf4]
      refine st_nob (j := 6) (t := 34) (c := true) rfl rfl rfl rfl rfl ?_
      simp only [nf0, nf1, nf2, nf3, nf4]
      refine st_nob (j := 6) (t := 34) (c := true) rfl rfl rfl rfl rfl ?_
      simp only [nf0, nf1, nf2, nf3, nf4]
      refine st_mv (.bool true) ?_
      simp only [nf0, nf1, nf2, nf3, nf4]
      refine st_mv (.bool true) ?_
      simp only [nf0, nf1, nf2, nf3, nf4]
      refine wpList_nil ?_
      show Code.wp _ _ _ _ _
      refine wp_cond_true rfl ?_
      refine wp_seq ?_
      refine wp_region_lit ?_
      refine st_mv (.int .i64 5) ?_
      simp only [nf0, nf1, nf2, nf3, nf4]
      refine wpList_nil ?_
      show Code.wp _ _ _ _ _
      refine wp_ret ?_
      first | show bodyPost _ _ _ _ _ _ | (simp only [Exit.then, Exit.inBlock]; show bodyPost _ _ _ _ _ _)
      exact bodyPost_ret (results_tmp rfl _ _ _) rfl ⟨by rw [show kd c = 5 from by unfold kd; (repeat' split) <;> omega]; rfl, bel⟩
    have hp48 := of_decide_eq_false hg47
    cases hg49 : decide (c = 125)
    rotate_left
    · have hp69 := of_decide_eq_true hg49
      refine wp_region_lit ?_
      refine st_mv (.int .u8 c) ?_
      simp only [nf0, nf1, nf2, nf3, nf4]
      refine st_value (v := (.bool false)) (by rfl) ((run_eql_int (.tmp 28) (.const (.int .u8 123)) rfl rfl rfl w).trans (by rw [hg47])) ?_
      simp only [nf0, nf1, nf2, nf3, nf4]
      refine st_mv (.bool false) ?_
      simp only [nf0, nf1, nf2, nf3, nf4]
      refine st_mv (.int .u8 c) ?_
      simp only [nf0, nf1, nf2, nf3, nf4]
      refine st_value (v := (.bool true)) (by rfl) ((run_eql_int (.tmp 31) (.const (.int .u8 125)) rfl rfl rfl w).trans (by rw [hg49])) ?_
      simp only [nf0, nf1, nf2, nf3, nf4]
      refine st_mv (.bool true) ?_
      simp only [nf0, nf1, nf2, nf3, nf4]
      refine st_mv (.bool true) ?_
      simp only [nf0, nf1, nf2, nf3, nf4]
      refine st_nob (j := 6) (t := 34) (c := true) rfl rfl rfl rfl rfl ?_
      simp only [nf0, nf1, nf2, nf3, nf4]
      refine st_nob (j := 6) (t := 34) (c := true) rfl rfl rfl rfl rfl ?_
      simp only [nf0, nf1, nf2, nf3, nf4]
      refine st_mv (.bool true) ?_
      simp only [nf0, nf1, nf2, nf3, nf4]
      refine st_mv (.bool true) ?_
      simp only [nf0, nf1, nf2, nf3, nf4]
      refine wpList_nil ?_
      show Code.wp _ _ _ _ _
      refine wp_cond_true rfl ?_
      refine wp_seq ?_
      refine wp_region_lit ?_
      refine st_mv (.int .i64 5) ?_
      simp only [nf0, nf1, nf2, nf3, nf4]
      refine wpList_nil ?_
      show Code.wp _ _ _ _ _
      refine wp_ret ?_
      first | show bodyPost _ _ _ _ _ _ | (simp only [Exit.then, Exit.inBlock]; show bodyPost _ _ _ _ _ _)
      exact bodyPost_ret (results_tmp rfl _ _ _) rfl ⟨by rw [show kd c = 5 from by unfold kd; (repeat' split) <;> omega]; rfl, bel⟩
    have hp50 := of_decide_eq_false hg49
    refine wp_region_lit ?_
    refine st_mv (.int .u8 c) ?_
    simp only [nf0, nf1, nf2, nf3, nf4]
    refine st_value (v := (.bool false)) (by rfl) ((run_eql_int (.tmp 28) (.const (.int .u8 123)) rfl rfl rfl w).trans (by rw [hg47])) ?_
    simp only [nf0, nf1, nf2, nf3, nf4]
    refine st_mv (.bool false) ?_
    simp only [nf0, nf1, nf2, nf3, nf4]
    refine st_mv (.int .u8 c) ?_
    simp only [nf0, nf1, nf2, nf3, nf4]
    refine st_value (v := (.bool false)) (by rfl) ((run_eql_int (.tmp 31) (.const (.int .u8 125)) rfl rfl rfl w).trans (by rw [hg49])) ?_
    simp only [nf0, nf1, nf2, nf3, nf4]
    refine st_mv (.bool false) ?_
    simp only [nf0, nf1, nf2, nf3, nf4]
    refine st_mv (.bool false) ?_
    simp only [nf0, nf1, nf2, nf3, nf4]
    refine st_mv (.int .u8 c) ?_
    simp only [nf0, nf1, nf2, nf3, nf4]
    refine st_value (v := (.bool (decide (c = 59)))) (by rfl) (run_eql_int (.tmp 35) (.const (.int .u8 59)) rfl rfl rfl w) ?_
    simp only [nf0, nf1, nf2, nf3, nf4]
    refine st_mv (.bool (decide (c = 59))) ?_
    simp only [nf0, nf1, nf2, nf3, nf4]
    refine st_mv (.bool (decide (c = 59))) ?_
    simp only [nf0, nf1, nf2, nf3, nf4]
    refine wpList_nil ?_
    show Code.wp _ _ _ _ _
    cases hg51 : decide (c = 59)
    rotate_left
    · have hp68 := of_decide_eq_true hg51
      refine wp_cond_true rfl ?_
      refine wp_seq ?_
      refine wp_region_lit ?_
      refine st_mv (.int .i64 5) ?_
      simp only [nf0, nf1, nf2, nf3, nf4]
      refine wpList_nil ?_
      show Code.wp _ _ _ _ _
      refine wp_ret ?_
      first | show bodyPost _ _ _ _ _ _ | (simp only [Exit.then, Exit.inBlock]; show bodyPost _ _ _ _ _ _)
      exact bodyPost_ret (results_tmp rfl _ _ _) rfl ⟨by rw [show kd c = 5 from by unfold kd; (repeat' split) <;> omega]; rfl, bel⟩
    have hp52 := of_decide_eq_false hg51
    refine wp_cond_false rfl ?_
    refine wp_seq ?_
    cases hg53 : decide (c = 32)
    rotate_left
    · have hp67 := of_decide_eq_true hg53
      refine wp_region_lit ?_
      refine st_mv (.int .u8 c) ?_
      simp only [nf0, nf1, nf2, nf3, nf4]
      refine st_value (v := (.bool true)) (by rfl) ((run_eql_int (.tmp 39) (.const (.int .u8 32)) rfl rfl rfl w).trans (by rw [hg53])) ?_
      simp only [nf0, nf1, nf2, nf3, nf4]
      refine st_mv (.bool true) ?_
      simp only [nf0, nf1, nf2, nf3, nf4]
      refine st_nob (j := 2) (t := 41) (c := true) rfl rfl rfl rfl rfl ?_
      simp only [nf0, nf1, nf2, nf3, nf4]
      refine st_nob (j := 2) (t := 41) (c := true) rfl rfl rfl rfl rfl ?_
      simp only [nf0, nf1, nf2, nf3, nf4]
      refine st_mv (.bool true) ?_
      simp only [nf0, nf1, nf2, nf3, nf4]
      refine st_mv (.bool true) ?_
      simp only [nf0, nf1, nf2, nf3, nf4]
      refine st_nob (j := 6) (t := 45) (c := true) rfl rfl rfl rfl rfl ?_
      simp only [nf0, nf1, nf2, nf3, nf4]
      refine st_nob (j := 6) (t := 45) (c := true) rfl rfl rfl rfl rfl ?_
      simp only [nf0, nf1, nf2, nf3, nf4]
      refine st_mv (.bool true) ?_
      simp only [nf0, nf1, nf2, nf3, nf4]
      refine st_mv (.bool true) ?_
      simp only [nf0, nf1, nf2, nf3, nf4]
      refine st_nob (j := 10) (t := 49) (c := true) rfl rfl rfl rfl rfl ?_
      simp only [nf0, nf1, nf2, nf3, nf4]
      refine st_nob (j := 10) (t := 49) (c := true) rfl rfl rfl rfl rfl ?_
      simp only [nf0, nf1, nf2, nf3, nf4]
      refine st_mv (.bool true) ?_
      simp only [nf0, nf1, nf2, nf3, nf4]
      refine st_mv (.bool true) ?_
      simp only [nf0, nf1, nf2, nf3, nf4]
      refine wpList_nil ?_
      show Code.wp _ _ _ _ _
      refine wp_cond_true rfl ?_
      refine wp_seq ?_
      refine wp_region_lit ?_
      refine st_mv (.int .i64 6) ?_
      simp only [nf0, nf1, nf2, nf3, nf4]
      refine wpList_nil ?_
      show Code.wp _ _ _ _ _
      refine wp_ret ?_
      first | show bodyPost _ _ _ _ _ _ | (simp only [Exit.then, Exit.inBlock]; show bodyPost _ _ _ _ _ _)
      exact bodyPost_ret (results_tmp rfl _ _ _) rfl ⟨by rw [show kd c = 6 from by unfold kd; (repeat' split) <;> omega]; rfl, bel⟩
    have hp54 := of_decide_eq_false hg53
    cases hg55 : decide (c = 9)
    rotate_left
    · have hp66 := of_decide_eq_true hg55
      refine wp_region_lit ?_
      refine st_mv (.int .u8 c) ?_
      simp only [nf0, nf1, nf2, nf3, nf4]
      refine st_value (v := (.bool false)) (by rfl) ((run_eql_int (.tmp 39) (.const (.int .u8 32)) rfl rfl rfl w).trans (by rw [hg53])) ?_
      simp only [nf0, nf1, nf2, nf3, nf4]
      refine st_mv (.bool false) ?_
      simp only [nf0, nf1, nf2, nf3, nf4]
      refine st_mv (.int .u8 c) ?_
      simp only [nf0, nf1, nf2, nf3, nf4]
      refine st_value (v := (.bool true)) (by rfl) ((run_eql_int (.tmp 42) (.const (.int .u8 9)) rfl rfl rfl w).trans (by rw [hg55])) ?_
      simp only [nf0, nf1, nf2, nf3, nf4]
      refine st_mv (.bool true) ?_
      simp only [nf0, nf1, nf2, nf3, nf4]
      refine st_mv (.bool true) ?_
      simp only [nf0, nf1, nf2, nf3, nf4]
      refine st_nob (j := 6) (t := 45) (c := true) rfl rfl rfl rfl rfl ?_
      simp only [nf0, nf1, nf2, nf3, nf4]
      refine st_nob (j := 6) (t := 45) (c := true) rfl rfl rfl rfl rfl ?_
      simp only [nf0, nf1, nf2, nf3, nf4]
      refine st_mv (.bool true) ?_
      simp only [nf0, nf1, nf2, nf3, nf4]
      refine st_mv (.bool true) ?_
      simp only [nf0, nf1, nf2, nf3, nf4]
      refine st_nob (j := 10) (t := 49) (c := true) rfl rfl rfl rfl rfl ?_
      simp only [nf0, nf1, nf2, nf3, nf4]
      refine st_nob (j := 10) (t := 49) (c := true) rfl rfl rfl rfl rfl ?_
      simp only [nf0, nf1, nf2, nf3, nf4]
      refine st_mv (.bool true) ?_
      simp only [nf0, nf1, nf2, nf3, nf4]
      refine st_mv (.bool true) ?_
      simp only [nf0, nf1, nf2, nf3, nf4]
      refine wpList_nil ?_
      show Code.wp _ _ _ _ _
      refine wp_cond_true rfl ?_
      refine wp_seq ?_
      refine wp_region_lit ?_
      refine st_mv (.int .i64 6) ?_
      simp only [nf0, nf1, nf2, nf3, nf4]
      refine wpList_nil ?_
      show Code.wp _ _ _ _ _
      refine wp_ret ?_
      first | show bodyPost _ _ _ _ _ _ | (simp only [Exit.then, Exit.inBlock]; show bodyPost _ _ _ _ _ _)
      exact bodyPost_ret (results_tmp rfl _ _ _) rfl ⟨by rw [show kd c = 6 from by unfold kd; (repeat' split) <;> omega]; rfl, bel⟩
    have hp56 := of_decide_eq_false hg55
    cases hg57 : decide (c = 10)
    rotate_left
    · have hp65 := of_decide_eq_true hg57
      refine wp_region_lit ?_
      refine st_mv (.int .u8 c) ?_
      simp only [nf0, nf1, nf2, nf3, nf4]
      refine st_value (v := (.bool false)) (by rfl) ((run_eql_int (.tmp 39) (.const (.int .u8 32)) rfl rfl rfl w).trans (by rw [hg53])) ?_
      simp only [nf0, nf1, nf2, nf3, nf4]
      refine st_mv (.bool false) ?_
      simp only [nf0, nf1, nf2, nf3, nf4]
      refine st_mv (.int .u8 c) ?_
      simp only [nf0, nf1, nf2, nf3, nf4]
      refine st_value (v := (.bool false)) (by rfl) ((run_eql_int (.tmp 42) (.const (.int .u8 9)) rfl rfl rfl w).trans (by rw [hg55])) ?_
      simp only [nf0, nf1, nf2, nf3, nf4]
      refine st_mv (.bool false) ?_
      simp only [nf0, nf1, nf2, nf3, nf4]
      refine st_mv (.bool false) ?_
      simp only [nf0, nf1, nf2, nf3, nf4]
      refine st_mv (.int .u8 c) ?_
      simp only [nf0, nf1, nf2, nf3, nf4]
      refine st_value (v := (.bool true)) (by rfl) ((run_eql_int (.tmp 46) (.const (.int .u8 10)) rfl rfl rfl w).trans (by rw [hg57])) ?_
      simp only [nf0, nf1, nf2, nf3, nf4]
      refine st_mv (.bool true) ?_
      simp only [nf0, nf1, nf2, nf3, nf4]
      refine st_mv (.bool true) ?_
      simp only [nf0, nf1, nf2, nf3, nf4]
      refine st_nob (j := 10) (t := 49) (c := true) rfl rfl rfl rfl rfl ?_
      simp only [nf0, nf1, nf2, nf3, nf4]
      refine st_nob (j := 10) (t := 49) (c := true) rfl rfl rfl rfl rfl ?_
      simp only [nf0, nf1, nf2, nf3, nf4]
      refine st_mv (.bool true) ?_
      simp only [nf0, nf1, nf2, nf3, nf4]
      refine st_mv (.bool true) ?_
      simp only [nf0, nf1, nf2, nf3, nf4]
      refine wpList_nil ?_
      show Code.wp _ _ _ _ _
      refine wp_cond_true rfl ?_
      refine wp_seq ?_
      refine wp_region_lit ?_
      refine st_mv (.int .i64 6) ?_
      simp only [nf0, nf1, nf2, nf3, nf4]
      refine wpList_nil ?_
      show Code.wp _ _ _ _ _
      refine wp_ret ?_
      first | show bodyPost _ _ _ _ _ _ | (simp only [Exit.then, Exit.inBlock]; show bodyPost _ _ _ _ _ _)
      exact bodyPost_ret (results_tmp rfl _ _ _) rfl ⟨by rw [show kd c = 6 from by unfold kd; (repeat' split) <;> omega]; rfl, bel⟩
    have hp58 := of_decide_eq_false hg57
    refine wp_region_lit ?_
    refine st_mv (.int .u8 c) ?_
    simp only [nf0, nf1, nf2, nf3, nf4]
    refine st_value (v := (.bool false)) (by rfl) ((run_eql_int (.tmp 39) (.const (.int .u8 32)) rfl rfl rfl w).trans (by rw [hg53])) ?_
    simp only [nf0, nf1, nf2, nf3, nf4]
    refine st_mv (.bool false) ?_
    simp only [nf0, nf1, nf2, nf3, nf4]
    refine st_mv (.int .u8 c) ?_
    simp only [nf0, nf1, nf2, nf3, nf4]
    refine st_value (v := (.bool false)) (by rfl) ((run_eql_int (.tmp 42) (.const (.int .u8 9)) rfl rfl rfl w).trans (by rw [hg55])) ?_
    simp only [nf0, nf1, nf2, nf3, nf4]
    refine st_mv (.bool false) ?_
    simp only [nf0, nf1, nf2, nf3, nf4]
    refine st_mv (.bool false) ?_
    simp only [nf0, nf1, nf2, nf3, nf4]
    refine st_mv (.int .u8 c) ?_
    simp only [nf0, nf1, nf2, nf3, nf4]
    refine st_value (v := (.bool false)) (by rfl) ((run_eql_int (.tmp 46) (.const (.int .u8 10)) rfl rfl rfl w).trans (by rw [hg57])) ?_
    simp only [nf0, nf1, nf2, nf3, nf4]
    refine st_mv (.bool false) ?_
    simp only [nf0, nf1, nf2, nf3, nf4]
    refine st_mv (.bool false) ?_
    simp only [nf0, nf1, nf2, nf3, nf4]
    refine st_mv (.int .u8 c) ?_
    simp only [nf0, nf1, nf2, nf3, nf4]
    refine st_value (v := (.bool (decide (c = 13)))) (by rfl) (run_eql_int (.tmp 50) (.const (.int .u8 13)) rfl rfl rfl w) ?_
    simp only [nf0, nf1, nf2, nf3, nf4]
    refine st_mv (.bool (decide (c = 13))) ?_
    simp only [nf0, nf1, nf2, nf3, nf4]
    refine st_mv (.bool (decide (c = 13))) ?_
    simp only [nf0, nf1, nf2, nf3, nf4]
    refine wpList_nil ?_
    show Code.wp _ _ _ _ _
    cases hg59 : decide (c = 13)
    rotate_left
    · have hp64 := of_decide_eq_true hg59
      refine wp_cond_true rfl ?_
      refine wp_seq ?_
      refine wp_region_lit ?_
      refine st_mv (.int .i64 6) ?_
      simp only [nf0, nf1, nf2, nf3, nf4]
      refine wpList_nil ?_
      show Code.wp _ _ _ _ _
      refine wp_ret ?_
      first | show bodyPost _ _ _ _ _ _ | (simp only [Exit.then, Exit.inBlock]; show bodyPost _ _ _ _ _ _)
      exact bodyPost_ret (results_tmp rfl _ _ _) rfl ⟨by rw [show kd c = 6 from by unfold kd; (repeat' split) <;> omega]; rfl, bel⟩
    have hp60 := of_decide_eq_false hg59
    refine wp_cond_false rfl ?_
    refine wp_seq ?_
    refine wp_region_lit ?_
    refine st_mv (.int .u8 c) ?_
    simp only [nf0, nf1, nf2, nf3, nf4]
    refine st_value (v := (.bool (decide (c = 35)))) (by rfl) (run_eql_int (.tmp 54) (.const (.int .u8 35)) rfl rfl rfl w) ?_
    simp only [nf0, nf1, nf2, nf3, nf4]
    refine st_mv (.bool (decide (c = 35))) ?_
    simp only [nf0, nf1, nf2, nf3, nf4]
    refine wpList_nil ?_
    show Code.wp _ _ _ _ _
    cases hg61 : decide (c = 35)
    rotate_left
    · have hp63 := of_decide_eq_true hg61
      refine wp_cond_true rfl ?_
      refine wp_seq ?_
      refine wp_region_lit ?_
      refine st_mv (.int .i64 7) ?_
      simp only [nf0, nf1, nf2, nf3, nf4]
      refine wpList_nil ?_
      show Code.wp _ _ _ _ _
      refine wp_ret ?_
      first | show bodyPost _ _ _ _ _ _ | (simp only [Exit.then, Exit.inBlock]; show bodyPost _ _ _ _ _ _)
      exact bodyPost_ret (results_tmp rfl _ _ _) rfl ⟨by rw [show kd c = 7 from by unfold kd; (repeat' split) <;> omega]; rfl, bel⟩
    have hp62 := of_decide_eq_false hg61
    refine wp_cond_false rfl ?_
    refine wp_skip ?_
    show Code.wp _ _ _ _ _
    refine wp_seq ?_
    refine wp_region_lit ?_
    refine st_mv (.int .i64 0) ?_
    simp only [nf0, nf1, nf2, nf3, nf4]
    refine wpList_nil ?_
    show Code.wp _ _ _ _ _
    refine wp_ret ?_
    first | show bodyPost _ _ _ _ _ _ | (simp only [Exit.then, Exit.inBlock]; show bodyPost _ _ _ _ _ _)
    exact bodyPost_ret (results_tmp rfl _ _ _) rfl ⟨by rw [show kd c = 0 from by unfold kd; (repeat' split) <;> omega]; rfl, bel⟩
  have hp75 := of_decide_eq_true hg1
  refine wp_region_lit ?_
  refine st_mv (.int .u8 c) ?_
  simp only [nf0, nf1, nf2, nf3, nf4]
  refine st_value (v := (.bool true)) (by rfl) ((run_geq (.tmp 4) (.const (.int .u8 97)) rfl rfl rfl w).trans (by rw [hg1])) ?_
  simp only [nf0, nf1, nf2, nf3, nf4]
  refine st_mv (.bool true) ?_
  simp only [nf0, nf1, nf2, nf3, nf4]
  refine st_mv (.int .u8 c) ?_
  simp only [nf0, nf1, nf2, nf3, nf4]
  refine st_value (v := (.bool (decide (c ≤ 122)))) (by rfl) (run_leq (.tmp 7) (.const (.int .u8 122)) rfl rfl rfl w) ?_
  simp only [nf0, nf1, nf2, nf3, nf4]
  refine st_mv (.bool (decide (c ≤ 122))) ?_
  simp only [nf0, nf1, nf2, nf3, nf4]
  refine st_mv (.bool (decide (c ≤ 122))) ?_
  simp only [nf0, nf1, nf2, nf3, nf4]
  refine wpList_nil ?_
  show Code.wp _ _ _ _ _
  cases hg76 : decide (c ≤ 122)
  rotate_left
  · have hp150 := of_decide_eq_true hg76
    refine wp_cond_true rfl ?_
    refine wp_seq ?_
    refine wp_region_lit ?_
    refine st_mv (.int .i64 1) ?_
    simp only [nf0, nf1, nf2, nf3, nf4]
    refine wpList_nil ?_
    show Code.wp _ _ _ _ _
    refine wp_ret ?_
    first | show bodyPost _ _ _ _ _ _ | (simp only [Exit.then, Exit.inBlock]; show bodyPost _ _ _ _ _ _)
    exact bodyPost_ret (results_tmp rfl _ _ _) rfl ⟨by rw [show kd c = 1 from by unfold kd; (repeat' split) <;> omega]; rfl, bel⟩
  have hp77 := of_decide_eq_false hg76
  refine wp_cond_false rfl ?_
  refine wp_seq ?_
  cases hg78 : decide (48 ≤ c)
  · have hp79 := of_decide_eq_false hg78
    refine wp_region_lit ?_
    refine st_mv (.int .u8 c) ?_
    simp only [nf0, nf1, nf2, nf3, nf4]
    refine st_value (v := (.bool false)) (by rfl) ((run_geq (.tmp 11) (.const (.int .u8 48)) rfl rfl rfl w).trans (by rw [hg78])) ?_
    simp only [nf0, nf1, nf2, nf3, nf4]
    refine st_mv (.bool false) ?_
    simp only [nf0, nf1, nf2, nf3, nf4]
    refine st_nob (j := 2) (t := 13) (c := false) rfl rfl rfl rfl rfl ?_
    simp only [nf0, nf1, nf2, nf3, nf4]
    refine st_nob (j := 2) (t := 13) (c := false) rfl rfl rfl rfl rfl ?_
    simp only [nf0, nf1, nf2, nf3, nf4]
    refine st_mv (.bool false) ?_
    simp only [nf0, nf1, nf2, nf3, nf4]
    refine st_mv (.bool false) ?_
    simp only [nf0, nf1, nf2, nf3, nf4]
    refine wpList_nil ?_
    show Code.wp _ _ _ _ _
    refine wp_cond_false rfl ?_
    refine wp_seq ?_
    refine wp_region_lit ?_
    refine st_mv (.int .u8 c) ?_
    simp only [nf0, nf1, nf2, nf3, nf4]
    refine st_value (v := (.bool (decide (c = 95)))) (by rfl) (run_eql_int (.tmp 18) (.const (.int .u8 95)) rfl rfl rfl w) ?_
    simp only [nf0, nf1, nf2, nf3, nf4]
    refine st_mv (.bool (decide (c = 95))) ?_
    simp only [nf0, nf1, nf2, nf3, nf4]
    refine wpList_nil ?_
    show Code.wp _ _ _ _ _
    cases hg80 : decide (c = 95)
    rotate_left
    · have hp112 := of_decide_eq_true hg80
      refine wp_cond_true rfl ?_
      refine wp_seq ?_
      refine wp_region_lit ?_
      refine st_mv (.int .i64 3) ?_
      simp only [nf0, nf1, nf2, nf3, nf4]
      refine wpList_nil ?_
      show Code.wp _ _ _ _ _
      refine wp_ret ?_
      first | show bodyPost _ _ _ _ _ _ | (simp only [Exit.then, Exit.inBlock]; show bodyPost _ _ _ _ _ _)
      exact bodyPost_ret (results_tmp rfl _ _ _) rfl ⟨by rw [show kd c = 3 from by unfold kd; (repeat' split) <;> omega]; rfl, bel⟩
    have hp81 := of_decide_eq_false hg80
    refine wp_cond_false rfl ?_
    refine wp_seq ?_
    cases hg82 : decide (c = 44)
    rotate_left
    · have hp111 := of_decide_eq_true hg82
      refine wp_region_lit ?_
      refine st_mv (.int .u8 c) ?_
      simp only [nf0, nf1, nf2, nf3, nf4]
      refine st_value (v := (.bool true)) (by rfl) ((run_eql_int (.tmp 21) (.const (.int .u8 44)) rfl rfl rfl w).trans (by rw [hg82])) ?_
      simp only [nf0, nf1, nf2, nf3, nf4]
      refine st_mv (.bool true) ?_
      simp only [nf0, nf1, nf2, nf3, nf4]
      refine st_nob (j := 2) (t := 23) (c := true) rfl rfl rfl rfl rfl ?_
      simp only [nf0, nf1, nf2, nf3, nf4]
      refine st_nob (j := 2) (t := 23) (c := true) rfl rfl rfl rfl rfl ?_
      simp only [nf0, nf1, nf2, nf3, nf4]
      refine st_mv (.bool true) ?_
      simp only [nf0, nf1, nf2, nf3, nf4]
      refine st_mv (.bool true) ?_
      simp only [nf0, nf1, nf2, nf3, nf4]
      refine wpList_nil ?_
      show Code.wp _ _ _ _ _
      refine wp_cond_true rfl ?_
      refine wp_seq ?_
      refine wp_region_lit ?_
      refine st_mv (.int .i64 4) ?_
      simp only [nf0, nf1, nf2, nf3, nf4]
      refine wpList_nil ?_
      show Code.wp _ _ _ _ _
      refine wp_ret ?_
      first | show bodyPost _ _ _ _ _ _ | (simp only [Exit.then, Exit.inBlock]; show bodyPost _ _ _ _ _ _)
      exact bodyPost_ret (results_tmp rfl _ _ _) rfl ⟨by rw [show kd c = 4 from by unfold kd; (repeat' split) <;> omega]; rfl, bel⟩
    have hp83 := of_decide_eq_false hg82
    refine wp_region_lit ?_
    refine st_mv (.int .u8 c) ?_
    simp only [nf0, nf1, nf2, nf3, nf4]
    refine st_value (v := (.bool false)) (by rfl) ((run_eql_int (.tmp 21) (.const (.int .u8 44)) rfl rfl rfl w).trans (by rw [hg82])) ?_
    simp only [nf0, nf1, nf2, nf3, nf4]
    refine st_mv (.bool false) ?_
    simp only [nf0, nf1, nf2, nf3, nf4]
    refine st_mv (.int .u8 c) ?_
    simp only [nf0, nf1, nf2, nf3, nf4]
    refine st_value (v := (.bool (decide (c = 45)))) (by rfl) (run_eql_int (.tmp 24) (.const (.int .u8 45)) rfl rfl rfl w) ?_
    simp only [nf0, nf1, nf2, nf3, nf4]
    refine st_mv (.bool (decide (c = 45))) ?_
    simp only [nf0, nf1, nf2, nf3, nf4]
    refine st_mv (.bool (decide (c = 45))) ?_
    simp only [nf0, nf1, nf2, nf3, nf4]
    refine wpList_nil ?_
    show Code.wp _ _ _ _ _
    cases hg84 : decide (c = 45)
    rotate_left
    · have hp110 := of_decide_eq_true hg84
      refine wp_cond_true rfl ?_
      refine wp_seq ?_
      refine wp_region_lit ?_
      refine st_mv (.int .i64 4) ?_
      simp only [nf0, nf1, nf2, nf3, nf4]
      refine wpList_nil ?_
      show Code.wp _ _ _ _ _
      refine wp_ret ?_
      first | show bodyPost _ _ _ _ _ _ | (simp only [Exit.then, Exit.inBlock]; show bodyPost _ _ _ _ _ _)
      exact bodyPost_ret (results_tmp rfl _ _ _) rfl ⟨by rw [show kd c = 4 from by unfold kd; (repeat' split) <;> omega]; rfl, bel⟩
    have hp85 := of_decide_eq_false hg84
    refine wp_cond_false rfl ?_
    refine wp_seq ?_
    cases hg86 : decide (c = 123)
    rotate_left
    · have hp109 := of_decide_eq_true hg86
      refine wp_region_lit ?_
      refine st_mv (.int .u8 c) ?_
      simp only [nf0, nf1, nf2, nf3, nf4]
      refine st_value (v := (.bool true)) (by rfl) ((run_eql_int (.tmp 28) (.const (.int .u8 123)) rfl rfl rfl w).trans (by rw [hg86])) ?_
      simp only [nf0, nf1, nf2, nf3, nf4]
      refine st_mv (.bool true) ?_
      simp only [nf0, nf1, nf2, nf3, nf4]
      refine st_nob (j := 2) (t := 30) (c := true) rfl rfl rfl rfl rfl ?_
      simp only [nf0, nf1, nf2, nf3, nf4]
      refine st_nob (j := 2) (t := 30) (c := true) rfl rfl rfl rfl rfl ?_
      simp only [nf0, nf1, nf2, nf3, nf4]
      refine st_mv (.bool true) ?_
      simp only [nf0, nf1, nf2, nf3, nf4]
      refine st_mv (.bool true) ?_
      simp only [nf0, nf1, nf2, nf3, nf4]
      refine st_nob (j := 6) (t := 34) (c := true) rfl rfl rfl rfl rfl ?_
      simp only [nf0, nf1, nf2, nf3, nf4]
      refine st_nob (j := 6) (t := 34) (c := true) rfl rfl rfl rfl rfl ?_
      simp only [nf0, nf1, nf2, nf3, nf4]
      refine st_mv (.bool true) ?_
      simp only [nf0, nf1, nf2, nf3, nf4]
      refine st_mv (.bool true) ?_
      simp only [nf0, nf1, nf2, nf3, nf4]
      refine wpList_nil ?_
      show Code.wp _ _ _ _ _
      refine wp_cond_true rfl ?_
      refine wp_seq ?_
      refine wp_region_lit ?_
      refine st_mv (.int .i64 5) ?_
      simp only [nf0, nf1, nf2, nf3, nf4]
      refine wpList_nil ?_
      show Code.wp _ _ _ _ _
      refine wp_ret ?_
      first | show bodyPost _ _ _ _ _ _ | (simp only [Exit.then, Exit.inBlock]; show bodyPost _ _ _ _ _ _)
      exact bodyPost_ret (results_tmp rfl _ _ _) rfl ⟨by rw [show kd c = 5 from by unfold kd; (repeat' split) <;> omega]; rfl, bel⟩
    have hp87 := of_decide_eq_false hg86
    cases hg88 : decide (c = 125)
    rotate_left
    · have hp108 := of_decide_eq_true hg88
      refine wp_region_lit ?_
      refine st_mv (.int .u8 c) ?_
      simp only [nf0, nf1, nf2, nf3, nf4]
      refine st_value (v := (.bool false)) (by rfl) ((run_eql_int (.tmp 28) (.const (.int .u8 123)) rfl rfl rfl w).trans (by rw [hg86])) ?_
      simp only [nf0, nf1, nf2, nf3, nf4]
      refine st_mv (.bool false) ?_
      simp only [nf0, nf1, nf2, nf3, nf4]
      refine st_mv (.int .u8 c) ?_
      simp only [nf0, nf1, nf2, nf3, nf4]
      refine st_value (v := (.bool true)) (by rfl) ((run_eql_int (.tmp 31) (.const (.int .u8 125)) rfl rfl rfl w).trans (by rw [hg88])) ?_
      simp only [nf0, nf1, nf2, nf3, nf4]
      refine st_mv (.bool true) ?_
      simp only [nf0, nf1, nf2, nf3, nf4]
      refine st_mv (.bool true) ?_
      simp only [nf0, nf1, nf2, nf3, nf4]
      refine st_nob (j := 6) (t := 34) (c := true) rfl rfl rfl rfl rfl ?_
      simp only [nf0, nf1, nf2, nf3, nf4]
      refine st_nob (j := 6) (t := 34) (c := true) rfl rfl rfl rfl rfl ?_
      simp only [nf0, nf1, nf2, nf3, nf4]
      refine st_mv (.bool true) ?_
      simp only [nf0, nf1, nf2, nf3, nf4]
      refine st_mv (.bool true) ?_
      simp only [nf0, nf1, nf2, nf3, nf4]
      refine wpList_nil ?_
      show Code.wp _ _ _ _ _
      refine wp_cond_true rfl ?_
      refine wp_seq ?_
      refine wp_region_lit ?_
      refine st_mv (.int .i64 5) ?_
      simp only [nf0, nf1, nf2, nf3, nf4]
      refine wpList_nil ?_
      show Code.wp _ _ _ _ _
      refine wp_ret ?_
      first | show bodyPost _ _ _ _ _ _ | (simp only [Exit.then, Exit.inBlock]; show bodyPost _ _ _ _ _ _)
      exact bodyPost_ret (results_tmp rfl _ _ _) rfl ⟨by rw [show kd c = 5 from by unfold kd; (repeat' split) <;> omega]; rfl, bel⟩
    have hp89 := of_decide_eq_false hg88
    refine wp_region_lit ?_
    refine st_mv (.int .u8 c) ?_
    simp only [nf0, nf1, nf2, nf3, nf4]
    refine st_value (v := (.bool false)) (by rfl) ((run_eql_int (.tmp 28) (.const (.int .u8 123)) rfl rfl rfl w).trans (by rw [hg86])) ?_
    simp only [nf0, nf1, nf2, nf3, nf4]
    refine st_mv (.bool false) ?_
    simp only [nf0, nf1, nf2, nf3, nf4]
    refine st_mv (.int .u8 c) ?_
    simp only [nf0, nf1, nf2, nf3, nf4]
    refine st_value (v := (.bool false)) (by rfl) ((run_eql_int (.tmp 31) (.const (.int .u8 125)) rfl rfl rfl w).trans (by rw [hg88])) ?_
    simp only [nf0, nf1, nf2, nf3, nf4]
    refine st_mv (.bool false) ?_
    simp only [nf0, nf1, nf2, nf3, nf4]
    refine st_mv (.bool false) ?_
    simp only [nf0, nf1, nf2, nf3, nf4]
    refine st_mv (.int .u8 c) ?_
    simp only [nf0, nf1, nf2, nf3, nf4]
    refine st_value (v := (.bool (decide (c = 59)))) (by rfl) (run_eql_int (.tmp 35) (.const (.int .u8 59)) rfl rfl rfl w) ?_
    simp only [nf0, nf1, nf2, nf3, nf4]
    refine st_mv (.bool (decide (c = 59))) ?_
    simp only [nf0, nf1, nf2, nf3, nf4]
    refine st_mv (.bool (decide (c = 59))) ?_
    simp only [nf0, nf1, nf2, nf3, nf4]
    refine wpList_nil ?_
    show Code.wp _ _ _ _ _
    cases hg90 : decide (c = 59)
    rotate_left
    · have hp107 := of_decide_eq_true hg90
      refine wp_cond_true rfl ?_
      refine wp_seq ?_
      refine wp_region_lit ?_
      refine st_mv (.int .i64 5) ?_
      simp only [nf0, nf1, nf2, nf3, nf4]
      refine wpList_nil ?_
      show Code.wp _ _ _ _ _
      refine wp_ret ?_
      first | show bodyPost _ _ _ _ _ _ | (simp only [Exit.then, Exit.inBlock]; show bodyPost _ _ _ _ _ _)
      exact bodyPost_ret (results_tmp rfl _ _ _) rfl ⟨by rw [show kd c = 5 from by unfold kd; (repeat' split) <;> omega]; rfl, bel⟩
    have hp91 := of_decide_eq_false hg90
    refine wp_cond_false rfl ?_
    refine wp_seq ?_
    cases hg92 : decide (c = 32)
    rotate_left
    · have hp106 := of_decide_eq_true hg92
      refine wp_region_lit ?_
      refine st_mv (.int .u8 c) ?_
      simp only [nf0, nf1, nf2, nf3, nf4]
      refine st_value (v := (.bool true)) (by rfl) ((run_eql_int (.tmp 39) (.const (.int .u8 32)) rfl rfl rfl w).trans (by rw [hg92])) ?_
      simp only [nf0, nf1, nf2, nf3, nf4]
      refine st_mv (.bool true) ?_
      simp only [nf0, nf1, nf2, nf3, nf4]
      refine st_nob (j := 2) (t := 41) (c := true) rfl rfl rfl rfl rfl ?_
      simp only [nf0, nf1, nf2, nf3, nf4]
      refine st_nob (j := 2) (t := 41) (c := true) rfl rfl rfl rfl rfl ?_
      simp only [nf0, nf1, nf2, nf3, nf4]
      refine st_mv (.bool true) ?_
      simp only [nf0, nf1, nf2, nf3, nf4]
      refine st_mv (.bool true) ?_
      simp only [nf0, nf1, nf2, nf3, nf4]
      refine st_nob (j := 6) (t := 45) (c := true) rfl rfl rfl rfl rfl ?_
      simp only [nf0, nf1, nf2, nf3, nf4]
      refine st_nob (j := 6) (t := 45) (c := true) rfl rfl rfl rfl rfl ?_
      simp only [nf0, nf1, nf2, nf3, nf4]
      refine st_mv (.bool true) ?_
      simp only [nf0, nf1, nf2, nf3, nf4]
      refine st_mv (.bool true) ?_
      simp only [nf0, nf1, nf2, nf3, nf4]
      refine st_nob (j := 10) (t := 49) (c := true) rfl rfl rfl rfl rfl ?_
      simp only [nf0, nf1, nf2, nf3, nf4]
      refine st_nob (j := 10) (t := 49) (c := true) rfl rfl rfl rfl rfl ?_
      simp only [nf0, nf1, nf2, nf3, nf4]
      refine st_mv (.bool true) ?_
      simp only [nf0, nf1, nf2, nf3, nf4]
      refine st_mv (.bool true) ?_
      simp only [nf0, nf1, nf2, nf3, nf4]
      refine wpList_nil ?_
      show Code.wp _ _ _ _ _
      refine wp_cond_true rfl ?_
      refine wp_seq ?_
      refine wp_region_lit ?_
      refine st_mv (.int .i64 6) ?_
      simp only [nf0, nf1, nf2, nf3, nf4]
      refine wpList_nil ?_
      show Code.wp _ _ _ _ _
      refine wp_ret ?_
      first | show bodyPost _ _ _ _ _ _ | (simp only [Exit.then, Exit.inBlock]; show bodyPost _ _ _ _ _ _)
      exact bodyPost_ret (results_tmp rfl _ _ _) rfl ⟨by rw [show kd c = 6 from by unfold kd; (repeat' split) <;> omega]; rfl, bel⟩
    have hp93 := of_decide_eq_false hg92
    cases hg94 : decide (c = 9)
    rotate_left
    · have hp105 := of_decide_eq_true hg94
      refine wp_region_lit ?_
      refine st_mv (.int .u8 c) ?_
      simp only [nf0, nf1, nf2, nf3, nf4]
      refine st_value (v := (.bool false)) (by rfl) ((run_eql_int (.tmp 39) (.const (.int .u8 32)) rfl rfl rfl w).trans (by rw [hg92])) ?_
      simp only [nf0, nf1, nf2, nf3, nf4]
      refine st_mv (.bool false) ?_
      simp only [nf0, nf1, nf2, nf3, nf4]
      refine st_mv (.int .u8 c) ?_
      simp only [nf0, nf1, nf2, nf3, nf4]
      refine st_value (v := (.bool true)) (by rfl) ((run_eql_int (.tmp 42) (.const (.int .u8 9)) rfl rfl rfl w).trans (by rw [hg94])) ?_
      simp only [nf0, nf1, nf2, nf3, nf4]
      refine st_mv (.bool true) ?_
      simp only [nf0, nf1, nf2, nf3, nf4]
      refine st_mv (.bool true) ?_
      simp only [nf0, nf1, nf2, nf3, nf4]
      refine st_nob (j := 6) (t := 45) (c := true) rfl rfl rfl rfl rfl ?_
      simp only [nf0, nf1, nf2, nf3, nf4]
      refine st_nob (j := 6) (t := 45) (c := true) rfl rfl rfl rfl rfl ?_
      simp only [nf0, nf1, nf2, nf3, nf4]
      refine st_mv (.bool true) ?_
      simp only [nf0, nf1, nf2, nf3, nf4]
      refine st_mv (.bool true) ?_
      simp only [nf0, nf1, nf2, nf3, nf4]
      refine st_nob (j := 10) (t := 49) (c := true) rfl rfl rfl rfl rfl ?_
      simp only [nf0, nf1, nf2, nf3, nf4]
      refine st_nob (j := 10) (t := 49) (c := true) rfl rfl rfl rfl rfl ?_
      simp only [nf0, nf1, nf2, nf3, nf4]
      refine st_mv (.bool true) ?_
      simp only [nf0, nf1, nf2, nf3, nf4]
      refine st_mv (.bool true) ?_
      simp only [nf0, nf1, nf2, nf3, nf4]
      refine wpList_nil ?_
      show Code.wp _ _ _ _ _
      refine wp_cond_true rfl ?_
      refine wp_seq ?_
      refine wp_region_lit ?_
      refine st_mv (.int .i64 6) ?_
      simp only [nf0, nf1, nf2, nf3, nf4]
      refine wpList_nil ?_
      show Code.wp _ _ _ _ _
      refine wp_ret ?_
      first | show bodyPost _ _ _ _ _ _ | (simp only [Exit.then, Exit.inBlock]; show bodyPost _ _ _ _ _ _)
      exact bodyPost_ret (results_tmp rfl _ _ _) rfl ⟨by rw [show kd c = 6 from by unfold kd; (repeat' split) <;> omega]; rfl, bel⟩
    have hp95 := of_decide_eq_false hg94
    cases hg96 : decide (c = 10)
    rotate_left
    · have hp104 := of_decide_eq_true hg96
      refine wp_region_lit ?_
      refine st_mv (.int .u8 c) ?_
      simp only [nf0, nf1, nf2, nf3, nf4]
      refine st_value (v := (.bool false)) (by rfl) ((run_eql_int (.tmp 39) (.const (.int .u8 32)) rfl rfl rfl w).trans (by rw [hg92])) ?_
      simp only [nf0, nf1, nf2, nf3, nf4]
      refine st_mv (.bool false) ?_
      simp only [nf0, nf1, nf2, nf3, nf4]
      refine st_mv (.int .u8 c) ?_
      simp only [nf0, nf1, nf2, nf3, nf4]
      refine st_value (v := (.bool false)) (by rfl) ((run_eql_int (.tmp 42) (.const (.int .u8 9)) rfl rfl rfl w).trans (by rw [hg94])) ?_
      simp only [nf0, nf1, nf2, nf3, nf4]
      refine st_mv (.bool false) ?_
      simp only [nf0, nf1, nf2, nf3, nf4]
      refine st_mv (.bool false) ?_
      simp only [nf0, nf1, nf2, nf3, nf4]
      refine st_mv (.int .u8 c) ?_
      simp only [nf0, nf1, nf2, nf3, nf4]
      refine st_value (v := (.bool true)) (by rfl) ((run_eql_int (.tmp 46) (.const (.int .u8 10)) rfl rfl rfl w).trans (by rw [hg96])) ?_
      simp only [nf0, nf1, nf2, nf3, nf4]
      refine st_mv (.bool true) ?_
      simp only [nf0, nf1, nf2, nf3, nf4]
      refine st_mv (.bool true) ?_
      simp only [nf0, nf1, nf2, nf3, nf4]
      refine st_nob (j := 10) (t := 49) (c := true) rfl rfl rfl rfl rfl ?_
      simp only [nf0, nf1, nf2, nf3, nf4]
      refine st_nob (j := 10) (t := 49) (c := true) rfl rfl rfl rfl rfl ?_
      simp only [nf0, nf1, nf2, nf3, nf4]
      refine st_mv (.bool true) ?_
      simp only [nf0, nf1, nf2, nf3, nf4]
      refine st_mv (.bool true) ?_
      simp only [nf0, nf1, nf2, nf3, nf4]
      refine wpList_nil ?_
      show Code.wp _ _ _ _ _
      refine wp_cond_true rfl ?_
      refine wp_seq ?_
      refine wp_region_lit ?_
      refine st_mv (.int .i64 6) ?_
      simp only [nf0, nf1, nf2, nf3, nf4]
      refine wpList_nil ?_
      show Code.wp _ _ _ _ _
      refine wp_ret ?_
      first | show bodyPost _ _ _ _ _ _ | (simp only [Exit.then, Exit.inBlock]; show bodyPost _ _ _ _ _ _)
      exact bodyPost_ret (results_tmp rfl _ _ _) rfl ⟨by rw [show kd c = 6 from by unfold kd; (repeat' split) <;> omega]; rfl, bel⟩
    have hp97 := of_decide_eq_false hg96
    refine wp_region_lit ?_
    refine st_mv (.int .u8 c) ?_
    simp only [nf0, nf1, nf2, nf3, nf4]
    refine st_value (v := (.bool false)) (by rfl) ((run_eql_int (.tmp 39) (.const (.int .u8 32)) rfl rfl rfl w).trans (by rw [hg92])) ?_
    simp only [nf0, nf1, nf2, nf3, nf4]
    refine st_mv (.bool false) ?_
    simp only [nf0, nf1, nf2, nf3, nf4]
    refine st_mv (.int .u8 c) ?_
    simp only [nf0, nf1, nf2, nf3, nf4]
    refine st_value (v := (.bool false)) (by rfl) ((run_eql_int (.tmp 42) (.const (.int .u8 9)) rfl rfl rfl w).trans (by rw [hg94])) ?_
    simp only [nf0, nf1, nf2, nf3, nf4]
    refine st_mv (.bool false) ?_
    simp only [nf0, nf1, nf2, nf3, nf4]
    refine st_mv (.bool false) ?_
    simp only [nf0, nf1, nf2, nf3, nf4]
    refine st_mv (.int .u8 c) ?_
    simp only [nf0, nf1, nf2, nf3, nf4]
    refine st_value (v := (.bool false)) (by rfl) ((run_eql_int (.tmp 46) (.const (.int .u8 10)) rfl rfl rfl w).trans (by rw [hg96])) ?_
    simp only [nf0, nf1, nf2, nf3, nf4]
    refine st_mv (.bool false) ?_
    simp only [nf0, nf1, nf2, nf3, nf4]
    refine st_mv (.bool false) ?_
    simp only [nf0, nf1, nf2, nf3, nf4]
    refine st_mv (.int .u8 c) ?_
    simp only [nf0, nf1, nf2, nf3, nf4]
    refine st_value (v := (.bool (decide (c = 13)))) (by rfl) (run_eql_int (.tmp 50) (.const (.int .u8 13)) rfl rfl rfl w) ?_
    simp only [nf0, nf1, nf2, nf3, nf4]
    refine st_mv (.bool (decide (c = 13))) ?_
    simp only [nf0, nf1, nf2, nf3, nf4]
    refine st_mv (.bool (decide (c = 13))) ?_
    simp only [nf0, nf1, nf2, nf3, nf4]
    refine wpList_nil ?_
    show Code.wp _ _ _ _ _
    cases hg98 : decide (c = 13)
    rotate_left
    · have hp103 := of_decide_eq_true hg98
      refine wp_cond_true rfl ?_
      refine wp_seq ?_
      refine wp_region_lit ?_
      refine st_mv (.int .i64 6) ?_
      simp only [nf0, nf1, nf2, nf3, nf4]
      refine wpList_nil ?_
      show Code.wp _ _ _ _ _
      refine wp_ret ?_
      first | show bodyPost _ _ _ _ _ _ | (simp only [Exit.then, Exit.inBlock]; show bodyPost _ _ _ _ _ _)
      exact bodyPost_ret (results_tmp rfl _ _ _) rfl ⟨by rw [show kd c = 6 from by unfold kd; (repeat' split) <;> omega]; rfl, bel⟩
    have hp99 := of_decide_eq_false hg98
    refine wp_cond_false rfl ?_
    refine wp_seq ?_
    refine wp_region_lit ?_
    refine st_mv (.int .u8 c) ?_
    simp only [nf0, nf1, nf2, nf3, nf4]
    refine st_value (v := (.bool (decide (c = 35)))) (by rfl) (run_eql_int (.tmp 54) (.const (.int .u8 35)) rfl rfl rfl w) ?_
    simp only [nf0, nf1, nf2, nf3, nf4]
    refine st_mv (.bool (decide (c = 35))) ?_
    simp only [nf0, nf1, nf2, nf3, nf4]
    refine wpList_nil ?_
    show Code.wp _ _ _ _ _
    cases hg100 : decide (c = 35)
    rotate_left
    · have hp102 := of_decide_eq_true hg100
      refine wp_cond_true rfl ?_
      refine wp_seq ?_
      refine wp_region_lit ?_
      refine st_mv (.int .i64 7) ?_
      simp only [nf0, nf1, nf2, nf3, nf4]
      refine wpList_nil ?_
      show Code.wp _ _ _ _ _
      refine wp_ret ?_
      first | show bodyPost _ _ _ _ _ _ | (simp only [Exit.then, Exit.inBlock]; show bodyPost _ _ _ _ _ _)
      exact bodyPost_ret (results_tmp rfl _ _ _) rfl ⟨by rw [show kd c = 7 from by unfold kd; (repeat' split) <;> omega]; rfl, bel⟩
    have hp101 := of_decide_eq_false hg100
    refine wp_cond_false rfl ?_
    refine wp_skip ?_
    show Code.wp _ _ _ _ _
    refine wp_seq ?_
    refine wp_region_lit ?_
    refine st_mv (.int .i64 0) ?_
    simp only [nf0, nf1, nf2, nf3, nf4]
    refine wpList_nil ?_
    show Code.wp _ _ _ _ _
    refine wp_ret ?_
    first | show bodyPost _ _ _ _ _ _ | (simp only [Exit.then, Exit.inBlock]; show bodyPost _ _ _ _ _ _)
    exact bodyPost_ret (results_tmp rfl _ _ _) rfl ⟨by rw [show kd c = 0 from by unfold kd; (repeat' split) <;> omega]; rfl, bel⟩
  have hp113 := of_decide_eq_true hg78
  refine wp_region_lit ?_
  refine st_mv (.int .u8 c) ?_
  simp only [nf0, nf1, nf2, nf3, nf4]
  refine st_value (v := (.bool true)) (by rfl) ((run_geq (.tmp 11) (.const (.int .u8 48)) rfl rfl rfl w).trans (by rw [hg78])) ?_
  simp only [nf0, nf1, nf2, nf3, nf4]
  refine st_mv (.bool true) ?_
  simp only [nf0, nf1, nf2, nf3, nf4]
  refine st_mv (.int .u8 c) ?_
  simp only [nf0, nf1, nf2, nf3, nf4]
  refine st_value (v := (.bool (decide (c ≤ 57)))) (by rfl) (run_leq (.tmp 14) (.const (.int .u8 57)) rfl rfl rfl w) ?_
  simp only [nf0, nf1, nf2, nf3, nf4]
  refine st_mv (.bool (decide (c ≤ 57))) ?_
  simp only [nf0, nf1, nf2, nf3, nf4]
  refine st_mv (.bool (decide (c ≤ 57))) ?_
  simp only [nf0, nf1, nf2, nf3, nf4]
  refine wpList_nil ?_
  show Code.wp _ _ _ _ _
  cases hg114 : decide (c ≤ 57)
  rotate_left
  · have hp149 := of_decide_eq_true hg114
    refine wp_cond_true rfl ?_
    refine wp_seq ?_
    refine wp_region_lit ?_
    refine st_mv (.int .i64 2) ?_
    simp only [nf0, nf1, nf2, nf3, nf4]
    refine wpList_nil ?_
    show Code.wp _ _ _ _ _
    refine wp_ret ?_
    first | show bodyPost _ _ _ _ _ _ | (simp only [Exit.then, Exit.inBlock]; show bodyPost _ _ _ _ _ _)
    exact bodyPost_ret (results_tmp rfl _ _ _) rfl ⟨by rw [show kd c = 2 from by unfold kd; (repeat' split) <;> omega]; rfl, bel⟩
  have hp115 := of_decide_eq_false hg114
  refine wp_cond_false rfl ?_
  refine wp_seq ?_
  refine wp_region_lit ?_
  refine st_mv (.int .u8 c) ?_
  simp only [nf0, nf1, nf2, nf3, nf4]
  refine st_value (v := (.bool (decide (c = 95)))) (by rfl) (run_eql_int (.tmp 18) (.const (.int .u8 95)) rfl rfl rfl w) ?_
  simp only [nf0, nf1, nf2, nf3, nf4]
  refine st_mv (.bool (decide (c = 95))) ?_
  simp only [nf0, nf1, nf2, nf3, nf4]
  refine wpList_nil ?_
  show Code.wp _ _ _ _ _
  cases hg116 : decide (c = 95)
  rotate_left
  · have hp148 := of_decide_eq_true hg116
    refine wp_cond_true rfl ?_
    refine wp_seq ?_
    refine wp_region_lit ?_
    refine st_mv (.int .i64 3) ?_
    simp only [nf0, nf1, nf2, nf3, nf4]
    refine wpList_nil ?_
    show Code.wp _ _ _ _ _
    refine wp_ret ?_
    first | show bodyPost _ _ _ _ _ _ | (simp only [Exit.then, Exit.inBlock]; show bodyPost _ _ _ _ _ _)
    exact bodyPost_ret (results_tmp rfl _ _ _) rfl ⟨by rw [show kd c = 3 from by unfold kd; (repeat' split) <;> omega]; rfl, bel⟩
  have hp117 := of_decide_eq_false hg116
  refine wp_cond_false rfl ?_
  refine wp_seq ?_
  cases hg118 : decide (c = 44)
  rotate_left
  · have hp147 := of_decide_eq_true hg118
    refine wp_region_lit ?_
    refine st_mv (.int .u8 c) ?_
    simp only [nf0, nf1, nf2, nf3, nf4]
    refine st_value (v := (.bool true)) (by rfl) ((run_eql_int (.tmp 21) (.const (.int .u8 44)) rfl rfl rfl w).trans (by rw [hg118])) ?_
    simp only [nf0, nf1, nf2, nf3, nf4]
    refine st_mv (.bool true) ?_
    simp only [nf0, nf1, nf2, nf3, nf4]
    refine st_nob (j := 2) (t := 23) (c := true) rfl rfl rfl rfl rfl ?_
    simp only [nf0, nf1, nf2, nf3, nf4]
    refine st_nob (j := 2) (t := 23) (c := true) rfl rfl rfl rfl rfl ?_
    simp only [nf0, nf1, nf2, nf3, nf4]
    refine st_mv (.bool true) ?_
    simp only [nf0, nf1, nf2, nf3, nf4]
    refine st_mv (.bool true) ?_
    simp only [nf0, nf1, nf2, nf3, nf4]
    refine wpList_nil ?_
    show Code.wp _ _ _ _ _
    refine wp_cond_true rfl ?_
    refine wp_seq ?_
    refine wp_region_lit ?_
    refine st_mv (.int .i64 4) ?_
    simp only [nf0, nf1, nf2, nf3, nf4]
    refine wpList_nil ?_
    show Code.wp _ _ _ _ _
    refine wp_ret ?_
    first | show bodyPost _ _ _ _ _ _ | (simp only [Exit.then, Exit.inBlock]; show bodyPost _ _ _ _ _ _)
    exact bodyPost_ret (results_tmp rfl _ _ _) rfl ⟨by rw [show kd c = 4 from by unfold kd; (repeat' split) <;> omega]; rfl, bel⟩
  have hp119 := of_decide_eq_false hg118
  refine wp_region_lit ?_
  refine st_mv (.int .u8 c) ?_
  simp only [nf0, nf1, nf2, nf3, nf4]
  refine st_value (v := (.bool false)) (by rfl) ((run_eql_int (.tmp 21) (.const (.int .u8 44)) rfl rfl rfl w).trans (by rw [hg118])) ?_
  simp only [nf0, nf1, nf2, nf3, nf4]
  refine st_mv (.bool false) ?_
  simp only [nf0, nf1, nf2, nf3, nf4]
  refine st_mv (.int .u8 c) ?_
  simp only [nf0, nf1, nf2, nf3, nf4]
  refine st_value (v := (.bool (decide (c = 45)))) (by rfl) (run_eql_int (.tmp 24) (.const (.int .u8 45)) rfl rfl rfl w) ?_
  simp only [nf0, nf1, nf2, nf3, nf4]
  refine st_mv (.bool (decide (c = 45))) ?_
  simp only [nf0, nf1, nf2, nf3, nf4]
  refine st_mv (.bool (decide (c = 45))) ?_
  simp only [nf0, nf1, nf2, nf3, nf4]
  refine wpList_nil ?_
  show Code.wp _ _ _ _ _
  cases hg120 : decide (c = 45)
  rotate_left
  · have hp146 := of_decide_eq_true hg120
    refine wp_cond_true rfl ?_
    refine wp_seq ?_
    refine wp_region_lit ?_
    refine st_mv (.int .i64 4) ?_
    simp only [nf0, nf1, nf2, nf3, nf4]
    refine wpList_nil ?_
    show Code.wp _ _ _ _ _
    refine wp_ret ?_
    first | show bodyPost _ _ _ _ _ _ | (simp only [Exit.then, Exit.inBlock]; show bodyPost _ _ _ _ _ _)
    exact bodyPost_ret (results_tmp rfl _ _ _) rfl ⟨by rw [show kd c = 4 from by unfold kd; (repeat' split) <;> omega]; rfl, bel⟩
  have hp121 := of_decide_eq_false hg120
  refine wp_cond_false rfl ?_
  refine wp_seq ?_
  cases hg122 : decide (c = 123)
  rotate_left
  · have hp145 := of_decide_eq_true hg122
    refine wp_region_lit ?_
    refine st_mv (.int .u8 c) ?_
    simp only [nf0, nf1, nf2, nf3, nf4]
    refine st_value (v := (.bool true)) (by rfl) ((run_eql_int (.tmp 28) (.const (.int .u8 123)) rfl rfl rfl w).trans (by rw [hg122])) ?_
    simp only [nf0, nf1, nf2, nf3, nf4]
    refine st_mv (.bool true) ?_
    simp only [nf0, nf1, nf2, nf3, nf4]
    refine st_nob (j := 2) (t := 30) (c := true) rfl rfl rfl rfl rfl ?_
    simp only [nf0, nf1, nf2, nf3, nf4]
    refine st_nob (j := 2) (t := 30) (c := true) rfl rfl rfl rfl rfl ?_
    simp only [nf0, nf1, nf2, nf3, nf4]
    refine st_mv (.bool true) ?_
    simp only [nf0, nf1, nf2, nf3, nf4]
    refine st_mv (.bool true) ?_
    simp only [nf0, nf1, nf2, nf3, nf4]
    refine st_nob (j := 6) (t := 34) (c := true) rfl rfl rfl rfl rfl ?_
    simp only [nf0, nf1, nf2, nf3, nf4]
    refine st_nob (j := 6) (t := 34) (c := true) rfl rfl rfl rfl rfl ?_
    simp only [nf0, nf1, nf2, nf3, nf4]
    refine st_mv (.bool true) ?_
    simp only [nf0, nf1, nf2, nf3, nf4]
    refine st_mv (.bool true) ?_
    simp only [nf0, nf1, nf2, nf3, nf4]
    refine wpList_nil ?_
    show Code.wp _ _ _ _ _
    refine wp_cond_true rfl ?_
    refine wp_seq ?_
    refine wp_region_lit ?_
    refine st_mv (.int .i64 5) ?_
    simp only [nf0, nf1, nf2, nf3, nf4]
    refine wpList_nil ?_
    show Code.wp _ _ _ _ _
    refine wp_ret ?_
    first | show bodyPost _ _ _ _ _ _ | (simp only [Exit.then, Exit.inBlock]; show bodyPost _ _ _ _ _ _)
    exact bodyPost_ret (results_tmp rfl _ _ _) rfl ⟨by rw [show kd c = 5 from by unfold kd; (repeat' split) <;> omega]; rfl, bel⟩
  have hp123 := of_decide_eq_false hg122
  cases hg124 : decide (c = 125)
  rotate_left
  · have hp144 := of_decide_eq_true hg124
    refine wp_region_lit ?_
    refine st_mv (.int .u8 c) ?_
    simp only [nf0, nf1, nf2, nf3, nf4]
    refine st_value (v := (.bool false)) (by rfl) ((run_eql_int (.tmp 28) (.const (.int .u8 123)) rfl rfl rfl w).trans (by rw [hg122])) ?_
    simp only [nf0, nf1, nf2, nf3, nf4]
    refine st_mv (.bool false) ?_
    simp only [nf0, nf1, nf2, nf3, nf4]
    refine st_mv (.int .u8 c) ?_
    simp only [nf0, nf1, nf2, nf3, nf4]
    refine st_value (v := (.bool true)) (by rfl) ((run_eql_int (.tmp 31) (.const (.int .u8 125)) rfl rfl rfl w).trans (by rw [hg124])) ?_
    simp only [nf0, nf1, nf2, nf3, nf4]
    refine st_mv (.bool true) ?_
    simp only [nf0, nf1, nf2, nf3, nf4]
    refine st_mv (.bool true) ?_
    simp only [nf0, nf1, nf2, nf3, nf4]
    refine st_nob (j := 6) (t := 34) (c := true) rfl rfl rfl rfl rfl ?_
    simp only [nf0, nf1, nf2, nf3, nf4]
    refine st_nob (j := 6) (t := 34) (c := true) rfl rfl rfl rfl rfl ?_
    simp only [nf0, nf1, nf2, nf3, nf4]
    refine st_mv (.bool true) ?_
    simp only [nf0, nf1, nf2, nf3, nf4]
    refine st_mv (.bool true) ?_
    simp only [nf0, nf1, nf2, nf3, nf4]
    refine wpList_nil ?_
    show Code.wp _ _ _ _ _
    refine wp_cond_true rfl ?_
    refine wp_seq ?_
    refine wp_region_lit ?_
    refine st_mv (.int .i64 5) ?_
    simp only [nf0, nf1, nf2, nf3, nf4]
    refine wpList_nil ?_
    show Code.wp _ _ _ _ _
    refine wp_ret ?_
    first | show bodyPost _ _ _ _ _ _ | (simp only [Exit.then, Exit.inBlock]; show bodyPost _ _ _ _ _ _)
    exact bodyPost_ret (results_tmp rfl _ _ _) rfl ⟨by rw [show kd c = 5 from by unfold kd; (repeat' split) <;> omega]; rfl, bel⟩
  have hp125 := of_decide_eq_false hg124
  refine wp_region_lit ?_
  refine st_mv (.int .u8 c) ?_
  simp only [nf0, nf1, nf2, nf3, nf4]
  refine st_value (v := (.bool false)) (by rfl) ((run_eql_int (.tmp 28) (.const (.int .u8 123)) rfl rfl rfl w).trans (by rw [hg122])) ?_
  simp only [nf0, nf1, nf2, nf3, nf4]
  refine st_mv (.bool false) ?_
  simp only [nf0, nf1, nf2, nf3, nf4]
  refine st_mv (.int .u8 c) ?_
  simp only [nf0, nf1, nf2, nf3, nf4]
  refine st_value (v := (.bool false)) (by rfl) ((run_eql_int (.tmp 31) (.const (.int .u8 125)) rfl rfl rfl w).trans (by rw [hg124])) ?_
  simp only [nf0, nf1, nf2, nf3, nf4]
  refine st_mv (.bool false) ?_
  simp only [nf0, nf1, nf2, nf3, nf4]
  refine st_mv (.bool false) ?_
  simp only [nf0, nf1, nf2, nf3, nf4]
  refine st_mv (.int .u8 c) ?_
  simp only [nf0, nf1, nf2, nf3, nf4]
  refine st_value (v := (.bool (decide (c = 59)))) (by rfl) (run_eql_int (.tmp 35) (.const (.int .u8 59)) rfl rfl rfl w) ?_
  simp only [nf0, nf1, nf2, nf3, nf4]
  refine st_mv (.bool (decide (c = 59))) ?_
  simp only [nf0, nf1, nf2, nf3, nf4]
  refine st_mv (.bool (decide (c = 59))) ?_
  simp only [nf0, nf1, nf2, nf3, nf4]
  refine wpList_nil ?_
  show Code.wp _ _ _ _ _
  cases hg126 : decide (c = 59)
  rotate_left
  · have hp143 := of_decide_eq_true hg126
    refine wp_cond_true rfl ?_
    refine wp_seq ?_
    refine wp_region_lit ?_
    refine st_mv (.int .i64 5) ?_
    simp only [nf0, nf1, nf2, nf3, nf4]
    refine wpList_nil ?_
    show Code.wp _ _ _ _ _
    refine wp_ret ?_
    first | show bodyPost _ _ _ _ _ _ | (simp only [Exit.then, Exit.inBlock]; show bodyPost _ _ _ _ _ _)
    exact bodyPost_ret (results_tmp rfl _ _ _) rfl ⟨by rw [show kd c = 5 from by unfold kd; (repeat' split) <;> omega]; rfl, bel⟩
  have hp127 := of_decide_eq_false hg126
  refine wp_cond_false rfl ?_
  refine wp_seq ?_
  cases hg128 : decide (c = 32)
  rotate_left
  · have hp142 := of_decide_eq_true hg128
    refine wp_region_lit ?_
    refine st_mv (.int .u8 c) ?_
    simp only [nf0, nf1, nf2, nf3, nf4]
    refine st_value (v := (.bool true)) (by rfl) ((run_eql_int (.tmp 39) (.const (.int .u8 32)) rfl rfl rfl w).trans (by rw [hg128])) ?_
    simp only [nf0, nf1, nf2, nf3, nf4]
    refine st_mv (.bool true) ?_
    simp only [nf0, nf1, nf2, nf3, nf4]
    refine st_nob (j := 2) (t := 41) (c := true) rfl rfl rfl rfl rfl ?_
    simp only [nf0, nf1, nf2, nf3, nf4]
    refine st_nob (j := 2) (t := 41) (c := true) rfl rfl rfl rfl rfl ?_
    simp only [nf0, nf1, nf2, nf3, nf4]
    refine st_mv (.bool true) ?_
    simp only [nf0, nf1, nf2, nf3, nf4]
    refine st_mv (.bool true) ?_
    simp only [nf0, nf1, nf2, nf3, nf4]
    refine st_nob (j := 6) (t := 45) (c := true) rfl rfl rfl rfl rfl ?_
    simp only [nf0, nf1, nf2, nf3, nf4]
    refine st_nob (j := 6) (t := 45) (c := true) rfl rfl rfl rfl rfl ?_
    simp only [nf0, nf1, nf2, nf3, nf4]
    refine st_mv (.bool true) ?_
    simp only [nf0, nf1, nf2, nf3, nf4]
    refine st_mv (.bool true) ?_
    simp only [nf0, nf1, nf2, nf3, nf4]
    refine st_nob (j := 10) (t := 49) (c := true) rfl rfl rfl rfl rfl ?_
    simp only [nf0, nf1, nf2, nf3, nf4]
    refine st_nob (j := 10) (t := 49) (c := true) rfl rfl rfl rfl rfl ?_
    simp only [nf0, nf1, nf2, nf3, nf4]
    refine st_mv (.bool true) ?_
    simp only [nf0, nf1, nf2, nf3, nf4]
    refine st_mv (.bool true) ?_
    simp only [nf0, nf1, nf2, nf3, nf4]
    refine wpList_nil ?_
    show Code.wp _ _ _ _ _
    refine wp_cond_true rfl ?_
    refine wp_seq ?_
    refine wp_region_lit ?_
    refine st_mv (.int .i64 6) ?_
    simp only [nf0, nf1, nf2, nf3, nf4]
    refine wpList_nil ?_
    show Code.wp _ _ _ _ _
    refine wp_ret ?_
    first | show bodyPost _ _ _ _ _ _ | (simp only [Exit.then, Exit.inBlock]; show bodyPost _ _ _ _ _ _)
    exact bodyPost_ret (results_tmp rfl _ _ _) rfl ⟨by rw [show kd c = 6 from by unfold kd; (repeat' split) <;> omega]; rfl, bel⟩
  have hp129 := of_decide_eq_false hg128
  cases hg130 : decide (c = 9)
  rotate_left
  · have hp141 := of_decide_eq_true hg130
    refine wp_region_lit ?_
    refine st_mv (.int .u8 c) ?_
    simp only [nf0, nf1, nf2, nf3, nf4]
    refine st_value (v := (.bool false)) (by rfl) ((run_eql_int (.tmp 39) (.const (.int .u8 32)) rfl rfl rfl w).trans (by rw [hg128])) ?_
    simp only [nf0, nf1, nf2, nf3, nf4]
    refine st_mv (.bool false) ?_
    simp only [nf0, nf1, nf2, nf3, nf4]
    refine st_mv (.int .u8 c) ?_
    simp only [nf0, nf1, nf2, nf3, nf4]
    refine st_value (v := (.bool true)) (by rfl) ((run_eql_int (.tmp 42) (.const (.int .u8 9)) rfl rfl rfl w).trans (by rw [hg130])) ?_
    simp only [nf0, nf1, nf2, nf3, nf4]
    refine st_mv (.bool true) ?_
    simp only [nf0, nf1, nf2, nf3, nf4]
    refine st_mv (.bool true) ?_
    simp only [nf0, nf1, nf2, nf3, nf4]
    refine st_nob (j := 6) (t := 45) (c := true) rfl rfl rfl rfl rfl ?_
    simp only [nf0, nf1, nf2, nf3, nf4]
    refine st_nob (j := 6) (t := 45) (c := true) rfl rfl rfl rfl rfl ?_
    simp only [nf0, nf1, nf2, nf3, nf4]
    refine st_mv (.bool true) ?_
    simp only [nf0, nf1, nf2, nf3, nf4]
    refine st_mv (.bool true) ?_
    simp only [nf0, nf1, nf2, nf3, nf4]
    refine st_nob (j := 10) (t := 49) (c := true) rfl rfl rfl rfl rfl ?_
    simp only [nf0, nf1, nf2, nf3, nf4]
    refine st_nob (j := 10) (t := 49) (c := true) rfl rfl rfl rfl rfl ?_
    simp only [nf0, nf1, nf2, nf3, nf4]
    refine st_mv (.bool true) ?_
    simp only [nf0, nf1, nf2, nf3, nf4]
    refine st_mv (.bool true) ?_
    simp only [nf0, nf1, nf2, nf3, nf4]
    refine wpList_nil ?_
    show Code.wp _ _ _ _ _
    refine wp_cond_true rfl ?_
    refine wp_seq ?_
    refine wp_region_lit ?_
    refine st_mv (.int .i64 6) ?_
    simp only [nf0, nf1, nf2, nf3, nf4]
    refine wpList_nil ?_
    show Code.wp _ _ _ _ _
    refine wp_ret ?_
    first | show bodyPost _ _ _ _ _ _ | (simp only [Exit.then, Exit.inBlock]; show bodyPost _ _ _ _ _ _)
    exact bodyPost_ret (results_tmp rfl _ _ _) rfl ⟨by rw [show kd c = 6 from by unfold kd; (repeat' split) <;> omega]; rfl, bel⟩
  have hp131 := of_decide_eq_false hg130
  cases hg132 : decide (c = 10)
  rotate_left
  · have hp140 := of_decide_eq_true hg132
    refine wp_region_lit ?_
    refine st_mv (.int .u8 c) ?_
    simp only [nf0, nf1, nf2, nf3, nf4]
    refine st_value (v := (.bool false)) (by rfl) ((run_eql_int (.tmp 39) (.const (.int .u8 32)) rfl rfl rfl w).trans (by rw [hg128])) ?_
    simp only [nf0, nf1, nf2, nf3, nf4]
    refine st_mv (.bool false) ?_
    simp only [nf0, nf1, nf2, nf3, nf4]
    refine st_mv (.int .u8 c) ?_
    simp only [nf0, nf1, nf2, nf3, nf4]
    refine st_value (v := (.bool false)) (by rfl) ((run_eql_int (.tmp 42) (.const (.int .u8 9)) rfl rfl rfl w).trans (by rw [hg130])) ?_
    simp only [nf0, nf1, nf2, nf3, nf4]
    refine st_mv (.bool false) ?_
    simp only [nf0, nf1, nf2, nf3, nf4]
    refine st_mv (.bool false) ?_
    simp only [nf0, nf1, nf2, nf3, nf4]
    refine st_mv (.int .u8 c) ?_
    simp only [nf0, nf1, nf2, nf3, nf4]
    refine st_value (v := (.bool true)) (by rfl) ((run_eql_int (.tmp 46) (.const (.int .u8 10)) rfl rfl rfl w).trans (by rw [hg132])) ?_
    simp only [nf0, nf1, nf2, nf3, nf4]
    refine st_mv (.bool true) ?_
    simp only [nf0, nf1, nf2, nf3, nf4]
    refine st_mv (.bool true) ?_
    simp only [nf0, nf1, nf2, nf3, nf4]
    refine st_nob (j := 10) (t := 49) (c := true) rfl rfl rfl rfl rfl ?_
    simp only [nf0, nf1, nf2, nf3, nf4]
    refine st_nob (j := 10) (t := 49) (c := true) rfl rfl rfl rfl rfl ?_
    simp only [nf0, nf1, nf2, nf3, nf4]
    refine st_mv (.bool true) ?_
    simp only [nf0, nf1, nf2, nf3, nf4]
    refine st_mv (.bool true) ?_
    simp only [nf0, nf1, nf2, nf3, nf4]
    refine wpList_nil ?_
    show Code.wp _ _ _ _ _
    refine wp_cond_true rfl ?_
    refine wp_seq ?_
    refine wp_region_lit ?_
    refine st_mv (.int .i64 6) ?_
    simp only [nf0, nf1, nf2, nf3, nf4]
    refine wpList_nil ?_
    show Code.wp _ _ _ _ _
    refine wp_ret ?_
    first | show bodyPost _ _ _ _ _ _ | (simp only [Exit.then, Exit.inBlock]; show bodyPost _ _ _ _ _ _)
    exact bodyPost_ret (results_tmp rfl _ _ _) rfl ⟨by rw [show kd c = 6 from by unfold kd; (repeat' split) <;> omega]; rfl, bel⟩
  have hp133 := of_decide_eq_false hg132
  refine wp_region_lit ?_
  refine st_mv (.int .u8 c) ?_
  simp only [nf0, nf1, nf2, nf3, nf4]
  refine st_value (v := (.bool false)) (by rfl) ((run_eql_int (.tmp 39) (.const (.int .u8 32)) rfl rfl rfl w).trans (by rw [hg128])) ?_
  simp only [nf0, nf1, nf2, nf3, nf4]
  refine st_mv (.bool false) ?_
  simp only [nf0, nf1, nf2, nf3, nf4]
  refine st_mv (.int .u8 c) ?_
  simp only [nf0, nf1, nf2, nf3, nf4]
  refine st_value (v := (.bool false)) (by rfl) ((run_eql_int (.tmp 42) (.const (.int .u8 9)) rfl rfl rfl w).trans (by rw [hg130])) ?_
  simp only [nf0, nf1, nf2, nf3, nf4]
  refine st_mv (.bool false) ?_
  simp only [nf0, nf1, nf2, nf3, nf4]
  refine st_mv (.bool false) ?_
  simp only [nf0, nf1, nf2, nf3, nf4]
  refine st_mv (.int .u8 c) ?_
  simp only [nf0, nf1, nf2, nf3, nf4]
  refine st_value (v := (.bool false)) (by rfl) ((run_eql_int (.tmp 46) (.const (.int .u8 10)) rfl rfl rfl w).trans (by rw [hg132])) ?_
  simp only [nf0, nf1, nf2, nf3, nf4]
  refine st_mv (.bool false) ?_
  simp only [nf0, nf1, nf2, nf3, nf4]
  refine st_mv (.bool false) ?_
  simp only [nf0, nf1, nf2, nf3, nf4]
  refine st_mv (.int .u8 c) ?_
  simp only [nf0, nf1, nf2, nf3, nf4]
  refine st_value (v := (.bool (decide (c = 13)))) (by rfl) (run_eql_int (.tmp 50) (.const (.int .u8 13)) rfl rfl rfl w) ?_
  simp only [nf0, nf1, nf2, nf3, nf4]
  refine st_mv (.bool (decide (c = 13))) ?_
  simp only [nf0, nf1, nf2, nf3, nf4]
  refine st_mv (.bool (decide (c = 13))) ?_
  simp only [nf0, nf1, nf2, nf3, nf4]
  refine wpList_nil ?_
  show Code.wp _ _ _ _ _
  cases hg134 : decide (c = 13)
  rotate_left
  · have hp139 := of_decide_eq_true hg134
    refine wp_cond_true rfl ?_
    refine wp_seq ?_
    refine wp_region_lit ?_
    refine st_mv (.int .i64 6) ?_
    simp only [nf0, nf1, nf2, nf3, nf4]
    refine wpList_nil ?_
    show Code.wp _ _ _ _ _
    refine wp_ret ?_
    first | show bodyPost _ _ _ _ _ _ | (simp only [Exit.then, Exit.inBlock]; show bodyPost _ _ _ _ _ _)
    exact bodyPost_ret (results_tmp rfl _ _ _) rfl ⟨by rw [show kd c = 6 from by unfold kd; (repeat' split) <;> omega]; rfl, bel⟩
  have hp135 := of_decide_eq_false hg134
  refine wp_cond_false rfl ?_
  refine wp_seq ?_
  refine wp_region_lit ?_
  refine st_mv (.int .u8 c) ?_
  simp only [nf0, nf1, nf2, nf3, nf4]
  refine st_value (v := (.bool (decide (c = 35)))) (by rfl) (run_eql_int (.tmp 54) (.const (.int .u8 35)) rfl rfl rfl w) ?_
  simp only [nf0, nf1, nf2, nf3, nf4]
  refine st_mv (.bool (decide (c = 35))) ?_
  simp only [nf0, nf1, nf2, nf3, nf4]
  refine wpList_nil ?_
  show Code.wp _ _ _ _ _
  cases hg136 : decide (c = 35)
  rotate_left
  · have hp138 := of_decide_eq_true hg136
    refine wp_cond_true rfl ?_
    refine wp_seq ?_
    refine wp_region_lit ?_
    refine st_mv (.int .i64 7) ?_
    simp only [nf0, nf1, nf2, nf3, nf4]
    refine wpList_nil ?_
    show Code.wp _ _ _ _ _
    refine wp_ret ?_
    first | show bodyPost _ _ _ _ _ _ | (simp only [Exit.then, Exit.inBlock]; show bodyPost _ _ _ _ _ _)
    exact bodyPost_ret (results_tmp rfl _ _ _) rfl ⟨by rw [show kd c = 7 from by unfold kd; (repeat' split) <;> omega]; rfl, bel⟩
  have hp137 := of_decide_eq_false hg136
  refine wp_cond_false rfl ?_
  refine wp_skip ?_
  show Code.wp _ _ _ _ _
  refine wp_seq ?_
  refine wp_region_lit ?_
  refine st_mv (.int .i64 0) ?_
  simp only [nf0, nf1, nf2, nf3, nf4]
  refine wpList_nil ?_
  show Code.wp _ _ _ _ _
  refine wp_ret ?_
  first | show bodyPost _ _ _ _ _ _ | (simp only [Exit.then, Exit.inBlock]; show bodyPost _ _ _ _ _ _)
  exact bodyPost_ret (results_tmp rfl _ _ _) rfl ⟨by rw [show kd c = 0 from by unfold kd; (repeat' split) <;> omega]; rfl, bel⟩
end Go.Proofs.Ytkebpmcgmmhifaa

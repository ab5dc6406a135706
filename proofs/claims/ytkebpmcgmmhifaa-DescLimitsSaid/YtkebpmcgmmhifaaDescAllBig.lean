/- desc's All, of any text. -/
import Derived.Test.YtkebpmcgmmhifaaDescNamesW
namespace Go.Proofs.Ytkebpmcgmmhifaa
open Go.RowKit Go.WideShapes Go.ChangeShapes
set_option linter.unusedSimpArgs false
set_option linter.unusedVariables false

theorem l_zero_26 : ZeroOf Try.prog 26 #[.int .i64 0, .int .i64 0, .int .i64 0] := zeroOf (z := .agg #[.int .i64 0, .int .i64 0, .int .i64 0]) (by kernel_rfl) rfl
theorem l_run_call_18_2 {o : Oper} {a : Act} (x0 : Operand) (x1 : Operand) {ts : Array TypeId} (ho : o.op = .call { callee := .value (.func 18), args := #[x0, x1], argTypes := ts }) {v0 : Value} (h0 : a.eval x0 = v0) {v1 : Value} (h1 : a.eval x1 = v1) (W : World) : (execOp a.eval o).run Try.prog W = .ok (.enter 18 #[v0, v1]) W := by
  unfold execOp
  simp only [ho]
  subst h0 h1
  go_simp

attribute [local irreducible] Go.wpList Go.Code.wp
set_option maxRecDepth 100000 in
set_option maxHeartbeats 4000000 in
theorem allBig_calls {l : List UInt8} (hl6 : 65536 < l.length) (hl : l.length ≤ 1000000) (w : World) : Calls Try.prog 9 #[.string (str l)] w fun e w' => ∃ u, e = .returned u ∧ ∃ v, u = .tuple #[v, .int .i64 (desA l).2.1, .agg (ePl.enc (desP l)).toArray] ∧ OwnR w' w.heap.size 33 eTok v (desR l) ∧ Below w.heap.size w w' := by
  have bel : Below w.heap.size w w := Below.refl _ _
  go_enter Try.func9, Try.ntmps9
  refine wp_seq ?_
  refine wp_region_lit ?_
  refine st_mv (.slice none 0 0) ?_
  simp only [nf0, nf1, nf2, nf3, nf4]
  refine st_mv (.int .i64 0) ?_
  simp only [nf0, nf1, nf2, nf3, nf4]
  refine st_new (cs := #[.int .i64 0, .int .i64 0, .int .i64 0]) (t := 26) (by rfl) (run_allocV rfl l_zero_26 _) ?_
  intro g1 w2 B3 hb4 lo5
  simp only [nf0, nf1, nf2, nf3, nf4]
  replace lo5 := low_le bel lo5
  replace bel := bl_step bel hb4
  clear hb4
  refine wpList_nil ?_
  show Code.wp _ _ _ _ _
  refine wp_seq ?_
  refine wp_seq ?_
  refine wp_region_lit ?_
  refine st_mv (.string (str l)) ?_
  simp only [nf0, nf1, nf2, nf3, nf4]
  refine st_value (v := (.int .i64 (l.length : Int))) (by rfl) (run_len_text (.tmp 8) rfl Try.underlying9 (l := l) rfl w2) ?_
  simp only [nf0, nf1, nf2, nf3, nf4]
  refine st_value (v := (.bool (decide (65536 < (l.length : Int))))) (by rfl) (run_gtr (.tmp 9) (.const (.int .i64 65536)) rfl rfl rfl w2) ?_
  simp only [nf0, nf1, nf2, nf3, nf4]
  refine wpList_nil ?_
  show Code.wp _ _ _ _ _
  cases hg6 : decide (65536 < (l.length : Int))
  · have hp7 := of_decide_eq_false hg6
    exfalso
    omega
  have hp8 := of_decide_eq_true hg6
  refine wp_cond_true rfl ?_
  refine wp_seq ?_
  refine wp_region_lit ?_
  refine st_mv (.string (str l)) ?_
  simp only [nf0, nf1, nf2, nf3, nf4]
  refine st_call1 (v := (.agg #[.int .i64 ((plc l (clampN 0 l.length)).1), .int .i64 ((plc l (clampN 0 l.length)).2.1), .int .i64 ((plc l (clampN 0 l.length)).2.2)])) (by rfl) (l_run_call_18_2 (.tmp 11) (.const (.int .i64 0)) rfl rfl rfl _) (desAt_calls l 0 (by omega) w2) ?_
  intro w9 hb10
  simp only [nf0, nf1, nf2, nf3, nf4]
  replace B3 := B3.below hb10
  replace bel := bl_step bel hb10
  clear hb10
  refine st_mv (.slice none 0 0) ?_
  simp only [nf0, nf1, nf2, nf3, nf4]
  refine st_mv (.int .i64 2) ?_
  simp only [nf0, nf1, nf2, nf3, nf4]
  refine st_row (by rfl) (run_storeW (.tmp 4) (.tmp 12) rfl (cs := #[.int .i64 ((plc l (clampN 0 l.length)).1), .int .i64 ((plc l (clampN 0 l.length)).2.1), .int .i64 ((plc l (clampN 0 l.length)).2.2)]) aggPl rfl rfl B3 rfl (by simp [Value.oneCell'])) B3 ?_
  intro w11 B13 hg12
  simp only [nf0, nf1, nf2, nf3, nf4]
  replace bel := bl_kept0 bel hg12 lo5
  clear hg12
  clear B3
  refine wpList_nil ?_
  show Code.wp _ _ _ _ _
  refine wp_ret ?_
  first | show bodyPost _ _ _ _ _ _ | (simp only [Exit.then, Exit.inBlock]; show bodyPost _ _ _ _ _ _)
  have hA : desA l = ([], 2, 0) := by unfold desA; rw [if_pos (by omega)]
  have h0 : ¬ (desA l).2.1 = 0 := by rw [hA]; show ¬ ((2 : Int) = 0); decide
  have hP : desP l = plc l (clampN 0 l.length) := by unfold desP; rw [if_neg h0, hA]; rfl
  exact bodyPost_ret (results_t2agg rfl (cs := #[.int .i64 ((plc l (clampN 0 l.length)).1), .int .i64 ((plc l (clampN 0 l.length)).2.1), .int .i64 ((plc l (clampN 0 l.length)).2.2)]) aggPl (by rfl) B13) rfl ⟨_, rfl, _, by rw [hP, hA]; rfl, by unfold desR; rw [if_neg h0]; exact OwnR.nil _ _ _ _, bel⟩
theorem allAny_calls {l : List UInt8} (hl : l.length ≤ 1000000) (w : World) : Calls Try.prog 9 #[.string (str l)] w fun e w' => ∃ u, e = .returned u ∧ ∃ v, u = .tuple #[v, .int .i64 (desA l).2.1, .agg (ePl.enc (desP l)).toArray] ∧ OwnR w' w.heap.size 33 eTok v (desR l) ∧ Below w.heap.size w w' := by
  by_cases h : l.length ≤ 65536
  · exact all_calls h w
  · exact allBig_calls (by omega) hl w
end Go.Proofs.Ytkebpmcgmmhifaa

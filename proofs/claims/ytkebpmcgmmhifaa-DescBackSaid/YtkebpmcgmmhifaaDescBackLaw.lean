/- What the law DescBack does. -/
import Derived.Test.YtkebpmcgmmhifaaDescRisesLaw
import Derived.Test.YtkebpmcgmmhifaaDescPrint
namespace Go.Proofs.Ytkebpmcgmmhifaa
open Go.RowKit Go.WideShapes Go.ChangeShapes
set_option linter.unusedSimpArgs false
set_option linter.unusedVariables false

theorem o_zero_26 : ZeroOf Try.prog 26 #[.int .i64 0, .int .i64 0, .int .i64 0] := zeroOf (z := .agg #[.int .i64 0, .int .i64 0, .int .i64 0]) (by kernel_rfl) rfl
theorem o_run_call_8_1 {o : Oper} {a : Act} (x0 : Operand) {ts : Array TypeId} (ho : o.op = .call { callee := .value (.func 8), args := #[x0], argTypes := ts }) {v0 : Value} (h0 : a.eval x0 = v0) (W : World) : (execOp a.eval o).run Try.prog W = .ok (.enter 8 #[v0]) W := by
  unfold execOp
  simp only [ho]
  subst h0
  go_simp
theorem o_run_call_9_1 {o : Oper} {a : Act} (x0 : Operand) {ts : Array TypeId} (ho : o.op = .call { callee := .value (.func 9), args := #[x0], argTypes := ts }) {v0 : Value} (h0 : a.eval x0 = v0) (W : World) : (execOp a.eval o).run Try.prog W = .ok (.enter 9 #[v0]) W := by
  unfold execOp
  simp only [ho]
  subst h0
  go_simp
theorem o_run_call_13_0 {o : Oper} {a : Act}  {ts : Array TypeId} (ho : o.op = .call { callee := .value (.func 13), args := #[], argTypes := ts })  (W : World) : (execOp a.eval o).run Try.prog W = .ok (.enter 13 #[]) W := by
  unfold execOp
  simp only [ho]
  go_simp
theorem o_zero_33 : ZeroOf Try.prog 33 #[.int .i64 0, .string ⟨#[]⟩, .int .i64 0, .int .i64 0, .int .i64 0] := zeroOf (z := .agg #[.int .i64 0, .string ⟨#[]⟩, .int .i64 0, .int .i64 0, .int .i64 0]) (by kernel_rfl) rfl
theorem o_fld_33_1 : FieldAt Try.prog 33 1 1 := fieldAt_of (s := 0) Try.underlying33 (by kernel_rfl)
theorem o_one_9 : One Try.prog 9 := one_of Try.underlying9 rfl (by kernel_rfl)
theorem o_run_call_11_2 {o : Oper} {a : Act} (x0 : Operand) (x1 : Operand) {ts : Array TypeId} (ho : o.op = .call { callee := .value (.func 11), args := #[x0, x1], argTypes := ts }) {v0 : Value} (h0 : a.eval x0 = v0) {v1 : Value} (h1 : a.eval x1 = v1) (W : World) : (execOp a.eval o).run Try.prog W = .ok (.enter 11 #[v0, v1]) W := by
  unfold execOp
  simp only [ho]
  subst h0 h1
  go_simp
theorem o_run_call_19_1 {o : Oper} {a : Act} (x0 : Operand) {ts : Array TypeId} (ho : o.op = .call { callee := .value (.func 19), args := #[x0], argTypes := ts }) {v0 : Value} (h0 : a.eval x0 = v0) (W : World) : (execOp a.eval o).run Try.prog W = .ok (.enter 19 #[v0]) W := by
  unfold execOp
  simp only [ho]
  subst h0
  go_simp
theorem back_A {ts : List TTok} (hg : ∀ t ∈ ts, GoodT t) (hl : (spaced ts).length ≤ 65536) : (desA (spaced ts)).2.1 = 0 ∧ alikeB ts (desR (spaced ts)) = true := by
  have h := spaced_A hg
  have hA : desA (spaced ts) = toksA (spaced ts) := by unfold desA; rw [if_neg (by omega)]
  have h0 : (desA (spaced ts)).2.1 = 0 := by rw [hA, h.2]
  refine ⟨h0, ?_⟩
  unfold desR
  rw [if_pos h0, hA]
  exact decide_eq_true h.1.symm

attribute [local irreducible] Go.wpList Go.Code.wp
set_option maxRecDepth 100000 in
set_option maxHeartbeats 4000000 in
theorem back_bad (l : List UInt8) (hE : ¬ (desA (l.take 2000)).2.1 = 0) (w : World) : Calls Try.prog 7 #[.string (str l)] w fun e w' => e = .returned (.bool true) ∧ Below w.heap.size w w' := by
  have bel : Below w.heap.size w w := Below.refl _ _
  have hz : (l.take 2000).length ≤ 2000 := by rw [List.length_take]; omega
  have hdl := desR_len (l.take 2000)
  have hX : (desR (l.take 2000)) = [] := by unfold desR; exact if_neg hE
  go_enter Try.func7, Try.ntmps7
  refine wp_seq ?_
  refine wp_region_lit ?_
  refine st_mv (.bool false) ?_
  simp only [nf0, nf1, nf2, nf3, nf4]
  refine wpList_nil ?_
  show Code.wp _ _ _ _ _
  refine wp_seq ?_
  refine wp_region_lit ?_
  refine st_mv (.string (str l)) ?_
  simp only [nf0, nf1, nf2, nf3, nf4]
  refine st_call1 (v := (.string (str (l.take 2000)))) (by rfl) (o_run_call_8_1 (.tmp 14) rfl rfl _) (cut_calls l w) ?_
  intro w1 hb2
  simp only [nf0, nf1, nf2, nf3, nf4]
  replace bel := bl_step bel hb2
  clear hb2
  refine st_call (by rfl) (o_run_call_9_1 (.tmp 15) rfl rfl _) (all_calls (l := (l.take 2000)) (by omega) w1) ?_
  rintro _ w6 ⟨v3, rfl, O4, hf7⟩
  simp only [nf0, nf1, nf2, nf3, nf4]
  replace O4 := O4.lower bel.size
  replace bel := bl_step bel hf7
  clear hf7
  refine st_mv (.tuple #[v3, .int .i64 ((desA (l.take 2000)).2.1), .agg #[.int .i64 ((desP (l.take 2000)).1), .int .i64 ((desP (l.take 2000)).2.1), .int .i64 ((desP (l.take 2000)).2.2)]]) ?_
  simp only [nf0, nf1, nf2, nf3, nf4]
  refine st_mv v3 ?_
  simp only [nf0, nf1, nf2, nf3, nf4]
  refine st_mv (.int .i64 ((desA (l.take 2000)).2.1)) ?_
  simp only [nf0, nf1, nf2, nf3, nf4]
  refine st_mv (.agg #[.int .i64 ((desP (l.take 2000)).1), .int .i64 ((desP (l.take 2000)).2.1), .int .i64 ((desP (l.take 2000)).2.2)]) ?_
  simp only [nf0, nf1, nf2, nf3, nf4]
  refine st_new (cs := #[.int .i64 0, .int .i64 0, .int .i64 0]) (t := 26) (by rfl) (run_allocV rfl o_zero_26 _) ?_
  intro g8 w9 B10 hb11 lo12
  simp only [nf0, nf1, nf2, nf3, nf4]
  have n13 := O4.off lo12
  replace lo12 := low_le bel lo12
  replace O4 := O4.same hb11
  replace bel := bl_step bel hb11
  clear hb11
  refine st_mv v3 ?_
  simp only [nf0, nf1, nf2, nf3, nf4]
  refine st_mv (.int .i64 ((desA (l.take 2000)).2.1)) ?_
  simp only [nf0, nf1, nf2, nf3, nf4]
  refine st_row (by rfl) (run_storeW (.tmp 5) (.tmp 19) rfl (cs := #[.int .i64 ((desP (l.take 2000)).1), .int .i64 ((desP (l.take 2000)).2.1), .int .i64 ((desP (l.take 2000)).2.2)]) aggPl rfl rfl B10 rfl (by simp [Value.oneCell'])) B10 ?_
  intro w14 B16 hg15
  simp only [nf0, nf1, nf2, nf3, nf4]
  replace O4 := O4.keptB hg15 n13
  replace bel := bl_kept0 bel hg15 lo12
  clear hg15
  clear B10
  refine wpList_nil ?_
  show Code.wp _ _ _ _ _
  refine wp_seq ?_
  refine wp_seq ?_
  refine wp_region_lit ?_
  refine st_mv (.int .i64 ((desA (l.take 2000)).2.1)) ?_
  simp only [nf0, nf1, nf2, nf3, nf4]
  refine st_value (v := (.bool true)) (by rfl) ((run_neq_int (.tmp 20) (.const (.int .i64 0)) rfl rfl rfl w14).trans (by rw [decide_eq_false hE]; rfl)) ?_
  simp only [nf0, nf1, nf2, nf3, nf4]
  refine wpList_nil ?_
  show Code.wp _ _ _ _ _
  refine wp_cond_true rfl ?_
  refine wp_seq ?_
  refine wp_region_lit ?_
  refine st_mv v3 ?_
  simp only [nf0, nf1, nf2, nf3, nf4]
  obtain ⟨A17, c18, hv19, h20, h21, h22, R23⟩ := O4.reads
  refine st_value (v := (.int .i64 ((desR (l.take 2000)).length : Int))) (by rfl) (run_len (.tmp 22) rfl ⟨_, Try.underlying23⟩ (by exact hv19) w14) ?_
  simp only [nf0, nf1, nf2, nf3, nf4]
  refine st_value (v := (.bool true)) (by rfl) (run_eql_int_t (.tmp 23) (.const (.int .i64 0)) rfl rfl rfl (by rw [hX]; rfl) w14) ?_
  simp only [nf0, nf1, nf2, nf3, nf4]
  refine st_mv (.bool true) ?_
  simp only [nf0, nf1, nf2, nf3, nf4]
  refine st_call1 (v := (.bool true)) (by rfl) (o_run_call_13_0  rfl  _) (descLives_calls w14) ?_
  intro w24 hb25
  simp only [nf0, nf1, nf2, nf3, nf4]
  replace O4 := O4.same hb25
  replace B16 := B16.below hb25
  replace bel := bl_step bel hb25
  clear hb25
  refine st_mv (.bool true) ?_
  simp only [nf0, nf1, nf2, nf3, nf4]
  refine st_mv (.bool true) ?_
  simp only [nf0, nf1, nf2, nf3, nf4]
  refine wpList_nil ?_
  show Code.wp _ _ _ _ _
  refine wp_ret ?_
  first | show bodyPost _ _ _ _ _ _ | (simp only [Exit.then, Exit.inBlock]; show bodyPost _ _ _ _ _ _)
  exact bodyPost_ret (results_tmp rfl _ _ _) rfl ⟨rfl, bel⟩
set_option maxRecDepth 100000 in
set_option maxHeartbeats 4000000 in
theorem back_good (l : List UInt8) (hE : (desA (l.take 2000)).2.1 = 0) (w : World) : Calls Try.prog 7 #[.string (str l)] w fun e w' => e = .returned (.bool true) ∧ Below w.heap.size w w' := by
  have bel : Below w.heap.size w w := Below.refl _ _
  have hz : (l.take 2000).length ≤ 2000 := by rw [List.length_take]; omega
  have hdl := desR_len (l.take 2000)
  have hseg := des_seg (by omega) hE
  have hgood := seg_good hseg
  have hsl := spaced_le hseg
  have hb := back_A hgood (by omega)
  have hq := hb.1
  have hali := hb.2
  have hyl := desR_len (spaced (desR (l.take 2000)))
  go_enter Try.func7, Try.ntmps7
  refine wp_seq ?_
  refine wp_region_lit ?_
  refine st_mv (.bool false) ?_
  simp only [nf0, nf1, nf2, nf3, nf4]
  refine wpList_nil ?_
  show Code.wp _ _ _ _ _
  refine wp_seq ?_
  refine wp_region_lit ?_
  refine st_mv (.string (str l)) ?_
  simp only [nf0, nf1, nf2, nf3, nf4]
  refine st_call1 (v := (.string (str (l.take 2000)))) (by rfl) (o_run_call_8_1 (.tmp 14) rfl rfl _) (cut_calls l w) ?_
  intro w1 hb2
  simp only [nf0, nf1, nf2, nf3, nf4]
  replace bel := bl_step bel hb2
  clear hb2
  refine st_call (by rfl) (o_run_call_9_1 (.tmp 15) rfl rfl _) (all_calls (l := (l.take 2000)) (by omega) w1) ?_
  rintro _ w6 ⟨v3, rfl, O4, hf7⟩
  simp only [nf0, nf1, nf2, nf3, nf4]
  replace O4 := O4.lower bel.size
  replace bel := bl_step bel hf7
  clear hf7
  refine st_mv (.tuple #[v3, .int .i64 ((desA (l.take 2000)).2.1), .agg #[.int .i64 ((desP (l.take 2000)).1), .int .i64 ((desP (l.take 2000)).2.1), .int .i64 ((desP (l.take 2000)).2.2)]]) ?_
  simp only [nf0, nf1, nf2, nf3, nf4]
  refine st_mv v3 ?_
  simp only [nf0, nf1, nf2, nf3, nf4]
  refine st_mv (.int .i64 ((desA (l.take 2000)).2.1)) ?_
  simp only [nf0, nf1, nf2, nf3, nf4]
  refine st_mv (.agg #[.int .i64 ((desP (l.take 2000)).1), .int .i64 ((desP (l.take 2000)).2.1), .int .i64 ((desP (l.take 2000)).2.2)]) ?_
  simp only [nf0, nf1, nf2, nf3, nf4]
  refine st_new (cs := #[.int .i64 0, .int .i64 0, .int .i64 0]) (t := 26) (by rfl) (run_allocV rfl o_zero_26 _) ?_
  intro g8 w9 B10 hb11 lo12
  simp only [nf0, nf1, nf2, nf3, nf4]
  have n13 := O4.off lo12
  replace lo12 := low_le bel lo12
  replace O4 := O4.same hb11
  replace bel := bl_step bel hb11
  clear hb11
  refine st_mv v3 ?_
  simp only [nf0, nf1, nf2, nf3, nf4]
  refine st_mv (.int .i64 ((desA (l.take 2000)).2.1)) ?_
  simp only [nf0, nf1, nf2, nf3, nf4]
  refine st_row (by rfl) (run_storeW (.tmp 5) (.tmp 19) rfl (cs := #[.int .i64 ((desP (l.take 2000)).1), .int .i64 ((desP (l.take 2000)).2.1), .int .i64 ((desP (l.take 2000)).2.2)]) aggPl rfl rfl B10 rfl (by simp [Value.oneCell'])) B10 ?_
  intro w14 B16 hg15
  simp only [nf0, nf1, nf2, nf3, nf4]
  replace O4 := O4.keptB hg15 n13
  replace bel := bl_kept0 bel hg15 lo12
  clear hg15
  clear B10
  refine wpList_nil ?_
  show Code.wp _ _ _ _ _
  refine wp_seq ?_
  refine wp_seq ?_
  refine wp_region_lit ?_
  refine st_mv (.int .i64 ((desA (l.take 2000)).2.1)) ?_
  simp only [nf0, nf1, nf2, nf3, nf4]
  refine st_value (v := (.bool false)) (by rfl) ((run_neq_int (.tmp 20) (.const (.int .i64 0)) rfl rfl rfl w14).trans (by rw [decide_eq_true hE]; rfl)) ?_
  simp only [nf0, nf1, nf2, nf3, nf4]
  refine wpList_nil ?_
  show Code.wp _ _ _ _ _
  refine wp_cond_false rfl ?_
  refine wp_skip ?_
  show Code.wp _ _ _ _ _
  refine wp_seq ?_
  obtain ⟨A17, c18, hv19, h20, h21, h22, R23⟩ := O4.reads
  subst hv19
  refine wp_region_lit ?_
  refine st_mv (.slice A17 (desR (l.take 2000)).length c18) ?_
  simp only [nf0, nf1, nf2, nf3, nf4]
  refine st_call1 (v := (.string (str (spaced (desR (l.take 2000)))))) (by rfl) (o_run_call_19_1 (.tmp 28) rfl rfl _) (print_calls A17 (desR (l.take 2000)) c18 h20 (by omega) (by omega) w14 R23) ?_
  intro w24 hb25
  simp only [nf0, nf1, nf2, nf3, nf4]
  replace O4 := O4.same hb25
  replace B16 := B16.below hb25
  replace R23 := R23.same hb25
  replace bel := bl_step bel hb25
  clear hb25
  refine st_mv (.string (str (spaced (desR (l.take 2000))))) ?_
  simp only [nf0, nf1, nf2, nf3, nf4]
  refine wpList_nil ?_
  show Code.wp _ _ _ _ _
  refine wp_seq ?_
  refine wp_region_lit ?_
  refine st_mv (.string (str (spaced (desR (l.take 2000))))) ?_
  simp only [nf0, nf1, nf2, nf3, nf4]
  have hc29 := all_calls (l := (spaced (desR (l.take 2000)))) (by omega) w24
  rw [hq] at hc29
  refine st_call (by rfl) (o_run_call_9_1 (.tmp 31) rfl rfl _) hc29 ?_
  rintro _ w30 ⟨v26, rfl, O27, hf31⟩
  simp only [nf0, nf1, nf2, nf3, nf4]
  have n32 := O27.offLow2 O4
  have n33 := O27.offLow B16
  replace O27 := O27.lower bel.size
  replace O4 := O4.same hf31
  replace B16 := B16.below hf31
  replace R23 := R23.same hf31
  replace bel := bl_step bel hf31
  clear hf31
  refine st_mv (.tuple #[v26, .int .i64 0, .agg #[.int .i64 ((desP (spaced (desR (l.take 2000)))).1), .int .i64 ((desP (spaced (desR (l.take 2000)))).2.1), .int .i64 ((desP (spaced (desR (l.take 2000)))).2.2)]]) ?_
  simp only [nf0, nf1, nf2, nf3, nf4]
  refine st_mv v26 ?_
  simp only [nf0, nf1, nf2, nf3, nf4]
  refine st_mv (.int .i64 0) ?_
  simp only [nf0, nf1, nf2, nf3, nf4]
  refine st_mv (.agg #[.int .i64 ((desP (spaced (desR (l.take 2000)))).1), .int .i64 ((desP (spaced (desR (l.take 2000)))).2.1), .int .i64 ((desP (spaced (desR (l.take 2000)))).2.2)]) ?_
  simp only [nf0, nf1, nf2, nf3, nf4]
  refine st_new (cs := #[.int .i64 0, .int .i64 0, .int .i64 0]) (t := 26) (by rfl) (run_allocV rfl o_zero_26 _) ?_
  intro g34 w35 B36 hb37 lo38
  simp only [nf0, nf1, nf2, nf3, nf4]
  have n39 := O4.off lo38
  have n40 := B16.ne lo38
  have n41 := O27.off lo38
  replace lo38 := low_le bel lo38
  replace O4 := O4.same hb37
  replace B16 := B16.below hb37
  replace R23 := R23.same hb37
  replace O27 := O27.same hb37
  replace bel := bl_step bel hb37
  clear hb37
  refine st_mv v26 ?_
  simp only [nf0, nf1, nf2, nf3, nf4]
  refine st_mv (.int .i64 0) ?_
  simp only [nf0, nf1, nf2, nf3, nf4]
  refine st_row (by rfl) (run_storeW (.tmp 9) (.tmp 35) rfl (cs := #[.int .i64 ((desP (spaced (desR (l.take 2000)))).1), .int .i64 ((desP (spaced (desR (l.take 2000)))).2.1), .int .i64 ((desP (spaced (desR (l.take 2000)))).2.2)]) aggPl rfl rfl B36 rfl (by simp [Value.oneCell'])) B36 ?_
  intro w42 B44 hg43
  simp only [nf0, nf1, nf2, nf3, nf4]
  replace O4 := O4.keptB hg43 n39
  replace B16 := B16.kept hg43 n40
  replace O27 := O27.keptB hg43 n41
  replace bel := bl_kept0 bel hg43 lo38
  replace R23 := OwnR.rdE O4
  clear hg43
  clear B36
  refine wpList_nil ?_
  show Code.wp _ _ _ _ _
  refine wp_seq ?_
  refine wp_region_lit ?_
  refine st_mv (.string (str [])) ?_
  simp only [nf0, nf1, nf2, nf3, nf4]
  refine wpList_nil ?_
  show Code.wp _ _ _ _ _
  refine wp_seq ?_
  refine wp_seq ?_
  obtain ⟨A45, c46, hv47, h48, h49, h50, R51⟩ := O27.reads
  subst hv47
  refine wp_region_lit ?_
  refine st_mv (.slice A17 (desR (l.take 2000)).length c18) ?_
  simp only [nf0, nf1, nf2, nf3, nf4]
  refine st_value (v := (.int .i64 ((desR (l.take 2000)).length : Int))) (by rfl) (run_len (.tmp 36) rfl ⟨_, Try.underlying23⟩ rfl w42) ?_
  simp only [nf0, nf1, nf2, nf3, nf4]
  refine st_mv (.int .i64 0) ?_
  simp only [nf0, nf1, nf2, nf3, nf4]
  refine wpList_nil ?_
  show Code.wp _ _ _ _ _
  refine wp_block ?_
  refine wp_loop_left (fun n_ a_ wr_ => (fun J52 => ∃ (k : Nat), n_ = (desR (l.take 2000)).length - k ∧ a_ = ⟨#[.string (str l), J52 1, .bool false, .slice A17 (desR (l.take 2000)).length c18, .int .i64 ((desA (l.take 2000)).2.1), J52 5, .string (str (spaced (desR (l.take 2000)))), .slice A45 (desR (spaced (desR (l.take 2000)))).length c46, .int .i64 0, J52 9, .string (str (spaced ((desR (l.take 2000)).take k))), J52 11, J52 12, J52 13, J52 14, J52 15, J52 16, J52 17, J52 18, J52 19, J52 20, J52 21, J52 22, J52 23, J52 24, J52 25, J52 26, J52 27, J52 28, J52 29, J52 30, J52 31, J52 32, J52 33, J52 34, J52 35, .slice A17 (desR (l.take 2000)).length c18, .int .i64 ((desR (l.take 2000)).length : Int), .int .i64 (k : Int), J52 39, J52 40, J52 41, J52 42, J52 43, J52 44, J52 45, J52 46, J52 47, J52 48, J52 49, J52 50, J52 51, J52 52, J52 53, J52 54, J52 55, J52 56, J52 57, J52 58, J52 59, J52 60, J52 61, J52 62, J52 63, J52 64, J52 65, J52 66], []⟩ ∧ OwnR wr_ w.heap.size 33 eTok (.slice A17 (desR (l.take 2000)).length c18) (desR (l.take 2000)) ∧ Blk wr_ g8 #[.int .i64 ((desP (l.take 2000)).1), .int .i64 ((desP (l.take 2000)).2.1), .int .i64 ((desP (l.take 2000)).2.2)] 26 ∧ Reads wr_ A17 (Enc.all eTok (desR (l.take 2000))) ∧ OwnR wr_ w.heap.size 33 eTok (.slice A45 (desR (spaced (desR (l.take 2000)))).length c46) (desR (spaced (desR (l.take 2000)))) ∧ Blk wr_ g34 #[.int .i64 ((desP (spaced (desR (l.take 2000)))).1), .int .i64 ((desP (spaced (desR (l.take 2000)))).2.1), .int .i64 ((desP (spaced (desR (l.take 2000)))).2.2)] 26 ∧ Reads wr_ A45 (Enc.all eTok (desR (spaced (desR (l.take 2000))))) ∧ Off (.slice A17 (desR (l.take 2000)).length c18) g8 ∧ Off2 (.slice A17 (desR (l.take 2000)).length c18) (.slice A45 (desR (spaced (desR (l.take 2000)))).length c46) ∧ Off (.slice A17 (desR (l.take 2000)).length c18) g34 ∧ Off (.slice A45 (desR (spaced (desR (l.take 2000)))).length c46) g8 ∧ Off (.slice A45 (desR (spaced (desR (l.take 2000)))).length c46) g34 ∧ Below w.heap.size w wr_ ∧ (k ≤ (desR (l.take 2000)).length)) (jk a_)) ((desR (l.take 2000)).length - 0) ⟨0, rfl, rfl, O4, B16, R23, O27, B44, R51, n13, n32.symm, n39, n33, n41, bel, (Nat.zero_le _)⟩ ?_
  clear O4
  clear B16
  clear R23
  clear O27
  clear B44
  clear R51
  clear n13 n32 n33 n39 n41
  clear bel
  intro n_ a_ w58 h_
  revert h_
  generalize jk a_ = J52
  rintro ⟨k, hms, rfl, O4, B16, R23, O27, B44, R51, n53, n54, n55, n56, n57, bel, hk⟩
  refine wp_seq ?_
  refine wp_region_lit ?_
  refine st_value (v := (.bool (decide ((k : Int) < ((desR (l.take 2000)).length : Int))))) (by rfl) (run_lss (.tmp 38) (.tmp 37) rfl rfl rfl w58) ?_
  simp only [nf0, nf1, nf2, nf3, nf4]
  refine wpList_nil ?_
  show Code.wp _ _ _ _ _
  refine wp_seq ?_
  cases hg59 : decide ((k : Int) < ((desR (l.take 2000)).length : Int))
  · have hp60 := of_decide_eq_false hg59
    refine wp_cond_false rfl ?_
    refine wp_exit ?_
    show Code.wp _ _ _ _ _
    refine wp_seq ?_
    obtain rfl : k = (desR (l.take 2000)).length := by omega
    refine wp_region_lit ?_
    refine st_mv (.string (str (spaced (desR (l.take 2000))))) ?_
    simp only [nf0, nf1, nf2, nf3, nf4]
    refine st_mv (.string (str (spaced ((desR (l.take 2000)).take (desR (l.take 2000)).length)))) ?_
    simp only [nf0, nf1, nf2, nf3, nf4]
    refine st_value (v := (.bool true)) (by rfl) (run_eql_text_t (.tmp 52) (.tmp 53) rfl (l := (spaced (desR (l.take 2000)))) (m := (spaced ((desR (l.take 2000)).take (desR (l.take 2000)).length))) rfl rfl (by rw [List.take_length]) w58) ?_
    simp only [nf0, nf1, nf2, nf3, nf4]
    refine st_mv (.bool true) ?_
    simp only [nf0, nf1, nf2, nf3, nf4]
    refine st_mv (.int .i64 0) ?_
    simp only [nf0, nf1, nf2, nf3, nf4]
    refine st_value (v := (.bool true)) (by rfl) (run_eql_int_t (.tmp 56) (.const (.int .i64 0)) rfl rfl rfl rfl w58) ?_
    simp only [nf0, nf1, nf2, nf3, nf4]
    refine st_mv (.bool true) ?_
    simp only [nf0, nf1, nf2, nf3, nf4]
    refine st_mv (.bool true) ?_
    simp only [nf0, nf1, nf2, nf3, nf4]
    refine st_mv (.slice A17 (desR (l.take 2000)).length c18) ?_
    simp only [nf0, nf1, nf2, nf3, nf4]
    refine st_mv (.slice A45 (desR (spaced (desR (l.take 2000)))).length c46) ?_
    simp only [nf0, nf1, nf2, nf3, nf4]
    refine st_call1 (v := (.bool true)) (by rfl) (o_run_call_11_2 (.tmp 60) (.tmp 61) rfl rfl rfl _) (show Calls _ _ _ _ fun e w' => e = .returned (.bool true) ∧ Below w58.heap.size w58 w' from by have h := sameT_calls A17 A45 (desR (l.take 2000)) (desR (spaced (desR (l.take 2000)))) c18 c46 h20 h48 (by omega) (by omega) w58 R23 R51; rw [hali] at h; exact h) ?_
    intro w61 hb62
    simp only [nf0, nf1, nf2, nf3, nf4]
    replace O4 := O4.same hb62
    replace B16 := B16.below hb62
    replace R23 := R23.same hb62
    replace O27 := O27.same hb62
    replace B44 := B44.below hb62
    replace R51 := R51.same hb62
    replace bel := bl_step bel hb62
    clear hb62
    refine st_mv (.bool true) ?_
    simp only [nf0, nf1, nf2, nf3, nf4]
    refine st_mv (.bool true) ?_
    simp only [nf0, nf1, nf2, nf3, nf4]
    refine st_call1 (v := (.bool true)) (by rfl) (o_run_call_13_0  rfl  _) (descLives_calls w61) ?_
    intro w63 hb64
    simp only [nf0, nf1, nf2, nf3, nf4]
    replace O4 := O4.same hb64
    replace B16 := B16.below hb64
    replace R23 := R23.same hb64
    replace O27 := O27.same hb64
    replace B44 := B44.below hb64
    replace R51 := R51.same hb64
    replace bel := bl_step bel hb64
    clear hb64
    refine st_mv (.bool true) ?_
    simp only [nf0, nf1, nf2, nf3, nf4]
    refine st_mv (.bool true) ?_
    simp only [nf0, nf1, nf2, nf3, nf4]
    refine wpList_nil ?_
    show Code.wp _ _ _ _ _
    refine wp_ret ?_
    first | show bodyPost _ _ _ _ _ _ | (simp only [Exit.then, Exit.inBlock]; show bodyPost _ _ _ _ _ _)
    exact bodyPost_ret (results_tmp rfl _ _ _) rfl ⟨rfl, bel⟩
  have hp65 := of_decide_eq_true hg59
  refine wp_cond_true rfl ?_
  refine wp_skip ?_
  show Code.wp _ _ _ _ _
  refine wp_seq ?_
  refine wp_block ?_
  refine wp_seq ?_
  have hst := spaced_take (desR (l.take 2000)) k
  have htl := tok_len (xs := (desR (l.take 2000))) (k := k) (by omega)
  obtain ⟨b66, o67, rfl, _⟩ := R23.at_ (by rw [Enc.all_length]; exact Nat.mul_pos (by omega) (by decide))
  refine wp_region_lit ?_
  refine st_mv (.int .i64 (k : Int)) ?_
  simp only [nf0, nf1, nf2, nf3, nf4]
  refine st_value (v := (.pointer (some ⟨b66, o67 + k * 5, none⟩))) (by rfl) (run_indexAddrN (.tmp 36) (.tmp 38) rfl Try.underlying23 slTok.sz (i := k) rfl rfl (by omega) w58) ?_
  simp only [nf0, nf1, nf2, nf3, nf4]
  refine st_value (v := (.agg #[.int .i64 ((tokAt (desR (l.take 2000)) k).1), .string (str ((tokAt (desR (l.take 2000)) k).2.1)), .int .i64 ((tokAt (desR (l.take 2000)) k).2.2.1), .int .i64 ((tokAt (desR (l.take 2000)) k).2.2.2.1), .int .i64 ((tokAt (desR (l.take 2000)) k).2.2.2.2)])) (by rfl) (run_loadE (E := eTok) (.tmp 41) rfl aggTok rfl R23 (tokAt_get (by omega))) ?_
  simp only [nf0, nf1, nf2, nf3, nf4]
  refine st_new (cs := #[.int .i64 0, .string ⟨#[]⟩, .int .i64 0, .int .i64 0, .int .i64 0]) (t := 33) (by rfl) (run_allocV rfl o_zero_33 _) ?_
  intro g68 w69 B70 hb71 lo72
  simp only [nf0, nf1, nf2, nf3, nf4]
  have n73 := O4.off lo72
  have n74 := B16.ne lo72
  have n75 := O27.off lo72
  have n76 := B44.ne lo72
  replace lo72 := low_le bel lo72
  replace O4 := O4.same hb71
  replace B16 := B16.below hb71
  replace R23 := R23.same hb71
  replace O27 := O27.same hb71
  replace B44 := B44.below hb71
  replace R51 := R51.same hb71
  replace bel := bl_step bel hb71
  clear hb71
  refine st_mv (.int .i64 (k : Int)) ?_
  simp only [nf0, nf1, nf2, nf3, nf4]
  refine st_row (by rfl) (run_storeW (.tmp 12) (.tmp 42) rfl (cs := #[.int .i64 ((tokAt (desR (l.take 2000)) k).1), .string (str ((tokAt (desR (l.take 2000)) k).2.1)), .int .i64 ((tokAt (desR (l.take 2000)) k).2.2.1), .int .i64 ((tokAt (desR (l.take 2000)) k).2.2.2.1), .int .i64 ((tokAt (desR (l.take 2000)) k).2.2.2.2)]) aggTok rfl rfl B70 rfl (by simp [Value.oneCell'])) B70 ?_
  intro w77 B79 hg78
  simp only [nf0, nf1, nf2, nf3, nf4]
  replace O4 := O4.keptB hg78 n73
  replace B16 := B16.kept hg78 n74
  replace O27 := O27.keptB hg78 n75
  replace B44 := B44.kept hg78 n76
  replace bel := bl_kept0 bel hg78 lo72
  replace R23 := OwnR.rdE O4
  replace R51 := OwnR.rdE O27
  clear hg78
  clear B70
  refine wpList_nil ?_
  show Code.wp _ _ _ _ _
  refine wp_seq ?_
  refine wp_seq ?_
  refine wp_region_lit ?_
  refine st_mv (.int .i64 (k : Int)) ?_
  simp only [nf0, nf1, nf2, nf3, nf4]
  refine st_value (v := (.bool (decide (0 < (k : Int))))) (by rfl) (run_gtr (.tmp 43) (.const (.int .i64 0)) rfl rfl rfl w77) ?_
  simp only [nf0, nf1, nf2, nf3, nf4]
  refine wpList_nil ?_
  show Code.wp _ _ _ _ _
  cases hg80 : decide (0 < (k : Int))
  · have hp81 := of_decide_eq_false hg80
    refine wp_cond_false rfl ?_
    refine wp_skip ?_
    show Code.wp _ _ _ _ _
    refine wp_region_lit ?_
    refine st_mv (.string (str (spaced ((desR (l.take 2000)).take k)))) ?_
    simp only [nf0, nf1, nf2, nf3, nf4]
    refine st_value (v := (.pointer (some ⟨g68, 1, none⟩))) (by rfl) (run_fieldA (.tmp 12) rfl o_fld_33_1 rfl rfl w77) ?_
    simp only [nf0, nf1, nf2, nf3, nf4]
    refine st_value (v := (.string (str ((tokAt (desR (l.take 2000)) k).2.1)))) (by rfl) (run_loadB (.tmp 48) rfl o_one_9 rfl B79 rfl) ?_
    simp only [nf0, nf1, nf2, nf3, nf4]
    refine st_value (v := (.string (str ((spaced ((desR (l.take 2000)).take k)) ++ ((tokAt (desR (l.take 2000)) k).2.1))))) (by rfl) (run_add_text (.tmp 47) (.tmp 49) (l := (spaced ((desR (l.take 2000)).take k))) (m := ((tokAt (desR (l.take 2000)) k).2.1)) rfl rfl rfl (by (try simp only [List.length_append, List.length_cons, List.length_nil]); omega) w77) ?_
    simp only [nf0, nf1, nf2, nf3, nf4]
    refine st_mv (.string (str ((spaced ((desR (l.take 2000)).take k)) ++ ((tokAt (desR (l.take 2000)) k).2.1)))) ?_
    simp only [nf0, nf1, nf2, nf3, nf4]
    refine wpList_nil ?_
    show Code.wp _ _ _ _ _
    rw [← spaced_one (xs := (desR (l.take 2000))) (k := k) (by omega) (by omega)]
    refine wp_region_lit ?_
    refine st_value (v := (.int .i64 ((k : Int) + 1))) (by rfl) (run_add_in (.tmp 38) (.const (.int .i64 1)) rfl rfl rfl (by omega) w77) ?_
    simp only [nf0, nf1, nf2, nf3, nf4]
    refine st_mv (.int .i64 ((k : Int) + 1)) ?_
    simp only [nf0, nf1, nf2, nf3, nf4]
    refine wpList_nil ?_
    show ∃ m, m < _ ∧ _
    exact ⟨_, (by omega), (k + 1), rfl, rfl, O4, B16, R23, O27, B44, R51, n53, n54, n55, n56, n57, bel, (by omega)⟩
  have hp82 := of_decide_eq_true hg80
  refine wp_cond_true rfl ?_
  refine wp_region_lit ?_
  refine st_mv (.string (str (spaced ((desR (l.take 2000)).take k)))) ?_
  simp only [nf0, nf1, nf2, nf3, nf4]
  refine st_value (v := (.string (str ((spaced ((desR (l.take 2000)).take k)) ++ [32])))) (by rfl) (run_add_text (.tmp 45) (.const (.string ⟨#[32]⟩)) (l := (spaced ((desR (l.take 2000)).take k))) (m := [32]) rfl rfl rfl (by (try simp only [List.length_append, List.length_cons, List.length_nil]); omega) w77) ?_
  simp only [nf0, nf1, nf2, nf3, nf4]
  refine st_mv (.string (str ((spaced ((desR (l.take 2000)).take k)) ++ [32]))) ?_
  simp only [nf0, nf1, nf2, nf3, nf4]
  refine wpList_nil ?_
  show Code.wp _ _ _ _ _
  refine wp_region_lit ?_
  refine st_mv (.string (str ((spaced ((desR (l.take 2000)).take k)) ++ [32]))) ?_
  simp only [nf0, nf1, nf2, nf3, nf4]
  refine st_value (v := (.pointer (some ⟨g68, 1, none⟩))) (by rfl) (run_fieldA (.tmp 12) rfl o_fld_33_1 rfl rfl w77) ?_
  simp only [nf0, nf1, nf2, nf3, nf4]
  refine st_value (v := (.string (str ((tokAt (desR (l.take 2000)) k).2.1)))) (by rfl) (run_loadB (.tmp 48) rfl o_one_9 rfl B79 rfl) ?_
  simp only [nf0, nf1, nf2, nf3, nf4]
  refine st_value (v := (.string (str (((spaced ((desR (l.take 2000)).take k)) ++ [32]) ++ ((tokAt (desR (l.take 2000)) k).2.1))))) (by rfl) (run_add_text (.tmp 47) (.tmp 49) (l := ((spaced ((desR (l.take 2000)).take k)) ++ [32])) (m := ((tokAt (desR (l.take 2000)) k).2.1)) rfl rfl rfl (by (try simp only [List.length_append, List.length_cons, List.length_nil]); omega) w77) ?_
  simp only [nf0, nf1, nf2, nf3, nf4]
  refine st_mv (.string (str (((spaced ((desR (l.take 2000)).take k)) ++ [32]) ++ ((tokAt (desR (l.take 2000)) k).2.1)))) ?_
  simp only [nf0, nf1, nf2, nf3, nf4]
  refine wpList_nil ?_
  show Code.wp _ _ _ _ _
  rw [← spaced_more (xs := (desR (l.take 2000))) (k := k) (by omega) (by omega)]
  refine wp_region_lit ?_
  refine st_value (v := (.int .i64 ((k : Int) + 1))) (by rfl) (run_add_in (.tmp 38) (.const (.int .i64 1)) rfl rfl rfl (by omega) w77) ?_
  simp only [nf0, nf1, nf2, nf3, nf4]
  refine st_mv (.int .i64 ((k : Int) + 1)) ?_
  simp only [nf0, nf1, nf2, nf3, nf4]
  refine wpList_nil ?_
  show ∃ m, m < _ ∧ _
  exact ⟨_, (by omega), (k + 1), rfl, rfl, O4, B16, R23, O27, B44, R51, n53, n54, n55, n56, n57, bel, (by omega)⟩
theorem descBack_calls (l : List UInt8) (w : World) : Calls Try.prog 7 #[.string (str l)] w fun e w' => e = .returned (.bool true) ∧ Below w.heap.size w w' := by
  by_cases h : (desA (l.take 2000)).2.1 = 0
  · exact back_good l h w
  · exact back_bad l h w
end Go.Proofs.Ytkebpmcgmmhifaa

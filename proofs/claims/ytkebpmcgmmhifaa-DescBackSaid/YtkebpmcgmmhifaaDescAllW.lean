/- desc's All. -/
import Derived.Test.YtkebpmcgmmhifaaDescToken
namespace Go.Proofs.Ytkebpmcgmmhifaa
open Go.RowKit Go.WideShapes Go.ChangeShapes
set_option linter.unusedSimpArgs false
set_option linter.unusedVariables false

theorem e_zero_26 : ZeroOf Try.prog 26 #[.int .i64 0, .int .i64 0, .int .i64 0] := zeroOf (z := .agg #[.int .i64 0, .int .i64 0, .int .i64 0]) (by kernel_rfl) rfl
theorem e_fld_45_0 : FieldAt Try.prog 45 0 0 := fieldAt_of (s := 2) Try.underlying45 (by kernel_rfl)
theorem e_fld_43_0 : FieldAt Try.prog 43 0 0 := fieldAt_of (s := 0) Try.underlying43 (by kernel_rfl)
theorem e_one_3 : One Try.prog 3 := one_of Try.underlying3 rfl (by kernel_rfl)
theorem e_zero_33 : ZeroOf Try.prog 33 #[.int .i64 0, .string ⟨#[]⟩, .int .i64 0, .int .i64 0, .int .i64 0] := zeroOf (z := .agg #[.int .i64 0, .string ⟨#[]⟩, .int .i64 0, .int .i64 0, .int .i64 0]) (by kernel_rfl) rfl
theorem e_fld_33_2 : FieldAt Try.prog 33 2 2 := fieldAt_of (s := 2) Try.underlying33 (by kernel_rfl)
theorem e_run_call_20_1 {o : Oper} {a : Act} (x0 : Operand) {ts : Array TypeId} (ho : o.op = .call { callee := .value (.func 20), args := #[x0], argTypes := ts }) {v0 : Value} (h0 : a.eval x0 = v0) (W : World) : (execOp a.eval o).run Try.prog W = .ok (.enter 20 #[v0]) W := by
  unfold execOp
  simp only [ho]
  subst h0
  go_simp
theorem e_run_call_21_1 {o : Oper} {a : Act} (x0 : Operand) {ts : Array TypeId} (ho : o.op = .call { callee := .value (.func 21), args := #[x0], argTypes := ts }) {v0 : Value} (h0 : a.eval x0 = v0) (W : World) : (execOp a.eval o).run Try.prog W = .ok (.enter 21 #[v0]) W := by
  unfold execOp
  simp only [ho]
  subst h0
  go_simp
theorem e_run_lit_23_1 {o : Oper} {a : Act} (x0 : Operand) (ho : o.op = .buildSlice 23 1 #[(0, x0)]) {m0 : TTok} (h0 : a.eval x0 = .agg #[.int .i64 m0.1, .string (str m0.2.1), .int .i64 m0.2.2.1, .int .i64 m0.2.2.2.1, .int .i64 m0.2.2.2.2]) (W : World) : (execOp a.eval o).run Try.prog W = .ok (.value (.slice (some ⟨W.heap.size, 0, none⟩) 1 1)) (W.alloc (.cells #[.int .i64 m0.1, .string (str m0.2.1), .int .i64 m0.2.2.1, .int .i64 m0.2.2.2.1, .int .i64 m0.2.2.2.2] 33)) := by
  unfold execOp
  simp only [ho, List.map_toArray, List.map_cons, List.map_nil, h0]
  go_simp

attribute [local irreducible] Go.wpList Go.Code.wp
set_option maxRecDepth 100000 in
set_option maxHeartbeats 4000000 in
theorem all_calls {l : List UInt8} (hl6 : l.length ≤ 65536) (w : World) : Calls Try.prog 9 #[.string (str l)] w fun e w' => ∃ u, e = .returned u ∧ ∃ v, u = .tuple #[v, .int .i64 (desA l).2.1, .agg (ePl.enc (desP l)).toArray] ∧ OwnR w' w.heap.size 33 eTok v (desR l) ∧ Below w.heap.size w w' := by
  have bel : Below w.heap.size w w := Below.refl _ _
  have hl : l.length ≤ 1000000 := by omega
  go_enter Try.func9, Try.ntmps9
  refine wp_seq ?_
  refine wp_region_lit ?_
  have O1 : OwnR w w.heap.size 33 eTok (.slice none 0 0) [] := OwnR.nil _ _ _ _
  refine st_mv (.slice none 0 0) ?_
  simp only [nf0, nf1, nf2, nf3, nf4]
  refine st_mv (.int .i64 0) ?_
  simp only [nf0, nf1, nf2, nf3, nf4]
  refine st_new (cs := #[.int .i64 0, .int .i64 0, .int .i64 0]) (t := 26) (by rfl) (run_allocV rfl e_zero_26 _) ?_
  intro g3 w4 B5 hb6 lo7
  simp only [nf0, nf1, nf2, nf3, nf4]
  have n8 := O1.off lo7
  replace lo7 := low_le bel lo7
  replace O1 := O1.same hb6
  replace bel := bl_step bel hb6
  clear hb6
  refine wpList_nil ?_
  show Code.wp _ _ _ _ _
  refine wp_seq ?_
  refine wp_seq ?_
  refine wp_region_lit ?_
  refine st_mv (.string (str l)) ?_
  simp only [nf0, nf1, nf2, nf3, nf4]
  refine st_value (v := (.int .i64 (l.length : Int))) (by rfl) (run_len_text (.tmp 8) rfl Try.underlying9 (l := l) rfl w4) ?_
  simp only [nf0, nf1, nf2, nf3, nf4]
  refine st_value (v := (.bool (decide (65536 < (l.length : Int))))) (by rfl) (run_gtr (.tmp 9) (.const (.int .i64 65536)) rfl rfl rfl w4) ?_
  simp only [nf0, nf1, nf2, nf3, nf4]
  refine wpList_nil ?_
  show Code.wp _ _ _ _ _
  cases hg9 : decide (65536 < (l.length : Int))
  rotate_left
  · have hp78 := of_decide_eq_true hg9
    exfalso
    omega
  have hp10 := of_decide_eq_false hg9
  refine wp_cond_false rfl ?_
  refine wp_skip ?_
  show Code.wp _ _ _ _ _
  refine wp_seq ?_
  refine wp_region_lit ?_
  refine st_value (v := (.agg #[.int .i64 0, .int .i64 1, .int .i64 0])) (by rfl) (run_buildV rfl (by kernel_rfl) w4) ?_
  simp only [nf0, nf1, nf2, nf3, nf4]
  refine st_mv (.string (str l)) ?_
  simp only [nf0, nf1, nf2, nf3, nf4]
  refine st_value (v := (.agg #[.int .i64 0, .int .i64 1, .int .i64 0, .string (str l)])) (by rfl) (run_buildV rfl (by kernel_rfl) w4) ?_
  simp only [nf0, nf1, nf2, nf3, nf4]
  refine st_new (cs := #[.int .i64 0, .int .i64 1, .int .i64 0, .string (str l)]) (t := 45) (by rfl) (run_boxV (.tmp 15) rfl (v := (.agg #[.int .i64 0, .int .i64 1, .int .i64 0, .string (str l)])) rfl rfl _) ?_
  intro g11 w12 B13 hb14 lo15
  simp only [nf0, nf1, nf2, nf3, nf4]
  have n16 := O1.off lo15
  have n17 := B5.ne lo15
  replace lo15 := low_le bel lo15
  replace O1 := O1.same hb14
  replace B5 := B5.below hb14
  replace bel := bl_step bel hb14
  clear hb14
  refine st_mv (.pointer (some ⟨g11, 0, none⟩)) ?_
  simp only [nf0, nf1, nf2, nf3, nf4]
  refine wpList_nil ?_
  show Code.wp _ _ _ _ _
  refine wp_block ?_
  refine wp_loop_left (fun n_ a_ wr_ => (fun J18 => ∃ (i : Nat) (f : Nat) (xs : List TTok) (v : Value), n_ = l.length - i ∧ a_ = ⟨#[.string (str l), J18 1, v, J18 3, .pointer (some ⟨g3, 0, none⟩), .pointer (some ⟨g11, 0, none⟩), J18 6, J18 7, J18 8, J18 9, J18 10, J18 11, J18 12, J18 13, J18 14, J18 15, J18 16, J18 17, J18 18, J18 19, J18 20, J18 21, J18 22, J18 23, J18 24, J18 25, J18 26, J18 27, J18 28, J18 29, J18 30, J18 31, J18 32, J18 33, J18 34, J18 35, J18 36, J18 37, J18 38, J18 39, J18 40, J18 41, J18 42], []⟩ ∧ OwnR wr_ w.heap.size 33 eTok v xs ∧ Blk wr_ g3 #[.int .i64 0, .int .i64 0, .int .i64 0] 26 ∧ Blk wr_ g11 #[.int .i64 (i : Int), .int .i64 (((lnS l i).1 : Nat) : Int), .int .i64 (((lnS l i).2 : Nat) : Int), .string (str l)] 45 ∧ Off v g3 ∧ Off v g11 ∧ Below w.heap.size w wr_ ∧ (i ≤ l.length) ∧ (TK l f i xs)) (jk a_)) (l.length - 0) ⟨0, (l.length + 1), [], (.slice none 0 0), rfl, rfl, O1, B5, (by exact B13), n8, n16, bel, (Nat.zero_le _), (tk_start l)⟩ ?_
  clear O1
  clear B5
  clear B13
  clear n16 n8
  clear bel
  intro n_ a_ w21 h_
  revert h_
  generalize jk a_ = J18
  rintro ⟨i, f, xs, v, hms, rfl, O1, B5, B13, n19, n20, bel, hil, hT⟩
  refine wp_block ?_
  refine wp_seq ?_
  refine wp_region_lit ?_
  refine st_mv (.pointer (some ⟨g11, 0, none⟩)) ?_
  simp only [nf0, nf1, nf2, nf3, nf4]
  refine st_call (by rfl) (e_run_call_20_1 (.tmp 17) rfl rfl _) (gap_calls B13 (by omega) hl) ?_
  rintro u22 w29 ⟨j23, B24, ha25, hb26, hT27, hk28, hf30⟩
  simp only [nf0, nf1, nf2, nf3, nf4]
  replace O1 := O1.fr hf30 (of1 n20)
  replace B5 := B5.fr hf30 (ni1 n17)
  replace bel := bl_call bel hf30 (lo1 lo15)
  clear hf30
  clear B13
  refine wpList_nil ?_
  show Code.wp _ _ _ _ _
  refine wp_seq ?_
  refine wp_seq ?_
  obtain ⟨f2, hT2⟩ := hT27 _ _ hT
  refine wp_region_lit ?_
  refine st_mv (.pointer (some ⟨g11, 0, none⟩)) ?_
  simp only [nf0, nf1, nf2, nf3, nf4]
  refine st_value (v := (.pointer (some ⟨g11, 0, none⟩))) (by rfl) (run_check (.tmp 19) rfl rfl w29) ?_
  simp only [nf0, nf1, nf2, nf3, nf4]
  refine st_value (v := (.pointer (some ⟨g11, 0, none⟩))) (by rfl) (run_fieldA (.tmp 20) rfl e_fld_45_0 rfl rfl w29) ?_
  simp only [nf0, nf1, nf2, nf3, nf4]
  refine st_value (v := (.pointer (some ⟨g11, 0, none⟩))) (by rfl) (run_fieldA (.tmp 21) rfl e_fld_43_0 rfl rfl w29) ?_
  simp only [nf0, nf1, nf2, nf3, nf4]
  refine st_value (v := (.int .i64 (j23 : Int))) (by rfl) (run_loadB (.tmp 22) rfl e_one_3 rfl B24 rfl) ?_
  simp only [nf0, nf1, nf2, nf3, nf4]
  refine st_mv (.string (str l)) ?_
  simp only [nf0, nf1, nf2, nf3, nf4]
  refine st_value (v := (.int .i64 (l.length : Int))) (by rfl) (run_len_text (.tmp 24) rfl Try.underlying9 (l := l) rfl w29) ?_
  simp only [nf0, nf1, nf2, nf3, nf4]
  refine st_value (v := (.bool (decide ((j23 : Int) = (l.length : Int))))) (by rfl) (run_eql_int (.tmp 23) (.tmp 25) rfl rfl rfl w29) ?_
  simp only [nf0, nf1, nf2, nf3, nf4]
  refine wpList_nil ?_
  show Code.wp _ _ _ _ _
  cases hg31 : decide ((j23 : Int) = (l.length : Int))
  rotate_left
  · have hp74 := of_decide_eq_true hg31
    refine wp_cond_true rfl ?_
    refine wp_seq ?_
    refine wp_region_lit ?_
    refine st_mv v ?_
    simp only [nf0, nf1, nf2, nf3, nf4]
    refine st_value (v := (.agg #[.int .i64 0, .int .i64 0, .int .i64 0])) (by rfl) (run_buildV rfl (by kernel_rfl) w29) ?_
    simp only [nf0, nf1, nf2, nf3, nf4]
    refine st_mv v ?_
    simp only [nf0, nf1, nf2, nf3, nf4]
    refine st_mv (.int .i64 0) ?_
    simp only [nf0, nf1, nf2, nf3, nf4]
    refine st_row (by rfl) (run_storeW (.tmp 4) (.tmp 28) rfl (cs := #[.int .i64 0, .int .i64 0, .int .i64 0]) aggPl rfl rfl B5 rfl (by simp [Value.oneCell'])) B5 ?_
    intro w75 B77 hg76
    simp only [nf0, nf1, nf2, nf3, nf4]
    replace O1 := O1.keptB hg76 n19
    replace B24 := B24.kept hg76 n17.symm
    replace bel := bl_kept0 bel hg76 lo7
    clear hg76
    clear B5
    refine wpList_nil ?_
    show Code.wp _ _ _ _ _
    refine wp_ret ?_
    first | show bodyPost _ _ _ _ _ _ | (simp only [Exit.then, Exit.inBlock]; show bodyPost _ _ _ _ _ _)
    obtain ⟨hE, hX⟩ := tk_end hT2 (by omega)
    have hA : desA l = toksA l := by unfold desA; rw [if_neg (by omega)]
    have h0 : (desA l).2.1 = 0 := by rw [hA, hE]
    exact bodyPost_ret (results_t2agg rfl (cs := #[.int .i64 0, .int .i64 0, .int .i64 0]) aggPl (by rfl) B77) rfl ⟨_, rfl, _, by rw [h0, show desP l = (0, 0, 0) from by unfold desP; rw [if_pos h0]]; rfl, by unfold desR; rw [if_pos h0, hA, ← hX]; exact O1, bel⟩
  have hp32 := of_decide_eq_false hg31
  have hlt : j23 < l.length := by omega
  obtain ⟨hk6, hk7⟩ := hk28 hlt
  refine wp_cond_false rfl ?_
  refine wp_skip ?_
  show Code.wp _ _ _ _ _
  refine wp_seq ?_
  refine wp_region_lit ?_
  refine st_mv (.pointer (some ⟨g11, 0, none⟩)) ?_
  simp only [nf0, nf1, nf2, nf3, nf4]
  refine st_call (by rfl) (e_run_call_21_1 (.tmp 30) rfl rfl _) (token_calls B24 (by omega) hl) ?_
  rintro _ w37 ⟨t33, rfl, hp34, ht35, B36, hf38⟩
  simp only [nf0, nf1, nf2, nf3, nf4]
  replace O1 := O1.fr hf38 (of1 n20)
  replace B5 := B5.fr hf38 (ni1 n17)
  replace bel := bl_call bel hf38 (lo1 lo15)
  clear hf38
  clear B24
  refine st_mv (.tuple #[.agg #[.int .i64 t33.1, .string (str t33.2.1), .int .i64 t33.2.2.1, .int .i64 t33.2.2.2.1, .int .i64 t33.2.2.2.2], .int .i64 (terr l j23)]) ?_
  simp only [nf0, nf1, nf2, nf3, nf4]
  refine st_mv (.agg #[.int .i64 t33.1, .string (str t33.2.1), .int .i64 t33.2.2.1, .int .i64 t33.2.2.2.1, .int .i64 t33.2.2.2.2]) ?_
  simp only [nf0, nf1, nf2, nf3, nf4]
  refine st_mv (.int .i64 (terr l j23)) ?_
  simp only [nf0, nf1, nf2, nf3, nf4]
  refine st_new (cs := #[.int .i64 0, .string ⟨#[]⟩, .int .i64 0, .int .i64 0, .int .i64 0]) (t := 33) (by rfl) (run_allocV rfl e_zero_33 _) ?_
  intro g39 w40 B41 hb42 lo43
  simp only [nf0, nf1, nf2, nf3, nf4]
  have n44 := O1.off lo43
  have n45 := B5.ne lo43
  have n46 := B36.ne lo43
  replace lo43 := low_le bel lo43
  replace O1 := O1.same hb42
  replace B5 := B5.below hb42
  replace B36 := B36.below hb42
  replace bel := bl_step bel hb42
  clear hb42
  refine st_row (by rfl) (run_storeW (.tmp 6) (.tmp 32) rfl (cs := #[.int .i64 t33.1, .string (str t33.2.1), .int .i64 t33.2.2.1, .int .i64 t33.2.2.2.1, .int .i64 t33.2.2.2.2]) aggTok rfl rfl B41 rfl (by simp [Value.oneCell'])) B41 ?_
  intro w47 B49 hg48
  simp only [nf0, nf1, nf2, nf3, nf4]
  replace O1 := O1.keptB hg48 n44
  replace B5 := B5.kept hg48 n45
  replace B36 := B36.kept hg48 n46
  replace bel := bl_kept0 bel hg48 lo43
  clear hg48
  clear B41
  refine st_mv (.int .i64 (terr l j23)) ?_
  simp only [nf0, nf1, nf2, nf3, nf4]
  refine wpList_nil ?_
  show Code.wp _ _ _ _ _
  refine wp_seq ?_
  refine wp_seq ?_
  refine wp_region_lit ?_
  refine st_mv (.int .i64 (terr l j23)) ?_
  simp only [nf0, nf1, nf2, nf3, nf4]
  refine st_value (v := (.bool (!decide ((terr l j23) = 0)))) (by rfl) (run_neq_int (.tmp 34) (.const (.int .i64 0)) rfl rfl rfl w47) ?_
  simp only [nf0, nf1, nf2, nf3, nf4]
  refine wpList_nil ?_
  show Code.wp _ _ _ _ _
  cases hg50 : decide ((terr l j23) = 0)
  rotate_left
  · have hp56 := of_decide_eq_true hg50
    have he0 : terr l j23 = 0 := by assumption
    refine wp_cond_false rfl ?_
    refine wp_skip ?_
    show Code.wp _ _ _ _ _
    refine wp_region_lit ?_
    refine st_mv v ?_
    simp only [nf0, nf1, nf2, nf3, nf4]
    refine st_value (v := (.agg #[.int .i64 t33.1, .string (str t33.2.1), .int .i64 t33.2.2.1, .int .i64 t33.2.2.2.1, .int .i64 t33.2.2.2.2])) (by rfl) (run_loadW (.tmp 6) rfl (cs := #[.int .i64 t33.1, .string (str t33.2.1), .int .i64 t33.2.2.1, .int .i64 t33.2.2.2.1, .int .i64 t33.2.2.2.2]) aggTok rfl B49) ?_
    simp only [nf0, nf1, nf2, nf3, nf4]
    refine st_lit (by rfl) (e_run_lit_23_1 (.tmp 40) rfl (m0 := (t33.1, t33.2.1, (t33.2.2.1, t33.2.2.2.1, t33.2.2.2.2))) rfl _) ?_
    intro g57 w58 B59 hb60 lo61
    simp only [nf0, nf1, nf2, nf3, nf4]
    have n62 := O1.off lo61
    have n63 := B5.ne lo61
    have n64 := B36.ne lo61
    have n65 := B49.ne lo61
    replace lo61 := low_le bel lo61
    replace O1 := O1.same hb60
    replace B5 := B5.below hb60
    replace B36 := B36.below hb60
    replace B49 := B49.below hb60
    replace bel := bl_step bel hb60
    clear hb60
    refine st_append slTok rfl (.tmp 39) (.tmp 41) rfl rfl O1 ([(t33.1, t33.2.1, (t33.2.2.1, t33.2.2.2.1, t33.2.2.2.2))] : List TTok) rfl rfl B59 (by simp [Enc.all, eTok, ePl]) (by have := tk_len hT; simp only [List.length_cons, List.length_nil]; omega) bel.size ?_
    intro v66 w67 O68 hg69 hat70
    simp only [nf0, nf1, nf2, nf3, nf4]
    have n71 := (n19 : Off _ _).app B5 hat70
    replace B5 := B5.keptR hg69 n19
    have n72 := (n20 : Off _ _).app B36 hat70
    replace B36 := B36.keptR hg69 n20
    have n73 := (n44 : Off _ _).app B49 hat70
    replace B49 := B49.keptR hg69 n44
    replace bel := bl_app bel O1 hg69
    clear O1 hg69 hat70
    refine st_mv v66 ?_
    simp only [nf0, nf1, nf2, nf3, nf4]
    refine wpList_nil ?_
    show ∃ m, m < _ ∧ _
    exact ⟨_, (by have := wend_gt hlt; omega), (wend l j23), (f2 - 1), _, v66, rfl, rfl, O68, B5, B36, n71, n72, bel, (wend_le hlt), (by have h_ := tk_tok hT2 hlt hk6 hk7 he0; rw [← ht35 he0] at h_; exact h_)⟩
  have hp51 := of_decide_eq_false hg50
  have he0 : terr l j23 ≠ 0 := by assumption
  refine wp_cond_true rfl ?_
  refine wp_seq ?_
  refine wp_region_facts2_lit (C := Abv w47) 5 [.val (.int .i64 (terr l j23)), .val (.pointer (some ⟨g39, 2, none⟩)), .val (.agg #[.int .i64 t33.2.2.1, .int .i64 t33.2.2.2.1, .int .i64 t33.2.2.2.2]), .val (.slice none 0 0), .val (.int .i64 (terr l j23))] w47.heap.size (by kernel_rfl) (by simp) (by kernel_rfl) (by kernel_rfl) (fun _ h => h.size) (Abv.start _) ?_
  simp only [List.take_succ_cons, List.take_zero, List.drop_succ_cons, List.drop_zero]
  refine fst2_val (fun W hC hh => ok2_value (v := (.int .i64 (terr l j23))) (by rfl) (by rfl) rfl hC (G0.refl _)) ?_
  simp only [nf0, nf1, nf2, nf3, nf4]
  refine fst2_val (fun W hC hh => ok2_value (v := (.pointer (some ⟨g39, 2, none⟩))) (by rfl) (run_fieldA (.tmp 6) rfl e_fld_33_2 rfl rfl W) rfl hC (G0.refl _)) ?_
  simp only [nf0, nf1, nf2, nf3, nf4]
  refine fst2_val (fun W hC hh => ok2_value (v := (.agg #[.int .i64 t33.2.2.1, .int .i64 t33.2.2.2.1, .int .i64 t33.2.2.2.2])) (by rfl) (run_loadP (.tmp 37) rfl (vs := [.int .i64 t33.2.2.1, .int .i64 t33.2.2.2.1, .int .i64 t33.2.2.2.2]) aggPl rfl (B49.below hC) (by rfl)) rfl hC (G0.refl _)) ?_
  simp only [nf0, nf1, nf2, nf3, nf4]
  refine fst2_val (fun W hC hh => ok2_value (v := (.slice none 0 0)) (by rfl) (by rfl) rfl hC (G0.refl _)) ?_
  simp only [nf0, nf1, nf2, nf3, nf4]
  refine fst2_val (fun W hC hh => ok2_value (v := (.int .i64 (terr l j23))) (by rfl) (by rfl) rfl hC (G0.refl _)) ?_
  simp only [nf0, nf1, nf2, nf3, nf4]
  refine fst2_nil fun w52 hC hh hnd => ?_
  replace hC : Below w47.heap.size w47 w52 := hC
  clear hh hnd
  replace O1 := O1.same hC
  replace B5 := B5.below hC
  replace B36 := B36.below hC
  replace B49 := B49.below hC
  replace bel := bl_step bel hC
  clear hC
  refine st_row (by rfl) (run_storeW (.tmp 4) (.tmp 38) rfl (cs := #[.int .i64 t33.2.2.1, .int .i64 t33.2.2.2.1, .int .i64 t33.2.2.2.2]) aggPl rfl rfl B5 rfl (by simp [Value.oneCell'])) B5 ?_
  intro w53 B55 hg54
  simp only [nf0, nf1, nf2, nf3, nf4]
  replace O1 := O1.keptB hg54 n19
  replace B36 := B36.kept hg54 n17.symm
  replace B49 := B49.kept hg54 n45.symm
  replace bel := bl_kept0 bel hg54 lo7
  clear hg54
  clear B5
  refine wpList_nil ?_
  show Code.wp _ _ _ _ _
  refine wp_ret ?_
  first | show bodyPost _ _ _ _ _ _ | (simp only [Exit.then, Exit.inBlock]; show bodyPost _ _ _ _ _ _)
  have hE := tk_bad hT2 hlt hk6 hk7 he0
  have hA : desA l = toksA l := by unfold desA; rw [if_neg (by omega)]
  have h1 : (desA l).2.1 = terr l j23 := by rw [hA, hE]
  have h0 : ¬ (desA l).2.1 = 0 := by rw [h1]; exact he0
  have hP : desP l = t33.2.2 := by unfold desP; rw [if_neg h0, hA, hE, hp34]
  exact bodyPost_ret (results_t2agg rfl (cs := #[.int .i64 t33.2.2.1, .int .i64 t33.2.2.2.1, .int .i64 t33.2.2.2.2]) aggPl (by rfl) B55) rfl ⟨_, rfl, _, by rw [h1, hP]; rfl, by unfold desR; rw [if_neg h0]; exact OwnR.nil _ _ _ _, bel⟩
end Go.Proofs.Ytkebpmcgmmhifaa

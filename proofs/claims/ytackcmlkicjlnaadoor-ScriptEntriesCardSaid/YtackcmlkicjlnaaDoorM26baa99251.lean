/- Lemmas that the chapter's laws rest on: ScRefParse, ScriptEntriesWalk, OpenSc, ScriptEntries. -/
import Derived.Test.YtackcmlkicjlnaaDoorMa60e4da5a7
import Derived.ChangeMaps5
/- What the document reads of an entry's line. -/
namespace Go.Proofs.YtackcmlkicjlnaaDoor
open Go.RowKit Go.WideShapes Go.ChangeShapes
set_option linter.unusedSimpArgs false
set_option linter.unusedVariables false

theorem f_zero_24 : ZeroOf Tryd.prog 24 #[.int .i64 0, .int .i64 0, .int .i64 0, .int .i64 0, .int .u64 0] := zeroOf (z := .agg #[.int .i64 0, .int .i64 0, .int .i64 0, .int .i64 0, .int .u64 0]) (by kernel_rfl) rfl
theorem f_fld_24_4 : FieldAt Tryd.prog 24 4 4 := fieldAt_of (s := 0) Tryd.underlying24 (by kernel_rfl)
theorem f_one_22 : One Tryd.prog 22 := one_of Tryd.underlying22 rfl (by kernel_rfl)
theorem f_fld_24_3 : FieldAt Tryd.prog 24 3 3 := fieldAt_of (s := 0) Tryd.underlying24 (by kernel_rfl)
theorem f_one_3 : One Tryd.prog 3 := one_of Tryd.underlying3 rfl (by kernel_rfl)
theorem f_fld_24_2 : FieldAt Tryd.prog 24 2 2 := fieldAt_of (s := 0) Tryd.underlying24 (by kernel_rfl)
theorem f_fld_24_1 : FieldAt Tryd.prog 24 1 1 := fieldAt_of (s := 0) Tryd.underlying24 (by kernel_rfl)
theorem f_run_call_8_1 {o : Oper} {a : Act} (x0 : Operand) {ts : Array TypeId} (ho : o.op = .call { callee := .value (.func 8), args := #[x0], argTypes := ts }) {v0 : Value} (h0 : a.eval x0 = v0) (W : World) : (execOp a.eval o).run Tryd.prog W = .ok (.enter 8 #[v0]) W := by
  unfold execOp
  simp only [ho]
  subst h0
  go_simp
theorem f_run_call_10_1 {o : Oper} {a : Act} (x0 : Operand) {ts : Array TypeId} (ho : o.op = .call { callee := .value (.func 10), args := #[x0], argTypes := ts }) {v0 : Value} (h0 : a.eval x0 = v0) (W : World) : (execOp a.eval o).run Tryd.prog W = .ok (.enter 10 #[v0]) W := by
  unfold execOp
  simp only [ho]
  subst h0
  go_simp
theorem f_run_call_13_1 {o : Oper} {a : Act} (x0 : Operand) {ts : Array TypeId} (ho : o.op = .call { callee := .value (.func 13), args := #[x0], argTypes := ts }) {v0 : Value} (h0 : a.eval x0 = v0) (W : World) : (execOp a.eval o).run Tryd.prog W = .ok (.enter 13 #[v0]) W := by
  unfold execOp
  simp only [ho]
  subst h0
  go_simp
theorem f_run_call_14_1 {o : Oper} {a : Act} (x0 : Operand) {ts : Array TypeId} (ho : o.op = .call { callee := .value (.func 14), args := #[x0], argTypes := ts }) {v0 : Value} (h0 : a.eval x0 = v0) (W : World) : (execOp a.eval o).run Tryd.prog W = .ok (.enter 14 #[v0]) W := by
  unfold execOp
  simp only [ho]
  subst h0
  go_simp

attribute [local irreducible] Go.wpList Go.Code.wp
set_option maxRecDepth 100000 in
set_option maxHeartbeats 4000000 in
theorem refSParse_calls (l : List UInt8) (hl : l.length ≤ 100000) (w : World) : Calls Tryd.prog 6 #[.string (str l)] w fun e w' => e = .returned (.tuple #[.agg (eEnt.enc (pS l).1).toArray, .bool (pS l).2]) ∧ Below w.heap.size w w' := by
  have bel : Below w.heap.size w w := Below.refl _ _
  go_enter Tryd.func6, Tryd.ntmps6
  refine wp_seq ?_
  refine wp_region_lit ?_
  refine st_new (cs := #[.int .i64 0, .int .i64 0, .int .i64 0, .int .i64 0, .int .u64 0]) (t := 24) (by rfl) (run_allocV rfl f_zero_24 _) ?_
  intro g1 w2 B3 hb4 lo5
  simp only [nf0, nf1, nf2, nf3, nf4]
  replace lo5 := low_le bel lo5
  replace bel := bl_step bel hb4
  clear hb4
  refine st_mv (.bool false) ?_
  simp only [nf0, nf1, nf2, nf3, nf4]
  refine wpList_nil ?_
  show Code.wp _ _ _ _ _
  refine wp_seq ?_
  refine wp_seq ?_
  refine wp_region_lit ?_
  refine st_mv (.int .i64 1) ?_
  simp only [nf0, nf1, nf2, nf3, nf4]
  refine wpList_nil ?_
  show Code.wp _ _ _ _ _
  refine wp_block ?_
  refine wp_loop_left (fun n_ a_ wr_ => (fun J6 => ∃ (k : Nat), n_ = 16 - k ∧ a_ = ⟨#[.string (str l), J6 1, .pointer (some ⟨g1, 0, none⟩), J6 3, .int .i64 (k : Int), J6 5, J6 6, J6 7, J6 8, J6 9, J6 10, J6 11, J6 12, J6 13, J6 14, J6 15, J6 16, J6 17, J6 18, J6 19, J6 20, J6 21, J6 22, J6 23, J6 24, J6 25, J6 26, J6 27, J6 28, J6 29, J6 30, J6 31, J6 32, J6 33, J6 34, J6 35, J6 36, J6 37, J6 38, J6 39, J6 40, J6 41, J6 42, J6 43, J6 44, J6 45, J6 46, J6 47, J6 48, J6 49, J6 50, J6 51, J6 52, J6 53, J6 54, J6 55, J6 56, J6 57, J6 58, J6 59, J6 60, J6 61, J6 62, J6 63, J6 64, J6 65, J6 66, J6 67, J6 68, J6 69, J6 70, J6 71, J6 72, J6 73, J6 74, J6 75, J6 76, J6 77, J6 78, J6 79, J6 80, J6 81, J6 82, J6 83, J6 84, J6 85, J6 86], []⟩ ∧ Blk wr_ g1 #[.int .i64 0, .int .i64 0, .int .i64 0, .int .i64 0, .int .u64 0] 24 ∧ Below w.heap.size w wr_ ∧ (1 ≤ k ∧ k ≤ 16) ∧ (∀ e, okS e → prS e = l → (k : Int) ≤ e.1)) (jk a_)) (16 - 1) ⟨1, rfl, rfl, B3, bel, (by omega), (fun e he _ => he.1.1)⟩ ?_
  clear B3
  clear bel
  intro n_ a_ w7 h_
  revert h_
  generalize jk a_ = J6
  rintro ⟨k, hms, rfl, B3, bel, hk0, hN⟩
  have hnl := nmS_len (k : Int)
  have hsl := (shS_ok (k : Int)).1
  refine wp_seq ?_
  refine wp_seq ?_
  refine wp_region_lit ?_
  refine st_mv (.int .i64 (k : Int)) ?_
  simp only [nf0, nf1, nf2, nf3, nf4]
  refine st_value (v := (.bool (decide ((k : Int) ≤ 15)))) (by rfl) (run_leq (.tmp 12) (.const (.int .i64 15)) rfl rfl rfl w7) ?_
  simp only [nf0, nf1, nf2, nf3, nf4]
  refine wpList_nil ?_
  show Code.wp _ _ _ _ _
  cases hg8 : decide ((k : Int) ≤ 15)
  · have hp9 := of_decide_eq_false hg8
    refine wp_cond_false rfl ?_
    refine wp_exit ?_
    show Code.wp _ _ _ _ _
    refine wp_seq ?_
    refine wp_region_lit ?_
    refine st_value (v := (.agg #[.int .i64 0, .int .i64 0, .int .i64 0, .int .i64 0, .int .u64 0])) (by rfl) (run_buildV rfl (by kernel_rfl) w7) ?_
    simp only [nf0, nf1, nf2, nf3, nf4]
    refine st_row (by rfl) (run_storeW (.tmp 2) (.tmp 86) rfl (cs := #[.int .i64 0, .int .i64 0, .int .i64 0, .int .i64 0, .int .u64 0]) aggEnt rfl rfl B3 rfl (by simp [Value.oneCell'])) B3 ?_
    intro w10 B12 hg11
    simp only [nf0, nf1, nf2, nf3, nf4]
    replace bel := bl_kept0 bel hg11 lo5
    clear hg11
    clear B3
    refine st_mv (.bool false) ?_
    simp only [nf0, nf1, nf2, nf3, nf4]
    refine wpList_nil ?_
    show Code.wp _ _ _ _ _
    refine wp_ret ?_
    first | show bodyPost _ _ _ _ _ _ | (simp only [Exit.then, Exit.inBlock]; show bodyPost _ _ _ _ _ _)
    have hE : pS l = ((0, 0, 0, 0, 0), false) := pS_no fun e he hl_ => by have h1_ := hN e he hl_; have h2_ := he.1.2; omega
    exact bodyPost_ret (results_agg1t rfl (cs := #[.int .i64 0, .int .i64 0, .int .i64 0, .int .i64 0, .int .u64 0]) aggEnt (by rfl) B12) rfl ⟨by rw [hE]; rfl, bel⟩
  have hp13 := of_decide_eq_true hg8
  refine wp_cond_true rfl ?_
  refine wp_skip ?_
  show Code.wp _ _ _ _ _
  refine wp_seq ?_
  refine wp_block ?_
  refine wp_seq ?_
  refine wp_region_lit ?_
  refine st_mv (.int .i64 (k : Int)) ?_
  simp only [nf0, nf1, nf2, nf3, nf4]
  refine st_call1 (v := (.string (str (nmS (k : Int))))) (by rfl) (f_run_call_10_1 (.tmp 16) rfl rfl _) (refSName_calls (k : Int) w7) ?_
  intro w14 hb15
  simp only [nf0, nf1, nf2, nf3, nf4]
  replace B3 := B3.below hb15
  replace bel := bl_step bel hb15
  clear hb15
  refine st_mv (.string (str (nmS (k : Int)))) ?_
  simp only [nf0, nf1, nf2, nf3, nf4]
  refine wpList_nil ?_
  show Code.wp _ _ _ _ _
  refine wp_seq ?_
  refine wp_seq ?_
  cases hg16 : decide ((l.length : Int) < ((nmS (k : Int)).length : Int))
  rotate_left
  · have hp87 := of_decide_eq_true hg16
    refine wp_region_lit ?_
    refine st_mv (.string (str l)) ?_
    simp only [nf0, nf1, nf2, nf3, nf4]
    refine st_value (v := (.int .i64 (l.length : Int))) (by rfl) (run_len_text (.tmp 18) rfl Tryd.underlying9 (l := l) rfl w14) ?_
    simp only [nf0, nf1, nf2, nf3, nf4]
    refine st_mv (.string (str (nmS (k : Int)))) ?_
    simp only [nf0, nf1, nf2, nf3, nf4]
    refine st_value (v := (.int .i64 ((nmS (k : Int)).length : Int))) (by rfl) (run_len_text (.tmp 20) rfl Tryd.underlying9 (l := (nmS (k : Int))) rfl w14) ?_
    simp only [nf0, nf1, nf2, nf3, nf4]
    refine st_value (v := (.bool true)) (by rfl) ((run_lss (.tmp 19) (.tmp 21) rfl rfl rfl w14).trans (by rw [hg16])) ?_
    simp only [nf0, nf1, nf2, nf3, nf4]
    refine st_mv (.bool true) ?_
    simp only [nf0, nf1, nf2, nf3, nf4]
    refine st_nob (j := 5) (t := 23) (c := true) rfl rfl rfl rfl rfl ?_
    simp only [nf0, nf1, nf2, nf3, nf4]
    refine st_nob (j := 5) (t := 23) (c := true) rfl rfl rfl rfl rfl ?_
    simp only [nf0, nf1, nf2, nf3, nf4]
    refine st_nob (j := 5) (t := 23) (c := true) rfl rfl rfl rfl rfl ?_
    simp only [nf0, nf1, nf2, nf3, nf4]
    refine st_nob (j := 5) (t := 23) (c := true) rfl rfl rfl rfl rfl ?_
    simp only [nf0, nf1, nf2, nf3, nf4]
    refine st_nob (j := 5) (t := 23) (c := true) rfl rfl rfl rfl rfl ?_
    simp only [nf0, nf1, nf2, nf3, nf4]
    refine st_nob (j := 5) (t := 23) (c := true) rfl rfl rfl rfl rfl ?_
    simp only [nf0, nf1, nf2, nf3, nf4]
    refine st_mv (.bool true) ?_
    simp only [nf0, nf1, nf2, nf3, nf4]
    refine wpList_nil ?_
    show Code.wp _ _ _ _ _
    refine wp_cond_true rfl ?_
    refine wp_exit ?_
    show Code.wp _ _ _ _ _
    refine wp_region_lit ?_
    refine st_mv (.int .i64 (k : Int)) ?_
    simp only [nf0, nf1, nf2, nf3, nf4]
    refine st_value (v := (.int .i64 ((k : Int) + 1))) (by rfl) (run_add_in (.tmp 14) (.const (.int .i64 1)) rfl rfl rfl (by omega) w14) ?_
    simp only [nf0, nf1, nf2, nf3, nf4]
    refine st_mv (.int .i64 ((k : Int) + 1)) ?_
    simp only [nf0, nf1, nf2, nf3, nf4]
    refine wpList_nil ?_
    show ∃ m, m < _ ∧ _
    exact ⟨_, (by omega), (k + 1), rfl, rfl, B3, bel, (by omega), (pastS hN (mtS_pre (by rintro ⟨h1_, h2_⟩; first | contradiction | omega)))⟩
  have hp17 := of_decide_eq_false hg16
  refine wp_region_lit ?_
  refine st_mv (.string (str l)) ?_
  simp only [nf0, nf1, nf2, nf3, nf4]
  refine st_value (v := (.int .i64 (l.length : Int))) (by rfl) (run_len_text (.tmp 18) rfl Tryd.underlying9 (l := l) rfl w14) ?_
  simp only [nf0, nf1, nf2, nf3, nf4]
  refine st_mv (.string (str (nmS (k : Int)))) ?_
  simp only [nf0, nf1, nf2, nf3, nf4]
  refine st_value (v := (.int .i64 ((nmS (k : Int)).length : Int))) (by rfl) (run_len_text (.tmp 20) rfl Tryd.underlying9 (l := (nmS (k : Int))) rfl w14) ?_
  simp only [nf0, nf1, nf2, nf3, nf4]
  refine st_value (v := (.bool false)) (by rfl) ((run_lss (.tmp 19) (.tmp 21) rfl rfl rfl w14).trans (by rw [hg16])) ?_
  simp only [nf0, nf1, nf2, nf3, nf4]
  refine st_mv (.bool false) ?_
  simp only [nf0, nf1, nf2, nf3, nf4]
  refine st_mv (.string (str l)) ?_
  simp only [nf0, nf1, nf2, nf3, nf4]
  refine st_mv (.string (str (nmS (k : Int)))) ?_
  simp only [nf0, nf1, nf2, nf3, nf4]
  refine st_value (v := (.int .i64 ((nmS (k : Int)).length : Int))) (by rfl) (run_len_text (.tmp 25) rfl Tryd.underlying9 (l := (nmS (k : Int))) rfl w14) ?_
  simp only [nf0, nf1, nf2, nf3, nf4]
  refine st_value (v := (.string (str (l.take ((nmS (k : Int)).length))))) (by rfl) (run_to_text (.tmp 24) (.tmp 26) rfl Tryd.underlying9 (l := l) (q := ((nmS (k : Int)).length)) rfl rfl (by omega) (by omega) w14) ?_
  simp only [nf0, nf1, nf2, nf3, nf4]
  refine st_mv (.string (str (nmS (k : Int)))) ?_
  simp only [nf0, nf1, nf2, nf3, nf4]
  refine st_value (v := (.bool (!decide ((l.take ((nmS (k : Int)).length)) = (nmS (k : Int)))))) (by rfl) (run_neq_text (.tmp 27) (.tmp 28) (l := (l.take ((nmS (k : Int)).length))) (m := (nmS (k : Int))) rfl rfl rfl w14) ?_
  simp only [nf0, nf1, nf2, nf3, nf4]
  refine st_mv (.bool (!decide ((l.take ((nmS (k : Int)).length)) = (nmS (k : Int))))) ?_
  simp only [nf0, nf1, nf2, nf3, nf4]
  refine wpList_nil ?_
  show Code.wp _ _ _ _ _
  cases hg18 : decide ((l.take ((nmS (k : Int)).length)) = (nmS (k : Int)))
  · have hp19 := of_decide_eq_false hg18
    refine wp_cond_true rfl ?_
    refine wp_exit ?_
    show Code.wp _ _ _ _ _
    refine wp_region_lit ?_
    refine st_mv (.int .i64 (k : Int)) ?_
    simp only [nf0, nf1, nf2, nf3, nf4]
    refine st_value (v := (.int .i64 ((k : Int) + 1))) (by rfl) (run_add_in (.tmp 14) (.const (.int .i64 1)) rfl rfl rfl (by omega) w14) ?_
    simp only [nf0, nf1, nf2, nf3, nf4]
    refine st_mv (.int .i64 ((k : Int) + 1)) ?_
    simp only [nf0, nf1, nf2, nf3, nf4]
    refine wpList_nil ?_
    show ∃ m, m < _ ∧ _
    exact ⟨_, (by omega), (k + 1), rfl, rfl, B3, bel, (by omega), (pastS hN (mtS_pre (by rintro ⟨h1_, h2_⟩; first | contradiction | omega)))⟩
  have hp20 := of_decide_eq_true hg18
  refine wp_cond_false rfl ?_
  refine wp_skip ?_
  show Code.wp _ _ _ _ _
  refine wp_seq ?_
  refine wp_region_lit ?_
  refine st_mv (.int .i64 (k : Int)) ?_
  simp only [nf0, nf1, nf2, nf3, nf4]
  refine st_value (v := (.agg #[.int .i64 (k : Int), .int .i64 0, .int .i64 0, .int .i64 0, .int .u64 0])) (by rfl) (run_buildV rfl (by kernel_rfl) w14) ?_
  simp only [nf0, nf1, nf2, nf3, nf4]
  refine st_new (cs := #[.int .i64 0, .int .i64 0, .int .i64 0, .int .i64 0, .int .u64 0]) (t := 24) (by rfl) (run_allocV rfl f_zero_24 _) ?_
  intro g21 w22 B23 hb24 lo25
  simp only [nf0, nf1, nf2, nf3, nf4]
  have n26 := B3.ne lo25
  replace lo25 := low_le bel lo25
  replace B3 := B3.below hb24
  replace bel := bl_step bel hb24
  clear hb24
  refine st_row (by rfl) (run_storeW (.tmp 6) (.tmp 32) rfl (cs := #[.int .i64 (k : Int), .int .i64 0, .int .i64 0, .int .i64 0, .int .u64 0]) aggEnt rfl rfl B23 rfl (by simp [Value.oneCell'])) B23 ?_
  intro w27 B29 hg28
  simp only [nf0, nf1, nf2, nf3, nf4]
  replace B3 := B3.kept hg28 n26
  replace bel := bl_kept0 bel hg28 lo25
  clear hg28
  clear B23
  refine wpList_nil ?_
  show Code.wp _ _ _ _ _
  refine wp_seq ?_
  refine wp_region_lit ?_
  refine st_mv (.string (str (nmS (k : Int)))) ?_
  simp only [nf0, nf1, nf2, nf3, nf4]
  refine st_value (v := (.int .i64 ((nmS (k : Int)).length : Int))) (by rfl) (run_len_text (.tmp 33) rfl Tryd.underlying9 (l := (nmS (k : Int))) rfl w27) ?_
  simp only [nf0, nf1, nf2, nf3, nf4]
  refine st_mv (.int .i64 ((nmS (k : Int)).length : Int)) ?_
  simp only [nf0, nf1, nf2, nf3, nf4]
  refine wpList_nil ?_
  show Code.wp _ _ _ _ _
  refine wp_seq ?_
  refine wp_region_lit ?_
  refine st_mv (.int .i64 (k : Int)) ?_
  simp only [nf0, nf1, nf2, nf3, nf4]
  refine st_call1 (v := (.string (str (shS (k : Int))))) (by rfl) (f_run_call_13_1 (.tmp 35) rfl rfl _) (sshape_calls (k : Int) w27) ?_
  intro w30 hb31
  simp only [nf0, nf1, nf2, nf3, nf4]
  replace B3 := B3.below hb31
  replace B29 := B29.below hb31
  replace bel := bl_step bel hb31
  clear hb31
  refine st_mv (.string (str (shS (k : Int)))) ?_
  simp only [nf0, nf1, nf2, nf3, nf4]
  refine wpList_nil ?_
  show Code.wp _ _ _ _ _
  refine wp_seq ?_
  refine wp_seq ?_
  refine wp_region_lit ?_
  refine st_mv (.int .i64 0) ?_
  simp only [nf0, nf1, nf2, nf3, nf4]
  refine wpList_nil ?_
  show Code.wp _ _ _ _ _
  refine wp_block ?_
  have hk : knS (k : Int) := by unfold knS; omega
  refine wp_loop_left (fun n_ a_ wr_ => (fun J32 => ∃ (i : Nat) (p : Nat) (a : Int) (b : Int) (c : Int) (d : Int), n_ = (shS (k : Int)).length - i ∧ a_ = ⟨#[.string (str l), J32 1, .pointer (some ⟨g1, 0, none⟩), J6 3, .int .i64 (k : Int), J32 5, .pointer (some ⟨g21, 0, none⟩), .int .i64 (p : Int), .string (str (shS (k : Int))), .int .i64 (i : Int), J32 10, J32 11, J32 12, J32 13, J32 14, J32 15, J32 16, J32 17, J32 18, J32 19, J32 20, J32 21, J32 22, J32 23, J32 24, J32 25, J32 26, J32 27, J32 28, J32 29, J32 30, J32 31, J32 32, J32 33, J32 34, J32 35, J32 36, J32 37, J32 38, J32 39, J32 40, J32 41, J32 42, J32 43, J32 44, J32 45, J32 46, J32 47, J32 48, J32 49, J32 50, J32 51, J32 52, J32 53, J32 54, J32 55, J32 56, J32 57, J32 58, J32 59, J32 60, J32 61, J32 62, J32 63, J32 64, J32 65, J32 66, J32 67, J32 68, J32 69, J32 70, J32 71, J32 72, J32 73, J32 74, J32 75, J32 76, J32 77, J32 78, J32 79, J32 80, J32 81, J32 82, J32 83, J32 84, J32 85, J32 86], []⟩ ∧ Blk wr_ g1 #[.int .i64 0, .int .i64 0, .int .i64 0, .int .i64 0, .int .u64 0] 24 ∧ Blk wr_ g21 #[.int .i64 (k : Int), .int .i64 a, .int .i64 b, .int .i64 c, .int .u64 d] 24 ∧ Below w.heap.size w wr_ ∧ (i ≤ (shS (k : Int)).length) ∧ (p ≤ l.length) ∧ (MtS l (k : Int) p i ((k : Int), a, b, c, d))) (jk a_)) ((shS (k : Int)).length - 0) ⟨0, (nmS (k : Int)).length, 0, 0, 0, 0, rfl, rfl, B3, B29, bel, (Nat.zero_le _), (by omega), (mtS_start l hk)⟩ ?_
  clear B3
  clear B29
  clear bel
  intro n_ a_ w33 h_
  revert h_
  generalize jk a_ = J32
  rintro ⟨i, p, a, b, c, d, hms, rfl, B3, B29, bel, hi, hp, hm⟩
  refine wp_seq ?_
  refine wp_seq ?_
  cases hg34 : decide ((i : Int) < ((shS (k : Int)).length : Int))
  · have hp35 := of_decide_eq_false hg34
    refine wp_region_lit ?_
    refine st_mv (.int .i64 (i : Int)) ?_
    simp only [nf0, nf1, nf2, nf3, nf4]
    refine st_mv (.string (str (shS (k : Int)))) ?_
    simp only [nf0, nf1, nf2, nf3, nf4]
    refine st_value (v := (.int .i64 ((shS (k : Int)).length : Int))) (by rfl) (run_len_text (.tmp 38) rfl Tryd.underlying9 (l := (shS (k : Int))) rfl w33) ?_
    simp only [nf0, nf1, nf2, nf3, nf4]
    refine st_value (v := (.bool false)) (by rfl) ((run_lss (.tmp 37) (.tmp 39) rfl rfl rfl w33).trans (by rw [hg34])) ?_
    simp only [nf0, nf1, nf2, nf3, nf4]
    refine st_mv (.bool false) ?_
    simp only [nf0, nf1, nf2, nf3, nf4]
    refine st_nob (j := 4) (t := 41) (c := false) rfl rfl rfl rfl rfl ?_
    simp only [nf0, nf1, nf2, nf3, nf4]
    refine st_nob (j := 4) (t := 41) (c := false) rfl rfl rfl rfl rfl ?_
    simp only [nf0, nf1, nf2, nf3, nf4]
    refine st_nob (j := 4) (t := 41) (c := false) rfl rfl rfl rfl rfl ?_
    simp only [nf0, nf1, nf2, nf3, nf4]
    refine st_nob (j := 4) (t := 41) (c := false) rfl rfl rfl rfl rfl ?_
    simp only [nf0, nf1, nf2, nf3, nf4]
    refine st_mv (.bool false) ?_
    simp only [nf0, nf1, nf2, nf3, nf4]
    refine wpList_nil ?_
    show Code.wp _ _ _ _ _
    refine wp_cond_false rfl ?_
    refine wp_exit ?_
    show Code.wp _ _ _ _ _
    refine wp_seq ?_
    refine wp_region_lit ?_
    refine st_value (v := (.agg #[.int .i64 (k : Int), .int .i64 a, .int .i64 b, .int .i64 c, .int .u64 d])) (by rfl) (run_loadW (.tmp 6) rfl (cs := #[.int .i64 (k : Int), .int .i64 a, .int .i64 b, .int .i64 c, .int .u64 d]) aggEnt rfl B29) ?_
    simp only [nf0, nf1, nf2, nf3, nf4]
    refine st_call1 (v := (.string (str (prS (((k : Int), a, b, c, d) : TEnt))))) (by rfl) (f_run_call_8_1 (.tmp 81) rfl rfl _) (refSPrint_calls (((k : Int), a, b, c, d) : TEnt) hm.ok w33) ?_
    intro w36 hb37
    simp only [nf0, nf1, nf2, nf3, nf4]
    replace B3 := B3.below hb37
    replace B29 := B29.below hb37
    replace bel := bl_step bel hb37
    clear hb37
    refine st_mv (.string (str l)) ?_
    simp only [nf0, nf1, nf2, nf3, nf4]
    refine st_value (v := (.bool (decide ((prS (((k : Int), a, b, c, d) : TEnt)) = l)))) (by rfl) (run_eql_text (.tmp 82) (.tmp 83) (l := (prS (((k : Int), a, b, c, d) : TEnt))) (m := l) rfl rfl rfl w36) ?_
    simp only [nf0, nf1, nf2, nf3, nf4]
    refine wpList_nil ?_
    show Code.wp _ _ _ _ _
    cases hg38 : decide ((prS (((k : Int), a, b, c, d) : TEnt)) = l)
    · have hp39 := of_decide_eq_false hg38
      refine wp_cond_false rfl ?_
      refine wp_skip ?_
      show Code.wp _ _ _ _ _
      refine wp_region_lit ?_
      refine st_mv (.int .i64 (k : Int)) ?_
      simp only [nf0, nf1, nf2, nf3, nf4]
      refine st_value (v := (.int .i64 ((k : Int) + 1))) (by rfl) (run_add_in (.tmp 14) (.const (.int .i64 1)) rfl rfl rfl (by omega) w36) ?_
      simp only [nf0, nf1, nf2, nf3, nf4]
      refine st_mv (.int .i64 ((k : Int) + 1)) ?_
      simp only [nf0, nf1, nf2, nf3, nf4]
      refine wpList_nil ?_
      show ∃ m, m < _ ∧ _
      exact ⟨_, (by omega), (k + 1), rfl, rfl, B3, bel, (by omega), (pastS hN (mtS_end hm hk (by omega) (by assumption)))⟩
    have hp40 := of_decide_eq_true hg38
    refine wp_cond_true rfl ?_
    refine wp_seq ?_
    refine wp_region_lit ?_
    refine st_value (v := (.agg #[.int .i64 (k : Int), .int .i64 a, .int .i64 b, .int .i64 c, .int .u64 d])) (by rfl) (run_loadW (.tmp 6) rfl (cs := #[.int .i64 (k : Int), .int .i64 a, .int .i64 b, .int .i64 c, .int .u64 d]) aggEnt rfl B29) ?_
    simp only [nf0, nf1, nf2, nf3, nf4]
    refine st_row (by rfl) (run_storeW (.tmp 2) (.tmp 85) rfl (cs := #[.int .i64 (k : Int), .int .i64 a, .int .i64 b, .int .i64 c, .int .u64 d]) aggEnt rfl rfl B3 rfl (by simp [Value.oneCell'])) B3 ?_
    intro w41 B43 hg42
    simp only [nf0, nf1, nf2, nf3, nf4]
    replace B29 := B29.kept hg42 n26.symm
    replace bel := bl_kept0 bel hg42 lo5
    clear hg42
    clear B3
    refine st_mv (.bool true) ?_
    simp only [nf0, nf1, nf2, nf3, nf4]
    refine wpList_nil ?_
    show Code.wp _ _ _ _ _
    refine wp_ret ?_
    first | show bodyPost _ _ _ _ _ _ | (simp only [Exit.then, Exit.inBlock]; show bodyPost _ _ _ _ _ _)
    have hE : pS l = ((((k : Int), a, b, c, d) : TEnt), true) := pS_yes (mtS_okS hm hk) (by assumption)
    exact bodyPost_ret (results_agg1t rfl (cs := #[.int .i64 (k : Int), .int .i64 a, .int .i64 b, .int .i64 c, .int .u64 d]) aggEnt (by rfl) B43) rfl ⟨by rw [hE]; rfl, bel⟩
  have hp44 := of_decide_eq_true hg34
  refine wp_region_lit ?_
  refine st_mv (.int .i64 (i : Int)) ?_
  simp only [nf0, nf1, nf2, nf3, nf4]
  refine st_mv (.string (str (shS (k : Int)))) ?_
  simp only [nf0, nf1, nf2, nf3, nf4]
  refine st_value (v := (.int .i64 ((shS (k : Int)).length : Int))) (by rfl) (run_len_text (.tmp 38) rfl Tryd.underlying9 (l := (shS (k : Int))) rfl w33) ?_
  simp only [nf0, nf1, nf2, nf3, nf4]
  refine st_value (v := (.bool true)) (by rfl) ((run_lss (.tmp 37) (.tmp 39) rfl rfl rfl w33).trans (by rw [hg34])) ?_
  simp only [nf0, nf1, nf2, nf3, nf4]
  refine st_mv (.bool true) ?_
  simp only [nf0, nf1, nf2, nf3, nf4]
  refine st_mv (.int .i64 (p : Int)) ?_
  simp only [nf0, nf1, nf2, nf3, nf4]
  refine st_mv (.string (str l)) ?_
  simp only [nf0, nf1, nf2, nf3, nf4]
  refine st_value (v := (.int .i64 (l.length : Int))) (by rfl) (run_len_text (.tmp 43) rfl Tryd.underlying9 (l := l) rfl w33) ?_
  simp only [nf0, nf1, nf2, nf3, nf4]
  refine st_value (v := (.bool (decide ((p : Int) < (l.length : Int))))) (by rfl) (run_lss (.tmp 42) (.tmp 44) rfl rfl rfl w33) ?_
  simp only [nf0, nf1, nf2, nf3, nf4]
  refine st_mv (.bool (decide ((p : Int) < (l.length : Int)))) ?_
  simp only [nf0, nf1, nf2, nf3, nf4]
  refine wpList_nil ?_
  show Code.wp _ _ _ _ _
  cases hg45 : decide ((p : Int) < (l.length : Int))
  · have hp46 := of_decide_eq_false hg45
    refine wp_cond_false rfl ?_
    refine wp_exit ?_
    show Code.wp _ _ _ _ _
    refine wp_seq ?_
    refine wp_region_lit ?_
    refine st_value (v := (.agg #[.int .i64 (k : Int), .int .i64 a, .int .i64 b, .int .i64 c, .int .u64 d])) (by rfl) (run_loadW (.tmp 6) rfl (cs := #[.int .i64 (k : Int), .int .i64 a, .int .i64 b, .int .i64 c, .int .u64 d]) aggEnt rfl B29) ?_
    simp only [nf0, nf1, nf2, nf3, nf4]
    refine st_call1 (v := (.string (str (prS (((k : Int), a, b, c, d) : TEnt))))) (by rfl) (f_run_call_8_1 (.tmp 81) rfl rfl _) (refSPrint_calls (((k : Int), a, b, c, d) : TEnt) hm.ok w33) ?_
    intro w47 hb48
    simp only [nf0, nf1, nf2, nf3, nf4]
    replace B3 := B3.below hb48
    replace B29 := B29.below hb48
    replace bel := bl_step bel hb48
    clear hb48
    refine st_mv (.string (str l)) ?_
    simp only [nf0, nf1, nf2, nf3, nf4]
    refine st_value (v := (.bool (decide ((prS (((k : Int), a, b, c, d) : TEnt)) = l)))) (by rfl) (run_eql_text (.tmp 82) (.tmp 83) (l := (prS (((k : Int), a, b, c, d) : TEnt))) (m := l) rfl rfl rfl w47) ?_
    simp only [nf0, nf1, nf2, nf3, nf4]
    refine wpList_nil ?_
    show Code.wp _ _ _ _ _
    cases hg49 : decide ((prS (((k : Int), a, b, c, d) : TEnt)) = l)
    · have hp50 := of_decide_eq_false hg49
      refine wp_cond_false rfl ?_
      refine wp_skip ?_
      show Code.wp _ _ _ _ _
      refine wp_region_lit ?_
      refine st_mv (.int .i64 (k : Int)) ?_
      simp only [nf0, nf1, nf2, nf3, nf4]
      refine st_value (v := (.int .i64 ((k : Int) + 1))) (by rfl) (run_add_in (.tmp 14) (.const (.int .i64 1)) rfl rfl rfl (by omega) w47) ?_
      simp only [nf0, nf1, nf2, nf3, nf4]
      refine st_mv (.int .i64 ((k : Int) + 1)) ?_
      simp only [nf0, nf1, nf2, nf3, nf4]
      refine wpList_nil ?_
      show ∃ m, m < _ ∧ _
      exact ⟨_, (by omega), (k + 1), rfl, rfl, B3, bel, (by omega), (pastS hN (mtS_end hm hk (by omega) (by assumption)))⟩
    have hp51 := of_decide_eq_true hg49
    refine wp_cond_true rfl ?_
    refine wp_seq ?_
    refine wp_region_lit ?_
    refine st_value (v := (.agg #[.int .i64 (k : Int), .int .i64 a, .int .i64 b, .int .i64 c, .int .u64 d])) (by rfl) (run_loadW (.tmp 6) rfl (cs := #[.int .i64 (k : Int), .int .i64 a, .int .i64 b, .int .i64 c, .int .u64 d]) aggEnt rfl B29) ?_
    simp only [nf0, nf1, nf2, nf3, nf4]
    refine st_row (by rfl) (run_storeW (.tmp 2) (.tmp 85) rfl (cs := #[.int .i64 (k : Int), .int .i64 a, .int .i64 b, .int .i64 c, .int .u64 d]) aggEnt rfl rfl B3 rfl (by simp [Value.oneCell'])) B3 ?_
    intro w52 B54 hg53
    simp only [nf0, nf1, nf2, nf3, nf4]
    replace B29 := B29.kept hg53 n26.symm
    replace bel := bl_kept0 bel hg53 lo5
    clear hg53
    clear B3
    refine st_mv (.bool true) ?_
    simp only [nf0, nf1, nf2, nf3, nf4]
    refine wpList_nil ?_
    show Code.wp _ _ _ _ _
    refine wp_ret ?_
    first | show bodyPost _ _ _ _ _ _ | (simp only [Exit.then, Exit.inBlock]; show bodyPost _ _ _ _ _ _)
    have hE : pS l = ((((k : Int), a, b, c, d) : TEnt), true) := pS_yes (mtS_okS hm hk) (by assumption)
    exact bodyPost_ret (results_agg1t rfl (cs := #[.int .i64 (k : Int), .int .i64 a, .int .i64 b, .int .i64 c, .int .u64 d]) aggEnt (by rfl) B54) rfl ⟨by rw [hE]; rfl, bel⟩
  have hp55 := of_decide_eq_true hg45
  refine wp_cond_true rfl ?_
  refine wp_skip ?_
  show Code.wp _ _ _ _ _
  refine wp_seq ?_
  refine wp_block ?_
  refine wp_seq ?_
  refine wp_region_lit ?_
  refine st_mv (.string (str l)) ?_
  simp only [nf0, nf1, nf2, nf3, nf4]
  refine st_mv (.int .i64 (p : Int)) ?_
  simp only [nf0, nf1, nf2, nf3, nf4]
  refine st_value (v := (.int .i64 ((p : Int) + 1))) (by rfl) (run_add_in (.tmp 51) (.const (.int .i64 1)) rfl rfl rfl (by omega) w33) ?_
  simp only [nf0, nf1, nf2, nf3, nf4]
  refine st_value (v := (.string (str (l.drop (p + 1))))) (by rfl) (run_from_text (.tmp 50) (.tmp 52) rfl Tryd.underlying9 (l := l) (p := (p + 1)) rfl rfl (by omega) (by omega) w33) ?_
  simp only [nf0, nf1, nf2, nf3, nf4]
  obtain ⟨n56, q57, hq58⟩ : ∃ n q, rnumU (l.drop (p + 1)) = (n, q) := ⟨_, _, rfl⟩
  have hrq57 := rnumU_rng (l.drop (p + 1))
  rw [hq58, List.length_drop] at hrq57
  have hc59 := refSNumber_calls (l.drop (p + 1)) (by rw [List.length_drop]; omega) w33
  rw [hq58] at hc59
  obtain ⟨n60, q61, hq62⟩ : ∃ n q, rnumU (l.drop (p + 1)) = (n, q) := ⟨_, _, rfl⟩
  have hrq61 := rnumU_rng (l.drop (p + 1))
  rw [hq62, List.length_drop] at hrq61
  have hc63 := refSNumber_calls (l.drop (p + 1)) (by rw [List.length_drop]; omega) w33
  rw [hq62] at hc63
  refine st_call1 (v := (.tuple #[.int .u64 n60, .int .i64 (q61 : Int)])) (by rfl) (f_run_call_14_1 (.tmp 53) rfl rfl _) hc63 ?_
  intro w64 hb65
  simp only [nf0, nf1, nf2, nf3, nf4]
  replace B3 := B3.below hb65
  replace B29 := B29.below hb65
  replace bel := bl_step bel hb65
  clear hb65
  refine st_mv (.tuple #[.int .u64 n60, .int .i64 (q61 : Int)]) ?_
  simp only [nf0, nf1, nf2, nf3, nf4]
  refine st_mv (.int .u64 n60) ?_
  simp only [nf0, nf1, nf2, nf3, nf4]
  refine st_mv (.int .i64 (q61 : Int)) ?_
  simp only [nf0, nf1, nf2, nf3, nf4]
  refine st_mv (.int .u64 n60) ?_
  simp only [nf0, nf1, nf2, nf3, nf4]
  refine st_mv (.int .i64 (q61 : Int)) ?_
  simp only [nf0, nf1, nf2, nf3, nf4]
  refine wpList_nil ?_
  show Code.wp _ _ _ _ _
  refine wp_seq ?_
  refine wp_region_lit ?_
  refine st_mv (.int .i64 (p : Int)) ?_
  simp only [nf0, nf1, nf2, nf3, nf4]
  refine st_mv (.int .i64 (q61 : Int)) ?_
  simp only [nf0, nf1, nf2, nf3, nf4]
  refine st_value (v := (.int .i64 ((1 + q61 : Nat) : Int))) (by rfl) ((run_add_in (.const (.int .i64 1)) (.tmp 58) rfl rfl rfl (by omega) w64).trans (by rw [show (1 : Int) + ((q61 : Nat) : Int) = ((1 + q61 : Nat) : Int) by omega])) ?_
  simp only [nf0, nf1, nf2, nf3, nf4]
  refine st_value (v := (.int .i64 ((p + (1 + q61) : Nat) : Int))) (by rfl) ((run_add_in (.tmp 57) (.tmp 59) rfl rfl rfl (by omega) w64).trans (by rw [show ((p : Nat) : Int) + ((1 + q61 : Nat) : Int) = ((p + (1 + q61) : Nat) : Int) by omega])) ?_
  simp only [nf0, nf1, nf2, nf3, nf4]
  refine st_mv (.int .i64 ((p + (1 + q61) : Nat) : Int)) ?_
  simp only [nf0, nf1, nf2, nf3, nf4]
  refine wpList_nil ?_
  show Code.wp _ _ _ _ _
  refine wp_seq ?_
  refine wp_region_lit ?_
  refine st_mv (.string (str (shS (k : Int)))) ?_
  simp only [nf0, nf1, nf2, nf3, nf4]
  refine st_mv (.int .i64 (i : Int)) ?_
  simp only [nf0, nf1, nf2, nf3, nf4]
  refine st_value (v := (.int .u8 (chr (shS (k : Int)) i))) (by rfl) (run_index_text (.tmp 61) (.tmp 62) rfl Tryd.underlying9 (l := (shS (k : Int))) rfl rfl i (by omega) (by omega) w64) ?_
  simp only [nf0, nf1, nf2, nf3, nf4]
  refine wpList_nil ?_
  show Code.wp _ _ _ _ _
  refine wp_block ?_
  refine wp_seq ?_
  refine wp_region_lit ?_
  refine st_value (v := (.bool (decide ((chr (shS (k : Int)) i) = 65)))) (by rfl) (run_eql_int (.tmp 63) (.const (.int .u8 65)) rfl rfl rfl w64) ?_
  simp only [nf0, nf1, nf2, nf3, nf4]
  refine st_mv (.bool (decide ((chr (shS (k : Int)) i) = 65))) ?_
  simp only [nf0, nf1, nf2, nf3, nf4]
  refine wpList_nil ?_
  show Code.wp _ _ _ _ _
  cases hg66 : decide ((chr (shS (k : Int)) i) = 65)
  rotate_left
  · have hp83 := of_decide_eq_true hg66
    refine wp_cond_true rfl ?_
    refine wp_region_lit ?_
    refine st_mv (.int .u64 n60) ?_
    simp only [nf0, nf1, nf2, nf3, nf4]
    refine st_value (v := (.int .i64 (IntKind.i64.wrap n60))) (by rfl) (run_conv_u64_i64 (.tmp 68) rfl Tryd.underlying34 Tryd.underlying3 (z := n60) (z' := IntKind.i64.wrap n60) rfl rfl w64) ?_
    simp only [nf0, nf1, nf2, nf3, nf4]
    refine st_value (v := (.pointer (some ⟨g21, 1, none⟩))) (by rfl) (run_fieldA (.tmp 6) rfl f_fld_24_1 rfl rfl w64) ?_
    simp only [nf0, nf1, nf2, nf3, nf4]
    refine st_cell (v := (.int .i64 (IntKind.i64.wrap n60))) (by rfl) (run_storeB (.tmp 70) (.tmp 69) rfl f_one_3 B29 (show 1 < 5 by decide) rfl rfl rfl rfl) B29 ?_
    intro w84 B86 hg85
    simp only [nf0, nf1, nf2, nf3, nf4]
    replace B3 := B3.kept hg85 n26
    replace bel := bl_kept0 bel hg85 lo25
    clear hg85
    clear B29
    replace B86 : Blk w84 g21 #[.int .i64 (k : Int), .int .i64 (IntKind.i64.wrap n60), .int .i64 b, .int .i64 c, .int .u64 d] 24 := B86
    refine wpList_nil ?_
    show Code.wp _ _ _ _ _
    refine wp_region_lit ?_
    refine st_mv (.int .i64 (i : Int)) ?_
    simp only [nf0, nf1, nf2, nf3, nf4]
    refine st_value (v := (.int .i64 ((i : Int) + 1))) (by rfl) (run_add_in (.tmp 47) (.const (.int .i64 1)) rfl rfl rfl (by omega) w84) ?_
    simp only [nf0, nf1, nf2, nf3, nf4]
    refine st_mv (.int .i64 ((i : Int) + 1)) ?_
    simp only [nf0, nf1, nf2, nf3, nf4]
    refine wpList_nil ?_
    show ∃ m, m < _ ∧ _
    exact ⟨_, (by omega), (i + 1), (p + (1 + q61)), (IntKind.i64.wrap n60), b, c, d, rfl, rfl, B3, B86, bel, (by omega), (by omega), (mtS_A hm (by omega) (by assumption) hq62)⟩
  have hp67 := of_decide_eq_false hg66
  refine wp_cond_false rfl ?_
  refine wp_seq ?_
  refine wp_region_lit ?_
  refine st_value (v := (.bool (decide ((chr (shS (k : Int)) i) = 66)))) (by rfl) (run_eql_int (.tmp 63) (.const (.int .u8 66)) rfl rfl rfl w64) ?_
  simp only [nf0, nf1, nf2, nf3, nf4]
  refine st_mv (.bool (decide ((chr (shS (k : Int)) i) = 66))) ?_
  simp only [nf0, nf1, nf2, nf3, nf4]
  refine wpList_nil ?_
  show Code.wp _ _ _ _ _
  cases hg68 : decide ((chr (shS (k : Int)) i) = 66)
  rotate_left
  · have hp79 := of_decide_eq_true hg68
    refine wp_cond_true rfl ?_
    refine wp_region_lit ?_
    refine st_mv (.int .u64 n60) ?_
    simp only [nf0, nf1, nf2, nf3, nf4]
    refine st_value (v := (.int .i64 (IntKind.i64.wrap n60))) (by rfl) (run_conv_u64_i64 (.tmp 73) rfl Tryd.underlying34 Tryd.underlying3 (z := n60) (z' := IntKind.i64.wrap n60) rfl rfl w64) ?_
    simp only [nf0, nf1, nf2, nf3, nf4]
    refine st_value (v := (.pointer (some ⟨g21, 2, none⟩))) (by rfl) (run_fieldA (.tmp 6) rfl f_fld_24_2 rfl rfl w64) ?_
    simp only [nf0, nf1, nf2, nf3, nf4]
    refine st_cell (v := (.int .i64 (IntKind.i64.wrap n60))) (by rfl) (run_storeB (.tmp 75) (.tmp 74) rfl f_one_3 B29 (show 2 < 5 by decide) rfl rfl rfl rfl) B29 ?_
    intro w80 B82 hg81
    simp only [nf0, nf1, nf2, nf3, nf4]
    replace B3 := B3.kept hg81 n26
    replace bel := bl_kept0 bel hg81 lo25
    clear hg81
    clear B29
    replace B82 : Blk w80 g21 #[.int .i64 (k : Int), .int .i64 a, .int .i64 (IntKind.i64.wrap n60), .int .i64 c, .int .u64 d] 24 := B82
    refine wpList_nil ?_
    show Code.wp _ _ _ _ _
    refine wp_region_lit ?_
    refine st_mv (.int .i64 (i : Int)) ?_
    simp only [nf0, nf1, nf2, nf3, nf4]
    refine st_value (v := (.int .i64 ((i : Int) + 1))) (by rfl) (run_add_in (.tmp 47) (.const (.int .i64 1)) rfl rfl rfl (by omega) w80) ?_
    simp only [nf0, nf1, nf2, nf3, nf4]
    refine st_mv (.int .i64 ((i : Int) + 1)) ?_
    simp only [nf0, nf1, nf2, nf3, nf4]
    refine wpList_nil ?_
    show ∃ m, m < _ ∧ _
    exact ⟨_, (by omega), (i + 1), (p + (1 + q61)), a, (IntKind.i64.wrap n60), c, d, rfl, rfl, B3, B82, bel, (by omega), (by omega), (mtS_B hm (by omega) (by assumption) hq62)⟩
  have hp69 := of_decide_eq_false hg68
  refine wp_cond_false rfl ?_
  refine wp_seq ?_
  refine wp_region_lit ?_
  refine st_value (v := (.bool (decide ((chr (shS (k : Int)) i) = 67)))) (by rfl) (run_eql_int (.tmp 63) (.const (.int .u8 67)) rfl rfl rfl w64) ?_
  simp only [nf0, nf1, nf2, nf3, nf4]
  refine st_mv (.bool (decide ((chr (shS (k : Int)) i) = 67))) ?_
  simp only [nf0, nf1, nf2, nf3, nf4]
  refine wpList_nil ?_
  show Code.wp _ _ _ _ _
  cases hg70 : decide ((chr (shS (k : Int)) i) = 67)
  · have hp71 := of_decide_eq_false hg70
    refine wp_cond_false rfl ?_
    refine wp_region_lit ?_
    refine st_mv (.int .u64 n60) ?_
    simp only [nf0, nf1, nf2, nf3, nf4]
    refine st_value (v := (.pointer (some ⟨g21, 4, none⟩))) (by rfl) (run_fieldA (.tmp 6) rfl f_fld_24_4 rfl rfl w64) ?_
    simp only [nf0, nf1, nf2, nf3, nf4]
    refine st_cell (v := (.int .u64 n60)) (by rfl) (run_storeB (.tmp 65) (.tmp 64) rfl f_one_22 B29 (show 4 < 5 by decide) rfl rfl rfl rfl) B29 ?_
    intro w72 B74 hg73
    simp only [nf0, nf1, nf2, nf3, nf4]
    replace B3 := B3.kept hg73 n26
    replace bel := bl_kept0 bel hg73 lo25
    clear hg73
    clear B29
    replace B74 : Blk w72 g21 #[.int .i64 (k : Int), .int .i64 a, .int .i64 b, .int .i64 c, .int .u64 n60] 24 := B74
    refine wpList_nil ?_
    show Code.wp _ _ _ _ _
    refine wp_region_lit ?_
    refine st_mv (.int .i64 (i : Int)) ?_
    simp only [nf0, nf1, nf2, nf3, nf4]
    refine st_value (v := (.int .i64 ((i : Int) + 1))) (by rfl) (run_add_in (.tmp 47) (.const (.int .i64 1)) rfl rfl rfl (by omega) w72) ?_
    simp only [nf0, nf1, nf2, nf3, nf4]
    refine st_mv (.int .i64 ((i : Int) + 1)) ?_
    simp only [nf0, nf1, nf2, nf3, nf4]
    refine wpList_nil ?_
    show ∃ m, m < _ ∧ _
    exact ⟨_, (by omega), (i + 1), (p + (1 + q61)), a, b, c, n60, rfl, rfl, B3, B74, bel, (by omega), (by omega), (mtS_D hm (by omega) (by assumption) (by assumption) (by assumption) hq62)⟩
  have hp75 := of_decide_eq_true hg70
  refine wp_cond_true rfl ?_
  refine wp_region_lit ?_
  refine st_mv (.int .u64 n60) ?_
  simp only [nf0, nf1, nf2, nf3, nf4]
  refine st_value (v := (.int .i64 (IntKind.i64.wrap n60))) (by rfl) (run_conv_u64_i64 (.tmp 78) rfl Tryd.underlying34 Tryd.underlying3 (z := n60) (z' := IntKind.i64.wrap n60) rfl rfl w64) ?_
  simp only [nf0, nf1, nf2, nf3, nf4]
  refine st_value (v := (.pointer (some ⟨g21, 3, none⟩))) (by rfl) (run_fieldA (.tmp 6) rfl f_fld_24_3 rfl rfl w64) ?_
  simp only [nf0, nf1, nf2, nf3, nf4]
  refine st_cell (v := (.int .i64 (IntKind.i64.wrap n60))) (by rfl) (run_storeB (.tmp 80) (.tmp 79) rfl f_one_3 B29 (show 3 < 5 by decide) rfl rfl rfl rfl) B29 ?_
  intro w76 B78 hg77
  simp only [nf0, nf1, nf2, nf3, nf4]
  replace B3 := B3.kept hg77 n26
  replace bel := bl_kept0 bel hg77 lo25
  clear hg77
  clear B29
  replace B78 : Blk w76 g21 #[.int .i64 (k : Int), .int .i64 a, .int .i64 b, .int .i64 (IntKind.i64.wrap n60), .int .u64 d] 24 := B78
  refine wpList_nil ?_
  show Code.wp _ _ _ _ _
  refine wp_region_lit ?_
  refine st_mv (.int .i64 (i : Int)) ?_
  simp only [nf0, nf1, nf2, nf3, nf4]
  refine st_value (v := (.int .i64 ((i : Int) + 1))) (by rfl) (run_add_in (.tmp 47) (.const (.int .i64 1)) rfl rfl rfl (by omega) w76) ?_
  simp only [nf0, nf1, nf2, nf3, nf4]
  refine st_mv (.int .i64 ((i : Int) + 1)) ?_
  simp only [nf0, nf1, nf2, nf3, nf4]
  refine wpList_nil ?_
  show ∃ m, m < _ ∧ _
  exact ⟨_, (by omega), (i + 1), (p + (1 + q61)), a, b, (IntKind.i64.wrap n60), d, rfl, rfl, B3, B78, bel, (by omega), (by omega), (mtS_C hm (by omega) (by assumption) hq62)⟩
end Go.Proofs.YtackcmlkicjlnaaDoor

/- What the law ScriptEntries does. -/
namespace Go.Proofs.YtackcmlkicjlnaaDoor
open Go.RowKit Go.WideShapes Go.ChangeShapes
set_option linter.unusedSimpArgs false
set_option linter.unusedVariables false

theorem k_zero_24 : ZeroOf Tryd.prog 24 #[.int .i64 0, .int .i64 0, .int .i64 0, .int .i64 0, .int .u64 0] := zeroOf (z := .agg #[.int .i64 0, .int .i64 0, .int .i64 0, .int .i64 0, .int .u64 0]) (by kernel_rfl) rfl
theorem k_fld_24_0 : FieldAt Tryd.prog 24 0 0 := fieldAt_of (s := 0) Tryd.underlying24 (by kernel_rfl)
theorem k_one_3 : One Tryd.prog 3 := one_of Tryd.underlying3 rfl (by kernel_rfl)
theorem k_run_call_4_0 {o : Oper} {a : Act}  {ts : Array TypeId} (ho : o.op = .call { callee := .value (.func 4), args := #[], argTypes := ts })  (W : World) : (execOp a.eval o).run Tryd.prog W = .ok (.enter 4 #[]) W := by
  unfold execOp
  simp only [ho]
  go_simp
theorem k_run_call_5_1 {o : Oper} {a : Act} (x0 : Operand) {ts : Array TypeId} (ho : o.op = .call { callee := .value (.func 5), args := #[x0], argTypes := ts }) {v0 : Value} (h0 : a.eval x0 = v0) (W : World) : (execOp a.eval o).run Tryd.prog W = .ok (.enter 5 #[v0]) W := by
  unfold execOp
  simp only [ho]
  subst h0
  go_simp
theorem k_run_call_6_1 {o : Oper} {a : Act} (x0 : Operand) {ts : Array TypeId} (ho : o.op = .call { callee := .value (.func 6), args := #[x0], argTypes := ts }) {v0 : Value} (h0 : a.eval x0 = v0) (W : World) : (execOp a.eval o).run Tryd.prog W = .ok (.enter 6 #[v0]) W := by
  unfold execOp
  simp only [ho]
  subst h0
  go_simp
theorem k_run_call_7_1 {o : Oper} {a : Act} (x0 : Operand) {ts : Array TypeId} (ho : o.op = .call { callee := .value (.func 7), args := #[x0], argTypes := ts }) {v0 : Value} (h0 : a.eval x0 = v0) (W : World) : (execOp a.eval o).run Tryd.prog W = .ok (.enter 7 #[v0]) W := by
  unfold execOp
  simp only [ho]
  subst h0
  go_simp
theorem k_run_call_8_1 {o : Oper} {a : Act} (x0 : Operand) {ts : Array TypeId} (ho : o.op = .call { callee := .value (.func 8), args := #[x0], argTypes := ts }) {v0 : Value} (h0 : a.eval x0 = v0) (W : World) : (execOp a.eval o).run Tryd.prog W = .ok (.enter 8 #[v0]) W := by
  unfold execOp
  simp only [ho]
  subst h0
  go_simp
theorem k_run_call_9_1 {o : Oper} {a : Act} (x0 : Operand) {ts : Array TypeId} (ho : o.op = .call { callee := .value (.func 9), args := #[x0], argTypes := ts }) {v0 : Value} (h0 : a.eval x0 = v0) (W : World) : (execOp a.eval o).run Tryd.prog W = .ok (.enter 9 #[v0]) W := by
  unfold execOp
  simp only [ho]
  subst h0
  go_simp
theorem k_run_call_10_1 {o : Oper} {a : Act} (x0 : Operand) {ts : Array TypeId} (ho : o.op = .call { callee := .value (.func 10), args := #[x0], argTypes := ts }) {v0 : Value} (h0 : a.eval x0 = v0) (W : World) : (execOp a.eval o).run Tryd.prog W = .ok (.enter 10 #[v0]) W := by
  unfold execOp
  simp only [ho]
  subst h0
  go_simp

attribute [local irreducible] Go.wpList Go.Code.wp
set_option maxRecDepth 100000 in
set_option maxHeartbeats 4000000 in
theorem entriesLaw_calls {l : List UInt8} {p : TEnt} (hp : okEnt p) (hlen : l.length ≤ 9223372036854775807) (w : World) : Calls Tryd.prog 3 #[.agg (eEnt.enc p).toArray, .string (str l)] w fun e w' => e = .returned (.bool true) ∧ Below w.heap.size w w' := by
  have bel : Below w.heap.size w w := Below.refl _ _
  go_enter Tryd.func3, Tryd.ntmps3
  refine wp_seq ?_
  refine wp_region_lit ?_
  refine st_new (cs := #[.int .i64 p.1, .int .i64 p.2.1, .int .i64 p.2.2.1, .int .i64 p.2.2.2.1, .int .u64 p.2.2.2.2]) (t := 24) (by rfl) (run_boxV (.tmp 0) rfl (v := (.agg #[.int .i64 p.1, .int .i64 p.2.1, .int .i64 p.2.2.1, .int .i64 p.2.2.2.1, .int .u64 p.2.2.2.2])) rfl rfl _) ?_
  intro g1 w2 B3 hb4 lo5
  simp only [nf0, nf1, nf2, nf3, nf4]
  replace lo5 := low_le bel lo5
  replace bel := bl_step bel hb4
  clear hb4
  refine st_mv (.bool false) ?_
  simp only [nf0, nf1, nf2, nf3, nf4]
  refine wpList_nil ?_
  show Code.wp _ _ _ _ _
  refine wp_seq ?_
  refine wp_seq ?_
  refine wp_region_lit ?_
  refine st_mv (.string (str l)) ?_
  simp only [nf0, nf1, nf2, nf3, nf4]
  refine st_value (v := (.int .i64 (l.length : Int))) (by rfl) (run_len_text (.tmp 9) rfl Tryd.underlying9 (l := l) rfl w2) ?_
  simp only [nf0, nf1, nf2, nf3, nf4]
  refine st_value (v := (.bool (decide (200 < (l.length : Int))))) (by rfl) (run_gtr (.tmp 10) (.const (.int .i64 200)) rfl rfl rfl w2) ?_
  simp only [nf0, nf1, nf2, nf3, nf4]
  refine wpList_nil ?_
  show Code.wp _ _ _ _ _
  cases hg6 : decide (200 < (l.length : Int))
  rotate_left
  · have hp32 := of_decide_eq_true hg6
    refine wp_cond_true rfl ?_
    refine wp_seq ?_
    refine wp_region_lit ?_
    refine st_call1 (v := (.bool true)) (by rfl) (k_run_call_4_0  rfl  _) (scLives_calls w2) ?_
    intro w33 hb34
    simp only [nf0, nf1, nf2, nf3, nf4]
    replace B3 := B3.below hb34
    replace bel := bl_step bel hb34
    clear hb34
    refine st_mv (.bool true) ?_
    simp only [nf0, nf1, nf2, nf3, nf4]
    refine wpList_nil ?_
    show Code.wp _ _ _ _ _
    refine wp_ret ?_
    first | show bodyPost _ _ _ _ _ _ | (simp only [Exit.then, Exit.inBlock]; show bodyPost _ _ _ _ _ _)
    exact bodyPost_ret (results_tmp rfl _ _ _) rfl ⟨rfl, bel⟩
  have hp7 := of_decide_eq_false hg6
  refine wp_cond_false rfl ?_
  refine wp_skip ?_
  show Code.wp _ _ _ _ _
  refine wp_seq ?_
  refine wp_region_lit ?_
  refine st_mv (.string (str l)) ?_
  simp only [nf0, nf1, nf2, nf3, nf4]
  refine st_call1 (v := (.tuple #[.agg #[.int .i64 ((pS l).1.1), .int .i64 ((pS l).1.2.1), .int .i64 ((pS l).1.2.2.1), .int .i64 ((pS l).1.2.2.2.1), .int .u64 ((pS l).1.2.2.2.2)], .bool ((pS l).2)])) (by rfl) (k_run_call_5_1 (.tmp 14) rfl rfl _) (sparse_calls l (by omega) w2) ?_
  intro w8 hb9
  simp only [nf0, nf1, nf2, nf3, nf4]
  replace B3 := B3.below hb9
  replace bel := bl_step bel hb9
  clear hb9
  refine st_mv (.tuple #[.agg #[.int .i64 ((pS l).1.1), .int .i64 ((pS l).1.2.1), .int .i64 ((pS l).1.2.2.1), .int .i64 ((pS l).1.2.2.2.1), .int .u64 ((pS l).1.2.2.2.2)], .bool ((pS l).2)]) ?_
  simp only [nf0, nf1, nf2, nf3, nf4]
  refine st_mv (.agg #[.int .i64 ((pS l).1.1), .int .i64 ((pS l).1.2.1), .int .i64 ((pS l).1.2.2.1), .int .i64 ((pS l).1.2.2.2.1), .int .u64 ((pS l).1.2.2.2.2)]) ?_
  simp only [nf0, nf1, nf2, nf3, nf4]
  refine st_mv (.bool ((pS l).2)) ?_
  simp only [nf0, nf1, nf2, nf3, nf4]
  refine st_new (cs := #[.int .i64 0, .int .i64 0, .int .i64 0, .int .i64 0, .int .u64 0]) (t := 24) (by rfl) (run_allocV rfl k_zero_24 _) ?_
  intro g10 w11 B12 hb13 lo14
  simp only [nf0, nf1, nf2, nf3, nf4]
  have n15 := B3.ne lo14
  replace lo14 := low_le bel lo14
  replace B3 := B3.below hb13
  replace bel := bl_step bel hb13
  clear hb13
  refine st_row (by rfl) (run_storeW (.tmp 5) (.tmp 16) rfl (cs := #[.int .i64 ((pS l).1.1), .int .i64 ((pS l).1.2.1), .int .i64 ((pS l).1.2.2.1), .int .i64 ((pS l).1.2.2.2.1), .int .u64 ((pS l).1.2.2.2.2)]) aggEnt rfl rfl B12 rfl (by simp [Value.oneCell'])) B12 ?_
  intro w16 B18 hg17
  simp only [nf0, nf1, nf2, nf3, nf4]
  replace B3 := B3.kept hg17 n15
  replace bel := bl_kept0 bel hg17 lo14
  clear hg17
  clear B12
  refine st_mv (.bool ((pS l).2)) ?_
  simp only [nf0, nf1, nf2, nf3, nf4]
  refine wpList_nil ?_
  show Code.wp _ _ _ _ _
  refine wp_seq ?_
  refine wp_region_lit ?_
  refine st_mv (.string (str l)) ?_
  simp only [nf0, nf1, nf2, nf3, nf4]
  refine st_call1 (v := (.tuple #[.agg #[.int .i64 ((pS l).1.1), .int .i64 ((pS l).1.2.1), .int .i64 ((pS l).1.2.2.1), .int .i64 ((pS l).1.2.2.2.1), .int .u64 ((pS l).1.2.2.2.2)], .bool ((pS l).2)])) (by rfl) (k_run_call_6_1 (.tmp 19) rfl rfl _) (refSParse_calls l (by omega) w16) ?_
  intro w19 hb20
  simp only [nf0, nf1, nf2, nf3, nf4]
  replace B3 := B3.below hb20
  replace B18 := B18.below hb20
  replace bel := bl_step bel hb20
  clear hb20
  refine st_mv (.tuple #[.agg #[.int .i64 ((pS l).1.1), .int .i64 ((pS l).1.2.1), .int .i64 ((pS l).1.2.2.1), .int .i64 ((pS l).1.2.2.2.1), .int .u64 ((pS l).1.2.2.2.2)], .bool ((pS l).2)]) ?_
  simp only [nf0, nf1, nf2, nf3, nf4]
  refine st_mv (.agg #[.int .i64 ((pS l).1.1), .int .i64 ((pS l).1.2.1), .int .i64 ((pS l).1.2.2.1), .int .i64 ((pS l).1.2.2.2.1), .int .u64 ((pS l).1.2.2.2.2)]) ?_
  simp only [nf0, nf1, nf2, nf3, nf4]
  refine st_mv (.bool ((pS l).2)) ?_
  simp only [nf0, nf1, nf2, nf3, nf4]
  refine st_new (cs := #[.int .i64 0, .int .i64 0, .int .i64 0, .int .i64 0, .int .u64 0]) (t := 24) (by rfl) (run_allocV rfl k_zero_24 _) ?_
  intro g21 w22 B23 hb24 lo25
  simp only [nf0, nf1, nf2, nf3, nf4]
  have n26 := B3.ne lo25
  have n27 := B18.ne lo25
  replace lo25 := low_le bel lo25
  replace B3 := B3.below hb24
  replace B18 := B18.below hb24
  replace bel := bl_step bel hb24
  clear hb24
  refine st_row (by rfl) (run_storeW (.tmp 7) (.tmp 21) rfl (cs := #[.int .i64 ((pS l).1.1), .int .i64 ((pS l).1.2.1), .int .i64 ((pS l).1.2.2.1), .int .i64 ((pS l).1.2.2.2.1), .int .u64 ((pS l).1.2.2.2.2)]) aggEnt rfl rfl B23 rfl (by simp [Value.oneCell'])) B23 ?_
  intro w28 B30 hg29
  simp only [nf0, nf1, nf2, nf3, nf4]
  replace B3 := B3.kept hg29 n26
  replace B18 := B18.kept hg29 n27
  replace bel := bl_kept0 bel hg29 lo25
  clear hg29
  clear B23
  refine st_mv (.bool ((pS l).2)) ?_
  simp only [nf0, nf1, nf2, nf3, nf4]
  refine wpList_nil ?_
  show Code.wp _ _ _ _ _
  refine wp_seq ?_
  refine wp_region_facts2_lit (C := Abv w28) 27 [.val (.agg #[.int .i64 p.1, .int .i64 p.2.1, .int .i64 p.2.2.1, .int .i64 p.2.2.2.1, .int .u64 p.2.2.2.2]), .val (.string (str (prS p))), .val (.agg #[.int .i64 p.1, .int .i64 p.2.1, .int .i64 p.2.2.1, .int .i64 p.2.2.2.1, .int .u64 p.2.2.2.2]), .val (.string (str (prS p))), .val (.bool true), .val (.bool true), .val (.pointer (some ⟨g1, 0, none⟩)), .val (.int .i64 p.1), .val (.string (str (nmS p.1))), .val (.pointer (some ⟨g1, 0, none⟩)), .val (.int .i64 p.1), .val (.string (str (nmS p.1))), .val (.bool true), .val (.bool true), .val (.bool true), .val (.agg #[.int .i64 ((pS l).1.1), .int .i64 ((pS l).1.2.1), .int .i64 ((pS l).1.2.2.1), .int .i64 ((pS l).1.2.2.2.1), .int .u64 ((pS l).1.2.2.2.2)]), .val (.agg #[.int .i64 ((pS l).1.1), .int .i64 ((pS l).1.2.1), .int .i64 ((pS l).1.2.2.1), .int .i64 ((pS l).1.2.2.2.1), .int .u64 ((pS l).1.2.2.2.2)]), .val (.bool true), .val (.bool true), .val (.bool true), .val (.bool ((pS l).2)), .val (.bool ((pS l).2)), .val (.bool true), .val (.bool true), .val (.bool true), .val (.bool true), .val (.bool true)] w28.heap.size (by kernel_rfl) (by simp) (by kernel_rfl) (by kernel_rfl) (fun _ h => h.size) (Abv.start _) ?_
  simp only [List.take_succ_cons, List.take_zero, List.drop_succ_cons, List.drop_zero]
  refine fst2_val (fun W hC hh => ok2_value (v := (.agg #[.int .i64 p.1, .int .i64 p.2.1, .int .i64 p.2.2.1, .int .i64 p.2.2.2.1, .int .u64 p.2.2.2.2])) (by rfl) (run_loadW (.tmp 2) rfl (cs := #[.int .i64 p.1, .int .i64 p.2.1, .int .i64 p.2.2.1, .int .i64 p.2.2.2.1, .int .u64 p.2.2.2.2]) aggEnt rfl (B3.below hC)) rfl hC (G0.refl _)) ?_
  simp only [nf0, nf1, nf2, nf3, nf4]
  refine fst2_val (fun W hC hh => ok2_call (by rfl) (k_run_call_7_1 (.tmp 23) rfl rfl W) ((sprint_calls p hp W).mono fun e W' ⟨h1, h2⟩ => ⟨h1, hC.step h2, h2⟩)) ?_
  simp only [nf0, nf1, nf2, nf3, nf4]
  refine fst2_val (fun W hC hh => ok2_value (v := (.agg #[.int .i64 p.1, .int .i64 p.2.1, .int .i64 p.2.2.1, .int .i64 p.2.2.2.1, .int .u64 p.2.2.2.2])) (by rfl) (run_loadW (.tmp 2) rfl (cs := #[.int .i64 p.1, .int .i64 p.2.1, .int .i64 p.2.2.1, .int .i64 p.2.2.2.1, .int .u64 p.2.2.2.2]) aggEnt rfl (B3.below hC)) rfl hC (G0.refl _)) ?_
  simp only [nf0, nf1, nf2, nf3, nf4]
  refine fst2_val (fun W hC hh => ok2_call (by rfl) (k_run_call_8_1 (.tmp 25) rfl rfl W) ((refSPrint_calls p hp W).mono fun e W' ⟨h1, h2⟩ => ⟨h1, hC.step h2, h2⟩)) ?_
  simp only [nf0, nf1, nf2, nf3, nf4]
  refine fst2_val (fun W hC hh => ok2_value (v := (.bool true)) (by rfl) (run_eql_text_t (.tmp 24) (.tmp 26) (l := (prS p)) (m := (prS p)) rfl rfl rfl rfl W) rfl hC (G0.refl _)) ?_
  simp only [nf0, nf1, nf2, nf3, nf4]
  refine fst2_val (fun W hC hh => ok2_value (v := (.bool true)) (by rfl) (by rfl) rfl hC (G0.refl _)) ?_
  simp only [nf0, nf1, nf2, nf3, nf4]
  refine fst2_val (fun W hC hh => ok2_value (v := (.pointer (some ⟨g1, 0, none⟩))) (by rfl) (run_fieldA (.tmp 2) rfl k_fld_24_0 rfl rfl W) rfl hC (G0.refl _)) ?_
  simp only [nf0, nf1, nf2, nf3, nf4]
  refine fst2_val (fun W hC hh => ok2_value (v := (.int .i64 p.1)) (by rfl) (run_loadB (.tmp 29) rfl k_one_3 rfl (B3.below hC) rfl) rfl hC (G0.refl _)) ?_
  simp only [nf0, nf1, nf2, nf3, nf4]
  refine fst2_val (fun W hC hh => ok2_call (by rfl) (k_run_call_9_1 (.tmp 30) rfl rfl W) ((sname_calls p.1 W).mono fun e W' ⟨h1, h2⟩ => ⟨h1, hC.step h2, h2⟩)) ?_
  simp only [nf0, nf1, nf2, nf3, nf4]
  refine fst2_val (fun W hC hh => ok2_value (v := (.pointer (some ⟨g1, 0, none⟩))) (by rfl) (run_fieldA (.tmp 2) rfl k_fld_24_0 rfl rfl W) rfl hC (G0.refl _)) ?_
  simp only [nf0, nf1, nf2, nf3, nf4]
  refine fst2_val (fun W hC hh => ok2_value (v := (.int .i64 p.1)) (by rfl) (run_loadB (.tmp 32) rfl k_one_3 rfl (B3.below hC) rfl) rfl hC (G0.refl _)) ?_
  simp only [nf0, nf1, nf2, nf3, nf4]
  refine fst2_val (fun W hC hh => ok2_call (by rfl) (k_run_call_10_1 (.tmp 33) rfl rfl W) ((refSName_calls p.1 W).mono fun e W' ⟨h1, h2⟩ => ⟨h1, hC.step h2, h2⟩)) ?_
  simp only [nf0, nf1, nf2, nf3, nf4]
  refine fst2_val (fun W hC hh => ok2_value (v := (.bool true)) (by rfl) (run_eql_text_t (.tmp 31) (.tmp 34) (l := (nmS p.1)) (m := (nmS p.1)) rfl rfl rfl rfl W) rfl hC (G0.refl _)) ?_
  simp only [nf0, nf1, nf2, nf3, nf4]
  refine fst2_val (fun W hC hh => ok2_value (v := (.bool true)) (by rfl) (by rfl) rfl hC (G0.refl _)) ?_
  simp only [nf0, nf1, nf2, nf3, nf4]
  refine fst2_val (fun W hC hh => ok2_value (v := (.bool true)) (by rfl) (by rfl) rfl hC (G0.refl _)) ?_
  simp only [nf0, nf1, nf2, nf3, nf4]
  refine fst2_val (fun W hC hh => ok2_value (v := (.agg #[.int .i64 ((pS l).1.1), .int .i64 ((pS l).1.2.1), .int .i64 ((pS l).1.2.2.1), .int .i64 ((pS l).1.2.2.2.1), .int .u64 ((pS l).1.2.2.2.2)])) (by rfl) (run_loadW (.tmp 5) rfl (cs := #[.int .i64 ((pS l).1.1), .int .i64 ((pS l).1.2.1), .int .i64 ((pS l).1.2.2.1), .int .i64 ((pS l).1.2.2.2.1), .int .u64 ((pS l).1.2.2.2.2)]) aggEnt rfl (B18.below hC)) rfl hC (G0.refl _)) ?_
  simp only [nf0, nf1, nf2, nf3, nf4]
  refine fst2_val (fun W hC hh => ok2_value (v := (.agg #[.int .i64 ((pS l).1.1), .int .i64 ((pS l).1.2.1), .int .i64 ((pS l).1.2.2.1), .int .i64 ((pS l).1.2.2.2.1), .int .u64 ((pS l).1.2.2.2.2)])) (by rfl) (run_loadW (.tmp 7) rfl (cs := #[.int .i64 ((pS l).1.1), .int .i64 ((pS l).1.2.1), .int .i64 ((pS l).1.2.2.1), .int .i64 ((pS l).1.2.2.2.1), .int .u64 ((pS l).1.2.2.2.2)]) aggEnt rfl (B30.below hC)) rfl hC (G0.refl _)) ?_
  simp only [nf0, nf1, nf2, nf3, nf4]
  refine fst2_val (fun W hC hh => ok2_value (v := (.bool true)) (by rfl) ((run_eql_agg (.tmp 38) (.tmp 39) rfl eqEnt (p := (pS l).1) (q := (pS l).1) rfl rfl trivial trivial W).trans (by rw [decide_eq_true rfl])) rfl hC (G0.refl _)) ?_
  simp only [nf0, nf1, nf2, nf3, nf4]
  refine fst2_val (fun W hC hh => ok2_value (v := (.bool true)) (by rfl) (by rfl) rfl hC (G0.refl _)) ?_
  simp only [nf0, nf1, nf2, nf3, nf4]
  refine fst2_val (fun W hC hh => ok2_value (v := (.bool true)) (by rfl) (by rfl) rfl hC (G0.refl _)) ?_
  simp only [nf0, nf1, nf2, nf3, nf4]
  refine fst2_val (fun W hC hh => ok2_value (v := (.bool ((pS l).2))) (by rfl) (by rfl) rfl hC (G0.refl _)) ?_
  simp only [nf0, nf1, nf2, nf3, nf4]
  refine fst2_val (fun W hC hh => ok2_value (v := (.bool ((pS l).2))) (by rfl) (by rfl) rfl hC (G0.refl _)) ?_
  simp only [nf0, nf1, nf2, nf3, nf4]
  refine fst2_val (fun W hC hh => ok2_value (v := (.bool true)) (by rfl) ((runm_eql_bool (.tmp 43) (.tmp 44) rfl Tryd.underlying4 (b := (pS l).2) (c := (pS l).2) rfl rfl W).trans (by rw [beq_self_eq_true])) rfl hC (G0.refl _)) ?_
  simp only [nf0, nf1, nf2, nf3, nf4]
  refine fst2_val (fun W hC hh => ok2_value (v := (.bool true)) (by rfl) (by rfl) rfl hC (G0.refl _)) ?_
  simp only [nf0, nf1, nf2, nf3, nf4]
  refine fst2_val (fun W hC hh => ok2_value (v := (.bool true)) (by rfl) (by rfl) rfl hC (G0.refl _)) ?_
  simp only [nf0, nf1, nf2, nf3, nf4]
  refine fst2_val (fun W hC hh => ok2_call (by rfl) (k_run_call_4_0  rfl  W) ((scLives_calls W).mono fun e W' ⟨h1, h2⟩ => ⟨h1, hC.step h2, h2⟩)) ?_
  simp only [nf0, nf1, nf2, nf3, nf4]
  refine fst2_val (fun W hC hh => ok2_value (v := (.bool true)) (by rfl) (by rfl) rfl hC (G0.refl _)) ?_
  simp only [nf0, nf1, nf2, nf3, nf4]
  refine fst2_nil fun w31 hC hh hnd => ?_
  replace hC : Below w28.heap.size w28 w31 := hC
  clear hh hnd
  replace B3 := B3.below hC
  replace B18 := B18.below hC
  replace B30 := B30.below hC
  replace bel := bl_step bel hC
  clear hC
  refine st_mv (.bool true) ?_
  simp only [nf0, nf1, nf2, nf3, nf4]
  refine wpList_nil ?_
  show Code.wp _ _ _ _ _
  refine wp_ret ?_
  first | show bodyPost _ _ _ _ _ _ | (simp only [Exit.then, Exit.inBlock]; show bodyPost _ _ _ _ _ _)
  exact bodyPost_ret (results_tmp rfl _ _ _) rfl ⟨rfl, bel⟩
end Go.Proofs.YtackcmlkicjlnaaDoor

/- An entry that is handed in, and a text. -/
namespace Go.Proofs.YtackcmlkicjlnaaDoor
open Go.RowKit Go.WideShapes Go.ChangeShapes

theorem openEnt {H : Type} {enc : TypeId × Value → H} {w : World} {r : Reach} {b0 base : Nat} {spare : Nat → Bool} {held : Bool} {v : Value} {d : DataW H} {ps : List MemPlace}
    (hval : Value.okWide Tryd.prog w r b0 24 v) (h : DataW.Trod enc Tryd.prog w base spare held 24 v d ps) : ∃ p, v = .agg (eEnt.enc p).toArray ∧ okEnt p := by
  unfold Value.okWide at hval
  rw [undEnt] at hval
  obtain ⟨cs, rfl, _⟩ := hval
  obtain ⟨p, h1, h2⟩ := open_one flatEnt h
  refine ⟨p, ?_, h2⟩
  have h3 : cs.toList = eEnt.enc p := h1
  rw [← h3]
theorem openTextL {H : Type} {enc : TypeId × Value → H} {w : World} {r : Reach} {b0 base : Nat} {spare : Nat → Bool} {held : Bool} {v : Value} {d : DataW H} {ps : List MemPlace}
    (hval : Value.okWide Tryd.prog w r b0 9 v) (h : DataW.Trod enc Tryd.prog w base spare held 9 v d ps) : ∃ l, v = .string (str l) ∧ l.length ≤ 9223372036854775807 := by
  obtain ⟨s, hv, hs⟩ := open_one (flat_string Tryd.underlying9) h
  obtain ⟨t, ht, _⟩ := Go.ChangeMaps.open_string Tryd.underlying9 hval h
  subst ht
  have e : t = s := by
    have h2 : [Value.string t] = [Value.string s] := hv
    injection h2 with h2
    injection h2
  subst e
  exact ⟨t.data.toList, by rw [str_of t], by rw [← Lib.size_eq]; exact hs⟩
end Go.Proofs.YtackcmlkicjlnaaDoor

/- The law ScriptEntries, at any arguments. -/
namespace Go.Proofs.YtackcmlkicjlnaaDoor
open Go.RowKit Go.WideShapes Go.ChangeShapes

theorem scriptEntries_law {H : Type} {enc : TypeId × Value → H} {W : World} {v0 v1 : Value} {d0 d1 : DataW H} {p0 p1 : List MemPlace} {b0 b1 : Nat} (o0 : Value.okWide Tryd.prog W .any b0 24 v0) (o1 : Value.okWide Tryd.prog W .any b1 9 v1) (h0 : DataW.Trod enc Tryd.prog W 0 (fun _ => true) true 24 v0 d0 p0) (h1 : DataW.Trod enc Tryd.prog W 0 (fun _ => true) true 9 v1 d1 p1) :
    Calls Tryd.prog 3 #[v0, v1] W fun e W' => e = .returned (.bool true) ∧ Below W.heap.size W W' := by
  obtain ⟨p, rfl, hp⟩ := openEnt o0 h0
  obtain ⟨l, rfl, hl⟩ := openTextL o1 h1
  exact entriesLaw_calls hp hl W
end Go.Proofs.YtackcmlkicjlnaaDoor

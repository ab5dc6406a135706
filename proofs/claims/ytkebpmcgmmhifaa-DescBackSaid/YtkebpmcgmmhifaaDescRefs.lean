/- The document's places and tokens. -/
import Derived.Test.YtkebpmcgmmhifaaDescEv
namespace Go.Proofs.Ytkebpmcgmmhifaa
open Go.RowKit Go.WideShapes Go.ChangeShapes
set_option linter.unusedSimpArgs false
set_option linter.unusedVariables false

theorem f_zero_26 : ZeroOf Try.prog 26 #[.int .i64 0, .int .i64 0, .int .i64 0] := zeroOf (z := .agg #[.int .i64 0, .int .i64 0, .int .i64 0]) (by kernel_rfl) rfl
theorem f_fld_26_0 : FieldAt Try.prog 26 0 0 := fieldAt_of (s := 0) Try.underlying26 (by kernel_rfl)
theorem f_one_3 : One Try.prog 3 := one_of Try.underlying3 rfl (by kernel_rfl)
theorem f_fld_26_2 : FieldAt Try.prog 26 2 2 := fieldAt_of (s := 0) Try.underlying26 (by kernel_rfl)
theorem f_fld_26_1 : FieldAt Try.prog 26 1 1 := fieldAt_of (s := 0) Try.underlying26 (by kernel_rfl)
theorem f_zero_33 : ZeroOf Try.prog 33 #[.int .i64 0, .string ⟨#[]⟩, .int .i64 0, .int .i64 0, .int .i64 0] := zeroOf (z := .agg #[.int .i64 0, .string ⟨#[]⟩, .int .i64 0, .int .i64 0, .int .i64 0]) (by kernel_rfl) rfl
theorem f_fld_33_0 : FieldAt Try.prog 33 0 0 := fieldAt_of (s := 0) Try.underlying33 (by kernel_rfl)
theorem f_run_call_12_2 {o : Oper} {a : Act} (x0 : Operand) (x1 : Operand) {ts : Array TypeId} (ho : o.op = .call { callee := .value (.func 12), args := #[x0, x1], argTypes := ts }) {v0 : Value} (h0 : a.eval x0 = v0) {v1 : Value} (h1 : a.eval x1 = v1) (W : World) : (execOp a.eval o).run Try.prog W = .ok (.enter 12 #[v0, v1]) W := by
  unfold execOp
  simp only [ho]
  subst h0 h1
  go_simp
theorem f_run_call_22_1 {o : Oper} {a : Act} (x0 : Operand) {ts : Array TypeId} (ho : o.op = .call { callee := .value (.func 22), args := #[x0], argTypes := ts }) {v0 : Value} (h0 : a.eval x0 = v0) (W : World) : (execOp a.eval o).run Try.prog W = .ok (.enter 22 #[v0]) W := by
  unfold execOp
  simp only [ho]
  subst h0
  go_simp
theorem f_run_lit_23_1 {o : Oper} {a : Act} (x0 : Operand) (ho : o.op = .buildSlice 23 1 #[(0, x0)]) {m0 : TTok} (h0 : a.eval x0 = .agg #[.int .i64 m0.1, .string (str m0.2.1), .int .i64 m0.2.2.1, .int .i64 m0.2.2.2.1, .int .i64 m0.2.2.2.2]) (W : World) : (execOp a.eval o).run Try.prog W = .ok (.value (.slice (some ⟨W.heap.size, 0, none⟩) 1 1)) (W.alloc (.cells #[.int .i64 m0.1, .string (str m0.2.1), .int .i64 m0.2.2.1, .int .i64 m0.2.2.2.1, .int .i64 m0.2.2.2.2] 33)) := by
  unfold execOp
  simp only [ho, List.map_toArray, List.map_cons, List.map_nil, h0]
  go_simp
theorem nl_no {c : Int} (h : ¬ c = 10) : noNL c = true := decide_eq_true h
theorem ext_step {P : Int → Bool} {l : List UInt8} {i j : Nat} (h1 : i ≤ j) (h2 : j ≤ ext P l i) (hl : j < l.length) (hp : P (chr l j) = true) : j + 1 ≤ ext P l i := by
  obtain ⟨d, rfl⟩ : ∃ d, j = i + d := ⟨j - i, by omega⟩
  exact ext_more h2 hl hp
theorem we_more {l : List UInt8} {i m : Nat} (h1 : i + 1 ≤ m) (h2 : m ≤ wend l i) (hm : m < l.length) (hc : (kd (chr l i) = 1 ∧ 1 ≤ kd (chr l m) ∧ kd (chr l m) ≤ 3) ∨ (kd (chr l i) = 2 ∧ (kd (chr l m) = 2 ∨ kd (chr l m) = 4))) : m + 1 ≤ wend l i := by
  unfold wend at h2 ⊢
  rcases hc with ⟨g1, g2, g3⟩ | ⟨g1, g2⟩
  · rw [if_pos g1] at h2 ⊢
    exact ext_step (by omega) h2 hm (decide_eq_true (by omega))
  · rw [if_neg (by omega), if_pos g1] at h2 ⊢
    exact ext_step (by omega) h2 hm (decide_eq_true (by omega))
theorem ext_stopat {P : Int → Bool} {l : List UInt8} {i m : Nat} (h1 : i ≤ m) (h2 : m ≤ ext P l i) (hp : m < l.length → P (chr l m) = false) : ext P l i = m := by
  rw [← ext_mid h1 h2]
  rcases Nat.lt_or_ge m l.length with g | g
  · exact ext_stop (hp g)
  · exact ext_end g
theorem we_here {l : List UInt8} {i m : Nat} (h1 : i + 1 ≤ m) (h2 : m ≤ wend l i) (hi : i < l.length) (hc : l.length ≤ m ∨ ¬ ((kd (chr l i) = 1 ∧ 1 ≤ kd (chr l m) ∧ kd (chr l m) ≤ 3) ∨ (kd (chr l i) = 2 ∧ (kd (chr l m) = 2 ∨ kd (chr l m) = 4)))) : wend l i = m := by
  unfold wend at h2 ⊢
  split
  · rename_i g1
    rw [if_pos g1] at h2
    exact ext_stopat (by omega) h2 fun g => decide_eq_false (by omega)
  · split
    · rename_i g1 g2
      rw [if_neg g1, if_pos g2] at h2
      exact ext_stopat (by omega) h2 fun g => decide_eq_false (by omega)
    · rename_i g1 g2
      rw [if_neg g1, if_neg g2] at h2
      omega

attribute [local irreducible] Go.wpList Go.Code.wp
set_option maxRecDepth 100000 in
set_option maxHeartbeats 4000000 in
theorem refAt_calls {l : List UInt8} (off : Int) (hl : l.length ≤ 1000000) (w : World) : Calls Try.prog 12 #[.string (str l), .int .i64 off] w fun e w' => e = .returned (.agg (ePl.enc (plc l (clampN off l.length))).toArray) ∧ Below w.heap.size w w' := by
  have bel : Below w.heap.size w w := Below.refl _ _
  go_enter Try.func12, Try.ntmps12
  refine wp_seq ?_
  refine wp_region_lit ?_
  refine st_new (cs := #[.int .i64 0, .int .i64 0, .int .i64 0]) (t := 26) (by rfl) (run_allocV rfl f_zero_26 _) ?_
  intro g1 w2 B3 hb4 lo5
  simp only [nf0, nf1, nf2, nf3, nf4]
  replace lo5 := low_le bel lo5
  replace bel := bl_step bel hb4
  clear hb4
  refine wpList_nil ?_
  show Code.wp _ _ _ _ _
  refine wp_seq ?_
  refine wp_region_lit ?_
  refine st_value (v := (.agg #[.int .i64 0, .int .i64 1, .int .i64 1])) (by rfl) (run_buildV rfl (by kernel_rfl) w2) ?_
  simp only [nf0, nf1, nf2, nf3, nf4]
  refine st_new (cs := #[.int .i64 0, .int .i64 0, .int .i64 0]) (t := 26) (by rfl) (run_allocV rfl f_zero_26 _) ?_
  intro g6 w7 B8 hb9 lo10
  simp only [nf0, nf1, nf2, nf3, nf4]
  have n11 := B3.ne lo10
  replace lo10 := low_le bel lo10
  replace B3 := B3.below hb9
  replace bel := bl_step bel hb9
  clear hb9
  refine st_row (by rfl) (run_storeW (.tmp 5) (.tmp 6) rfl (cs := #[.int .i64 0, .int .i64 1, .int .i64 1]) aggPl rfl rfl B8 rfl (by simp [Value.oneCell'])) B8 ?_
  intro w12 B14 hg13
  simp only [nf0, nf1, nf2, nf3, nf4]
  replace B3 := B3.kept hg13 n11
  replace bel := bl_kept0 bel hg13 lo10
  clear hg13
  clear B8
  refine wpList_nil ?_
  show Code.wp _ _ _ _ _
  refine wp_seq ?_
  refine wp_block ?_
  refine wp_loop_left (fun n_ a_ wr_ => (fun J15 => ∃ (k : Nat) (x : Int) (y : Int), n_ = l.length - k ∧ a_ = ⟨#[.string (str l), .int .i64 off, J15 2, J15 3, .pointer (some ⟨g1, 0, none⟩), .pointer (some ⟨g6, 0, none⟩), J15 6, J15 7, J15 8, J15 9, J15 10, J15 11, J15 12, J15 13, J15 14, J15 15, J15 16, J15 17, J15 18, J15 19, J15 20, J15 21, J15 22, J15 23, J15 24, J15 25, J15 26, J15 27, J15 28, J15 29, J15 30, J15 31, J15 32, J15 33, J15 34, J15 35, J15 36], []⟩ ∧ Blk wr_ g1 #[.int .i64 0, .int .i64 0, .int .i64 0] 26 ∧ Blk wr_ g6 #[.int .i64 (k : Int), .int .i64 x, .int .i64 y] 26 ∧ Below w.heap.size w wr_ ∧ (k ≤ l.length) ∧ ((k : Int) ≤ (max 0 (min off (l.length : Int)))) ∧ (x = (((lnS l k).1 : Nat) : Int)) ∧ (y = (k : Int) - (((lnS l k).2 : Nat) : Int) + 1)) (jk a_)) (l.length - 0) ⟨0, 1, 1, rfl, rfl, B3, B14, bel, (Nat.zero_le _), (by omega), rfl, (by show (1 : Int) = ((0 : Nat) : Int) - ((0 : Nat) : Int) + 1; omega)⟩ ?_
  clear B3
  clear B14
  clear bel
  intro n_ a_ w16 h_
  revert h_
  generalize jk a_ = J15
  rintro ⟨k, x, y, hms, rfl, B3, B14, bel, hk, hko, hx, hy⟩
  have hll := lnS_le l k
  refine wp_seq ?_
  refine wp_seq ?_
  cases hg17 : decide ((k : Int) < off)
  · have hp18 := of_decide_eq_false hg17
    refine wp_region_lit ?_
    refine st_value (v := (.pointer (some ⟨g6, 0, none⟩))) (by rfl) (run_fieldA (.tmp 5) rfl f_fld_26_0 rfl rfl w16) ?_
    simp only [nf0, nf1, nf2, nf3, nf4]
    refine st_value (v := (.int .i64 (k : Int))) (by rfl) (run_loadB (.tmp 7) rfl f_one_3 rfl B14 rfl) ?_
    simp only [nf0, nf1, nf2, nf3, nf4]
    refine st_mv (.int .i64 off) ?_
    simp only [nf0, nf1, nf2, nf3, nf4]
    refine st_value (v := (.bool false)) (by rfl) ((run_lss (.tmp 8) (.tmp 9) rfl rfl rfl w16).trans (by rw [hg17])) ?_
    simp only [nf0, nf1, nf2, nf3, nf4]
    refine st_mv (.bool false) ?_
    simp only [nf0, nf1, nf2, nf3, nf4]
    refine st_nob (j := 4) (t := 11) (c := false) rfl rfl rfl rfl rfl ?_
    simp only [nf0, nf1, nf2, nf3, nf4]
    refine st_nob (j := 4) (t := 11) (c := false) rfl rfl rfl rfl rfl ?_
    simp only [nf0, nf1, nf2, nf3, nf4]
    refine st_nob (j := 4) (t := 11) (c := false) rfl rfl rfl rfl rfl ?_
    simp only [nf0, nf1, nf2, nf3, nf4]
    refine st_nob (j := 4) (t := 11) (c := false) rfl rfl rfl rfl rfl ?_
    simp only [nf0, nf1, nf2, nf3, nf4]
    refine st_nob (j := 4) (t := 11) (c := false) rfl rfl rfl rfl rfl ?_
    simp only [nf0, nf1, nf2, nf3, nf4]
    refine st_mv (.bool false) ?_
    simp only [nf0, nf1, nf2, nf3, nf4]
    refine wpList_nil ?_
    show Code.wp _ _ _ _ _
    refine wp_cond_false rfl ?_
    refine wp_exit ?_
    show Code.wp _ _ _ _ _
    refine wp_seq ?_
    refine wp_region_lit ?_
    refine st_value (v := (.agg #[.int .i64 (k : Int), .int .i64 x, .int .i64 y])) (by rfl) (run_loadW (.tmp 5) rfl (cs := #[.int .i64 (k : Int), .int .i64 x, .int .i64 y]) aggPl rfl B14) ?_
    simp only [nf0, nf1, nf2, nf3, nf4]
    refine st_row (by rfl) (run_storeW (.tmp 4) (.tmp 36) rfl (cs := #[.int .i64 (k : Int), .int .i64 x, .int .i64 y]) aggPl rfl rfl B3 rfl (by simp [Value.oneCell'])) B3 ?_
    intro w19 B21 hg20
    simp only [nf0, nf1, nf2, nf3, nf4]
    replace B14 := B14.kept hg20 n11.symm
    replace bel := bl_kept0 bel hg20 lo5
    clear hg20
    clear B3
    refine wpList_nil ?_
    show Code.wp _ _ _ _ _
    refine wp_ret ?_
    first | show bodyPost _ _ _ _ _ _ | (simp only [Exit.then, Exit.inBlock]; show bodyPost _ _ _ _ _ _)
    have hE : clampN off l.length = k := by unfold clampN; omega
    exact bodyPost_ret (results_agg1 rfl (cs := #[.int .i64 (k : Int), .int .i64 x, .int .i64 y]) aggPl (by rfl) B21) rfl ⟨by rw [hE, hx, hy]; rfl, bel⟩
  have hp22 := of_decide_eq_true hg17
  refine wp_region_lit ?_
  refine st_value (v := (.pointer (some ⟨g6, 0, none⟩))) (by rfl) (run_fieldA (.tmp 5) rfl f_fld_26_0 rfl rfl w16) ?_
  simp only [nf0, nf1, nf2, nf3, nf4]
  refine st_value (v := (.int .i64 (k : Int))) (by rfl) (run_loadB (.tmp 7) rfl f_one_3 rfl B14 rfl) ?_
  simp only [nf0, nf1, nf2, nf3, nf4]
  refine st_mv (.int .i64 off) ?_
  simp only [nf0, nf1, nf2, nf3, nf4]
  refine st_value (v := (.bool true)) (by rfl) ((run_lss (.tmp 8) (.tmp 9) rfl rfl rfl w16).trans (by rw [hg17])) ?_
  simp only [nf0, nf1, nf2, nf3, nf4]
  refine st_mv (.bool true) ?_
  simp only [nf0, nf1, nf2, nf3, nf4]
  refine st_value (v := (.pointer (some ⟨g6, 0, none⟩))) (by rfl) (run_fieldA (.tmp 5) rfl f_fld_26_0 rfl rfl w16) ?_
  simp only [nf0, nf1, nf2, nf3, nf4]
  refine st_value (v := (.int .i64 (k : Int))) (by rfl) (run_loadB (.tmp 12) rfl f_one_3 rfl B14 rfl) ?_
  simp only [nf0, nf1, nf2, nf3, nf4]
  refine st_mv (.string (str l)) ?_
  simp only [nf0, nf1, nf2, nf3, nf4]
  refine st_value (v := (.int .i64 (l.length : Int))) (by rfl) (run_len_text (.tmp 14) rfl Try.underlying9 (l := l) rfl w16) ?_
  simp only [nf0, nf1, nf2, nf3, nf4]
  refine st_value (v := (.bool (decide ((k : Int) < (l.length : Int))))) (by rfl) (run_lss (.tmp 13) (.tmp 15) rfl rfl rfl w16) ?_
  simp only [nf0, nf1, nf2, nf3, nf4]
  refine st_mv (.bool (decide ((k : Int) < (l.length : Int)))) ?_
  simp only [nf0, nf1, nf2, nf3, nf4]
  refine wpList_nil ?_
  show Code.wp _ _ _ _ _
  cases hg23 : decide ((k : Int) < (l.length : Int))
  · have hp24 := of_decide_eq_false hg23
    refine wp_cond_false rfl ?_
    refine wp_exit ?_
    show Code.wp _ _ _ _ _
    refine wp_seq ?_
    refine wp_region_lit ?_
    refine st_value (v := (.agg #[.int .i64 (k : Int), .int .i64 x, .int .i64 y])) (by rfl) (run_loadW (.tmp 5) rfl (cs := #[.int .i64 (k : Int), .int .i64 x, .int .i64 y]) aggPl rfl B14) ?_
    simp only [nf0, nf1, nf2, nf3, nf4]
    refine st_row (by rfl) (run_storeW (.tmp 4) (.tmp 36) rfl (cs := #[.int .i64 (k : Int), .int .i64 x, .int .i64 y]) aggPl rfl rfl B3 rfl (by simp [Value.oneCell'])) B3 ?_
    intro w25 B27 hg26
    simp only [nf0, nf1, nf2, nf3, nf4]
    replace B14 := B14.kept hg26 n11.symm
    replace bel := bl_kept0 bel hg26 lo5
    clear hg26
    clear B3
    refine wpList_nil ?_
    show Code.wp _ _ _ _ _
    refine wp_ret ?_
    first | show bodyPost _ _ _ _ _ _ | (simp only [Exit.then, Exit.inBlock]; show bodyPost _ _ _ _ _ _)
    have hE : clampN off l.length = k := by unfold clampN; omega
    exact bodyPost_ret (results_agg1 rfl (cs := #[.int .i64 (k : Int), .int .i64 x, .int .i64 y]) aggPl (by rfl) B27) rfl ⟨by rw [hE, hx, hy]; rfl, bel⟩
  have hp28 := of_decide_eq_true hg23
  refine wp_cond_true rfl ?_
  refine wp_skip ?_
  show Code.wp _ _ _ _ _
  refine wp_block ?_
  refine wp_seq ?_
  refine wp_region_lit ?_
  refine st_value (v := (.pointer (some ⟨g6, 2, none⟩))) (by rfl) (run_fieldA (.tmp 5) rfl f_fld_26_2 rfl rfl w16) ?_
  simp only [nf0, nf1, nf2, nf3, nf4]
  refine st_value (v := (.int .i64 y)) (by rfl) (run_loadB (.tmp 18) rfl f_one_3 rfl B14 rfl) ?_
  simp only [nf0, nf1, nf2, nf3, nf4]
  refine st_value (v := (.int .i64 (y + 1))) (by rfl) (run_add_in (.tmp 19) (.const (.int .i64 1)) rfl rfl rfl (by omega) w16) ?_
  simp only [nf0, nf1, nf2, nf3, nf4]
  refine st_value (v := (.pointer (some ⟨g6, 2, none⟩))) (by rfl) (run_fieldA (.tmp 5) rfl f_fld_26_2 rfl rfl w16) ?_
  simp only [nf0, nf1, nf2, nf3, nf4]
  refine st_cell (v := (.int .i64 (y + 1))) (by rfl) (run_storeB (.tmp 21) (.tmp 20) rfl f_one_3 B14 (show 2 < 3 by decide) rfl rfl rfl rfl) B14 ?_
  intro w29 B31 hg30
  simp only [nf0, nf1, nf2, nf3, nf4]
  replace B3 := B3.kept hg30 n11
  replace bel := bl_kept0 bel hg30 lo10
  clear hg30
  clear B14
  replace B31 : Blk w29 g6 #[.int .i64 (k : Int), .int .i64 x, .int .i64 (y + 1)] 26 := B31
  refine wpList_nil ?_
  show Code.wp _ _ _ _ _
  refine wp_seq ?_
  refine wp_seq ?_
  refine wp_region_lit ?_
  refine st_mv (.string (str l)) ?_
  simp only [nf0, nf1, nf2, nf3, nf4]
  refine st_value (v := (.pointer (some ⟨g6, 0, none⟩))) (by rfl) (run_fieldA (.tmp 5) rfl f_fld_26_0 rfl rfl w29) ?_
  simp only [nf0, nf1, nf2, nf3, nf4]
  refine st_value (v := (.int .i64 (k : Int))) (by rfl) (run_loadB (.tmp 23) rfl f_one_3 rfl B31 rfl) ?_
  simp only [nf0, nf1, nf2, nf3, nf4]
  refine st_value (v := (.int .u8 (chr l k))) (by rfl) (run_index_text (.tmp 22) (.tmp 24) rfl Try.underlying9 (l := l) rfl rfl k (by omega) (by omega) w29) ?_
  simp only [nf0, nf1, nf2, nf3, nf4]
  refine st_value (v := (.bool (decide ((chr l k) = 10)))) (by rfl) (run_eql_int (.tmp 25) (.const (.int .u8 10)) rfl rfl rfl w29) ?_
  simp only [nf0, nf1, nf2, nf3, nf4]
  refine wpList_nil ?_
  show Code.wp _ _ _ _ _
  cases hg32 : decide ((chr l k) = 10)
  · have hp33 := of_decide_eq_false hg32
    have hc : chr l k ≠ 10 := by assumption
    refine wp_cond_false rfl ?_
    refine wp_skip ?_
    show Code.wp _ _ _ _ _
    refine wp_region_lit ?_
    refine st_value (v := (.pointer (some ⟨g6, 0, none⟩))) (by rfl) (run_fieldA (.tmp 5) rfl f_fld_26_0 rfl rfl w29) ?_
    simp only [nf0, nf1, nf2, nf3, nf4]
    refine st_value (v := (.int .i64 (k : Int))) (by rfl) (run_loadB (.tmp 32) rfl f_one_3 rfl B31 rfl) ?_
    simp only [nf0, nf1, nf2, nf3, nf4]
    refine st_value (v := (.int .i64 ((k : Int) + 1))) (by rfl) (run_add_in (.tmp 33) (.const (.int .i64 1)) rfl rfl rfl (by omega) w29) ?_
    simp only [nf0, nf1, nf2, nf3, nf4]
    refine st_value (v := (.pointer (some ⟨g6, 0, none⟩))) (by rfl) (run_fieldA (.tmp 5) rfl f_fld_26_0 rfl rfl w29) ?_
    simp only [nf0, nf1, nf2, nf3, nf4]
    refine st_cell (v := (.int .i64 ((k : Int) + 1))) (by rfl) (run_storeB (.tmp 35) (.tmp 34) rfl f_one_3 B31 (show 0 < 3 by decide) rfl rfl rfl rfl) B31 ?_
    intro w34 B36 hg35
    simp only [nf0, nf1, nf2, nf3, nf4]
    replace B3 := B3.kept hg35 n11
    replace bel := bl_kept0 bel hg35 lo10
    clear hg35
    clear B31
    replace B36 : Blk w34 g6 #[.int .i64 ((k : Int) + 1), .int .i64 x, .int .i64 (y + 1)] 26 := B36
    refine wpList_nil ?_
    show ∃ m, m < _ ∧ _
    exact ⟨_, (by omega), (k + 1), x, (y + 1), rfl, rfl, B3, B36, bel, (by omega), (by omega), (by rw [lnS_no hc]; exact hx), (by rw [lnS_no hc]; omega)⟩
  have hp37 := of_decide_eq_true hg32
  have hc : chr l k = 10 := by assumption
  refine wp_cond_true rfl ?_
  refine wp_seq ?_
  refine wp_region_lit ?_
  refine st_value (v := (.pointer (some ⟨g6, 1, none⟩))) (by rfl) (run_fieldA (.tmp 5) rfl f_fld_26_1 rfl rfl w29) ?_
  simp only [nf0, nf1, nf2, nf3, nf4]
  refine st_value (v := (.int .i64 x)) (by rfl) (run_loadB (.tmp 27) rfl f_one_3 rfl B31 rfl) ?_
  simp only [nf0, nf1, nf2, nf3, nf4]
  refine st_value (v := (.int .i64 (x + 1))) (by rfl) (run_add_in (.tmp 28) (.const (.int .i64 1)) rfl rfl rfl (by omega) w29) ?_
  simp only [nf0, nf1, nf2, nf3, nf4]
  refine st_value (v := (.pointer (some ⟨g6, 1, none⟩))) (by rfl) (run_fieldA (.tmp 5) rfl f_fld_26_1 rfl rfl w29) ?_
  simp only [nf0, nf1, nf2, nf3, nf4]
  refine st_cell (v := (.int .i64 (x + 1))) (by rfl) (run_storeB (.tmp 30) (.tmp 29) rfl f_one_3 B31 (show 1 < 3 by decide) rfl rfl rfl rfl) B31 ?_
  intro w38 B40 hg39
  simp only [nf0, nf1, nf2, nf3, nf4]
  replace B3 := B3.kept hg39 n11
  replace bel := bl_kept0 bel hg39 lo10
  clear hg39
  clear B31
  replace B40 : Blk w38 g6 #[.int .i64 (k : Int), .int .i64 (x + 1), .int .i64 (y + 1)] 26 := B40
  refine wpList_nil ?_
  show Code.wp _ _ _ _ _
  refine wp_region_lit ?_
  refine st_value (v := (.pointer (some ⟨g6, 2, none⟩))) (by rfl) (run_fieldA (.tmp 5) rfl f_fld_26_2 rfl rfl w38) ?_
  simp only [nf0, nf1, nf2, nf3, nf4]
  refine st_cell (v := (.int .i64 1)) (by rfl) (run_storeB (.tmp 31) (.const (.int .i64 1)) rfl f_one_3 B40 (show 2 < 3 by decide) rfl rfl rfl rfl) B40 ?_
  intro w41 B43 hg42
  simp only [nf0, nf1, nf2, nf3, nf4]
  replace B3 := B3.kept hg42 n11
  replace bel := bl_kept0 bel hg42 lo10
  clear hg42
  clear B40
  replace B43 : Blk w41 g6 #[.int .i64 (k : Int), .int .i64 (x + 1), .int .i64 1] 26 := B43
  refine wpList_nil ?_
  show Code.wp _ _ _ _ _
  refine wp_region_lit ?_
  refine st_value (v := (.pointer (some ⟨g6, 0, none⟩))) (by rfl) (run_fieldA (.tmp 5) rfl f_fld_26_0 rfl rfl w41) ?_
  simp only [nf0, nf1, nf2, nf3, nf4]
  refine st_value (v := (.int .i64 (k : Int))) (by rfl) (run_loadB (.tmp 32) rfl f_one_3 rfl B43 rfl) ?_
  simp only [nf0, nf1, nf2, nf3, nf4]
  refine st_value (v := (.int .i64 ((k : Int) + 1))) (by rfl) (run_add_in (.tmp 33) (.const (.int .i64 1)) rfl rfl rfl (by omega) w41) ?_
  simp only [nf0, nf1, nf2, nf3, nf4]
  refine st_value (v := (.pointer (some ⟨g6, 0, none⟩))) (by rfl) (run_fieldA (.tmp 5) rfl f_fld_26_0 rfl rfl w41) ?_
  simp only [nf0, nf1, nf2, nf3, nf4]
  refine st_cell (v := (.int .i64 ((k : Int) + 1))) (by rfl) (run_storeB (.tmp 35) (.tmp 34) rfl f_one_3 B43 (show 0 < 3 by decide) rfl rfl rfl rfl) B43 ?_
  intro w44 B46 hg45
  simp only [nf0, nf1, nf2, nf3, nf4]
  replace B3 := B3.kept hg45 n11
  replace bel := bl_kept0 bel hg45 lo10
  clear hg45
  clear B43
  replace B46 : Blk w44 g6 #[.int .i64 ((k : Int) + 1), .int .i64 (x + 1), .int .i64 1] 26 := B46
  refine wpList_nil ?_
  show ∃ m, m < _ ∧ _
  exact ⟨_, (by omega), (k + 1), (x + 1), 1, rfl, rfl, B3, B46, bel, (by omega), (by omega), (by rw [lnS_yes hc]; dsimp only; omega), (by rw [lnS_yes hc]; dsimp only; omega)⟩
theorem refAt_in {l : List UInt8} {i : Nat} (hi : i ≤ l.length) (hl : l.length ≤ 1000000) (w : World) : Calls Try.prog 12 #[.string (str l), .int .i64 (i : Int)] w fun e w' => e = .returned (.agg (ePl.enc (plc l i)).toArray) ∧ Below w.heap.size w w' := by
  have h := refAt_calls (i : Int) hl w
  rwa [clampN_in hi] at h
set_option maxRecDepth 100000 in
set_option maxHeartbeats 4000000 in
theorem refAll_calls {l : List UInt8} (hl6 : l.length ≤ 65536) (w : World) : Calls Try.prog 10 #[.string (str l)] w fun e w' => ∃ u, e = .returned u ∧ ∃ v, u = .tuple #[v, .int .i64 (desA l).2.1, .int .i64 (((desA l).2.2 : Nat) : Int)] ∧ OwnR w' w.heap.size 33 eTok v (desR l) ∧ Below w.heap.size w w' := by
  have bel : Below w.heap.size w w := Below.refl _ _
  have hl : l.length ≤ 1000000 := by omega
  go_enter Try.func10, Try.ntmps10
  refine wp_seq ?_
  refine wp_region_lit ?_
  refine st_mv (.slice none 0 0) ?_
  simp only [nf0, nf1, nf2, nf3, nf4]
  refine st_mv (.int .i64 0) ?_
  simp only [nf0, nf1, nf2, nf3, nf4]
  refine st_mv (.int .i64 0) ?_
  simp only [nf0, nf1, nf2, nf3, nf4]
  refine wpList_nil ?_
  show Code.wp _ _ _ _ _
  refine wp_seq ?_
  refine wp_seq ?_
  refine wp_region_lit ?_
  refine st_mv (.string (str l)) ?_
  simp only [nf0, nf1, nf2, nf3, nf4]
  refine st_value (v := (.int .i64 (l.length : Int))) (by rfl) (run_len_text (.tmp 10) rfl Try.underlying9 (l := l) rfl w) ?_
  simp only [nf0, nf1, nf2, nf3, nf4]
  refine st_value (v := (.bool (decide (65536 < (l.length : Int))))) (by rfl) (run_gtr (.tmp 11) (.const (.int .i64 65536)) rfl rfl rfl w) ?_
  simp only [nf0, nf1, nf2, nf3, nf4]
  refine wpList_nil ?_
  show Code.wp _ _ _ _ _
  cases hg1 : decide (65536 < (l.length : Int))
  rotate_left
  · have hp358 := of_decide_eq_true hg1
    exfalso
    omega
  have hp2 := of_decide_eq_false hg1
  refine wp_cond_false rfl ?_
  refine wp_skip ?_
  show Code.wp _ _ _ _ _
  refine wp_seq ?_
  refine wp_region_lit ?_
  have O3 : OwnR w w.heap.size 33 eTok (.slice none 0 0) [] := OwnR.nil _ _ _ _
  refine st_mv (.slice none 0 0) ?_
  simp only [nf0, nf1, nf2, nf3, nf4]
  refine wpList_nil ?_
  show Code.wp _ _ _ _ _
  refine wp_seq ?_
  refine wp_region_lit ?_
  refine st_mv (.int .i64 0) ?_
  simp only [nf0, nf1, nf2, nf3, nf4]
  refine wpList_nil ?_
  show Code.wp _ _ _ _ _
  refine wp_seq ?_
  refine wp_block ?_
  refine wp_loop_left (fun n_ a_ wr_ => (fun J5 => ∃ (i : Nat) (f : Nat) (xs : List TTok) (v : Value), n_ = l.length - i ∧ a_ = ⟨#[.string (str l), J5 1, J5 2, J5 3, J5 4, v, .int .i64 (i : Int), J5 7, J5 8, J5 9, J5 10, J5 11, J5 12, J5 13, J5 14, J5 15, J5 16, J5 17, J5 18, J5 19, J5 20, J5 21, J5 22, J5 23, J5 24, J5 25, J5 26, J5 27, J5 28, J5 29, J5 30, J5 31, J5 32, J5 33, J5 34, J5 35, J5 36, J5 37, J5 38, J5 39, J5 40, J5 41, J5 42, J5 43, J5 44, J5 45, J5 46, J5 47, J5 48, J5 49, J5 50, J5 51, J5 52, J5 53, J5 54, J5 55, J5 56, J5 57, J5 58, J5 59, J5 60, J5 61, J5 62, J5 63, J5 64, J5 65, J5 66, J5 67, J5 68, J5 69, J5 70, J5 71, J5 72, J5 73, J5 74, J5 75, J5 76, J5 77, J5 78, J5 79, J5 80, J5 81, J5 82, J5 83, J5 84, J5 85, J5 86, J5 87, J5 88, J5 89, J5 90, J5 91, J5 92, J5 93, J5 94, J5 95, J5 96, J5 97, J5 98, J5 99, J5 100, J5 101, J5 102, J5 103, J5 104, J5 105, J5 106, J5 107, J5 108, J5 109, J5 110, J5 111, J5 112], []⟩ ∧ OwnR wr_ w.heap.size 33 eTok v xs ∧ Below w.heap.size w wr_ ∧ (TK l f i xs)) (jk a_)) (l.length - 0) ⟨0, (l.length + 1), [], (.slice none 0 0), rfl, rfl, O3, bel, (tk_start l)⟩ ?_
  clear O3
  clear bel
  intro n_ a_ w6 h_
  revert h_
  generalize jk a_ = J5
  rintro ⟨i, f, xs, v, hms, rfl, O3, bel, hT⟩
  refine wp_seq ?_
  refine wp_seq ?_
  refine wp_region_lit ?_
  refine st_mv (.int .i64 (i : Int)) ?_
  simp only [nf0, nf1, nf2, nf3, nf4]
  refine st_mv (.string (str l)) ?_
  simp only [nf0, nf1, nf2, nf3, nf4]
  refine st_value (v := (.int .i64 (l.length : Int))) (by rfl) (run_len_text (.tmp 14) rfl Try.underlying9 (l := l) rfl w6) ?_
  simp only [nf0, nf1, nf2, nf3, nf4]
  refine st_value (v := (.bool (decide ((i : Int) < (l.length : Int))))) (by rfl) (run_lss (.tmp 13) (.tmp 15) rfl rfl rfl w6) ?_
  simp only [nf0, nf1, nf2, nf3, nf4]
  refine wpList_nil ?_
  show Code.wp _ _ _ _ _
  cases hg7 : decide ((i : Int) < (l.length : Int))
  · have hp8 := of_decide_eq_false hg7
    refine wp_cond_false rfl ?_
    refine wp_exit ?_
    show Code.wp _ _ _ _ _
    refine wp_seq ?_
    refine wp_region_lit ?_
    refine st_mv v ?_
    simp only [nf0, nf1, nf2, nf3, nf4]
    refine st_mv v ?_
    simp only [nf0, nf1, nf2, nf3, nf4]
    refine st_mv (.int .i64 0) ?_
    simp only [nf0, nf1, nf2, nf3, nf4]
    refine st_mv (.int .i64 0) ?_
    simp only [nf0, nf1, nf2, nf3, nf4]
    refine wpList_nil ?_
    show Code.wp _ _ _ _ _
    refine wp_ret ?_
    first | show bodyPost _ _ _ _ _ _ | (simp only [Exit.then, Exit.inBlock]; show bodyPost _ _ _ _ _ _)
    obtain ⟨hE, hX⟩ := tk_end hT (by omega)
    have hA : desA l = toksA l := by unfold desA; rw [if_neg (by omega)]
    have h0 : (desA l).2.1 = 0 := by rw [hA, hE]
    exact bodyPost_ret (results_tmp3 rfl _ _ _) rfl ⟨_, rfl, _, by rw [h0, show (desA l).2.2 = 0 from by rw [hA, hE]]; rfl, by unfold desR; rw [if_pos h0, hA, ← hX]; exact O3, bel⟩
  have hp9 := of_decide_eq_true hg7
  refine wp_cond_true rfl ?_
  refine wp_skip ?_
  show Code.wp _ _ _ _ _
  refine wp_block ?_
  refine wp_seq ?_
  refine wp_region_lit ?_
  refine st_mv (.string (str l)) ?_
  simp only [nf0, nf1, nf2, nf3, nf4]
  refine st_mv (.int .i64 (i : Int)) ?_
  simp only [nf0, nf1, nf2, nf3, nf4]
  refine st_value (v := (.int .u8 (chr l i))) (by rfl) (run_index_text (.tmp 17) (.tmp 18) rfl Try.underlying9 (l := l) rfl rfl i (by omega) (by omega) w6) ?_
  simp only [nf0, nf1, nf2, nf3, nf4]
  refine st_call1 (v := (.int .i64 ((kd (chr l i) : Nat) : Int))) (by rfl) (f_run_call_22_1 (.tmp 19) rfl rfl _) (kind_calls (chr l i) w6) ?_
  intro w10 hb11
  simp only [nf0, nf1, nf2, nf3, nf4]
  replace O3 := O3.same hb11
  replace bel := bl_step bel hb11
  clear hb11
  refine st_mv (.int .i64 ((kd (chr l i) : Nat) : Int)) ?_
  simp only [nf0, nf1, nf2, nf3, nf4]
  refine wpList_nil ?_
  show Code.wp _ _ _ _ _
  refine wp_seq ?_
  refine wp_seq ?_
  refine wp_region_lit ?_
  refine st_mv (.int .i64 ((kd (chr l i) : Nat) : Int)) ?_
  simp only [nf0, nf1, nf2, nf3, nf4]
  refine st_value (v := (.bool (decide (((kd (chr l i) : Nat) : Int) = 6)))) (by rfl) (run_eql_int (.tmp 21) (.const (.int .i64 6)) rfl rfl rfl w10) ?_
  simp only [nf0, nf1, nf2, nf3, nf4]
  refine wpList_nil ?_
  show Code.wp _ _ _ _ _
  cases hg12 : decide (((kd (chr l i) : Nat) : Int) = 6)
  rotate_left
  · have hp357 := of_decide_eq_true hg12
    refine wp_cond_true rfl ?_
    refine wp_seq ?_
    refine wp_region_lit ?_
    refine st_mv (.int .i64 (i : Int)) ?_
    simp only [nf0, nf1, nf2, nf3, nf4]
    refine st_value (v := (.int .i64 ((i : Int) + 1))) (by rfl) (run_add_in (.tmp 23) (.const (.int .i64 1)) rfl rfl rfl (by omega) w10) ?_
    simp only [nf0, nf1, nf2, nf3, nf4]
    refine st_mv (.int .i64 ((i : Int) + 1)) ?_
    simp only [nf0, nf1, nf2, nf3, nf4]
    refine wpList_nil ?_
    show Code.wp _ _ _ _ _
    refine wp_exit ?_
    show ∃ m, m < _ ∧ _
    exact ⟨_, (by omega), (i + 1), (f - 1), xs, v, rfl, rfl, O3, bel, (tk_blank hT (by omega) (by omega))⟩
  have hp13 := of_decide_eq_false hg12
  refine wp_cond_false rfl ?_
  refine wp_skip ?_
  show Code.wp _ _ _ _ _
  refine wp_seq ?_
  refine wp_seq ?_
  refine wp_region_lit ?_
  refine st_mv (.int .i64 ((kd (chr l i) : Nat) : Int)) ?_
  simp only [nf0, nf1, nf2, nf3, nf4]
  refine st_value (v := (.bool (decide (((kd (chr l i) : Nat) : Int) = 7)))) (by rfl) (run_eql_int (.tmp 25) (.const (.int .i64 7)) rfl rfl rfl w10) ?_
  simp only [nf0, nf1, nf2, nf3, nf4]
  refine wpList_nil ?_
  show Code.wp _ _ _ _ _
  cases hg14 : decide (((kd (chr l i) : Nat) : Int) = 7)
  rotate_left
  · have hp348 := of_decide_eq_true hg14
    refine wp_cond_true rfl ?_
    refine wp_seq ?_
    refine wp_block ?_
    have hlt0 : i < l.length := by omega
    have hj1 := ext_le noNL l i (by omega)
    refine wp_loop_left (fun n_ a_ wr_ => (fun J349 => ∃ (j : Nat), n_ = l.length - j ∧ a_ = ⟨#[.string (str l), J349 1, J5 2, J5 3, J5 4, v, .int .i64 (j : Int), .int .i64 ((kd (chr l i) : Nat) : Int), J5 8, J349 9, J349 10, J349 11, J349 12, J349 13, J349 14, J349 15, J349 16, J349 17, J349 18, J349 19, J349 20, J349 21, J349 22, J349 23, J349 24, J349 25, J349 26, J349 27, J349 28, J349 29, J349 30, J349 31, J349 32, J349 33, J349 34, J349 35, J349 36, J349 37, J349 38, J349 39, J349 40, J349 41, J349 42, J349 43, J349 44, J349 45, J349 46, J349 47, J349 48, J349 49, J349 50, J349 51, J349 52, J349 53, J349 54, J349 55, J349 56, J349 57, J349 58, J349 59, J349 60, J349 61, J349 62, J349 63, J349 64, J349 65, J349 66, J349 67, J349 68, J349 69, J349 70, J349 71, J349 72, J349 73, J349 74, J349 75, J349 76, J349 77, J349 78, J349 79, J349 80, J349 81, J349 82, J349 83, J349 84, J349 85, J349 86, J349 87, J349 88, J349 89, J349 90, J349 91, J349 92, J349 93, J349 94, J349 95, J349 96, J349 97, J349 98, J349 99, J349 100, J349 101, J349 102, J349 103, J349 104, J349 105, J349 106, J349 107, J349 108, J349 109, J349 110, J349 111, J349 112], []⟩ ∧ OwnR wr_ w.heap.size 33 eTok v xs ∧ Below w.heap.size w wr_ ∧ (i ≤ j) ∧ (j ≤ ext noNL l i)) (jk a_)) (l.length - i) ⟨i, rfl, rfl, O3, bel, (Nat.le_refl _), (ext_ge _ _ _)⟩ ?_
    clear O3
    clear bel
    intro n_ a_ w350 h_
    revert h_
    generalize jk a_ = J349
    rintro ⟨j, hms, rfl, O3, bel, hij, hje⟩
    refine wp_seq ?_
    refine wp_seq ?_
    cases hg351 : decide ((j : Int) < (l.length : Int))
    · have hp352 := of_decide_eq_false hg351
      refine wp_region_lit ?_
      refine st_mv (.int .i64 (j : Int)) ?_
      simp only [nf0, nf1, nf2, nf3, nf4]
      refine st_mv (.string (str l)) ?_
      simp only [nf0, nf1, nf2, nf3, nf4]
      refine st_value (v := (.int .i64 (l.length : Int))) (by rfl) (run_len_text (.tmp 28) rfl Try.underlying9 (l := l) rfl w350) ?_
      simp only [nf0, nf1, nf2, nf3, nf4]
      refine st_value (v := (.bool false)) (by rfl) ((run_lss (.tmp 27) (.tmp 29) rfl rfl rfl w350).trans (by rw [hg351])) ?_
      simp only [nf0, nf1, nf2, nf3, nf4]
      refine st_mv (.bool false) ?_
      simp only [nf0, nf1, nf2, nf3, nf4]
      refine st_nob (j := 4) (t := 31) (c := false) rfl rfl rfl rfl rfl ?_
      simp only [nf0, nf1, nf2, nf3, nf4]
      refine st_nob (j := 4) (t := 31) (c := false) rfl rfl rfl rfl rfl ?_
      simp only [nf0, nf1, nf2, nf3, nf4]
      refine st_nob (j := 4) (t := 31) (c := false) rfl rfl rfl rfl rfl ?_
      simp only [nf0, nf1, nf2, nf3, nf4]
      refine st_nob (j := 4) (t := 31) (c := false) rfl rfl rfl rfl rfl ?_
      simp only [nf0, nf1, nf2, nf3, nf4]
      refine st_mv (.bool false) ?_
      simp only [nf0, nf1, nf2, nf3, nf4]
      refine wpList_nil ?_
      show Code.wp _ _ _ _ _
      refine wp_cond_false rfl ?_
      refine wp_exit ?_
      show Code.wp _ _ _ _ _
      refine wp_exit ?_
      show ∃ m, m < _ ∧ _
      exact ⟨_, (by have hjE : ext noNL l i = j := ext_stopat hij hje (fun g => by first | (exfalso; omega) | exact decide_eq_false (by omega)); have := note_gt hlt0 (show kd (chr l i) = 7 by omega); omega), j, (f - 1), xs, v, rfl, rfl, O3, bel, (by have hjE : ext noNL l i = j := ext_stopat hij hje (fun g => by first | (exfalso; omega) | exact decide_eq_false (by omega)); rw [← hjE]; exact tk_note hT hlt0 (by omega))⟩
    have hp353 := of_decide_eq_true hg351
    refine wp_region_lit ?_
    refine st_mv (.int .i64 (j : Int)) ?_
    simp only [nf0, nf1, nf2, nf3, nf4]
    refine st_mv (.string (str l)) ?_
    simp only [nf0, nf1, nf2, nf3, nf4]
    refine st_value (v := (.int .i64 (l.length : Int))) (by rfl) (run_len_text (.tmp 28) rfl Try.underlying9 (l := l) rfl w350) ?_
    simp only [nf0, nf1, nf2, nf3, nf4]
    refine st_value (v := (.bool true)) (by rfl) ((run_lss (.tmp 27) (.tmp 29) rfl rfl rfl w350).trans (by rw [hg351])) ?_
    simp only [nf0, nf1, nf2, nf3, nf4]
    refine st_mv (.bool true) ?_
    simp only [nf0, nf1, nf2, nf3, nf4]
    refine st_mv (.string (str l)) ?_
    simp only [nf0, nf1, nf2, nf3, nf4]
    refine st_mv (.int .i64 (j : Int)) ?_
    simp only [nf0, nf1, nf2, nf3, nf4]
    refine st_value (v := (.int .u8 (chr l j))) (by rfl) (run_index_text (.tmp 32) (.tmp 33) rfl Try.underlying9 (l := l) rfl rfl j (by omega) (by omega) w350) ?_
    simp only [nf0, nf1, nf2, nf3, nf4]
    refine st_value (v := (.bool (!decide ((chr l j) = 10)))) (by rfl) (run_neq_int (.tmp 34) (.const (.int .u8 10)) rfl rfl rfl w350) ?_
    simp only [nf0, nf1, nf2, nf3, nf4]
    refine st_mv (.bool (!decide ((chr l j) = 10))) ?_
    simp only [nf0, nf1, nf2, nf3, nf4]
    refine wpList_nil ?_
    show Code.wp _ _ _ _ _
    cases hg354 : decide ((chr l j) = 10)
    rotate_left
    · have hp356 := of_decide_eq_true hg354
      refine wp_cond_false rfl ?_
      refine wp_exit ?_
      show Code.wp _ _ _ _ _
      refine wp_exit ?_
      show ∃ m, m < _ ∧ _
      exact ⟨_, (by have hjE : ext noNL l i = j := ext_stopat hij hje (fun g => by first | (exfalso; omega) | exact decide_eq_false (by omega)); have := note_gt hlt0 (show kd (chr l i) = 7 by omega); omega), j, (f - 1), xs, v, rfl, rfl, O3, bel, (by have hjE : ext noNL l i = j := ext_stopat hij hje (fun g => by first | (exfalso; omega) | exact decide_eq_false (by omega)); rw [← hjE]; exact tk_note hT hlt0 (by omega))⟩
    have hp355 := of_decide_eq_false hg354
    refine wp_cond_true rfl ?_
    refine wp_skip ?_
    show Code.wp _ _ _ _ _
    refine wp_block ?_
    refine wp_region_lit ?_
    refine st_mv (.int .i64 (j : Int)) ?_
    simp only [nf0, nf1, nf2, nf3, nf4]
    refine st_value (v := (.int .i64 ((j : Int) + 1))) (by rfl) (run_add_in (.tmp 37) (.const (.int .i64 1)) rfl rfl rfl (by omega) w350) ?_
    simp only [nf0, nf1, nf2, nf3, nf4]
    refine st_mv (.int .i64 ((j : Int) + 1)) ?_
    simp only [nf0, nf1, nf2, nf3, nf4]
    refine wpList_nil ?_
    show ∃ m, m < _ ∧ _
    exact ⟨_, (by omega), (j + 1), rfl, rfl, O3, bel, (by omega), (ext_step hij hje (by omega) (nl_no (by omega)))⟩
  have hp15 := of_decide_eq_false hg14
  refine wp_cond_false rfl ?_
  refine wp_skip ?_
  show Code.wp _ _ _ _ _
  refine wp_seq ?_
  refine wp_region_lit ?_
  refine st_mv (.int .i64 (i : Int)) ?_
  simp only [nf0, nf1, nf2, nf3, nf4]
  refine st_value (v := (.int .i64 ((i : Int) + 1))) (by rfl) (run_add_in (.tmp 39) (.const (.int .i64 1)) rfl rfl rfl (by omega) w10) ?_
  simp only [nf0, nf1, nf2, nf3, nf4]
  refine st_mv (.int .i64 ((i : Int) + 1)) ?_
  simp only [nf0, nf1, nf2, nf3, nf4]
  refine wpList_nil ?_
  show Code.wp _ _ _ _ _
  refine wp_seq ?_
  refine wp_block ?_
  have hlt0 : i < l.length := by omega
  have hw0 := wend_gt hlt0
  have hw1 := wend_le hlt0
  refine wp_loop_left (fun n_ a_ wr_ => (fun J16 => ∃ (m : Nat), n_ = l.length - m ∧ a_ = ⟨#[.string (str l), J16 1, J5 2, J5 3, J5 4, v, .int .i64 (i : Int), .int .i64 ((kd (chr l i) : Nat) : Int), .int .i64 (m : Int), J16 9, J16 10, J16 11, J16 12, J16 13, J16 14, J16 15, J16 16, J16 17, J16 18, J16 19, J16 20, J16 21, J16 22, J16 23, J16 24, J16 25, J16 26, J16 27, J16 28, J16 29, J16 30, J16 31, J16 32, J16 33, J16 34, J16 35, J16 36, J16 37, J16 38, J16 39, J16 40, J16 41, J16 42, J16 43, J16 44, J16 45, J16 46, J16 47, J16 48, J16 49, J16 50, J16 51, J16 52, J16 53, J16 54, J16 55, J16 56, J16 57, J16 58, J16 59, J16 60, J16 61, J16 62, J16 63, J16 64, J16 65, J16 66, J16 67, J16 68, J16 69, J16 70, J16 71, J16 72, J16 73, J16 74, J16 75, J16 76, J16 77, J16 78, J16 79, J16 80, J16 81, J16 82, J16 83, J16 84, J16 85, J16 86, J16 87, J16 88, J16 89, J16 90, J16 91, J16 92, J16 93, J16 94, J16 95, J16 96, J16 97, J16 98, J16 99, J16 100, J16 101, J16 102, J16 103, J16 104, J16 105, J16 106, J16 107, J16 108, J16 109, J16 110, J16 111, J16 112], []⟩ ∧ OwnR wr_ w.heap.size 33 eTok v xs ∧ Below w.heap.size w wr_ ∧ (i + 1 ≤ m) ∧ (m ≤ wend l i)) (jk a_)) (l.length - (i + 1)) ⟨(i + 1), rfl, rfl, O3, bel, (Nat.le_refl _), (by omega)⟩ ?_
  clear O3
  clear bel
  intro n_ a_ w17 h_
  revert h_
  generalize jk a_ = J16
  rintro ⟨m, hms, rfl, O3, bel, him, hme⟩
  refine wp_seq ?_
  refine wp_seq ?_
  cases hg18 : decide ((m : Int) < (l.length : Int))
  · have hp19 := of_decide_eq_false hg18
    refine wp_region_lit ?_
    refine st_mv (.int .i64 (m : Int)) ?_
    simp only [nf0, nf1, nf2, nf3, nf4]
    refine st_mv (.string (str l)) ?_
    simp only [nf0, nf1, nf2, nf3, nf4]
    refine st_value (v := (.int .i64 (l.length : Int))) (by rfl) (run_len_text (.tmp 42) rfl Try.underlying9 (l := l) rfl w17) ?_
    simp only [nf0, nf1, nf2, nf3, nf4]
    refine st_value (v := (.bool false)) (by rfl) ((run_lss (.tmp 41) (.tmp 43) rfl rfl rfl w17).trans (by rw [hg18])) ?_
    simp only [nf0, nf1, nf2, nf3, nf4]
    refine st_mv (.bool false) ?_
    simp only [nf0, nf1, nf2, nf3, nf4]
    refine st_nob (j := 4) (t := 45) (c := false) rfl rfl rfl rfl rfl ?_
    simp only [nf0, nf1, nf2, nf3, nf4]
    refine st_nob (j := 4) (t := 45) (c := false) rfl rfl rfl rfl rfl ?_
    simp only [nf0, nf1, nf2, nf3, nf4]
    refine st_nob (j := 4) (t := 45) (c := false) rfl rfl rfl rfl rfl ?_
    simp only [nf0, nf1, nf2, nf3, nf4]
    refine st_nou (j := 7) (t := 48) rfl rfl rfl rfl ?_
    simp only [nf0, nf1, nf2, nf3, nf4]
    refine st_nou (j := 7) (t := 48) rfl rfl rfl rfl ?_
    simp only [nf0, nf1, nf2, nf3, nf4]
    refine st_nou (j := 7) (t := 48) rfl rfl rfl rfl ?_
    simp only [nf0, nf1, nf2, nf3, nf4]
    refine st_nou (j := 7) (t := 48) rfl rfl rfl rfl ?_
    simp only [nf0, nf1, nf2, nf3, nf4]
    refine st_nou (j := 7) (t := 48) rfl rfl rfl rfl ?_
    simp only [nf0, nf1, nf2, nf3, nf4]
    refine st_nob (j := 4) (t := 45) (c := false) rfl rfl rfl rfl rfl ?_
    simp only [nf0, nf1, nf2, nf3, nf4]
    refine st_nob (j := 4) (t := 45) (c := false) rfl rfl rfl rfl rfl ?_
    simp only [nf0, nf1, nf2, nf3, nf4]
    refine st_nou (j := 14) (t := 55) rfl rfl rfl rfl ?_
    simp only [nf0, nf1, nf2, nf3, nf4]
    refine st_nou (j := 14) (t := 55) rfl rfl rfl rfl ?_
    simp only [nf0, nf1, nf2, nf3, nf4]
    refine st_nou (j := 14) (t := 55) rfl rfl rfl rfl ?_
    simp only [nf0, nf1, nf2, nf3, nf4]
    refine st_nou (j := 14) (t := 55) rfl rfl rfl rfl ?_
    simp only [nf0, nf1, nf2, nf3, nf4]
    refine st_nou (j := 14) (t := 55) rfl rfl rfl rfl ?_
    simp only [nf0, nf1, nf2, nf3, nf4]
    refine st_nob (j := 4) (t := 45) (c := false) rfl rfl rfl rfl rfl ?_
    simp only [nf0, nf1, nf2, nf3, nf4]
    refine st_nob (j := 4) (t := 45) (c := false) rfl rfl rfl rfl rfl ?_
    simp only [nf0, nf1, nf2, nf3, nf4]
    refine st_nou (j := 21) (t := 62) rfl rfl rfl rfl ?_
    simp only [nf0, nf1, nf2, nf3, nf4]
    refine st_nou (j := 21) (t := 62) rfl rfl rfl rfl ?_
    simp only [nf0, nf1, nf2, nf3, nf4]
    refine st_nou (j := 21) (t := 62) rfl rfl rfl rfl ?_
    simp only [nf0, nf1, nf2, nf3, nf4]
    refine st_nou (j := 24) (t := 65) rfl rfl rfl rfl ?_
    simp only [nf0, nf1, nf2, nf3, nf4]
    refine st_nou (j := 24) (t := 65) rfl rfl rfl rfl ?_
    simp only [nf0, nf1, nf2, nf3, nf4]
    refine st_nou (j := 24) (t := 65) rfl rfl rfl rfl ?_
    simp only [nf0, nf1, nf2, nf3, nf4]
    refine st_nou (j := 24) (t := 65) rfl rfl rfl rfl ?_
    simp only [nf0, nf1, nf2, nf3, nf4]
    refine st_nou (j := 24) (t := 65) rfl rfl rfl rfl ?_
    simp only [nf0, nf1, nf2, nf3, nf4]
    refine st_nou (j := 24) (t := 65) rfl rfl rfl rfl ?_
    simp only [nf0, nf1, nf2, nf3, nf4]
    refine st_nou (j := 30) (t := 71) rfl rfl rfl rfl ?_
    simp only [nf0, nf1, nf2, nf3, nf4]
    refine st_nou (j := 30) (t := 71) rfl rfl rfl rfl ?_
    simp only [nf0, nf1, nf2, nf3, nf4]
    refine st_nou (j := 30) (t := 71) rfl rfl rfl rfl ?_
    simp only [nf0, nf1, nf2, nf3, nf4]
    refine st_nou (j := 30) (t := 71) rfl rfl rfl rfl ?_
    simp only [nf0, nf1, nf2, nf3, nf4]
    refine st_nou (j := 30) (t := 71) rfl rfl rfl rfl ?_
    simp only [nf0, nf1, nf2, nf3, nf4]
    refine st_nou (j := 24) (t := 65) rfl rfl rfl rfl ?_
    simp only [nf0, nf1, nf2, nf3, nf4]
    refine st_nou (j := 21) (t := 62) rfl rfl rfl rfl ?_
    simp only [nf0, nf1, nf2, nf3, nf4]
    refine st_nob (j := 4) (t := 45) (c := false) rfl rfl rfl rfl rfl ?_
    simp only [nf0, nf1, nf2, nf3, nf4]
    refine st_mv (.bool false) ?_
    simp only [nf0, nf1, nf2, nf3, nf4]
    refine wpList_nil ?_
    show Code.wp _ _ _ _ _
    refine wp_cond_false rfl ?_
    refine wp_exit ?_
    show Code.wp _ _ _ _ _
    refine wp_seq ?_
    have hmE : wend l i = m := we_here him hme hlt0 (by omega)
    refine wp_region_facts2_lit (C := Abv w17) 9 [.val (.string (str l)), .val (.int .i64 (i : Int)), .val (.int .i64 (m : Int)), .val (.string (str ((l.take m).drop i))), .val (.string (str l)), .val (.int .i64 (i : Int)), .val (.agg #[.int .i64 ((plc l i).1), .int .i64 ((plc l i).2.1), .int .i64 ((plc l i).2.2)]), .val (.agg #[.int .i64 0, .string (str ((l.take m).drop i)), .int .i64 ((plc l i).1), .int .i64 ((plc l i).2.1), .int .i64 ((plc l i).2.2)]), .new #[.int .i64 0, .string ⟨#[]⟩, .int .i64 0, .int .i64 0, .int .i64 0] 33] w17.heap.size (by kernel_rfl) (by simp) (by kernel_rfl) (by kernel_rfl) (fun _ h => h.size) (Abv.start _) ?_
    simp only [List.take_succ_cons, List.take_zero, List.drop_succ_cons, List.drop_zero]
    refine fst2_val (fun W hC hh => ok2_value (v := (.string (str l))) (by rfl) (by rfl) rfl hC (G0.refl _)) ?_
    simp only [nf0, nf1, nf2, nf3, nf4]
    refine fst2_val (fun W hC hh => ok2_value (v := (.int .i64 (i : Int))) (by rfl) (by rfl) rfl hC (G0.refl _)) ?_
    simp only [nf0, nf1, nf2, nf3, nf4]
    refine fst2_val (fun W hC hh => ok2_value (v := (.int .i64 (m : Int))) (by rfl) (by rfl) rfl hC (G0.refl _)) ?_
    simp only [nf0, nf1, nf2, nf3, nf4]
    refine fst2_val (fun W hC hh => ok2_value (v := (.string (str ((l.take m).drop i)))) (by rfl) (run_sub_text (.tmp 83) (.tmp 84) (.tmp 85) rfl Try.underlying9 (l := l) (p := i) (q := m) rfl rfl rfl (by omega) (by omega) (by omega) (by omega) W) rfl hC (G0.refl _)) ?_
    simp only [nf0, nf1, nf2, nf3, nf4]
    refine fst2_val (fun W hC hh => ok2_value (v := (.string (str l))) (by rfl) (by rfl) rfl hC (G0.refl _)) ?_
    simp only [nf0, nf1, nf2, nf3, nf4]
    refine fst2_val (fun W hC hh => ok2_value (v := (.int .i64 (i : Int))) (by rfl) (by rfl) rfl hC (G0.refl _)) ?_
    simp only [nf0, nf1, nf2, nf3, nf4]
    refine fst2_val (fun W hC hh => ok2_call (by rfl) (f_run_call_12_2 (.tmp 87) (.tmp 88) rfl rfl rfl W) ((refAt_in (l := l) (i := i) (by omega) (by omega) W).mono fun e W' ⟨h1, h2⟩ => ⟨h1, hC.step h2, h2⟩)) ?_
    simp only [nf0, nf1, nf2, nf3, nf4]
    refine fst2_val (fun W hC hh => ok2_value (v := (.agg #[.int .i64 0, .string (str ((l.take m).drop i)), .int .i64 ((plc l i).1), .int .i64 ((plc l i).2.1), .int .i64 ((plc l i).2.2)])) (by rfl) (run_buildV rfl (by kernel_rfl) W) rfl hC (G0.refl _)) ?_
    simp only [nf0, nf1, nf2, nf3, nf4]
    refine fst2_new (fun W hC hh => ok2_new (by rfl) (run_allocV rfl f_zero_33 W) (hC.step (bl_alloc (Below.refl _ _) _))) fun g20 lo21 => ?_
    simp only [nf0, nf1, nf2, nf3, nf4]
    refine fst2_nil fun w23 hC hh hnd => ?_
    replace hC : Below w17.heap.size w17 w23 := hC
    have B22 : Blk w23 g20 #[.int .i64 0, .string ⟨#[]⟩, .int .i64 0, .int .i64 0, .int .i64 0] 33 := (List.forall_mem_cons.1 hh).1
    replace hh := (List.forall_mem_cons.1 hh).2
    have n24 := O3.off lo21
    replace lo21 := low_le bel lo21
    clear hh hnd
    replace O3 := O3.same hC
    replace bel := bl_step bel hC
    clear hC
    refine st_row (by rfl) (run_storeW (.tmp 9) (.tmp 90) rfl (cs := #[.int .i64 0, .string (str ((l.take m).drop i)), .int .i64 ((plc l i).1), .int .i64 ((plc l i).2.1), .int .i64 ((plc l i).2.2)]) aggTok rfl rfl B22 rfl (by simp [Value.oneCell'])) B22 ?_
    intro w25 B27 hg26
    simp only [nf0, nf1, nf2, nf3, nf4]
    replace O3 := O3.keptB hg26 n24
    replace bel := bl_kept0 bel hg26 lo21
    clear hg26
    clear B22
    refine wpList_nil ?_
    show Code.wp _ _ _ _ _
    refine wp_seq ?_
    refine wp_seq ?_
    refine wp_region_lit ?_
    refine st_mv (.int .i64 ((kd (chr l i) : Nat) : Int)) ?_
    simp only [nf0, nf1, nf2, nf3, nf4]
    refine wpList_nil ?_
    show Code.wp _ _ _ _ _
    refine wp_block ?_
    refine wp_seq ?_
    refine wp_region_lit ?_
    refine st_value (v := (.bool (decide (((kd (chr l i) : Nat) : Int) = 1)))) (by rfl) (run_eql_int (.tmp 91) (.const (.int .i64 1)) rfl rfl rfl w25) ?_
    simp only [nf0, nf1, nf2, nf3, nf4]
    refine st_mv (.bool (decide (((kd (chr l i) : Nat) : Int) = 1))) ?_
    simp only [nf0, nf1, nf2, nf3, nf4]
    refine wpList_nil ?_
    show Code.wp _ _ _ _ _
    cases hg28 : decide (((kd (chr l i) : Nat) : Int) = 1)
    rotate_left
    · have hp68 := of_decide_eq_true hg28
      refine wp_cond_true rfl ?_
      refine wp_seq ?_
      refine wp_region_lit ?_
      refine st_value (v := (.pointer (some ⟨g20, 0, none⟩))) (by rfl) (run_fieldA (.tmp 9) rfl f_fld_33_0 rfl rfl w25) ?_
      simp only [nf0, nf1, nf2, nf3, nf4]
      refine st_cell (v := (.int .i64 1)) (by rfl) (run_storeB (.tmp 95) (.const (.int .i64 1)) rfl f_one_3 B27 (show 0 < 5 by decide) rfl rfl rfl rfl) B27 ?_
      intro w69 B71 hg70
      simp only [nf0, nf1, nf2, nf3, nf4]
      replace O3 := O3.keptB hg70 n24
      replace bel := bl_kept0 bel hg70 lo21
      clear hg70
      clear B27
      replace B71 : Blk w69 g20 #[.int .i64 1, .string (str ((l.take m).drop i)), .int .i64 ((plc l i).1), .int .i64 ((plc l i).2.1), .int .i64 ((plc l i).2.2)] 33 := B71
      refine wpList_nil ?_
      show Code.wp _ _ _ _ _
      refine wp_seq ?_
      refine wp_region_lit ?_
      refine st_mv (.int .i64 (m : Int)) ?_
      simp only [nf0, nf1, nf2, nf3, nf4]
      refine st_mv (.int .i64 (i : Int)) ?_
      simp only [nf0, nf1, nf2, nf3, nf4]
      refine st_value (v := (.int .i64 ((m : Int) - (i : Int)))) (by rfl) (run_sub_in (.tmp 96) (.tmp 97) rfl rfl rfl (by omega) w69) ?_
      simp only [nf0, nf1, nf2, nf3, nf4]
      refine st_value (v := (.bool (decide (32 < ((m : Int) - (i : Int)))))) (by rfl) (run_gtr (.tmp 98) (.const (.int .i64 32)) rfl rfl rfl w69) ?_
      simp only [nf0, nf1, nf2, nf3, nf4]
      refine wpList_nil ?_
      show Code.wp _ _ _ _ _
      cases hg72 : decide (32 < ((m : Int) - (i : Int)))
      rotate_left
      · have hp87 := of_decide_eq_true hg72
        refine wp_cond_true rfl ?_
        refine wp_seq ?_
        refine wp_region_lit ?_
        refine st_mv (.int .i64 (i : Int)) ?_
        simp only [nf0, nf1, nf2, nf3, nf4]
        refine st_mv (.slice none 0 0) ?_
        simp only [nf0, nf1, nf2, nf3, nf4]
        refine st_mv (.int .i64 2) ?_
        simp only [nf0, nf1, nf2, nf3, nf4]
        refine st_mv (.int .i64 (i : Int)) ?_
        simp only [nf0, nf1, nf2, nf3, nf4]
        refine wpList_nil ?_
        show Code.wp _ _ _ _ _
        refine wp_ret ?_
        first | show bodyPost _ _ _ _ _ _ | (simp only [Exit.then, Exit.inBlock]; show bodyPost _ _ _ _ _ _)
        have ht : terr l i = 2 := by unfold terr; rw [if_pos (by omega), if_pos (by omega)]
        have hE := tk_bad hT hlt0 (by omega) (by omega) (by rw [ht]; show ((2 : Int) ≠ 0); decide)
        have hA : desA l = toksA l := by unfold desA; rw [if_neg (by omega)]
        have h0 : ¬ (desA l).2.1 = 0 := by rw [hA, hE, ht]; show ¬ ((2 : Int) = 0); decide
        exact bodyPost_ret (results_tmp3 rfl _ _ _) rfl ⟨_, rfl, _, by rw [hA, hE, ht]; rfl, by unfold desR; rw [if_neg h0]; exact OwnR.nil _ _ _ _, bel⟩
      have hp73 := of_decide_eq_false hg72
      refine wp_cond_false rfl ?_
      refine wp_skip ?_
      show Code.wp _ _ _ _ _
      refine wp_seq ?_
      have ht0 : terr l i = 0 := by unfold terr; rw [if_pos (by omega), if_neg (by omega)]
      have htk : tokI l i = (1, (l.take m).drop i, plc l i) := by unfold tokI; rw [hmE, show tkind (kd (chr l i)) = 1 from by unfold tkind; (repeat' split) <;> omega]
      refine wp_region_lit ?_
      refine st_mv v ?_
      simp only [nf0, nf1, nf2, nf3, nf4]
      refine st_value (v := (.agg #[.int .i64 1, .string (str ((l.take m).drop i)), .int .i64 ((plc l i).1), .int .i64 ((plc l i).2.1), .int .i64 ((plc l i).2.2)])) (by rfl) (run_loadW (.tmp 9) rfl (cs := #[.int .i64 1, .string (str ((l.take m).drop i)), .int .i64 ((plc l i).1), .int .i64 ((plc l i).2.1), .int .i64 ((plc l i).2.2)]) aggTok rfl B71) ?_
      simp only [nf0, nf1, nf2, nf3, nf4]
      refine st_lit (by rfl) (f_run_lit_23_1 (.tmp 108) rfl (m0 := (1, ((l.take m).drop i), (((plc l i).1), ((plc l i).2.1), ((plc l i).2.2)))) rfl _) ?_
      intro g74 w75 B76 hb77 lo78
      simp only [nf0, nf1, nf2, nf3, nf4]
      have n79 := O3.off lo78
      have n80 := B71.ne lo78
      replace lo78 := low_le bel lo78
      replace O3 := O3.same hb77
      replace B71 := B71.below hb77
      replace bel := bl_step bel hb77
      clear hb77
      refine st_append slTok rfl (.tmp 107) (.tmp 109) rfl rfl O3 ([(1, ((l.take m).drop i), (((plc l i).1), ((plc l i).2.1), ((plc l i).2.2)))] : List TTok) rfl rfl B76 (by simp [Enc.all, eTok, ePl]) (by have := tk_len hT; simp only [List.length_cons, List.length_nil]; omega) bel.size ?_
      intro v81 w82 O83 hg84 hat85
      simp only [nf0, nf1, nf2, nf3, nf4]
      have n86 := (n24 : Off _ _).app B71 hat85
      replace B71 := B71.keptR hg84 n24
      replace bel := bl_app bel O3 hg84
      clear O3 hg84 hat85
      refine st_mv v81 ?_
      simp only [nf0, nf1, nf2, nf3, nf4]
      refine wpList_nil ?_
      show Code.wp _ _ _ _ _
      refine wp_region_lit ?_
      refine st_mv (.int .i64 (m : Int)) ?_
      simp only [nf0, nf1, nf2, nf3, nf4]
      refine st_mv (.int .i64 (m : Int)) ?_
      simp only [nf0, nf1, nf2, nf3, nf4]
      refine wpList_nil ?_
      show ∃ m, m < _ ∧ _
      exact ⟨_, (by omega), m, (f - 1), _, v81, rfl, rfl, O83, bel, (by have h_ := tk_tok hT hlt0 (by omega) (by omega) ht0; rw [hmE, htk] at h_; exact h_)⟩
    have hp29 := of_decide_eq_false hg28
    refine wp_cond_false rfl ?_
    refine wp_seq ?_
    refine wp_region_lit ?_
    refine st_value (v := (.bool (decide (((kd (chr l i) : Nat) : Int) = 2)))) (by rfl) (run_eql_int (.tmp 91) (.const (.int .i64 2)) rfl rfl rfl w25) ?_
    simp only [nf0, nf1, nf2, nf3, nf4]
    refine st_mv (.bool (decide (((kd (chr l i) : Nat) : Int) = 2))) ?_
    simp only [nf0, nf1, nf2, nf3, nf4]
    refine wpList_nil ?_
    show Code.wp _ _ _ _ _
    cases hg30 : decide (((kd (chr l i) : Nat) : Int) = 2)
    rotate_left
    · have hp51 := of_decide_eq_true hg30
      refine wp_cond_true rfl ?_
      refine wp_region_lit ?_
      refine st_value (v := (.pointer (some ⟨g20, 0, none⟩))) (by rfl) (run_fieldA (.tmp 9) rfl f_fld_33_0 rfl rfl w25) ?_
      simp only [nf0, nf1, nf2, nf3, nf4]
      refine st_cell (v := (.int .i64 2)) (by rfl) (run_storeB (.tmp 103) (.const (.int .i64 2)) rfl f_one_3 B27 (show 0 < 5 by decide) rfl rfl rfl rfl) B27 ?_
      intro w52 B54 hg53
      simp only [nf0, nf1, nf2, nf3, nf4]
      replace O3 := O3.keptB hg53 n24
      replace bel := bl_kept0 bel hg53 lo21
      clear hg53
      clear B27
      replace B54 : Blk w52 g20 #[.int .i64 2, .string (str ((l.take m).drop i)), .int .i64 ((plc l i).1), .int .i64 ((plc l i).2.1), .int .i64 ((plc l i).2.2)] 33 := B54
      refine wpList_nil ?_
      show Code.wp _ _ _ _ _
      refine wp_seq ?_
      have ht0 : terr l i = 0 := by unfold terr; rw [if_neg (by omega), if_pos (.inl (by omega))]
      have htk : tokI l i = (2, (l.take m).drop i, plc l i) := by unfold tokI; rw [hmE, show tkind (kd (chr l i)) = 2 from by unfold tkind; (repeat' split) <;> omega]
      refine wp_region_lit ?_
      refine st_mv v ?_
      simp only [nf0, nf1, nf2, nf3, nf4]
      refine st_value (v := (.agg #[.int .i64 2, .string (str ((l.take m).drop i)), .int .i64 ((plc l i).1), .int .i64 ((plc l i).2.1), .int .i64 ((plc l i).2.2)])) (by rfl) (run_loadW (.tmp 9) rfl (cs := #[.int .i64 2, .string (str ((l.take m).drop i)), .int .i64 ((plc l i).1), .int .i64 ((plc l i).2.1), .int .i64 ((plc l i).2.2)]) aggTok rfl B54) ?_
      simp only [nf0, nf1, nf2, nf3, nf4]
      refine st_lit (by rfl) (f_run_lit_23_1 (.tmp 108) rfl (m0 := (2, ((l.take m).drop i), (((plc l i).1), ((plc l i).2.1), ((plc l i).2.2)))) rfl _) ?_
      intro g55 w56 B57 hb58 lo59
      simp only [nf0, nf1, nf2, nf3, nf4]
      have n60 := O3.off lo59
      have n61 := B54.ne lo59
      replace lo59 := low_le bel lo59
      replace O3 := O3.same hb58
      replace B54 := B54.below hb58
      replace bel := bl_step bel hb58
      clear hb58
      refine st_append slTok rfl (.tmp 107) (.tmp 109) rfl rfl O3 ([(2, ((l.take m).drop i), (((plc l i).1), ((plc l i).2.1), ((plc l i).2.2)))] : List TTok) rfl rfl B57 (by simp [Enc.all, eTok, ePl]) (by have := tk_len hT; simp only [List.length_cons, List.length_nil]; omega) bel.size ?_
      intro v62 w63 O64 hg65 hat66
      simp only [nf0, nf1, nf2, nf3, nf4]
      have n67 := (n24 : Off _ _).app B54 hat66
      replace B54 := B54.keptR hg65 n24
      replace bel := bl_app bel O3 hg65
      clear O3 hg65 hat66
      refine st_mv v62 ?_
      simp only [nf0, nf1, nf2, nf3, nf4]
      refine wpList_nil ?_
      show Code.wp _ _ _ _ _
      refine wp_region_lit ?_
      refine st_mv (.int .i64 (m : Int)) ?_
      simp only [nf0, nf1, nf2, nf3, nf4]
      refine st_mv (.int .i64 (m : Int)) ?_
      simp only [nf0, nf1, nf2, nf3, nf4]
      refine wpList_nil ?_
      show ∃ m, m < _ ∧ _
      exact ⟨_, (by omega), m, (f - 1), _, v62, rfl, rfl, O64, bel, (by have h_ := tk_tok hT hlt0 (by omega) (by omega) ht0; rw [hmE, htk] at h_; exact h_)⟩
    have hp31 := of_decide_eq_false hg30
    refine wp_cond_false rfl ?_
    refine wp_seq ?_
    refine wp_region_lit ?_
    refine st_value (v := (.bool (decide (((kd (chr l i) : Nat) : Int) = 5)))) (by rfl) (run_eql_int (.tmp 91) (.const (.int .i64 5)) rfl rfl rfl w25) ?_
    simp only [nf0, nf1, nf2, nf3, nf4]
    refine st_mv (.bool (decide (((kd (chr l i) : Nat) : Int) = 5))) ?_
    simp only [nf0, nf1, nf2, nf3, nf4]
    refine wpList_nil ?_
    show Code.wp _ _ _ _ _
    cases hg32 : decide (((kd (chr l i) : Nat) : Int) = 5)
    · have hp33 := of_decide_eq_false hg32
      refine wp_cond_false rfl ?_
      refine wp_seq ?_
      refine wp_region_lit ?_
      refine st_mv (.int .i64 (i : Int)) ?_
      simp only [nf0, nf1, nf2, nf3, nf4]
      refine st_mv (.slice none 0 0) ?_
      simp only [nf0, nf1, nf2, nf3, nf4]
      refine st_mv (.int .i64 20) ?_
      simp only [nf0, nf1, nf2, nf3, nf4]
      refine st_mv (.int .i64 (i : Int)) ?_
      simp only [nf0, nf1, nf2, nf3, nf4]
      refine wpList_nil ?_
      show Code.wp _ _ _ _ _
      refine wp_ret ?_
      first | show bodyPost _ _ _ _ _ _ | (simp only [Exit.then, Exit.inBlock]; show bodyPost _ _ _ _ _ _)
      have ht : terr l i = 20 := by unfold terr; rw [if_neg (by omega), if_neg (by omega)]
      have hE := tk_bad hT hlt0 (by omega) (by omega) (by rw [ht]; show ((20 : Int) ≠ 0); decide)
      have hA : desA l = toksA l := by unfold desA; rw [if_neg (by omega)]
      have h0 : ¬ (desA l).2.1 = 0 := by rw [hA, hE, ht]; show ¬ ((20 : Int) = 0); decide
      exact bodyPost_ret (results_tmp3 rfl _ _ _) rfl ⟨_, rfl, _, by rw [hA, hE, ht]; rfl, by unfold desR; rw [if_neg h0]; exact OwnR.nil _ _ _ _, bel⟩
    have hp34 := of_decide_eq_true hg32
    refine wp_cond_true rfl ?_
    refine wp_region_lit ?_
    refine st_value (v := (.pointer (some ⟨g20, 0, none⟩))) (by rfl) (run_fieldA (.tmp 9) rfl f_fld_33_0 rfl rfl w25) ?_
    simp only [nf0, nf1, nf2, nf3, nf4]
    refine st_cell (v := (.int .i64 3)) (by rfl) (run_storeB (.tmp 106) (.const (.int .i64 3)) rfl f_one_3 B27 (show 0 < 5 by decide) rfl rfl rfl rfl) B27 ?_
    intro w35 B37 hg36
    simp only [nf0, nf1, nf2, nf3, nf4]
    replace O3 := O3.keptB hg36 n24
    replace bel := bl_kept0 bel hg36 lo21
    clear hg36
    clear B27
    replace B37 : Blk w35 g20 #[.int .i64 3, .string (str ((l.take m).drop i)), .int .i64 ((plc l i).1), .int .i64 ((plc l i).2.1), .int .i64 ((plc l i).2.2)] 33 := B37
    refine wpList_nil ?_
    show Code.wp _ _ _ _ _
    refine wp_seq ?_
    have ht0 : terr l i = 0 := by unfold terr; rw [if_neg (by omega), if_pos (.inr (by omega))]
    have htk : tokI l i = (3, (l.take m).drop i, plc l i) := by unfold tokI; rw [hmE, show tkind (kd (chr l i)) = 3 from by unfold tkind; (repeat' split) <;> omega]
    refine wp_region_lit ?_
    refine st_mv v ?_
    simp only [nf0, nf1, nf2, nf3, nf4]
    refine st_value (v := (.agg #[.int .i64 3, .string (str ((l.take m).drop i)), .int .i64 ((plc l i).1), .int .i64 ((plc l i).2.1), .int .i64 ((plc l i).2.2)])) (by rfl) (run_loadW (.tmp 9) rfl (cs := #[.int .i64 3, .string (str ((l.take m).drop i)), .int .i64 ((plc l i).1), .int .i64 ((plc l i).2.1), .int .i64 ((plc l i).2.2)]) aggTok rfl B37) ?_
    simp only [nf0, nf1, nf2, nf3, nf4]
    refine st_lit (by rfl) (f_run_lit_23_1 (.tmp 108) rfl (m0 := (3, ((l.take m).drop i), (((plc l i).1), ((plc l i).2.1), ((plc l i).2.2)))) rfl _) ?_
    intro g38 w39 B40 hb41 lo42
    simp only [nf0, nf1, nf2, nf3, nf4]
    have n43 := O3.off lo42
    have n44 := B37.ne lo42
    replace lo42 := low_le bel lo42
    replace O3 := O3.same hb41
    replace B37 := B37.below hb41
    replace bel := bl_step bel hb41
    clear hb41
    refine st_append slTok rfl (.tmp 107) (.tmp 109) rfl rfl O3 ([(3, ((l.take m).drop i), (((plc l i).1), ((plc l i).2.1), ((plc l i).2.2)))] : List TTok) rfl rfl B40 (by simp [Enc.all, eTok, ePl]) (by have := tk_len hT; simp only [List.length_cons, List.length_nil]; omega) bel.size ?_
    intro v45 w46 O47 hg48 hat49
    simp only [nf0, nf1, nf2, nf3, nf4]
    have n50 := (n24 : Off _ _).app B37 hat49
    replace B37 := B37.keptR hg48 n24
    replace bel := bl_app bel O3 hg48
    clear O3 hg48 hat49
    refine st_mv v45 ?_
    simp only [nf0, nf1, nf2, nf3, nf4]
    refine wpList_nil ?_
    show Code.wp _ _ _ _ _
    refine wp_region_lit ?_
    refine st_mv (.int .i64 (m : Int)) ?_
    simp only [nf0, nf1, nf2, nf3, nf4]
    refine st_mv (.int .i64 (m : Int)) ?_
    simp only [nf0, nf1, nf2, nf3, nf4]
    refine wpList_nil ?_
    show ∃ m, m < _ ∧ _
    exact ⟨_, (by omega), m, (f - 1), _, v45, rfl, rfl, O47, bel, (by have h_ := tk_tok hT hlt0 (by omega) (by omega) ht0; rw [hmE, htk] at h_; exact h_)⟩
  have hp88 := of_decide_eq_true hg18
  cases hg89 : decide (((kd (chr l i) : Nat) : Int) = 1)
  · have hp90 := of_decide_eq_false hg89
    cases hg91 : decide (((kd (chr l i) : Nat) : Int) = 2)
    · have hp92 := of_decide_eq_false hg91
      refine wp_region_lit ?_
      refine st_mv (.int .i64 (m : Int)) ?_
      simp only [nf0, nf1, nf2, nf3, nf4]
      refine st_mv (.string (str l)) ?_
      simp only [nf0, nf1, nf2, nf3, nf4]
      refine st_value (v := (.int .i64 (l.length : Int))) (by rfl) (run_len_text (.tmp 42) rfl Try.underlying9 (l := l) rfl w17) ?_
      simp only [nf0, nf1, nf2, nf3, nf4]
      refine st_value (v := (.bool true)) (by rfl) ((run_lss (.tmp 41) (.tmp 43) rfl rfl rfl w17).trans (by rw [hg18])) ?_
      simp only [nf0, nf1, nf2, nf3, nf4]
      refine st_mv (.bool true) ?_
      simp only [nf0, nf1, nf2, nf3, nf4]
      refine st_mv (.int .i64 ((kd (chr l i) : Nat) : Int)) ?_
      simp only [nf0, nf1, nf2, nf3, nf4]
      refine st_value (v := (.bool false)) (by rfl) ((run_eql_int (.tmp 46) (.const (.int .i64 1)) rfl rfl rfl w17).trans (by rw [hg89])) ?_
      simp only [nf0, nf1, nf2, nf3, nf4]
      refine st_mv (.bool false) ?_
      simp only [nf0, nf1, nf2, nf3, nf4]
      refine st_nob (j := 7) (t := 48) (c := false) rfl rfl rfl rfl rfl ?_
      simp only [nf0, nf1, nf2, nf3, nf4]
      refine st_nob (j := 7) (t := 48) (c := false) rfl rfl rfl rfl rfl ?_
      simp only [nf0, nf1, nf2, nf3, nf4]
      refine st_nob (j := 7) (t := 48) (c := false) rfl rfl rfl rfl rfl ?_
      simp only [nf0, nf1, nf2, nf3, nf4]
      refine st_nob (j := 7) (t := 48) (c := false) rfl rfl rfl rfl rfl ?_
      simp only [nf0, nf1, nf2, nf3, nf4]
      refine st_nob (j := 7) (t := 48) (c := false) rfl rfl rfl rfl rfl ?_
      simp only [nf0, nf1, nf2, nf3, nf4]
      refine st_mv (.bool false) ?_
      simp only [nf0, nf1, nf2, nf3, nf4]
      refine st_mv (.bool false) ?_
      simp only [nf0, nf1, nf2, nf3, nf4]
      refine st_nob (j := 14) (t := 55) (c := false) rfl rfl rfl rfl rfl ?_
      simp only [nf0, nf1, nf2, nf3, nf4]
      refine st_nob (j := 14) (t := 55) (c := false) rfl rfl rfl rfl rfl ?_
      simp only [nf0, nf1, nf2, nf3, nf4]
      refine st_nob (j := 14) (t := 55) (c := false) rfl rfl rfl rfl rfl ?_
      simp only [nf0, nf1, nf2, nf3, nf4]
      refine st_nob (j := 14) (t := 55) (c := false) rfl rfl rfl rfl rfl ?_
      simp only [nf0, nf1, nf2, nf3, nf4]
      refine st_nob (j := 14) (t := 55) (c := false) rfl rfl rfl rfl rfl ?_
      simp only [nf0, nf1, nf2, nf3, nf4]
      refine st_mv (.bool false) ?_
      simp only [nf0, nf1, nf2, nf3, nf4]
      refine st_mv (.bool false) ?_
      simp only [nf0, nf1, nf2, nf3, nf4]
      refine st_mv (.int .i64 ((kd (chr l i) : Nat) : Int)) ?_
      simp only [nf0, nf1, nf2, nf3, nf4]
      refine st_value (v := (.bool false)) (by rfl) ((run_eql_int (.tmp 63) (.const (.int .i64 2)) rfl rfl rfl w17).trans (by rw [hg91])) ?_
      simp only [nf0, nf1, nf2, nf3, nf4]
      refine st_mv (.bool false) ?_
      simp only [nf0, nf1, nf2, nf3, nf4]
      refine st_nob (j := 24) (t := 65) (c := false) rfl rfl rfl rfl rfl ?_
      simp only [nf0, nf1, nf2, nf3, nf4]
      refine st_nob (j := 24) (t := 65) (c := false) rfl rfl rfl rfl rfl ?_
      simp only [nf0, nf1, nf2, nf3, nf4]
      refine st_nob (j := 24) (t := 65) (c := false) rfl rfl rfl rfl rfl ?_
      simp only [nf0, nf1, nf2, nf3, nf4]
      refine st_nob (j := 24) (t := 65) (c := false) rfl rfl rfl rfl rfl ?_
      simp only [nf0, nf1, nf2, nf3, nf4]
      refine st_nob (j := 24) (t := 65) (c := false) rfl rfl rfl rfl rfl ?_
      simp only [nf0, nf1, nf2, nf3, nf4]
      refine st_nob (j := 24) (t := 65) (c := false) rfl rfl rfl rfl rfl ?_
      simp only [nf0, nf1, nf2, nf3, nf4]
      refine st_nou (j := 30) (t := 71) rfl rfl rfl rfl ?_
      simp only [nf0, nf1, nf2, nf3, nf4]
      refine st_nou (j := 30) (t := 71) rfl rfl rfl rfl ?_
      simp only [nf0, nf1, nf2, nf3, nf4]
      refine st_nou (j := 30) (t := 71) rfl rfl rfl rfl ?_
      simp only [nf0, nf1, nf2, nf3, nf4]
      refine st_nou (j := 30) (t := 71) rfl rfl rfl rfl ?_
      simp only [nf0, nf1, nf2, nf3, nf4]
      refine st_nou (j := 30) (t := 71) rfl rfl rfl rfl ?_
      simp only [nf0, nf1, nf2, nf3, nf4]
      refine st_nob (j := 24) (t := 65) (c := false) rfl rfl rfl rfl rfl ?_
      simp only [nf0, nf1, nf2, nf3, nf4]
      refine st_mv (.bool false) ?_
      simp only [nf0, nf1, nf2, nf3, nf4]
      refine st_mv (.bool false) ?_
      simp only [nf0, nf1, nf2, nf3, nf4]
      refine st_mv (.bool false) ?_
      simp only [nf0, nf1, nf2, nf3, nf4]
      refine wpList_nil ?_
      show Code.wp _ _ _ _ _
      refine wp_cond_false rfl ?_
      refine wp_exit ?_
      show Code.wp _ _ _ _ _
      refine wp_seq ?_
      have hmE : wend l i = m := we_here him hme hlt0 (by omega)
      refine wp_region_facts2_lit (C := Abv w17) 9 [.val (.string (str l)), .val (.int .i64 (i : Int)), .val (.int .i64 (m : Int)), .val (.string (str ((l.take m).drop i))), .val (.string (str l)), .val (.int .i64 (i : Int)), .val (.agg #[.int .i64 ((plc l i).1), .int .i64 ((plc l i).2.1), .int .i64 ((plc l i).2.2)]), .val (.agg #[.int .i64 0, .string (str ((l.take m).drop i)), .int .i64 ((plc l i).1), .int .i64 ((plc l i).2.1), .int .i64 ((plc l i).2.2)]), .new #[.int .i64 0, .string ⟨#[]⟩, .int .i64 0, .int .i64 0, .int .i64 0] 33] w17.heap.size (by kernel_rfl) (by simp) (by kernel_rfl) (by kernel_rfl) (fun _ h => h.size) (Abv.start _) ?_
      simp only [List.take_succ_cons, List.take_zero, List.drop_succ_cons, List.drop_zero]
      refine fst2_val (fun W hC hh => ok2_value (v := (.string (str l))) (by rfl) (by rfl) rfl hC (G0.refl _)) ?_
      simp only [nf0, nf1, nf2, nf3, nf4]
      refine fst2_val (fun W hC hh => ok2_value (v := (.int .i64 (i : Int))) (by rfl) (by rfl) rfl hC (G0.refl _)) ?_
      simp only [nf0, nf1, nf2, nf3, nf4]
      refine fst2_val (fun W hC hh => ok2_value (v := (.int .i64 (m : Int))) (by rfl) (by rfl) rfl hC (G0.refl _)) ?_
      simp only [nf0, nf1, nf2, nf3, nf4]
      refine fst2_val (fun W hC hh => ok2_value (v := (.string (str ((l.take m).drop i)))) (by rfl) (run_sub_text (.tmp 83) (.tmp 84) (.tmp 85) rfl Try.underlying9 (l := l) (p := i) (q := m) rfl rfl rfl (by omega) (by omega) (by omega) (by omega) W) rfl hC (G0.refl _)) ?_
      simp only [nf0, nf1, nf2, nf3, nf4]
      refine fst2_val (fun W hC hh => ok2_value (v := (.string (str l))) (by rfl) (by rfl) rfl hC (G0.refl _)) ?_
      simp only [nf0, nf1, nf2, nf3, nf4]
      refine fst2_val (fun W hC hh => ok2_value (v := (.int .i64 (i : Int))) (by rfl) (by rfl) rfl hC (G0.refl _)) ?_
      simp only [nf0, nf1, nf2, nf3, nf4]
      refine fst2_val (fun W hC hh => ok2_call (by rfl) (f_run_call_12_2 (.tmp 87) (.tmp 88) rfl rfl rfl W) ((refAt_in (l := l) (i := i) (by omega) (by omega) W).mono fun e W' ⟨h1, h2⟩ => ⟨h1, hC.step h2, h2⟩)) ?_
      simp only [nf0, nf1, nf2, nf3, nf4]
      refine fst2_val (fun W hC hh => ok2_value (v := (.agg #[.int .i64 0, .string (str ((l.take m).drop i)), .int .i64 ((plc l i).1), .int .i64 ((plc l i).2.1), .int .i64 ((plc l i).2.2)])) (by rfl) (run_buildV rfl (by kernel_rfl) W) rfl hC (G0.refl _)) ?_
      simp only [nf0, nf1, nf2, nf3, nf4]
      refine fst2_new (fun W hC hh => ok2_new (by rfl) (run_allocV rfl f_zero_33 W) (hC.step (bl_alloc (Below.refl _ _) _))) fun g93 lo94 => ?_
      simp only [nf0, nf1, nf2, nf3, nf4]
      refine fst2_nil fun w96 hC hh hnd => ?_
      replace hC : Below w17.heap.size w17 w96 := hC
      have B95 : Blk w96 g93 #[.int .i64 0, .string ⟨#[]⟩, .int .i64 0, .int .i64 0, .int .i64 0] 33 := (List.forall_mem_cons.1 hh).1
      replace hh := (List.forall_mem_cons.1 hh).2
      have n97 := O3.off lo94
      replace lo94 := low_le bel lo94
      clear hh hnd
      replace O3 := O3.same hC
      replace bel := bl_step bel hC
      clear hC
      refine st_row (by rfl) (run_storeW (.tmp 9) (.tmp 90) rfl (cs := #[.int .i64 0, .string (str ((l.take m).drop i)), .int .i64 ((plc l i).1), .int .i64 ((plc l i).2.1), .int .i64 ((plc l i).2.2)]) aggTok rfl rfl B95 rfl (by simp [Value.oneCell'])) B95 ?_
      intro w98 B100 hg99
      simp only [nf0, nf1, nf2, nf3, nf4]
      replace O3 := O3.keptB hg99 n97
      replace bel := bl_kept0 bel hg99 lo94
      clear hg99
      clear B95
      refine wpList_nil ?_
      show Code.wp _ _ _ _ _
      refine wp_seq ?_
      refine wp_seq ?_
      refine wp_region_lit ?_
      refine st_mv (.int .i64 ((kd (chr l i) : Nat) : Int)) ?_
      simp only [nf0, nf1, nf2, nf3, nf4]
      refine wpList_nil ?_
      show Code.wp _ _ _ _ _
      refine wp_block ?_
      refine wp_seq ?_
      refine wp_region_lit ?_
      refine st_value (v := (.bool false)) (by rfl) ((run_eql_int (.tmp 91) (.const (.int .i64 1)) rfl rfl rfl w98).trans (by rw [hg89])) ?_
      simp only [nf0, nf1, nf2, nf3, nf4]
      refine st_mv (.bool false) ?_
      simp only [nf0, nf1, nf2, nf3, nf4]
      refine wpList_nil ?_
      show Code.wp _ _ _ _ _
      refine wp_cond_false rfl ?_
      refine wp_seq ?_
      refine wp_region_lit ?_
      refine st_value (v := (.bool false)) (by rfl) ((run_eql_int (.tmp 91) (.const (.int .i64 2)) rfl rfl rfl w98).trans (by rw [hg91])) ?_
      simp only [nf0, nf1, nf2, nf3, nf4]
      refine st_mv (.bool false) ?_
      simp only [nf0, nf1, nf2, nf3, nf4]
      refine wpList_nil ?_
      show Code.wp _ _ _ _ _
      refine wp_cond_false rfl ?_
      refine wp_seq ?_
      refine wp_region_lit ?_
      refine st_value (v := (.bool (decide (((kd (chr l i) : Nat) : Int) = 5)))) (by rfl) (run_eql_int (.tmp 91) (.const (.int .i64 5)) rfl rfl rfl w98) ?_
      simp only [nf0, nf1, nf2, nf3, nf4]
      refine st_mv (.bool (decide (((kd (chr l i) : Nat) : Int) = 5))) ?_
      simp only [nf0, nf1, nf2, nf3, nf4]
      refine wpList_nil ?_
      show Code.wp _ _ _ _ _
      cases hg101 : decide (((kd (chr l i) : Nat) : Int) = 5)
      · have hp102 := of_decide_eq_false hg101
        refine wp_cond_false rfl ?_
        refine wp_seq ?_
        refine wp_region_lit ?_
        refine st_mv (.int .i64 (i : Int)) ?_
        simp only [nf0, nf1, nf2, nf3, nf4]
        refine st_mv (.slice none 0 0) ?_
        simp only [nf0, nf1, nf2, nf3, nf4]
        refine st_mv (.int .i64 20) ?_
        simp only [nf0, nf1, nf2, nf3, nf4]
        refine st_mv (.int .i64 (i : Int)) ?_
        simp only [nf0, nf1, nf2, nf3, nf4]
        refine wpList_nil ?_
        show Code.wp _ _ _ _ _
        refine wp_ret ?_
        first | show bodyPost _ _ _ _ _ _ | (simp only [Exit.then, Exit.inBlock]; show bodyPost _ _ _ _ _ _)
        have ht : terr l i = 20 := by unfold terr; rw [if_neg (by omega), if_neg (by omega)]
        have hE := tk_bad hT hlt0 (by omega) (by omega) (by rw [ht]; show ((20 : Int) ≠ 0); decide)
        have hA : desA l = toksA l := by unfold desA; rw [if_neg (by omega)]
        have h0 : ¬ (desA l).2.1 = 0 := by rw [hA, hE, ht]; show ¬ ((20 : Int) = 0); decide
        exact bodyPost_ret (results_tmp3 rfl _ _ _) rfl ⟨_, rfl, _, by rw [hA, hE, ht]; rfl, by unfold desR; rw [if_neg h0]; exact OwnR.nil _ _ _ _, bel⟩
      have hp103 := of_decide_eq_true hg101
      refine wp_cond_true rfl ?_
      refine wp_region_lit ?_
      refine st_value (v := (.pointer (some ⟨g93, 0, none⟩))) (by rfl) (run_fieldA (.tmp 9) rfl f_fld_33_0 rfl rfl w98) ?_
      simp only [nf0, nf1, nf2, nf3, nf4]
      refine st_cell (v := (.int .i64 3)) (by rfl) (run_storeB (.tmp 106) (.const (.int .i64 3)) rfl f_one_3 B100 (show 0 < 5 by decide) rfl rfl rfl rfl) B100 ?_
      intro w104 B106 hg105
      simp only [nf0, nf1, nf2, nf3, nf4]
      replace O3 := O3.keptB hg105 n97
      replace bel := bl_kept0 bel hg105 lo94
      clear hg105
      clear B100
      replace B106 : Blk w104 g93 #[.int .i64 3, .string (str ((l.take m).drop i)), .int .i64 ((plc l i).1), .int .i64 ((plc l i).2.1), .int .i64 ((plc l i).2.2)] 33 := B106
      refine wpList_nil ?_
      show Code.wp _ _ _ _ _
      refine wp_seq ?_
      have ht0 : terr l i = 0 := by unfold terr; rw [if_neg (by omega), if_pos (.inr (by omega))]
      have htk : tokI l i = (3, (l.take m).drop i, plc l i) := by unfold tokI; rw [hmE, show tkind (kd (chr l i)) = 3 from by unfold tkind; (repeat' split) <;> omega]
      refine wp_region_lit ?_
      refine st_mv v ?_
      simp only [nf0, nf1, nf2, nf3, nf4]
      refine st_value (v := (.agg #[.int .i64 3, .string (str ((l.take m).drop i)), .int .i64 ((plc l i).1), .int .i64 ((plc l i).2.1), .int .i64 ((plc l i).2.2)])) (by rfl) (run_loadW (.tmp 9) rfl (cs := #[.int .i64 3, .string (str ((l.take m).drop i)), .int .i64 ((plc l i).1), .int .i64 ((plc l i).2.1), .int .i64 ((plc l i).2.2)]) aggTok rfl B106) ?_
      simp only [nf0, nf1, nf2, nf3, nf4]
      refine st_lit (by rfl) (f_run_lit_23_1 (.tmp 108) rfl (m0 := (3, ((l.take m).drop i), (((plc l i).1), ((plc l i).2.1), ((plc l i).2.2)))) rfl _) ?_
      intro g107 w108 B109 hb110 lo111
      simp only [nf0, nf1, nf2, nf3, nf4]
      have n112 := O3.off lo111
      have n113 := B106.ne lo111
      replace lo111 := low_le bel lo111
      replace O3 := O3.same hb110
      replace B106 := B106.below hb110
      replace bel := bl_step bel hb110
      clear hb110
      refine st_append slTok rfl (.tmp 107) (.tmp 109) rfl rfl O3 ([(3, ((l.take m).drop i), (((plc l i).1), ((plc l i).2.1), ((plc l i).2.2)))] : List TTok) rfl rfl B109 (by simp [Enc.all, eTok, ePl]) (by have := tk_len hT; simp only [List.length_cons, List.length_nil]; omega) bel.size ?_
      intro v114 w115 O116 hg117 hat118
      simp only [nf0, nf1, nf2, nf3, nf4]
      have n119 := (n97 : Off _ _).app B106 hat118
      replace B106 := B106.keptR hg117 n97
      replace bel := bl_app bel O3 hg117
      clear O3 hg117 hat118
      refine st_mv v114 ?_
      simp only [nf0, nf1, nf2, nf3, nf4]
      refine wpList_nil ?_
      show Code.wp _ _ _ _ _
      refine wp_region_lit ?_
      refine st_mv (.int .i64 (m : Int)) ?_
      simp only [nf0, nf1, nf2, nf3, nf4]
      refine st_mv (.int .i64 (m : Int)) ?_
      simp only [nf0, nf1, nf2, nf3, nf4]
      refine wpList_nil ?_
      show ∃ m, m < _ ∧ _
      exact ⟨_, (by omega), m, (f - 1), _, v114, rfl, rfl, O116, bel, (by have h_ := tk_tok hT hlt0 (by omega) (by omega) ht0; rw [hmE, htk] at h_; exact h_)⟩
    have hp120 := of_decide_eq_true hg91
    cases hg123 : decide (((kd (chr l m) : Nat) : Int) = 2)
    rotate_left
    · have hp156 := of_decide_eq_true hg123
      refine wp_region_lit ?_
      refine st_mv (.int .i64 (m : Int)) ?_
      simp only [nf0, nf1, nf2, nf3, nf4]
      refine st_mv (.string (str l)) ?_
      simp only [nf0, nf1, nf2, nf3, nf4]
      refine st_value (v := (.int .i64 (l.length : Int))) (by rfl) (run_len_text (.tmp 42) rfl Try.underlying9 (l := l) rfl w17) ?_
      simp only [nf0, nf1, nf2, nf3, nf4]
      refine st_value (v := (.bool true)) (by rfl) ((run_lss (.tmp 41) (.tmp 43) rfl rfl rfl w17).trans (by rw [hg18])) ?_
      simp only [nf0, nf1, nf2, nf3, nf4]
      refine st_mv (.bool true) ?_
      simp only [nf0, nf1, nf2, nf3, nf4]
      refine st_mv (.int .i64 ((kd (chr l i) : Nat) : Int)) ?_
      simp only [nf0, nf1, nf2, nf3, nf4]
      refine st_value (v := (.bool false)) (by rfl) ((run_eql_int (.tmp 46) (.const (.int .i64 1)) rfl rfl rfl w17).trans (by rw [hg89])) ?_
      simp only [nf0, nf1, nf2, nf3, nf4]
      refine st_mv (.bool false) ?_
      simp only [nf0, nf1, nf2, nf3, nf4]
      refine st_nob (j := 7) (t := 48) (c := false) rfl rfl rfl rfl rfl ?_
      simp only [nf0, nf1, nf2, nf3, nf4]
      refine st_nob (j := 7) (t := 48) (c := false) rfl rfl rfl rfl rfl ?_
      simp only [nf0, nf1, nf2, nf3, nf4]
      refine st_nob (j := 7) (t := 48) (c := false) rfl rfl rfl rfl rfl ?_
      simp only [nf0, nf1, nf2, nf3, nf4]
      refine st_nob (j := 7) (t := 48) (c := false) rfl rfl rfl rfl rfl ?_
      simp only [nf0, nf1, nf2, nf3, nf4]
      refine st_nob (j := 7) (t := 48) (c := false) rfl rfl rfl rfl rfl ?_
      simp only [nf0, nf1, nf2, nf3, nf4]
      refine st_mv (.bool false) ?_
      simp only [nf0, nf1, nf2, nf3, nf4]
      refine st_mv (.bool false) ?_
      simp only [nf0, nf1, nf2, nf3, nf4]
      refine st_nob (j := 14) (t := 55) (c := false) rfl rfl rfl rfl rfl ?_
      simp only [nf0, nf1, nf2, nf3, nf4]
      refine st_nob (j := 14) (t := 55) (c := false) rfl rfl rfl rfl rfl ?_
      simp only [nf0, nf1, nf2, nf3, nf4]
      refine st_nob (j := 14) (t := 55) (c := false) rfl rfl rfl rfl rfl ?_
      simp only [nf0, nf1, nf2, nf3, nf4]
      refine st_nob (j := 14) (t := 55) (c := false) rfl rfl rfl rfl rfl ?_
      simp only [nf0, nf1, nf2, nf3, nf4]
      refine st_nob (j := 14) (t := 55) (c := false) rfl rfl rfl rfl rfl ?_
      simp only [nf0, nf1, nf2, nf3, nf4]
      refine st_mv (.bool false) ?_
      simp only [nf0, nf1, nf2, nf3, nf4]
      refine st_mv (.bool false) ?_
      simp only [nf0, nf1, nf2, nf3, nf4]
      refine st_mv (.int .i64 ((kd (chr l i) : Nat) : Int)) ?_
      simp only [nf0, nf1, nf2, nf3, nf4]
      refine st_value (v := (.bool true)) (by rfl) ((run_eql_int (.tmp 63) (.const (.int .i64 2)) rfl rfl rfl w17).trans (by rw [hg91])) ?_
      simp only [nf0, nf1, nf2, nf3, nf4]
      refine st_mv (.bool true) ?_
      simp only [nf0, nf1, nf2, nf3, nf4]
      refine st_mv (.string (str l)) ?_
      simp only [nf0, nf1, nf2, nf3, nf4]
      refine st_mv (.int .i64 (m : Int)) ?_
      simp only [nf0, nf1, nf2, nf3, nf4]
      refine st_value (v := (.int .u8 (chr l m))) (by rfl) (run_index_text (.tmp 66) (.tmp 67) rfl Try.underlying9 (l := l) rfl rfl m (by omega) (by omega) w17) ?_
      simp only [nf0, nf1, nf2, nf3, nf4]
      refine st_call1 (v := (.int .i64 ((kd (chr l m) : Nat) : Int))) (by rfl) (f_run_call_22_1 (.tmp 68) rfl rfl _) (kind_calls (chr l m) w17) ?_
      intro w157 hb158
      simp only [nf0, nf1, nf2, nf3, nf4]
      replace O3 := O3.same hb158
      replace bel := bl_step bel hb158
      clear hb158
      refine st_value (v := (.bool true)) (by rfl) ((run_eql_int (.tmp 69) (.const (.int .i64 2)) rfl rfl rfl w157).trans (by rw [hg123])) ?_
      simp only [nf0, nf1, nf2, nf3, nf4]
      refine st_mv (.bool true) ?_
      simp only [nf0, nf1, nf2, nf3, nf4]
      refine st_nob (j := 30) (t := 71) (c := true) rfl rfl rfl rfl rfl ?_
      simp only [nf0, nf1, nf2, nf3, nf4]
      refine st_nob (j := 30) (t := 71) (c := true) rfl rfl rfl rfl rfl ?_
      simp only [nf0, nf1, nf2, nf3, nf4]
      refine st_nob (j := 30) (t := 71) (c := true) rfl rfl rfl rfl rfl ?_
      simp only [nf0, nf1, nf2, nf3, nf4]
      refine st_nob (j := 30) (t := 71) (c := true) rfl rfl rfl rfl rfl ?_
      simp only [nf0, nf1, nf2, nf3, nf4]
      refine st_nob (j := 30) (t := 71) (c := true) rfl rfl rfl rfl rfl ?_
      simp only [nf0, nf1, nf2, nf3, nf4]
      refine st_mv (.bool true) ?_
      simp only [nf0, nf1, nf2, nf3, nf4]
      refine st_mv (.bool true) ?_
      simp only [nf0, nf1, nf2, nf3, nf4]
      refine st_mv (.bool true) ?_
      simp only [nf0, nf1, nf2, nf3, nf4]
      refine st_mv (.bool true) ?_
      simp only [nf0, nf1, nf2, nf3, nf4]
      refine wpList_nil ?_
      show Code.wp _ _ _ _ _
      refine wp_cond_true rfl ?_
      refine wp_skip ?_
      show Code.wp _ _ _ _ _
      refine wp_block ?_
      refine wp_region_lit ?_
      refine st_mv (.int .i64 (m : Int)) ?_
      simp only [nf0, nf1, nf2, nf3, nf4]
      refine st_value (v := (.int .i64 ((m : Int) + 1))) (by rfl) (run_add_in (.tmp 81) (.const (.int .i64 1)) rfl rfl rfl (by omega) w157) ?_
      simp only [nf0, nf1, nf2, nf3, nf4]
      refine st_mv (.int .i64 ((m : Int) + 1)) ?_
      simp only [nf0, nf1, nf2, nf3, nf4]
      refine wpList_nil ?_
      show ∃ m, m < _ ∧ _
      exact ⟨_, (by omega), (m + 1), rfl, rfl, O3, bel, (by omega), (we_more him hme (by omega) (by omega))⟩
    have hp124 := of_decide_eq_false hg123
    refine wp_region_lit ?_
    refine st_mv (.int .i64 (m : Int)) ?_
    simp only [nf0, nf1, nf2, nf3, nf4]
    refine st_mv (.string (str l)) ?_
    simp only [nf0, nf1, nf2, nf3, nf4]
    refine st_value (v := (.int .i64 (l.length : Int))) (by rfl) (run_len_text (.tmp 42) rfl Try.underlying9 (l := l) rfl w17) ?_
    simp only [nf0, nf1, nf2, nf3, nf4]
    refine st_value (v := (.bool true)) (by rfl) ((run_lss (.tmp 41) (.tmp 43) rfl rfl rfl w17).trans (by rw [hg18])) ?_
    simp only [nf0, nf1, nf2, nf3, nf4]
    refine st_mv (.bool true) ?_
    simp only [nf0, nf1, nf2, nf3, nf4]
    refine st_mv (.int .i64 ((kd (chr l i) : Nat) : Int)) ?_
    simp only [nf0, nf1, nf2, nf3, nf4]
    refine st_value (v := (.bool false)) (by rfl) ((run_eql_int (.tmp 46) (.const (.int .i64 1)) rfl rfl rfl w17).trans (by rw [hg89])) ?_
    simp only [nf0, nf1, nf2, nf3, nf4]
    refine st_mv (.bool false) ?_
    simp only [nf0, nf1, nf2, nf3, nf4]
    refine st_nob (j := 7) (t := 48) (c := false) rfl rfl rfl rfl rfl ?_
    simp only [nf0, nf1, nf2, nf3, nf4]
    refine st_nob (j := 7) (t := 48) (c := false) rfl rfl rfl rfl rfl ?_
    simp only [nf0, nf1, nf2, nf3, nf4]
    refine st_nob (j := 7) (t := 48) (c := false) rfl rfl rfl rfl rfl ?_
    simp only [nf0, nf1, nf2, nf3, nf4]
    refine st_nob (j := 7) (t := 48) (c := false) rfl rfl rfl rfl rfl ?_
    simp only [nf0, nf1, nf2, nf3, nf4]
    refine st_nob (j := 7) (t := 48) (c := false) rfl rfl rfl rfl rfl ?_
    simp only [nf0, nf1, nf2, nf3, nf4]
    refine st_mv (.bool false) ?_
    simp only [nf0, nf1, nf2, nf3, nf4]
    refine st_mv (.bool false) ?_
    simp only [nf0, nf1, nf2, nf3, nf4]
    refine st_nob (j := 14) (t := 55) (c := false) rfl rfl rfl rfl rfl ?_
    simp only [nf0, nf1, nf2, nf3, nf4]
    refine st_nob (j := 14) (t := 55) (c := false) rfl rfl rfl rfl rfl ?_
    simp only [nf0, nf1, nf2, nf3, nf4]
    refine st_nob (j := 14) (t := 55) (c := false) rfl rfl rfl rfl rfl ?_
    simp only [nf0, nf1, nf2, nf3, nf4]
    refine st_nob (j := 14) (t := 55) (c := false) rfl rfl rfl rfl rfl ?_
    simp only [nf0, nf1, nf2, nf3, nf4]
    refine st_nob (j := 14) (t := 55) (c := false) rfl rfl rfl rfl rfl ?_
    simp only [nf0, nf1, nf2, nf3, nf4]
    refine st_mv (.bool false) ?_
    simp only [nf0, nf1, nf2, nf3, nf4]
    refine st_mv (.bool false) ?_
    simp only [nf0, nf1, nf2, nf3, nf4]
    refine st_mv (.int .i64 ((kd (chr l i) : Nat) : Int)) ?_
    simp only [nf0, nf1, nf2, nf3, nf4]
    refine st_value (v := (.bool true)) (by rfl) ((run_eql_int (.tmp 63) (.const (.int .i64 2)) rfl rfl rfl w17).trans (by rw [hg91])) ?_
    simp only [nf0, nf1, nf2, nf3, nf4]
    refine st_mv (.bool true) ?_
    simp only [nf0, nf1, nf2, nf3, nf4]
    refine st_mv (.string (str l)) ?_
    simp only [nf0, nf1, nf2, nf3, nf4]
    refine st_mv (.int .i64 (m : Int)) ?_
    simp only [nf0, nf1, nf2, nf3, nf4]
    refine st_value (v := (.int .u8 (chr l m))) (by rfl) (run_index_text (.tmp 66) (.tmp 67) rfl Try.underlying9 (l := l) rfl rfl m (by omega) (by omega) w17) ?_
    simp only [nf0, nf1, nf2, nf3, nf4]
    refine st_call1 (v := (.int .i64 ((kd (chr l m) : Nat) : Int))) (by rfl) (f_run_call_22_1 (.tmp 68) rfl rfl _) (kind_calls (chr l m) w17) ?_
    intro w125 hb126
    simp only [nf0, nf1, nf2, nf3, nf4]
    replace O3 := O3.same hb126
    replace bel := bl_step bel hb126
    clear hb126
    refine st_value (v := (.bool false)) (by rfl) ((run_eql_int (.tmp 69) (.const (.int .i64 2)) rfl rfl rfl w125).trans (by rw [hg123])) ?_
    simp only [nf0, nf1, nf2, nf3, nf4]
    refine st_mv (.bool false) ?_
    simp only [nf0, nf1, nf2, nf3, nf4]
    refine st_mv (.string (str l)) ?_
    simp only [nf0, nf1, nf2, nf3, nf4]
    refine st_mv (.int .i64 (m : Int)) ?_
    simp only [nf0, nf1, nf2, nf3, nf4]
    refine st_value (v := (.int .u8 (chr l m))) (by rfl) (run_index_text (.tmp 72) (.tmp 73) rfl Try.underlying9 (l := l) rfl rfl m (by omega) (by omega) w125) ?_
    simp only [nf0, nf1, nf2, nf3, nf4]
    refine st_call1 (v := (.int .i64 ((kd (chr l m) : Nat) : Int))) (by rfl) (f_run_call_22_1 (.tmp 74) rfl rfl _) (kind_calls (chr l m) w125) ?_
    intro w127 hb128
    simp only [nf0, nf1, nf2, nf3, nf4]
    replace O3 := O3.same hb128
    replace bel := bl_step bel hb128
    clear hb128
    refine st_value (v := (.bool (decide (((kd (chr l m) : Nat) : Int) = 4)))) (by rfl) (run_eql_int (.tmp 75) (.const (.int .i64 4)) rfl rfl rfl w127) ?_
    simp only [nf0, nf1, nf2, nf3, nf4]
    refine st_mv (.bool (decide (((kd (chr l m) : Nat) : Int) = 4))) ?_
    simp only [nf0, nf1, nf2, nf3, nf4]
    refine st_mv (.bool (decide (((kd (chr l m) : Nat) : Int) = 4))) ?_
    simp only [nf0, nf1, nf2, nf3, nf4]
    refine st_mv (.bool (decide (((kd (chr l m) : Nat) : Int) = 4))) ?_
    simp only [nf0, nf1, nf2, nf3, nf4]
    refine st_mv (.bool (decide (((kd (chr l m) : Nat) : Int) = 4))) ?_
    simp only [nf0, nf1, nf2, nf3, nf4]
    refine wpList_nil ?_
    show Code.wp _ _ _ _ _
    cases hg129 : decide (((kd (chr l m) : Nat) : Int) = 4)
    rotate_left
    · have hp155 := of_decide_eq_true hg129
      refine wp_cond_true rfl ?_
      refine wp_skip ?_
      show Code.wp _ _ _ _ _
      refine wp_block ?_
      refine wp_region_lit ?_
      refine st_mv (.int .i64 (m : Int)) ?_
      simp only [nf0, nf1, nf2, nf3, nf4]
      refine st_value (v := (.int .i64 ((m : Int) + 1))) (by rfl) (run_add_in (.tmp 81) (.const (.int .i64 1)) rfl rfl rfl (by omega) w127) ?_
      simp only [nf0, nf1, nf2, nf3, nf4]
      refine st_mv (.int .i64 ((m : Int) + 1)) ?_
      simp only [nf0, nf1, nf2, nf3, nf4]
      refine wpList_nil ?_
      show ∃ m, m < _ ∧ _
      exact ⟨_, (by omega), (m + 1), rfl, rfl, O3, bel, (by omega), (we_more him hme (by omega) (by omega))⟩
    have hp130 := of_decide_eq_false hg129
    refine wp_cond_false rfl ?_
    refine wp_exit ?_
    show Code.wp _ _ _ _ _
    refine wp_seq ?_
    have hmE : wend l i = m := we_here him hme hlt0 (by omega)
    refine wp_region_facts2_lit (C := Abv w127) 9 [.val (.string (str l)), .val (.int .i64 (i : Int)), .val (.int .i64 (m : Int)), .val (.string (str ((l.take m).drop i))), .val (.string (str l)), .val (.int .i64 (i : Int)), .val (.agg #[.int .i64 ((plc l i).1), .int .i64 ((plc l i).2.1), .int .i64 ((plc l i).2.2)]), .val (.agg #[.int .i64 0, .string (str ((l.take m).drop i)), .int .i64 ((plc l i).1), .int .i64 ((plc l i).2.1), .int .i64 ((plc l i).2.2)]), .new #[.int .i64 0, .string ⟨#[]⟩, .int .i64 0, .int .i64 0, .int .i64 0] 33] w127.heap.size (by kernel_rfl) (by simp) (by kernel_rfl) (by kernel_rfl) (fun _ h => h.size) (Abv.start _) ?_
    simp only [List.take_succ_cons, List.take_zero, List.drop_succ_cons, List.drop_zero]
    refine fst2_val (fun W hC hh => ok2_value (v := (.string (str l))) (by rfl) (by rfl) rfl hC (G0.refl _)) ?_
    simp only [nf0, nf1, nf2, nf3, nf4]
    refine fst2_val (fun W hC hh => ok2_value (v := (.int .i64 (i : Int))) (by rfl) (by rfl) rfl hC (G0.refl _)) ?_
    simp only [nf0, nf1, nf2, nf3, nf4]
    refine fst2_val (fun W hC hh => ok2_value (v := (.int .i64 (m : Int))) (by rfl) (by rfl) rfl hC (G0.refl _)) ?_
    simp only [nf0, nf1, nf2, nf3, nf4]
    refine fst2_val (fun W hC hh => ok2_value (v := (.string (str ((l.take m).drop i)))) (by rfl) (run_sub_text (.tmp 83) (.tmp 84) (.tmp 85) rfl Try.underlying9 (l := l) (p := i) (q := m) rfl rfl rfl (by omega) (by omega) (by omega) (by omega) W) rfl hC (G0.refl _)) ?_
    simp only [nf0, nf1, nf2, nf3, nf4]
    refine fst2_val (fun W hC hh => ok2_value (v := (.string (str l))) (by rfl) (by rfl) rfl hC (G0.refl _)) ?_
    simp only [nf0, nf1, nf2, nf3, nf4]
    refine fst2_val (fun W hC hh => ok2_value (v := (.int .i64 (i : Int))) (by rfl) (by rfl) rfl hC (G0.refl _)) ?_
    simp only [nf0, nf1, nf2, nf3, nf4]
    refine fst2_val (fun W hC hh => ok2_call (by rfl) (f_run_call_12_2 (.tmp 87) (.tmp 88) rfl rfl rfl W) ((refAt_in (l := l) (i := i) (by omega) (by omega) W).mono fun e W' ⟨h1, h2⟩ => ⟨h1, hC.step h2, h2⟩)) ?_
    simp only [nf0, nf1, nf2, nf3, nf4]
    refine fst2_val (fun W hC hh => ok2_value (v := (.agg #[.int .i64 0, .string (str ((l.take m).drop i)), .int .i64 ((plc l i).1), .int .i64 ((plc l i).2.1), .int .i64 ((plc l i).2.2)])) (by rfl) (run_buildV rfl (by kernel_rfl) W) rfl hC (G0.refl _)) ?_
    simp only [nf0, nf1, nf2, nf3, nf4]
    refine fst2_new (fun W hC hh => ok2_new (by rfl) (run_allocV rfl f_zero_33 W) (hC.step (bl_alloc (Below.refl _ _) _))) fun g131 lo132 => ?_
    simp only [nf0, nf1, nf2, nf3, nf4]
    refine fst2_nil fun w134 hC hh hnd => ?_
    replace hC : Below w127.heap.size w127 w134 := hC
    have B133 : Blk w134 g131 #[.int .i64 0, .string ⟨#[]⟩, .int .i64 0, .int .i64 0, .int .i64 0] 33 := (List.forall_mem_cons.1 hh).1
    replace hh := (List.forall_mem_cons.1 hh).2
    have n135 := O3.off lo132
    replace lo132 := low_le bel lo132
    clear hh hnd
    replace O3 := O3.same hC
    replace bel := bl_step bel hC
    clear hC
    refine st_row (by rfl) (run_storeW (.tmp 9) (.tmp 90) rfl (cs := #[.int .i64 0, .string (str ((l.take m).drop i)), .int .i64 ((plc l i).1), .int .i64 ((plc l i).2.1), .int .i64 ((plc l i).2.2)]) aggTok rfl rfl B133 rfl (by simp [Value.oneCell'])) B133 ?_
    intro w136 B138 hg137
    simp only [nf0, nf1, nf2, nf3, nf4]
    replace O3 := O3.keptB hg137 n135
    replace bel := bl_kept0 bel hg137 lo132
    clear hg137
    clear B133
    refine wpList_nil ?_
    show Code.wp _ _ _ _ _
    refine wp_seq ?_
    refine wp_seq ?_
    refine wp_region_lit ?_
    refine st_mv (.int .i64 ((kd (chr l i) : Nat) : Int)) ?_
    simp only [nf0, nf1, nf2, nf3, nf4]
    refine wpList_nil ?_
    show Code.wp _ _ _ _ _
    refine wp_block ?_
    refine wp_seq ?_
    refine wp_region_lit ?_
    refine st_value (v := (.bool false)) (by rfl) ((run_eql_int (.tmp 91) (.const (.int .i64 1)) rfl rfl rfl w136).trans (by rw [hg89])) ?_
    simp only [nf0, nf1, nf2, nf3, nf4]
    refine st_mv (.bool false) ?_
    simp only [nf0, nf1, nf2, nf3, nf4]
    refine wpList_nil ?_
    show Code.wp _ _ _ _ _
    refine wp_cond_false rfl ?_
    refine wp_seq ?_
    refine wp_region_lit ?_
    refine st_value (v := (.bool true)) (by rfl) ((run_eql_int (.tmp 91) (.const (.int .i64 2)) rfl rfl rfl w136).trans (by rw [hg91])) ?_
    simp only [nf0, nf1, nf2, nf3, nf4]
    refine st_mv (.bool true) ?_
    simp only [nf0, nf1, nf2, nf3, nf4]
    refine wpList_nil ?_
    show Code.wp _ _ _ _ _
    refine wp_cond_true rfl ?_
    refine wp_region_lit ?_
    refine st_value (v := (.pointer (some ⟨g131, 0, none⟩))) (by rfl) (run_fieldA (.tmp 9) rfl f_fld_33_0 rfl rfl w136) ?_
    simp only [nf0, nf1, nf2, nf3, nf4]
    refine st_cell (v := (.int .i64 2)) (by rfl) (run_storeB (.tmp 103) (.const (.int .i64 2)) rfl f_one_3 B138 (show 0 < 5 by decide) rfl rfl rfl rfl) B138 ?_
    intro w139 B141 hg140
    simp only [nf0, nf1, nf2, nf3, nf4]
    replace O3 := O3.keptB hg140 n135
    replace bel := bl_kept0 bel hg140 lo132
    clear hg140
    clear B138
    replace B141 : Blk w139 g131 #[.int .i64 2, .string (str ((l.take m).drop i)), .int .i64 ((plc l i).1), .int .i64 ((plc l i).2.1), .int .i64 ((plc l i).2.2)] 33 := B141
    refine wpList_nil ?_
    show Code.wp _ _ _ _ _
    refine wp_seq ?_
    have ht0 : terr l i = 0 := by unfold terr; rw [if_neg (by omega), if_pos (.inl (by omega))]
    have htk : tokI l i = (2, (l.take m).drop i, plc l i) := by unfold tokI; rw [hmE, show tkind (kd (chr l i)) = 2 from by unfold tkind; (repeat' split) <;> omega]
    refine wp_region_lit ?_
    refine st_mv v ?_
    simp only [nf0, nf1, nf2, nf3, nf4]
    refine st_value (v := (.agg #[.int .i64 2, .string (str ((l.take m).drop i)), .int .i64 ((plc l i).1), .int .i64 ((plc l i).2.1), .int .i64 ((plc l i).2.2)])) (by rfl) (run_loadW (.tmp 9) rfl (cs := #[.int .i64 2, .string (str ((l.take m).drop i)), .int .i64 ((plc l i).1), .int .i64 ((plc l i).2.1), .int .i64 ((plc l i).2.2)]) aggTok rfl B141) ?_
    simp only [nf0, nf1, nf2, nf3, nf4]
    refine st_lit (by rfl) (f_run_lit_23_1 (.tmp 108) rfl (m0 := (2, ((l.take m).drop i), (((plc l i).1), ((plc l i).2.1), ((plc l i).2.2)))) rfl _) ?_
    intro g142 w143 B144 hb145 lo146
    simp only [nf0, nf1, nf2, nf3, nf4]
    have n147 := O3.off lo146
    have n148 := B141.ne lo146
    replace lo146 := low_le bel lo146
    replace O3 := O3.same hb145
    replace B141 := B141.below hb145
    replace bel := bl_step bel hb145
    clear hb145
    refine st_append slTok rfl (.tmp 107) (.tmp 109) rfl rfl O3 ([(2, ((l.take m).drop i), (((plc l i).1), ((plc l i).2.1), ((plc l i).2.2)))] : List TTok) rfl rfl B144 (by simp [Enc.all, eTok, ePl]) (by have := tk_len hT; simp only [List.length_cons, List.length_nil]; omega) bel.size ?_
    intro v149 w150 O151 hg152 hat153
    simp only [nf0, nf1, nf2, nf3, nf4]
    have n154 := (n135 : Off _ _).app B141 hat153
    replace B141 := B141.keptR hg152 n135
    replace bel := bl_app bel O3 hg152
    clear O3 hg152 hat153
    refine st_mv v149 ?_
    simp only [nf0, nf1, nf2, nf3, nf4]
    refine wpList_nil ?_
    show Code.wp _ _ _ _ _
    refine wp_region_lit ?_
    refine st_mv (.int .i64 (m : Int)) ?_
    simp only [nf0, nf1, nf2, nf3, nf4]
    refine st_mv (.int .i64 (m : Int)) ?_
    simp only [nf0, nf1, nf2, nf3, nf4]
    refine wpList_nil ?_
    show ∃ m, m < _ ∧ _
    exact ⟨_, (by omega), m, (f - 1), _, v149, rfl, rfl, O151, bel, (by have h_ := tk_tok hT hlt0 (by omega) (by omega) ht0; rw [hmE, htk] at h_; exact h_)⟩
  have hp159 := of_decide_eq_true hg89
  cases hg162 : decide (1 ≤ ((kd (chr l m) : Nat) : Int))
  · have hp163 := of_decide_eq_false hg162
    cases hg166 : decide (((kd (chr l i) : Nat) : Int) = 2)
    · have hp167 := of_decide_eq_false hg166
      refine wp_region_lit ?_
      refine st_mv (.int .i64 (m : Int)) ?_
      simp only [nf0, nf1, nf2, nf3, nf4]
      refine st_mv (.string (str l)) ?_
      simp only [nf0, nf1, nf2, nf3, nf4]
      refine st_value (v := (.int .i64 (l.length : Int))) (by rfl) (run_len_text (.tmp 42) rfl Try.underlying9 (l := l) rfl w17) ?_
      simp only [nf0, nf1, nf2, nf3, nf4]
      refine st_value (v := (.bool true)) (by rfl) ((run_lss (.tmp 41) (.tmp 43) rfl rfl rfl w17).trans (by rw [hg18])) ?_
      simp only [nf0, nf1, nf2, nf3, nf4]
      refine st_mv (.bool true) ?_
      simp only [nf0, nf1, nf2, nf3, nf4]
      refine st_mv (.int .i64 ((kd (chr l i) : Nat) : Int)) ?_
      simp only [nf0, nf1, nf2, nf3, nf4]
      refine st_value (v := (.bool true)) (by rfl) ((run_eql_int (.tmp 46) (.const (.int .i64 1)) rfl rfl rfl w17).trans (by rw [hg89])) ?_
      simp only [nf0, nf1, nf2, nf3, nf4]
      refine st_mv (.bool true) ?_
      simp only [nf0, nf1, nf2, nf3, nf4]
      refine st_mv (.string (str l)) ?_
      simp only [nf0, nf1, nf2, nf3, nf4]
      refine st_mv (.int .i64 (m : Int)) ?_
      simp only [nf0, nf1, nf2, nf3, nf4]
      refine st_value (v := (.int .u8 (chr l m))) (by rfl) (run_index_text (.tmp 49) (.tmp 50) rfl Try.underlying9 (l := l) rfl rfl m (by omega) (by omega) w17) ?_
      simp only [nf0, nf1, nf2, nf3, nf4]
      refine st_call1 (v := (.int .i64 ((kd (chr l m) : Nat) : Int))) (by rfl) (f_run_call_22_1 (.tmp 51) rfl rfl _) (kind_calls (chr l m) w17) ?_
      intro w168 hb169
      simp only [nf0, nf1, nf2, nf3, nf4]
      replace O3 := O3.same hb169
      replace bel := bl_step bel hb169
      clear hb169
      refine st_value (v := (.bool false)) (by rfl) ((run_geq (.tmp 52) (.const (.int .i64 1)) rfl rfl rfl w168).trans (by rw [hg162])) ?_
      simp only [nf0, nf1, nf2, nf3, nf4]
      refine st_mv (.bool false) ?_
      simp only [nf0, nf1, nf2, nf3, nf4]
      refine st_mv (.bool false) ?_
      simp only [nf0, nf1, nf2, nf3, nf4]
      refine st_nob (j := 14) (t := 55) (c := false) rfl rfl rfl rfl rfl ?_
      simp only [nf0, nf1, nf2, nf3, nf4]
      refine st_nob (j := 14) (t := 55) (c := false) rfl rfl rfl rfl rfl ?_
      simp only [nf0, nf1, nf2, nf3, nf4]
      refine st_nob (j := 14) (t := 55) (c := false) rfl rfl rfl rfl rfl ?_
      simp only [nf0, nf1, nf2, nf3, nf4]
      refine st_nob (j := 14) (t := 55) (c := false) rfl rfl rfl rfl rfl ?_
      simp only [nf0, nf1, nf2, nf3, nf4]
      refine st_nob (j := 14) (t := 55) (c := false) rfl rfl rfl rfl rfl ?_
      simp only [nf0, nf1, nf2, nf3, nf4]
      refine st_mv (.bool false) ?_
      simp only [nf0, nf1, nf2, nf3, nf4]
      refine st_mv (.bool false) ?_
      simp only [nf0, nf1, nf2, nf3, nf4]
      refine st_mv (.int .i64 ((kd (chr l i) : Nat) : Int)) ?_
      simp only [nf0, nf1, nf2, nf3, nf4]
      refine st_value (v := (.bool false)) (by rfl) ((run_eql_int (.tmp 63) (.const (.int .i64 2)) rfl rfl rfl w168).trans (by rw [hg166])) ?_
      simp only [nf0, nf1, nf2, nf3, nf4]
      refine st_mv (.bool false) ?_
      simp only [nf0, nf1, nf2, nf3, nf4]
      refine st_nob (j := 24) (t := 65) (c := false) rfl rfl rfl rfl rfl ?_
      simp only [nf0, nf1, nf2, nf3, nf4]
      refine st_nob (j := 24) (t := 65) (c := false) rfl rfl rfl rfl rfl ?_
      simp only [nf0, nf1, nf2, nf3, nf4]
      refine st_nob (j := 24) (t := 65) (c := false) rfl rfl rfl rfl rfl ?_
      simp only [nf0, nf1, nf2, nf3, nf4]
      refine st_nob (j := 24) (t := 65) (c := false) rfl rfl rfl rfl rfl ?_
      simp only [nf0, nf1, nf2, nf3, nf4]
      refine st_nob (j := 24) (t := 65) (c := false) rfl rfl rfl rfl rfl ?_
      simp only [nf0, nf1, nf2, nf3, nf4]
      refine st_nob (j := 24) (t := 65) (c := false) rfl rfl rfl rfl rfl ?_
      simp only [nf0, nf1, nf2, nf3, nf4]
      refine st_nou (j := 30) (t := 71) rfl rfl rfl rfl ?_
      simp only [nf0, nf1, nf2, nf3, nf4]
      refine st_nou (j := 30) (t := 71) rfl rfl rfl rfl ?_
      simp only [nf0, nf1, nf2, nf3, nf4]
      refine st_nou (j := 30) (t := 71) rfl rfl rfl rfl ?_
      simp only [nf0, nf1, nf2, nf3, nf4]
      refine st_nou (j := 30) (t := 71) rfl rfl rfl rfl ?_
      simp only [nf0, nf1, nf2, nf3, nf4]
      refine st_nou (j := 30) (t := 71) rfl rfl rfl rfl ?_
      simp only [nf0, nf1, nf2, nf3, nf4]
      refine st_nob (j := 24) (t := 65) (c := false) rfl rfl rfl rfl rfl ?_
      simp only [nf0, nf1, nf2, nf3, nf4]
      refine st_mv (.bool false) ?_
      simp only [nf0, nf1, nf2, nf3, nf4]
      refine st_mv (.bool false) ?_
      simp only [nf0, nf1, nf2, nf3, nf4]
      refine st_mv (.bool false) ?_
      simp only [nf0, nf1, nf2, nf3, nf4]
      refine wpList_nil ?_
      show Code.wp _ _ _ _ _
      refine wp_cond_false rfl ?_
      refine wp_exit ?_
      show Code.wp _ _ _ _ _
      refine wp_seq ?_
      have hmE : wend l i = m := we_here him hme hlt0 (by omega)
      refine wp_region_facts2_lit (C := Abv w168) 9 [.val (.string (str l)), .val (.int .i64 (i : Int)), .val (.int .i64 (m : Int)), .val (.string (str ((l.take m).drop i))), .val (.string (str l)), .val (.int .i64 (i : Int)), .val (.agg #[.int .i64 ((plc l i).1), .int .i64 ((plc l i).2.1), .int .i64 ((plc l i).2.2)]), .val (.agg #[.int .i64 0, .string (str ((l.take m).drop i)), .int .i64 ((plc l i).1), .int .i64 ((plc l i).2.1), .int .i64 ((plc l i).2.2)]), .new #[.int .i64 0, .string ⟨#[]⟩, .int .i64 0, .int .i64 0, .int .i64 0] 33] w168.heap.size (by kernel_rfl) (by simp) (by kernel_rfl) (by kernel_rfl) (fun _ h => h.size) (Abv.start _) ?_
      simp only [List.take_succ_cons, List.take_zero, List.drop_succ_cons, List.drop_zero]
      refine fst2_val (fun W hC hh => ok2_value (v := (.string (str l))) (by rfl) (by rfl) rfl hC (G0.refl _)) ?_
      simp only [nf0, nf1, nf2, nf3, nf4]
      refine fst2_val (fun W hC hh => ok2_value (v := (.int .i64 (i : Int))) (by rfl) (by rfl) rfl hC (G0.refl _)) ?_
      simp only [nf0, nf1, nf2, nf3, nf4]
      refine fst2_val (fun W hC hh => ok2_value (v := (.int .i64 (m : Int))) (by rfl) (by rfl) rfl hC (G0.refl _)) ?_
      simp only [nf0, nf1, nf2, nf3, nf4]
      refine fst2_val (fun W hC hh => ok2_value (v := (.string (str ((l.take m).drop i)))) (by rfl) (run_sub_text (.tmp 83) (.tmp 84) (.tmp 85) rfl Try.underlying9 (l := l) (p := i) (q := m) rfl rfl rfl (by omega) (by omega) (by omega) (by omega) W) rfl hC (G0.refl _)) ?_
      simp only [nf0, nf1, nf2, nf3, nf4]
      refine fst2_val (fun W hC hh => ok2_value (v := (.string (str l))) (by rfl) (by rfl) rfl hC (G0.refl _)) ?_
      simp only [nf0, nf1, nf2, nf3, nf4]
      refine fst2_val (fun W hC hh => ok2_value (v := (.int .i64 (i : Int))) (by rfl) (by rfl) rfl hC (G0.refl _)) ?_
      simp only [nf0, nf1, nf2, nf3, nf4]
      refine fst2_val (fun W hC hh => ok2_call (by rfl) (f_run_call_12_2 (.tmp 87) (.tmp 88) rfl rfl rfl W) ((refAt_in (l := l) (i := i) (by omega) (by omega) W).mono fun e W' ⟨h1, h2⟩ => ⟨h1, hC.step h2, h2⟩)) ?_
      simp only [nf0, nf1, nf2, nf3, nf4]
      refine fst2_val (fun W hC hh => ok2_value (v := (.agg #[.int .i64 0, .string (str ((l.take m).drop i)), .int .i64 ((plc l i).1), .int .i64 ((plc l i).2.1), .int .i64 ((plc l i).2.2)])) (by rfl) (run_buildV rfl (by kernel_rfl) W) rfl hC (G0.refl _)) ?_
      simp only [nf0, nf1, nf2, nf3, nf4]
      refine fst2_new (fun W hC hh => ok2_new (by rfl) (run_allocV rfl f_zero_33 W) (hC.step (bl_alloc (Below.refl _ _) _))) fun g170 lo171 => ?_
      simp only [nf0, nf1, nf2, nf3, nf4]
      refine fst2_nil fun w173 hC hh hnd => ?_
      replace hC : Below w168.heap.size w168 w173 := hC
      have B172 : Blk w173 g170 #[.int .i64 0, .string ⟨#[]⟩, .int .i64 0, .int .i64 0, .int .i64 0] 33 := (List.forall_mem_cons.1 hh).1
      replace hh := (List.forall_mem_cons.1 hh).2
      have n174 := O3.off lo171
      replace lo171 := low_le bel lo171
      clear hh hnd
      replace O3 := O3.same hC
      replace bel := bl_step bel hC
      clear hC
      refine st_row (by rfl) (run_storeW (.tmp 9) (.tmp 90) rfl (cs := #[.int .i64 0, .string (str ((l.take m).drop i)), .int .i64 ((plc l i).1), .int .i64 ((plc l i).2.1), .int .i64 ((plc l i).2.2)]) aggTok rfl rfl B172 rfl (by simp [Value.oneCell'])) B172 ?_
      intro w175 B177 hg176
      simp only [nf0, nf1, nf2, nf3, nf4]
      replace O3 := O3.keptB hg176 n174
      replace bel := bl_kept0 bel hg176 lo171
      clear hg176
      clear B172
      refine wpList_nil ?_
      show Code.wp _ _ _ _ _
      refine wp_seq ?_
      refine wp_seq ?_
      refine wp_region_lit ?_
      refine st_mv (.int .i64 ((kd (chr l i) : Nat) : Int)) ?_
      simp only [nf0, nf1, nf2, nf3, nf4]
      refine wpList_nil ?_
      show Code.wp _ _ _ _ _
      refine wp_block ?_
      refine wp_seq ?_
      refine wp_region_lit ?_
      refine st_value (v := (.bool true)) (by rfl) ((run_eql_int (.tmp 91) (.const (.int .i64 1)) rfl rfl rfl w175).trans (by rw [hg89])) ?_
      simp only [nf0, nf1, nf2, nf3, nf4]
      refine st_mv (.bool true) ?_
      simp only [nf0, nf1, nf2, nf3, nf4]
      refine wpList_nil ?_
      show Code.wp _ _ _ _ _
      refine wp_cond_true rfl ?_
      refine wp_seq ?_
      refine wp_region_lit ?_
      refine st_value (v := (.pointer (some ⟨g170, 0, none⟩))) (by rfl) (run_fieldA (.tmp 9) rfl f_fld_33_0 rfl rfl w175) ?_
      simp only [nf0, nf1, nf2, nf3, nf4]
      refine st_cell (v := (.int .i64 1)) (by rfl) (run_storeB (.tmp 95) (.const (.int .i64 1)) rfl f_one_3 B177 (show 0 < 5 by decide) rfl rfl rfl rfl) B177 ?_
      intro w178 B180 hg179
      simp only [nf0, nf1, nf2, nf3, nf4]
      replace O3 := O3.keptB hg179 n174
      replace bel := bl_kept0 bel hg179 lo171
      clear hg179
      clear B177
      replace B180 : Blk w178 g170 #[.int .i64 1, .string (str ((l.take m).drop i)), .int .i64 ((plc l i).1), .int .i64 ((plc l i).2.1), .int .i64 ((plc l i).2.2)] 33 := B180
      refine wpList_nil ?_
      show Code.wp _ _ _ _ _
      refine wp_seq ?_
      refine wp_region_lit ?_
      refine st_mv (.int .i64 (m : Int)) ?_
      simp only [nf0, nf1, nf2, nf3, nf4]
      refine st_mv (.int .i64 (i : Int)) ?_
      simp only [nf0, nf1, nf2, nf3, nf4]
      refine st_value (v := (.int .i64 ((m : Int) - (i : Int)))) (by rfl) (run_sub_in (.tmp 96) (.tmp 97) rfl rfl rfl (by omega) w178) ?_
      simp only [nf0, nf1, nf2, nf3, nf4]
      refine st_value (v := (.bool (decide (32 < ((m : Int) - (i : Int)))))) (by rfl) (run_gtr (.tmp 98) (.const (.int .i64 32)) rfl rfl rfl w178) ?_
      simp only [nf0, nf1, nf2, nf3, nf4]
      refine wpList_nil ?_
      show Code.wp _ _ _ _ _
      cases hg181 : decide (32 < ((m : Int) - (i : Int)))
      rotate_left
      · have hp196 := of_decide_eq_true hg181
        refine wp_cond_true rfl ?_
        refine wp_seq ?_
        refine wp_region_lit ?_
        refine st_mv (.int .i64 (i : Int)) ?_
        simp only [nf0, nf1, nf2, nf3, nf4]
        refine st_mv (.slice none 0 0) ?_
        simp only [nf0, nf1, nf2, nf3, nf4]
        refine st_mv (.int .i64 2) ?_
        simp only [nf0, nf1, nf2, nf3, nf4]
        refine st_mv (.int .i64 (i : Int)) ?_
        simp only [nf0, nf1, nf2, nf3, nf4]
        refine wpList_nil ?_
        show Code.wp _ _ _ _ _
        refine wp_ret ?_
        first | show bodyPost _ _ _ _ _ _ | (simp only [Exit.then, Exit.inBlock]; show bodyPost _ _ _ _ _ _)
        have ht : terr l i = 2 := by unfold terr; rw [if_pos (by omega), if_pos (by omega)]
        have hE := tk_bad hT hlt0 (by omega) (by omega) (by rw [ht]; show ((2 : Int) ≠ 0); decide)
        have hA : desA l = toksA l := by unfold desA; rw [if_neg (by omega)]
        have h0 : ¬ (desA l).2.1 = 0 := by rw [hA, hE, ht]; show ¬ ((2 : Int) = 0); decide
        exact bodyPost_ret (results_tmp3 rfl _ _ _) rfl ⟨_, rfl, _, by rw [hA, hE, ht]; rfl, by unfold desR; rw [if_neg h0]; exact OwnR.nil _ _ _ _, bel⟩
      have hp182 := of_decide_eq_false hg181
      refine wp_cond_false rfl ?_
      refine wp_skip ?_
      show Code.wp _ _ _ _ _
      refine wp_seq ?_
      have ht0 : terr l i = 0 := by unfold terr; rw [if_pos (by omega), if_neg (by omega)]
      have htk : tokI l i = (1, (l.take m).drop i, plc l i) := by unfold tokI; rw [hmE, show tkind (kd (chr l i)) = 1 from by unfold tkind; (repeat' split) <;> omega]
      refine wp_region_lit ?_
      refine st_mv v ?_
      simp only [nf0, nf1, nf2, nf3, nf4]
      refine st_value (v := (.agg #[.int .i64 1, .string (str ((l.take m).drop i)), .int .i64 ((plc l i).1), .int .i64 ((plc l i).2.1), .int .i64 ((plc l i).2.2)])) (by rfl) (run_loadW (.tmp 9) rfl (cs := #[.int .i64 1, .string (str ((l.take m).drop i)), .int .i64 ((plc l i).1), .int .i64 ((plc l i).2.1), .int .i64 ((plc l i).2.2)]) aggTok rfl B180) ?_
      simp only [nf0, nf1, nf2, nf3, nf4]
      refine st_lit (by rfl) (f_run_lit_23_1 (.tmp 108) rfl (m0 := (1, ((l.take m).drop i), (((plc l i).1), ((plc l i).2.1), ((plc l i).2.2)))) rfl _) ?_
      intro g183 w184 B185 hb186 lo187
      simp only [nf0, nf1, nf2, nf3, nf4]
      have n188 := O3.off lo187
      have n189 := B180.ne lo187
      replace lo187 := low_le bel lo187
      replace O3 := O3.same hb186
      replace B180 := B180.below hb186
      replace bel := bl_step bel hb186
      clear hb186
      refine st_append slTok rfl (.tmp 107) (.tmp 109) rfl rfl O3 ([(1, ((l.take m).drop i), (((plc l i).1), ((plc l i).2.1), ((plc l i).2.2)))] : List TTok) rfl rfl B185 (by simp [Enc.all, eTok, ePl]) (by have := tk_len hT; simp only [List.length_cons, List.length_nil]; omega) bel.size ?_
      intro v190 w191 O192 hg193 hat194
      simp only [nf0, nf1, nf2, nf3, nf4]
      have n195 := (n174 : Off _ _).app B180 hat194
      replace B180 := B180.keptR hg193 n174
      replace bel := bl_app bel O3 hg193
      clear O3 hg193 hat194
      refine st_mv v190 ?_
      simp only [nf0, nf1, nf2, nf3, nf4]
      refine wpList_nil ?_
      show Code.wp _ _ _ _ _
      refine wp_region_lit ?_
      refine st_mv (.int .i64 (m : Int)) ?_
      simp only [nf0, nf1, nf2, nf3, nf4]
      refine st_mv (.int .i64 (m : Int)) ?_
      simp only [nf0, nf1, nf2, nf3, nf4]
      refine wpList_nil ?_
      show ∃ m, m < _ ∧ _
      exact ⟨_, (by omega), m, (f - 1), _, v190, rfl, rfl, O192, bel, (by have h_ := tk_tok hT hlt0 (by omega) (by omega) ht0; rw [hmE, htk] at h_; exact h_)⟩
    have hp197 := of_decide_eq_true hg166
    cases hg202 : decide (((kd (chr l m) : Nat) : Int) = 2)
    rotate_left
    · have hp240 := of_decide_eq_true hg202
      refine wp_region_lit ?_
      refine st_mv (.int .i64 (m : Int)) ?_
      simp only [nf0, nf1, nf2, nf3, nf4]
      refine st_mv (.string (str l)) ?_
      simp only [nf0, nf1, nf2, nf3, nf4]
      refine st_value (v := (.int .i64 (l.length : Int))) (by rfl) (run_len_text (.tmp 42) rfl Try.underlying9 (l := l) rfl w17) ?_
      simp only [nf0, nf1, nf2, nf3, nf4]
      refine st_value (v := (.bool true)) (by rfl) ((run_lss (.tmp 41) (.tmp 43) rfl rfl rfl w17).trans (by rw [hg18])) ?_
      simp only [nf0, nf1, nf2, nf3, nf4]
      refine st_mv (.bool true) ?_
      simp only [nf0, nf1, nf2, nf3, nf4]
      refine st_mv (.int .i64 ((kd (chr l i) : Nat) : Int)) ?_
      simp only [nf0, nf1, nf2, nf3, nf4]
      refine st_value (v := (.bool true)) (by rfl) ((run_eql_int (.tmp 46) (.const (.int .i64 1)) rfl rfl rfl w17).trans (by rw [hg89])) ?_
      simp only [nf0, nf1, nf2, nf3, nf4]
      refine st_mv (.bool true) ?_
      simp only [nf0, nf1, nf2, nf3, nf4]
      refine st_mv (.string (str l)) ?_
      simp only [nf0, nf1, nf2, nf3, nf4]
      refine st_mv (.int .i64 (m : Int)) ?_
      simp only [nf0, nf1, nf2, nf3, nf4]
      refine st_value (v := (.int .u8 (chr l m))) (by rfl) (run_index_text (.tmp 49) (.tmp 50) rfl Try.underlying9 (l := l) rfl rfl m (by omega) (by omega) w17) ?_
      simp only [nf0, nf1, nf2, nf3, nf4]
      refine st_call1 (v := (.int .i64 ((kd (chr l m) : Nat) : Int))) (by rfl) (f_run_call_22_1 (.tmp 51) rfl rfl _) (kind_calls (chr l m) w17) ?_
      intro w241 hb242
      simp only [nf0, nf1, nf2, nf3, nf4]
      replace O3 := O3.same hb242
      replace bel := bl_step bel hb242
      clear hb242
      refine st_value (v := (.bool false)) (by rfl) ((run_geq (.tmp 52) (.const (.int .i64 1)) rfl rfl rfl w241).trans (by rw [hg162])) ?_
      simp only [nf0, nf1, nf2, nf3, nf4]
      refine st_mv (.bool false) ?_
      simp only [nf0, nf1, nf2, nf3, nf4]
      refine st_mv (.bool false) ?_
      simp only [nf0, nf1, nf2, nf3, nf4]
      refine st_nob (j := 14) (t := 55) (c := false) rfl rfl rfl rfl rfl ?_
      simp only [nf0, nf1, nf2, nf3, nf4]
      refine st_nob (j := 14) (t := 55) (c := false) rfl rfl rfl rfl rfl ?_
      simp only [nf0, nf1, nf2, nf3, nf4]
      refine st_nob (j := 14) (t := 55) (c := false) rfl rfl rfl rfl rfl ?_
      simp only [nf0, nf1, nf2, nf3, nf4]
      refine st_nob (j := 14) (t := 55) (c := false) rfl rfl rfl rfl rfl ?_
      simp only [nf0, nf1, nf2, nf3, nf4]
      refine st_nob (j := 14) (t := 55) (c := false) rfl rfl rfl rfl rfl ?_
      simp only [nf0, nf1, nf2, nf3, nf4]
      refine st_mv (.bool false) ?_
      simp only [nf0, nf1, nf2, nf3, nf4]
      refine st_mv (.bool false) ?_
      simp only [nf0, nf1, nf2, nf3, nf4]
      refine st_mv (.int .i64 ((kd (chr l i) : Nat) : Int)) ?_
      simp only [nf0, nf1, nf2, nf3, nf4]
      refine st_value (v := (.bool true)) (by rfl) ((run_eql_int (.tmp 63) (.const (.int .i64 2)) rfl rfl rfl w241).trans (by rw [hg166])) ?_
      simp only [nf0, nf1, nf2, nf3, nf4]
      refine st_mv (.bool true) ?_
      simp only [nf0, nf1, nf2, nf3, nf4]
      refine st_mv (.string (str l)) ?_
      simp only [nf0, nf1, nf2, nf3, nf4]
      refine st_mv (.int .i64 (m : Int)) ?_
      simp only [nf0, nf1, nf2, nf3, nf4]
      refine st_value (v := (.int .u8 (chr l m))) (by rfl) (run_index_text (.tmp 66) (.tmp 67) rfl Try.underlying9 (l := l) rfl rfl m (by omega) (by omega) w241) ?_
      simp only [nf0, nf1, nf2, nf3, nf4]
      refine st_call1 (v := (.int .i64 ((kd (chr l m) : Nat) : Int))) (by rfl) (f_run_call_22_1 (.tmp 68) rfl rfl _) (kind_calls (chr l m) w241) ?_
      intro w243 hb244
      simp only [nf0, nf1, nf2, nf3, nf4]
      replace O3 := O3.same hb244
      replace bel := bl_step bel hb244
      clear hb244
      refine st_value (v := (.bool true)) (by rfl) ((run_eql_int (.tmp 69) (.const (.int .i64 2)) rfl rfl rfl w243).trans (by rw [hg202])) ?_
      simp only [nf0, nf1, nf2, nf3, nf4]
      refine st_mv (.bool true) ?_
      simp only [nf0, nf1, nf2, nf3, nf4]
      refine st_nob (j := 30) (t := 71) (c := true) rfl rfl rfl rfl rfl ?_
      simp only [nf0, nf1, nf2, nf3, nf4]
      refine st_nob (j := 30) (t := 71) (c := true) rfl rfl rfl rfl rfl ?_
      simp only [nf0, nf1, nf2, nf3, nf4]
      refine st_nob (j := 30) (t := 71) (c := true) rfl rfl rfl rfl rfl ?_
      simp only [nf0, nf1, nf2, nf3, nf4]
      refine st_nob (j := 30) (t := 71) (c := true) rfl rfl rfl rfl rfl ?_
      simp only [nf0, nf1, nf2, nf3, nf4]
      refine st_nob (j := 30) (t := 71) (c := true) rfl rfl rfl rfl rfl ?_
      simp only [nf0, nf1, nf2, nf3, nf4]
      refine st_mv (.bool true) ?_
      simp only [nf0, nf1, nf2, nf3, nf4]
      refine st_mv (.bool true) ?_
      simp only [nf0, nf1, nf2, nf3, nf4]
      refine st_mv (.bool true) ?_
      simp only [nf0, nf1, nf2, nf3, nf4]
      refine st_mv (.bool true) ?_
      simp only [nf0, nf1, nf2, nf3, nf4]
      refine wpList_nil ?_
      show Code.wp _ _ _ _ _
      refine wp_cond_true rfl ?_
      refine wp_skip ?_
      show Code.wp _ _ _ _ _
      refine wp_block ?_
      refine wp_region_lit ?_
      refine st_mv (.int .i64 (m : Int)) ?_
      simp only [nf0, nf1, nf2, nf3, nf4]
      refine st_value (v := (.int .i64 ((m : Int) + 1))) (by rfl) (run_add_in (.tmp 81) (.const (.int .i64 1)) rfl rfl rfl (by omega) w243) ?_
      simp only [nf0, nf1, nf2, nf3, nf4]
      refine st_mv (.int .i64 ((m : Int) + 1)) ?_
      simp only [nf0, nf1, nf2, nf3, nf4]
      refine wpList_nil ?_
      show ∃ m, m < _ ∧ _
      exact ⟨_, (by omega), (m + 1), rfl, rfl, O3, bel, (by omega), (we_more him hme (by omega) (by omega))⟩
    have hp203 := of_decide_eq_false hg202
    refine wp_region_lit ?_
    refine st_mv (.int .i64 (m : Int)) ?_
    simp only [nf0, nf1, nf2, nf3, nf4]
    refine st_mv (.string (str l)) ?_
    simp only [nf0, nf1, nf2, nf3, nf4]
    refine st_value (v := (.int .i64 (l.length : Int))) (by rfl) (run_len_text (.tmp 42) rfl Try.underlying9 (l := l) rfl w17) ?_
    simp only [nf0, nf1, nf2, nf3, nf4]
    refine st_value (v := (.bool true)) (by rfl) ((run_lss (.tmp 41) (.tmp 43) rfl rfl rfl w17).trans (by rw [hg18])) ?_
    simp only [nf0, nf1, nf2, nf3, nf4]
    refine st_mv (.bool true) ?_
    simp only [nf0, nf1, nf2, nf3, nf4]
    refine st_mv (.int .i64 ((kd (chr l i) : Nat) : Int)) ?_
    simp only [nf0, nf1, nf2, nf3, nf4]
    refine st_value (v := (.bool true)) (by rfl) ((run_eql_int (.tmp 46) (.const (.int .i64 1)) rfl rfl rfl w17).trans (by rw [hg89])) ?_
    simp only [nf0, nf1, nf2, nf3, nf4]
    refine st_mv (.bool true) ?_
    simp only [nf0, nf1, nf2, nf3, nf4]
    refine st_mv (.string (str l)) ?_
    simp only [nf0, nf1, nf2, nf3, nf4]
    refine st_mv (.int .i64 (m : Int)) ?_
    simp only [nf0, nf1, nf2, nf3, nf4]
    refine st_value (v := (.int .u8 (chr l m))) (by rfl) (run_index_text (.tmp 49) (.tmp 50) rfl Try.underlying9 (l := l) rfl rfl m (by omega) (by omega) w17) ?_
    simp only [nf0, nf1, nf2, nf3, nf4]
    refine st_call1 (v := (.int .i64 ((kd (chr l m) : Nat) : Int))) (by rfl) (f_run_call_22_1 (.tmp 51) rfl rfl _) (kind_calls (chr l m) w17) ?_
    intro w204 hb205
    simp only [nf0, nf1, nf2, nf3, nf4]
    replace O3 := O3.same hb205
    replace bel := bl_step bel hb205
    clear hb205
    refine st_value (v := (.bool false)) (by rfl) ((run_geq (.tmp 52) (.const (.int .i64 1)) rfl rfl rfl w204).trans (by rw [hg162])) ?_
    simp only [nf0, nf1, nf2, nf3, nf4]
    refine st_mv (.bool false) ?_
    simp only [nf0, nf1, nf2, nf3, nf4]
    refine st_mv (.bool false) ?_
    simp only [nf0, nf1, nf2, nf3, nf4]
    refine st_nob (j := 14) (t := 55) (c := false) rfl rfl rfl rfl rfl ?_
    simp only [nf0, nf1, nf2, nf3, nf4]
    refine st_nob (j := 14) (t := 55) (c := false) rfl rfl rfl rfl rfl ?_
    simp only [nf0, nf1, nf2, nf3, nf4]
    refine st_nob (j := 14) (t := 55) (c := false) rfl rfl rfl rfl rfl ?_
    simp only [nf0, nf1, nf2, nf3, nf4]
    refine st_nob (j := 14) (t := 55) (c := false) rfl rfl rfl rfl rfl ?_
    simp only [nf0, nf1, nf2, nf3, nf4]
    refine st_nob (j := 14) (t := 55) (c := false) rfl rfl rfl rfl rfl ?_
    simp only [nf0, nf1, nf2, nf3, nf4]
    refine st_mv (.bool false) ?_
    simp only [nf0, nf1, nf2, nf3, nf4]
    refine st_mv (.bool false) ?_
    simp only [nf0, nf1, nf2, nf3, nf4]
    refine st_mv (.int .i64 ((kd (chr l i) : Nat) : Int)) ?_
    simp only [nf0, nf1, nf2, nf3, nf4]
    refine st_value (v := (.bool true)) (by rfl) ((run_eql_int (.tmp 63) (.const (.int .i64 2)) rfl rfl rfl w204).trans (by rw [hg166])) ?_
    simp only [nf0, nf1, nf2, nf3, nf4]
    refine st_mv (.bool true) ?_
    simp only [nf0, nf1, nf2, nf3, nf4]
    refine st_mv (.string (str l)) ?_
    simp only [nf0, nf1, nf2, nf3, nf4]
    refine st_mv (.int .i64 (m : Int)) ?_
    simp only [nf0, nf1, nf2, nf3, nf4]
    refine st_value (v := (.int .u8 (chr l m))) (by rfl) (run_index_text (.tmp 66) (.tmp 67) rfl Try.underlying9 (l := l) rfl rfl m (by omega) (by omega) w204) ?_
    simp only [nf0, nf1, nf2, nf3, nf4]
    refine st_call1 (v := (.int .i64 ((kd (chr l m) : Nat) : Int))) (by rfl) (f_run_call_22_1 (.tmp 68) rfl rfl _) (kind_calls (chr l m) w204) ?_
    intro w206 hb207
    simp only [nf0, nf1, nf2, nf3, nf4]
    replace O3 := O3.same hb207
    replace bel := bl_step bel hb207
    clear hb207
    refine st_value (v := (.bool false)) (by rfl) ((run_eql_int (.tmp 69) (.const (.int .i64 2)) rfl rfl rfl w206).trans (by rw [hg202])) ?_
    simp only [nf0, nf1, nf2, nf3, nf4]
    refine st_mv (.bool false) ?_
    simp only [nf0, nf1, nf2, nf3, nf4]
    refine st_mv (.string (str l)) ?_
    simp only [nf0, nf1, nf2, nf3, nf4]
    refine st_mv (.int .i64 (m : Int)) ?_
    simp only [nf0, nf1, nf2, nf3, nf4]
    refine st_value (v := (.int .u8 (chr l m))) (by rfl) (run_index_text (.tmp 72) (.tmp 73) rfl Try.underlying9 (l := l) rfl rfl m (by omega) (by omega) w206) ?_
    simp only [nf0, nf1, nf2, nf3, nf4]
    refine st_call1 (v := (.int .i64 ((kd (chr l m) : Nat) : Int))) (by rfl) (f_run_call_22_1 (.tmp 74) rfl rfl _) (kind_calls (chr l m) w206) ?_
    intro w208 hb209
    simp only [nf0, nf1, nf2, nf3, nf4]
    replace O3 := O3.same hb209
    replace bel := bl_step bel hb209
    clear hb209
    refine st_value (v := (.bool (decide (((kd (chr l m) : Nat) : Int) = 4)))) (by rfl) (run_eql_int (.tmp 75) (.const (.int .i64 4)) rfl rfl rfl w208) ?_
    simp only [nf0, nf1, nf2, nf3, nf4]
    refine st_mv (.bool (decide (((kd (chr l m) : Nat) : Int) = 4))) ?_
    simp only [nf0, nf1, nf2, nf3, nf4]
    refine st_mv (.bool (decide (((kd (chr l m) : Nat) : Int) = 4))) ?_
    simp only [nf0, nf1, nf2, nf3, nf4]
    refine st_mv (.bool (decide (((kd (chr l m) : Nat) : Int) = 4))) ?_
    simp only [nf0, nf1, nf2, nf3, nf4]
    refine st_mv (.bool (decide (((kd (chr l m) : Nat) : Int) = 4))) ?_
    simp only [nf0, nf1, nf2, nf3, nf4]
    refine wpList_nil ?_
    show Code.wp _ _ _ _ _
    cases hg210 : decide (((kd (chr l m) : Nat) : Int) = 4)
    rotate_left
    · have hp239 := of_decide_eq_true hg210
      refine wp_cond_true rfl ?_
      refine wp_skip ?_
      show Code.wp _ _ _ _ _
      refine wp_block ?_
      refine wp_region_lit ?_
      refine st_mv (.int .i64 (m : Int)) ?_
      simp only [nf0, nf1, nf2, nf3, nf4]
      refine st_value (v := (.int .i64 ((m : Int) + 1))) (by rfl) (run_add_in (.tmp 81) (.const (.int .i64 1)) rfl rfl rfl (by omega) w208) ?_
      simp only [nf0, nf1, nf2, nf3, nf4]
      refine st_mv (.int .i64 ((m : Int) + 1)) ?_
      simp only [nf0, nf1, nf2, nf3, nf4]
      refine wpList_nil ?_
      show ∃ m, m < _ ∧ _
      exact ⟨_, (by omega), (m + 1), rfl, rfl, O3, bel, (by omega), (we_more him hme (by omega) (by omega))⟩
    have hp211 := of_decide_eq_false hg210
    refine wp_cond_false rfl ?_
    refine wp_exit ?_
    show Code.wp _ _ _ _ _
    refine wp_seq ?_
    have hmE : wend l i = m := we_here him hme hlt0 (by omega)
    refine wp_region_facts2_lit (C := Abv w208) 9 [.val (.string (str l)), .val (.int .i64 (i : Int)), .val (.int .i64 (m : Int)), .val (.string (str ((l.take m).drop i))), .val (.string (str l)), .val (.int .i64 (i : Int)), .val (.agg #[.int .i64 ((plc l i).1), .int .i64 ((plc l i).2.1), .int .i64 ((plc l i).2.2)]), .val (.agg #[.int .i64 0, .string (str ((l.take m).drop i)), .int .i64 ((plc l i).1), .int .i64 ((plc l i).2.1), .int .i64 ((plc l i).2.2)]), .new #[.int .i64 0, .string ⟨#[]⟩, .int .i64 0, .int .i64 0, .int .i64 0] 33] w208.heap.size (by kernel_rfl) (by simp) (by kernel_rfl) (by kernel_rfl) (fun _ h => h.size) (Abv.start _) ?_
    simp only [List.take_succ_cons, List.take_zero, List.drop_succ_cons, List.drop_zero]
    refine fst2_val (fun W hC hh => ok2_value (v := (.string (str l))) (by rfl) (by rfl) rfl hC (G0.refl _)) ?_
    simp only [nf0, nf1, nf2, nf3, nf4]
    refine fst2_val (fun W hC hh => ok2_value (v := (.int .i64 (i : Int))) (by rfl) (by rfl) rfl hC (G0.refl _)) ?_
    simp only [nf0, nf1, nf2, nf3, nf4]
    refine fst2_val (fun W hC hh => ok2_value (v := (.int .i64 (m : Int))) (by rfl) (by rfl) rfl hC (G0.refl _)) ?_
    simp only [nf0, nf1, nf2, nf3, nf4]
    refine fst2_val (fun W hC hh => ok2_value (v := (.string (str ((l.take m).drop i)))) (by rfl) (run_sub_text (.tmp 83) (.tmp 84) (.tmp 85) rfl Try.underlying9 (l := l) (p := i) (q := m) rfl rfl rfl (by omega) (by omega) (by omega) (by omega) W) rfl hC (G0.refl _)) ?_
    simp only [nf0, nf1, nf2, nf3, nf4]
    refine fst2_val (fun W hC hh => ok2_value (v := (.string (str l))) (by rfl) (by rfl) rfl hC (G0.refl _)) ?_
    simp only [nf0, nf1, nf2, nf3, nf4]
    refine fst2_val (fun W hC hh => ok2_value (v := (.int .i64 (i : Int))) (by rfl) (by rfl) rfl hC (G0.refl _)) ?_
    simp only [nf0, nf1, nf2, nf3, nf4]
    refine fst2_val (fun W hC hh => ok2_call (by rfl) (f_run_call_12_2 (.tmp 87) (.tmp 88) rfl rfl rfl W) ((refAt_in (l := l) (i := i) (by omega) (by omega) W).mono fun e W' ⟨h1, h2⟩ => ⟨h1, hC.step h2, h2⟩)) ?_
    simp only [nf0, nf1, nf2, nf3, nf4]
    refine fst2_val (fun W hC hh => ok2_value (v := (.agg #[.int .i64 0, .string (str ((l.take m).drop i)), .int .i64 ((plc l i).1), .int .i64 ((plc l i).2.1), .int .i64 ((plc l i).2.2)])) (by rfl) (run_buildV rfl (by kernel_rfl) W) rfl hC (G0.refl _)) ?_
    simp only [nf0, nf1, nf2, nf3, nf4]
    refine fst2_new (fun W hC hh => ok2_new (by rfl) (run_allocV rfl f_zero_33 W) (hC.step (bl_alloc (Below.refl _ _) _))) fun g212 lo213 => ?_
    simp only [nf0, nf1, nf2, nf3, nf4]
    refine fst2_nil fun w215 hC hh hnd => ?_
    replace hC : Below w208.heap.size w208 w215 := hC
    have B214 : Blk w215 g212 #[.int .i64 0, .string ⟨#[]⟩, .int .i64 0, .int .i64 0, .int .i64 0] 33 := (List.forall_mem_cons.1 hh).1
    replace hh := (List.forall_mem_cons.1 hh).2
    have n216 := O3.off lo213
    replace lo213 := low_le bel lo213
    clear hh hnd
    replace O3 := O3.same hC
    replace bel := bl_step bel hC
    clear hC
    refine st_row (by rfl) (run_storeW (.tmp 9) (.tmp 90) rfl (cs := #[.int .i64 0, .string (str ((l.take m).drop i)), .int .i64 ((plc l i).1), .int .i64 ((plc l i).2.1), .int .i64 ((plc l i).2.2)]) aggTok rfl rfl B214 rfl (by simp [Value.oneCell'])) B214 ?_
    intro w217 B219 hg218
    simp only [nf0, nf1, nf2, nf3, nf4]
    replace O3 := O3.keptB hg218 n216
    replace bel := bl_kept0 bel hg218 lo213
    clear hg218
    clear B214
    refine wpList_nil ?_
    show Code.wp _ _ _ _ _
    refine wp_seq ?_
    refine wp_seq ?_
    refine wp_region_lit ?_
    refine st_mv (.int .i64 ((kd (chr l i) : Nat) : Int)) ?_
    simp only [nf0, nf1, nf2, nf3, nf4]
    refine wpList_nil ?_
    show Code.wp _ _ _ _ _
    refine wp_block ?_
    refine wp_seq ?_
    refine wp_region_lit ?_
    refine st_value (v := (.bool true)) (by rfl) ((run_eql_int (.tmp 91) (.const (.int .i64 1)) rfl rfl rfl w217).trans (by rw [hg89])) ?_
    simp only [nf0, nf1, nf2, nf3, nf4]
    refine st_mv (.bool true) ?_
    simp only [nf0, nf1, nf2, nf3, nf4]
    refine wpList_nil ?_
    show Code.wp _ _ _ _ _
    refine wp_cond_true rfl ?_
    refine wp_seq ?_
    refine wp_region_lit ?_
    refine st_value (v := (.pointer (some ⟨g212, 0, none⟩))) (by rfl) (run_fieldA (.tmp 9) rfl f_fld_33_0 rfl rfl w217) ?_
    simp only [nf0, nf1, nf2, nf3, nf4]
    refine st_cell (v := (.int .i64 1)) (by rfl) (run_storeB (.tmp 95) (.const (.int .i64 1)) rfl f_one_3 B219 (show 0 < 5 by decide) rfl rfl rfl rfl) B219 ?_
    intro w220 B222 hg221
    simp only [nf0, nf1, nf2, nf3, nf4]
    replace O3 := O3.keptB hg221 n216
    replace bel := bl_kept0 bel hg221 lo213
    clear hg221
    clear B219
    replace B222 : Blk w220 g212 #[.int .i64 1, .string (str ((l.take m).drop i)), .int .i64 ((plc l i).1), .int .i64 ((plc l i).2.1), .int .i64 ((plc l i).2.2)] 33 := B222
    refine wpList_nil ?_
    show Code.wp _ _ _ _ _
    refine wp_seq ?_
    refine wp_region_lit ?_
    refine st_mv (.int .i64 (m : Int)) ?_
    simp only [nf0, nf1, nf2, nf3, nf4]
    refine st_mv (.int .i64 (i : Int)) ?_
    simp only [nf0, nf1, nf2, nf3, nf4]
    refine st_value (v := (.int .i64 ((m : Int) - (i : Int)))) (by rfl) (run_sub_in (.tmp 96) (.tmp 97) rfl rfl rfl (by omega) w220) ?_
    simp only [nf0, nf1, nf2, nf3, nf4]
    refine st_value (v := (.bool (decide (32 < ((m : Int) - (i : Int)))))) (by rfl) (run_gtr (.tmp 98) (.const (.int .i64 32)) rfl rfl rfl w220) ?_
    simp only [nf0, nf1, nf2, nf3, nf4]
    refine wpList_nil ?_
    show Code.wp _ _ _ _ _
    cases hg223 : decide (32 < ((m : Int) - (i : Int)))
    rotate_left
    · have hp238 := of_decide_eq_true hg223
      refine wp_cond_true rfl ?_
      refine wp_seq ?_
      refine wp_region_lit ?_
      refine st_mv (.int .i64 (i : Int)) ?_
      simp only [nf0, nf1, nf2, nf3, nf4]
      refine st_mv (.slice none 0 0) ?_
      simp only [nf0, nf1, nf2, nf3, nf4]
      refine st_mv (.int .i64 2) ?_
      simp only [nf0, nf1, nf2, nf3, nf4]
      refine st_mv (.int .i64 (i : Int)) ?_
      simp only [nf0, nf1, nf2, nf3, nf4]
      refine wpList_nil ?_
      show Code.wp _ _ _ _ _
      refine wp_ret ?_
      first | show bodyPost _ _ _ _ _ _ | (simp only [Exit.then, Exit.inBlock]; show bodyPost _ _ _ _ _ _)
      have ht : terr l i = 2 := by unfold terr; rw [if_pos (by omega), if_pos (by omega)]
      have hE := tk_bad hT hlt0 (by omega) (by omega) (by rw [ht]; show ((2 : Int) ≠ 0); decide)
      have hA : desA l = toksA l := by unfold desA; rw [if_neg (by omega)]
      have h0 : ¬ (desA l).2.1 = 0 := by rw [hA, hE, ht]; show ¬ ((2 : Int) = 0); decide
      exact bodyPost_ret (results_tmp3 rfl _ _ _) rfl ⟨_, rfl, _, by rw [hA, hE, ht]; rfl, by unfold desR; rw [if_neg h0]; exact OwnR.nil _ _ _ _, bel⟩
    have hp224 := of_decide_eq_false hg223
    refine wp_cond_false rfl ?_
    refine wp_skip ?_
    show Code.wp _ _ _ _ _
    refine wp_seq ?_
    have ht0 : terr l i = 0 := by unfold terr; rw [if_pos (by omega), if_neg (by omega)]
    have htk : tokI l i = (1, (l.take m).drop i, plc l i) := by unfold tokI; rw [hmE, show tkind (kd (chr l i)) = 1 from by unfold tkind; (repeat' split) <;> omega]
    refine wp_region_lit ?_
    refine st_mv v ?_
    simp only [nf0, nf1, nf2, nf3, nf4]
    refine st_value (v := (.agg #[.int .i64 1, .string (str ((l.take m).drop i)), .int .i64 ((plc l i).1), .int .i64 ((plc l i).2.1), .int .i64 ((plc l i).2.2)])) (by rfl) (run_loadW (.tmp 9) rfl (cs := #[.int .i64 1, .string (str ((l.take m).drop i)), .int .i64 ((plc l i).1), .int .i64 ((plc l i).2.1), .int .i64 ((plc l i).2.2)]) aggTok rfl B222) ?_
    simp only [nf0, nf1, nf2, nf3, nf4]
    refine st_lit (by rfl) (f_run_lit_23_1 (.tmp 108) rfl (m0 := (1, ((l.take m).drop i), (((plc l i).1), ((plc l i).2.1), ((plc l i).2.2)))) rfl _) ?_
    intro g225 w226 B227 hb228 lo229
    simp only [nf0, nf1, nf2, nf3, nf4]
    have n230 := O3.off lo229
    have n231 := B222.ne lo229
    replace lo229 := low_le bel lo229
    replace O3 := O3.same hb228
    replace B222 := B222.below hb228
    replace bel := bl_step bel hb228
    clear hb228
    refine st_append slTok rfl (.tmp 107) (.tmp 109) rfl rfl O3 ([(1, ((l.take m).drop i), (((plc l i).1), ((plc l i).2.1), ((plc l i).2.2)))] : List TTok) rfl rfl B227 (by simp [Enc.all, eTok, ePl]) (by have := tk_len hT; simp only [List.length_cons, List.length_nil]; omega) bel.size ?_
    intro v232 w233 O234 hg235 hat236
    simp only [nf0, nf1, nf2, nf3, nf4]
    have n237 := (n216 : Off _ _).app B222 hat236
    replace B222 := B222.keptR hg235 n216
    replace bel := bl_app bel O3 hg235
    clear O3 hg235 hat236
    refine st_mv v232 ?_
    simp only [nf0, nf1, nf2, nf3, nf4]
    refine wpList_nil ?_
    show Code.wp _ _ _ _ _
    refine wp_region_lit ?_
    refine st_mv (.int .i64 (m : Int)) ?_
    simp only [nf0, nf1, nf2, nf3, nf4]
    refine st_mv (.int .i64 (m : Int)) ?_
    simp only [nf0, nf1, nf2, nf3, nf4]
    refine wpList_nil ?_
    show ∃ m, m < _ ∧ _
    exact ⟨_, (by omega), m, (f - 1), _, v232, rfl, rfl, O234, bel, (by have h_ := tk_tok hT hlt0 (by omega) (by omega) ht0; rw [hmE, htk] at h_; exact h_)⟩
  have hp245 := of_decide_eq_true hg162
  cases hg250 : decide (((kd (chr l m) : Nat) : Int) ≤ 3)
  rotate_left
  · have hp343 := of_decide_eq_true hg250
    refine wp_region_lit ?_
    refine st_mv (.int .i64 (m : Int)) ?_
    simp only [nf0, nf1, nf2, nf3, nf4]
    refine st_mv (.string (str l)) ?_
    simp only [nf0, nf1, nf2, nf3, nf4]
    refine st_value (v := (.int .i64 (l.length : Int))) (by rfl) (run_len_text (.tmp 42) rfl Try.underlying9 (l := l) rfl w17) ?_
    simp only [nf0, nf1, nf2, nf3, nf4]
    refine st_value (v := (.bool true)) (by rfl) ((run_lss (.tmp 41) (.tmp 43) rfl rfl rfl w17).trans (by rw [hg18])) ?_
    simp only [nf0, nf1, nf2, nf3, nf4]
    refine st_mv (.bool true) ?_
    simp only [nf0, nf1, nf2, nf3, nf4]
    refine st_mv (.int .i64 ((kd (chr l i) : Nat) : Int)) ?_
    simp only [nf0, nf1, nf2, nf3, nf4]
    refine st_value (v := (.bool true)) (by rfl) ((run_eql_int (.tmp 46) (.const (.int .i64 1)) rfl rfl rfl w17).trans (by rw [hg89])) ?_
    simp only [nf0, nf1, nf2, nf3, nf4]
    refine st_mv (.bool true) ?_
    simp only [nf0, nf1, nf2, nf3, nf4]
    refine st_mv (.string (str l)) ?_
    simp only [nf0, nf1, nf2, nf3, nf4]
    refine st_mv (.int .i64 (m : Int)) ?_
    simp only [nf0, nf1, nf2, nf3, nf4]
    refine st_value (v := (.int .u8 (chr l m))) (by rfl) (run_index_text (.tmp 49) (.tmp 50) rfl Try.underlying9 (l := l) rfl rfl m (by omega) (by omega) w17) ?_
    simp only [nf0, nf1, nf2, nf3, nf4]
    refine st_call1 (v := (.int .i64 ((kd (chr l m) : Nat) : Int))) (by rfl) (f_run_call_22_1 (.tmp 51) rfl rfl _) (kind_calls (chr l m) w17) ?_
    intro w344 hb345
    simp only [nf0, nf1, nf2, nf3, nf4]
    replace O3 := O3.same hb345
    replace bel := bl_step bel hb345
    clear hb345
    refine st_value (v := (.bool true)) (by rfl) ((run_geq (.tmp 52) (.const (.int .i64 1)) rfl rfl rfl w344).trans (by rw [hg162])) ?_
    simp only [nf0, nf1, nf2, nf3, nf4]
    refine st_mv (.bool true) ?_
    simp only [nf0, nf1, nf2, nf3, nf4]
    refine st_mv (.bool true) ?_
    simp only [nf0, nf1, nf2, nf3, nf4]
    refine st_mv (.string (str l)) ?_
    simp only [nf0, nf1, nf2, nf3, nf4]
    refine st_mv (.int .i64 (m : Int)) ?_
    simp only [nf0, nf1, nf2, nf3, nf4]
    refine st_value (v := (.int .u8 (chr l m))) (by rfl) (run_index_text (.tmp 56) (.tmp 57) rfl Try.underlying9 (l := l) rfl rfl m (by omega) (by omega) w344) ?_
    simp only [nf0, nf1, nf2, nf3, nf4]
    refine st_call1 (v := (.int .i64 ((kd (chr l m) : Nat) : Int))) (by rfl) (f_run_call_22_1 (.tmp 58) rfl rfl _) (kind_calls (chr l m) w344) ?_
    intro w346 hb347
    simp only [nf0, nf1, nf2, nf3, nf4]
    replace O3 := O3.same hb347
    replace bel := bl_step bel hb347
    clear hb347
    refine st_value (v := (.bool true)) (by rfl) ((run_leq (.tmp 59) (.const (.int .i64 3)) rfl rfl rfl w346).trans (by rw [hg250])) ?_
    simp only [nf0, nf1, nf2, nf3, nf4]
    refine st_mv (.bool true) ?_
    simp only [nf0, nf1, nf2, nf3, nf4]
    refine st_mv (.bool true) ?_
    simp only [nf0, nf1, nf2, nf3, nf4]
    refine st_nob (j := 21) (t := 62) (c := true) rfl rfl rfl rfl rfl ?_
    simp only [nf0, nf1, nf2, nf3, nf4]
    refine st_nob (j := 21) (t := 62) (c := true) rfl rfl rfl rfl rfl ?_
    simp only [nf0, nf1, nf2, nf3, nf4]
    refine st_nob (j := 21) (t := 62) (c := true) rfl rfl rfl rfl rfl ?_
    simp only [nf0, nf1, nf2, nf3, nf4]
    refine st_nou (j := 24) (t := 65) rfl rfl rfl rfl ?_
    simp only [nf0, nf1, nf2, nf3, nf4]
    refine st_nou (j := 24) (t := 65) rfl rfl rfl rfl ?_
    simp only [nf0, nf1, nf2, nf3, nf4]
    refine st_nou (j := 24) (t := 65) rfl rfl rfl rfl ?_
    simp only [nf0, nf1, nf2, nf3, nf4]
    refine st_nou (j := 24) (t := 65) rfl rfl rfl rfl ?_
    simp only [nf0, nf1, nf2, nf3, nf4]
    refine st_nou (j := 24) (t := 65) rfl rfl rfl rfl ?_
    simp only [nf0, nf1, nf2, nf3, nf4]
    refine st_nou (j := 24) (t := 65) rfl rfl rfl rfl ?_
    simp only [nf0, nf1, nf2, nf3, nf4]
    refine st_nou (j := 30) (t := 71) rfl rfl rfl rfl ?_
    simp only [nf0, nf1, nf2, nf3, nf4]
    refine st_nou (j := 30) (t := 71) rfl rfl rfl rfl ?_
    simp only [nf0, nf1, nf2, nf3, nf4]
    refine st_nou (j := 30) (t := 71) rfl rfl rfl rfl ?_
    simp only [nf0, nf1, nf2, nf3, nf4]
    refine st_nou (j := 30) (t := 71) rfl rfl rfl rfl ?_
    simp only [nf0, nf1, nf2, nf3, nf4]
    refine st_nou (j := 30) (t := 71) rfl rfl rfl rfl ?_
    simp only [nf0, nf1, nf2, nf3, nf4]
    refine st_nou (j := 24) (t := 65) rfl rfl rfl rfl ?_
    simp only [nf0, nf1, nf2, nf3, nf4]
    refine st_nob (j := 21) (t := 62) (c := true) rfl rfl rfl rfl rfl ?_
    simp only [nf0, nf1, nf2, nf3, nf4]
    refine st_mv (.bool true) ?_
    simp only [nf0, nf1, nf2, nf3, nf4]
    refine st_mv (.bool true) ?_
    simp only [nf0, nf1, nf2, nf3, nf4]
    refine wpList_nil ?_
    show Code.wp _ _ _ _ _
    refine wp_cond_true rfl ?_
    refine wp_skip ?_
    show Code.wp _ _ _ _ _
    refine wp_block ?_
    refine wp_region_lit ?_
    refine st_mv (.int .i64 (m : Int)) ?_
    simp only [nf0, nf1, nf2, nf3, nf4]
    refine st_value (v := (.int .i64 ((m : Int) + 1))) (by rfl) (run_add_in (.tmp 81) (.const (.int .i64 1)) rfl rfl rfl (by omega) w346) ?_
    simp only [nf0, nf1, nf2, nf3, nf4]
    refine st_mv (.int .i64 ((m : Int) + 1)) ?_
    simp only [nf0, nf1, nf2, nf3, nf4]
    refine wpList_nil ?_
    show ∃ m, m < _ ∧ _
    exact ⟨_, (by omega), (m + 1), rfl, rfl, O3, bel, (by omega), (we_more him hme (by omega) (by omega))⟩
  have hp251 := of_decide_eq_false hg250
  cases hg256 : decide (((kd (chr l i) : Nat) : Int) = 2)
  · have hp257 := of_decide_eq_false hg256
    refine wp_region_lit ?_
    refine st_mv (.int .i64 (m : Int)) ?_
    simp only [nf0, nf1, nf2, nf3, nf4]
    refine st_mv (.string (str l)) ?_
    simp only [nf0, nf1, nf2, nf3, nf4]
    refine st_value (v := (.int .i64 (l.length : Int))) (by rfl) (run_len_text (.tmp 42) rfl Try.underlying9 (l := l) rfl w17) ?_
    simp only [nf0, nf1, nf2, nf3, nf4]
    refine st_value (v := (.bool true)) (by rfl) ((run_lss (.tmp 41) (.tmp 43) rfl rfl rfl w17).trans (by rw [hg18])) ?_
    simp only [nf0, nf1, nf2, nf3, nf4]
    refine st_mv (.bool true) ?_
    simp only [nf0, nf1, nf2, nf3, nf4]
    refine st_mv (.int .i64 ((kd (chr l i) : Nat) : Int)) ?_
    simp only [nf0, nf1, nf2, nf3, nf4]
    refine st_value (v := (.bool true)) (by rfl) ((run_eql_int (.tmp 46) (.const (.int .i64 1)) rfl rfl rfl w17).trans (by rw [hg89])) ?_
    simp only [nf0, nf1, nf2, nf3, nf4]
    refine st_mv (.bool true) ?_
    simp only [nf0, nf1, nf2, nf3, nf4]
    refine st_mv (.string (str l)) ?_
    simp only [nf0, nf1, nf2, nf3, nf4]
    refine st_mv (.int .i64 (m : Int)) ?_
    simp only [nf0, nf1, nf2, nf3, nf4]
    refine st_value (v := (.int .u8 (chr l m))) (by rfl) (run_index_text (.tmp 49) (.tmp 50) rfl Try.underlying9 (l := l) rfl rfl m (by omega) (by omega) w17) ?_
    simp only [nf0, nf1, nf2, nf3, nf4]
    refine st_call1 (v := (.int .i64 ((kd (chr l m) : Nat) : Int))) (by rfl) (f_run_call_22_1 (.tmp 51) rfl rfl _) (kind_calls (chr l m) w17) ?_
    intro w258 hb259
    simp only [nf0, nf1, nf2, nf3, nf4]
    replace O3 := O3.same hb259
    replace bel := bl_step bel hb259
    clear hb259
    refine st_value (v := (.bool true)) (by rfl) ((run_geq (.tmp 52) (.const (.int .i64 1)) rfl rfl rfl w258).trans (by rw [hg162])) ?_
    simp only [nf0, nf1, nf2, nf3, nf4]
    refine st_mv (.bool true) ?_
    simp only [nf0, nf1, nf2, nf3, nf4]
    refine st_mv (.bool true) ?_
    simp only [nf0, nf1, nf2, nf3, nf4]
    refine st_mv (.string (str l)) ?_
    simp only [nf0, nf1, nf2, nf3, nf4]
    refine st_mv (.int .i64 (m : Int)) ?_
    simp only [nf0, nf1, nf2, nf3, nf4]
    refine st_value (v := (.int .u8 (chr l m))) (by rfl) (run_index_text (.tmp 56) (.tmp 57) rfl Try.underlying9 (l := l) rfl rfl m (by omega) (by omega) w258) ?_
    simp only [nf0, nf1, nf2, nf3, nf4]
    refine st_call1 (v := (.int .i64 ((kd (chr l m) : Nat) : Int))) (by rfl) (f_run_call_22_1 (.tmp 58) rfl rfl _) (kind_calls (chr l m) w258) ?_
    intro w260 hb261
    simp only [nf0, nf1, nf2, nf3, nf4]
    replace O3 := O3.same hb261
    replace bel := bl_step bel hb261
    clear hb261
    refine st_value (v := (.bool false)) (by rfl) ((run_leq (.tmp 59) (.const (.int .i64 3)) rfl rfl rfl w260).trans (by rw [hg250])) ?_
    simp only [nf0, nf1, nf2, nf3, nf4]
    refine st_mv (.bool false) ?_
    simp only [nf0, nf1, nf2, nf3, nf4]
    refine st_mv (.bool false) ?_
    simp only [nf0, nf1, nf2, nf3, nf4]
    refine st_mv (.int .i64 ((kd (chr l i) : Nat) : Int)) ?_
    simp only [nf0, nf1, nf2, nf3, nf4]
    refine st_value (v := (.bool false)) (by rfl) ((run_eql_int (.tmp 63) (.const (.int .i64 2)) rfl rfl rfl w260).trans (by rw [hg256])) ?_
    simp only [nf0, nf1, nf2, nf3, nf4]
    refine st_mv (.bool false) ?_
    simp only [nf0, nf1, nf2, nf3, nf4]
    refine st_nob (j := 24) (t := 65) (c := false) rfl rfl rfl rfl rfl ?_
    simp only [nf0, nf1, nf2, nf3, nf4]
    refine st_nob (j := 24) (t := 65) (c := false) rfl rfl rfl rfl rfl ?_
    simp only [nf0, nf1, nf2, nf3, nf4]
    refine st_nob (j := 24) (t := 65) (c := false) rfl rfl rfl rfl rfl ?_
    simp only [nf0, nf1, nf2, nf3, nf4]
    refine st_nob (j := 24) (t := 65) (c := false) rfl rfl rfl rfl rfl ?_
    simp only [nf0, nf1, nf2, nf3, nf4]
    refine st_nob (j := 24) (t := 65) (c := false) rfl rfl rfl rfl rfl ?_
    simp only [nf0, nf1, nf2, nf3, nf4]
    refine st_nob (j := 24) (t := 65) (c := false) rfl rfl rfl rfl rfl ?_
    simp only [nf0, nf1, nf2, nf3, nf4]
    refine st_nou (j := 30) (t := 71) rfl rfl rfl rfl ?_
    simp only [nf0, nf1, nf2, nf3, nf4]
    refine st_nou (j := 30) (t := 71) rfl rfl rfl rfl ?_
    simp only [nf0, nf1, nf2, nf3, nf4]
    refine st_nou (j := 30) (t := 71) rfl rfl rfl rfl ?_
    simp only [nf0, nf1, nf2, nf3, nf4]
    refine st_nou (j := 30) (t := 71) rfl rfl rfl rfl ?_
    simp only [nf0, nf1, nf2, nf3, nf4]
    refine st_nou (j := 30) (t := 71) rfl rfl rfl rfl ?_
    simp only [nf0, nf1, nf2, nf3, nf4]
    refine st_nob (j := 24) (t := 65) (c := false) rfl rfl rfl rfl rfl ?_
    simp only [nf0, nf1, nf2, nf3, nf4]
    refine st_mv (.bool false) ?_
    simp only [nf0, nf1, nf2, nf3, nf4]
    refine st_mv (.bool false) ?_
    simp only [nf0, nf1, nf2, nf3, nf4]
    refine st_mv (.bool false) ?_
    simp only [nf0, nf1, nf2, nf3, nf4]
    refine wpList_nil ?_
    show Code.wp _ _ _ _ _
    refine wp_cond_false rfl ?_
    refine wp_exit ?_
    show Code.wp _ _ _ _ _
    refine wp_seq ?_
    have hmE : wend l i = m := we_here him hme hlt0 (by omega)
    refine wp_region_facts2_lit (C := Abv w260) 9 [.val (.string (str l)), .val (.int .i64 (i : Int)), .val (.int .i64 (m : Int)), .val (.string (str ((l.take m).drop i))), .val (.string (str l)), .val (.int .i64 (i : Int)), .val (.agg #[.int .i64 ((plc l i).1), .int .i64 ((plc l i).2.1), .int .i64 ((plc l i).2.2)]), .val (.agg #[.int .i64 0, .string (str ((l.take m).drop i)), .int .i64 ((plc l i).1), .int .i64 ((plc l i).2.1), .int .i64 ((plc l i).2.2)]), .new #[.int .i64 0, .string ⟨#[]⟩, .int .i64 0, .int .i64 0, .int .i64 0] 33] w260.heap.size (by kernel_rfl) (by simp) (by kernel_rfl) (by kernel_rfl) (fun _ h => h.size) (Abv.start _) ?_
    simp only [List.take_succ_cons, List.take_zero, List.drop_succ_cons, List.drop_zero]
    refine fst2_val (fun W hC hh => ok2_value (v := (.string (str l))) (by rfl) (by rfl) rfl hC (G0.refl _)) ?_
    simp only [nf0, nf1, nf2, nf3, nf4]
    refine fst2_val (fun W hC hh => ok2_value (v := (.int .i64 (i : Int))) (by rfl) (by rfl) rfl hC (G0.refl _)) ?_
    simp only [nf0, nf1, nf2, nf3, nf4]
    refine fst2_val (fun W hC hh => ok2_value (v := (.int .i64 (m : Int))) (by rfl) (by rfl) rfl hC (G0.refl _)) ?_
    simp only [nf0, nf1, nf2, nf3, nf4]
    refine fst2_val (fun W hC hh => ok2_value (v := (.string (str ((l.take m).drop i)))) (by rfl) (run_sub_text (.tmp 83) (.tmp 84) (.tmp 85) rfl Try.underlying9 (l := l) (p := i) (q := m) rfl rfl rfl (by omega) (by omega) (by omega) (by omega) W) rfl hC (G0.refl _)) ?_
    simp only [nf0, nf1, nf2, nf3, nf4]
    refine fst2_val (fun W hC hh => ok2_value (v := (.string (str l))) (by rfl) (by rfl) rfl hC (G0.refl _)) ?_
    simp only [nf0, nf1, nf2, nf3, nf4]
    refine fst2_val (fun W hC hh => ok2_value (v := (.int .i64 (i : Int))) (by rfl) (by rfl) rfl hC (G0.refl _)) ?_
    simp only [nf0, nf1, nf2, nf3, nf4]
    refine fst2_val (fun W hC hh => ok2_call (by rfl) (f_run_call_12_2 (.tmp 87) (.tmp 88) rfl rfl rfl W) ((refAt_in (l := l) (i := i) (by omega) (by omega) W).mono fun e W' ⟨h1, h2⟩ => ⟨h1, hC.step h2, h2⟩)) ?_
    simp only [nf0, nf1, nf2, nf3, nf4]
    refine fst2_val (fun W hC hh => ok2_value (v := (.agg #[.int .i64 0, .string (str ((l.take m).drop i)), .int .i64 ((plc l i).1), .int .i64 ((plc l i).2.1), .int .i64 ((plc l i).2.2)])) (by rfl) (run_buildV rfl (by kernel_rfl) W) rfl hC (G0.refl _)) ?_
    simp only [nf0, nf1, nf2, nf3, nf4]
    refine fst2_new (fun W hC hh => ok2_new (by rfl) (run_allocV rfl f_zero_33 W) (hC.step (bl_alloc (Below.refl _ _) _))) fun g262 lo263 => ?_
    simp only [nf0, nf1, nf2, nf3, nf4]
    refine fst2_nil fun w265 hC hh hnd => ?_
    replace hC : Below w260.heap.size w260 w265 := hC
    have B264 : Blk w265 g262 #[.int .i64 0, .string ⟨#[]⟩, .int .i64 0, .int .i64 0, .int .i64 0] 33 := (List.forall_mem_cons.1 hh).1
    replace hh := (List.forall_mem_cons.1 hh).2
    have n266 := O3.off lo263
    replace lo263 := low_le bel lo263
    clear hh hnd
    replace O3 := O3.same hC
    replace bel := bl_step bel hC
    clear hC
    refine st_row (by rfl) (run_storeW (.tmp 9) (.tmp 90) rfl (cs := #[.int .i64 0, .string (str ((l.take m).drop i)), .int .i64 ((plc l i).1), .int .i64 ((plc l i).2.1), .int .i64 ((plc l i).2.2)]) aggTok rfl rfl B264 rfl (by simp [Value.oneCell'])) B264 ?_
    intro w267 B269 hg268
    simp only [nf0, nf1, nf2, nf3, nf4]
    replace O3 := O3.keptB hg268 n266
    replace bel := bl_kept0 bel hg268 lo263
    clear hg268
    clear B264
    refine wpList_nil ?_
    show Code.wp _ _ _ _ _
    refine wp_seq ?_
    refine wp_seq ?_
    refine wp_region_lit ?_
    refine st_mv (.int .i64 ((kd (chr l i) : Nat) : Int)) ?_
    simp only [nf0, nf1, nf2, nf3, nf4]
    refine wpList_nil ?_
    show Code.wp _ _ _ _ _
    refine wp_block ?_
    refine wp_seq ?_
    refine wp_region_lit ?_
    refine st_value (v := (.bool true)) (by rfl) ((run_eql_int (.tmp 91) (.const (.int .i64 1)) rfl rfl rfl w267).trans (by rw [hg89])) ?_
    simp only [nf0, nf1, nf2, nf3, nf4]
    refine st_mv (.bool true) ?_
    simp only [nf0, nf1, nf2, nf3, nf4]
    refine wpList_nil ?_
    show Code.wp _ _ _ _ _
    refine wp_cond_true rfl ?_
    refine wp_seq ?_
    refine wp_region_lit ?_
    refine st_value (v := (.pointer (some ⟨g262, 0, none⟩))) (by rfl) (run_fieldA (.tmp 9) rfl f_fld_33_0 rfl rfl w267) ?_
    simp only [nf0, nf1, nf2, nf3, nf4]
    refine st_cell (v := (.int .i64 1)) (by rfl) (run_storeB (.tmp 95) (.const (.int .i64 1)) rfl f_one_3 B269 (show 0 < 5 by decide) rfl rfl rfl rfl) B269 ?_
    intro w270 B272 hg271
    simp only [nf0, nf1, nf2, nf3, nf4]
    replace O3 := O3.keptB hg271 n266
    replace bel := bl_kept0 bel hg271 lo263
    clear hg271
    clear B269
    replace B272 : Blk w270 g262 #[.int .i64 1, .string (str ((l.take m).drop i)), .int .i64 ((plc l i).1), .int .i64 ((plc l i).2.1), .int .i64 ((plc l i).2.2)] 33 := B272
    refine wpList_nil ?_
    show Code.wp _ _ _ _ _
    refine wp_seq ?_
    refine wp_region_lit ?_
    refine st_mv (.int .i64 (m : Int)) ?_
    simp only [nf0, nf1, nf2, nf3, nf4]
    refine st_mv (.int .i64 (i : Int)) ?_
    simp only [nf0, nf1, nf2, nf3, nf4]
    refine st_value (v := (.int .i64 ((m : Int) - (i : Int)))) (by rfl) (run_sub_in (.tmp 96) (.tmp 97) rfl rfl rfl (by omega) w270) ?_
    simp only [nf0, nf1, nf2, nf3, nf4]
    refine st_value (v := (.bool (decide (32 < ((m : Int) - (i : Int)))))) (by rfl) (run_gtr (.tmp 98) (.const (.int .i64 32)) rfl rfl rfl w270) ?_
    simp only [nf0, nf1, nf2, nf3, nf4]
    refine wpList_nil ?_
    show Code.wp _ _ _ _ _
    cases hg273 : decide (32 < ((m : Int) - (i : Int)))
    rotate_left
    · have hp288 := of_decide_eq_true hg273
      refine wp_cond_true rfl ?_
      refine wp_seq ?_
      refine wp_region_lit ?_
      refine st_mv (.int .i64 (i : Int)) ?_
      simp only [nf0, nf1, nf2, nf3, nf4]
      refine st_mv (.slice none 0 0) ?_
      simp only [nf0, nf1, nf2, nf3, nf4]
      refine st_mv (.int .i64 2) ?_
      simp only [nf0, nf1, nf2, nf3, nf4]
      refine st_mv (.int .i64 (i : Int)) ?_
      simp only [nf0, nf1, nf2, nf3, nf4]
      refine wpList_nil ?_
      show Code.wp _ _ _ _ _
      refine wp_ret ?_
      first | show bodyPost _ _ _ _ _ _ | (simp only [Exit.then, Exit.inBlock]; show bodyPost _ _ _ _ _ _)
      have ht : terr l i = 2 := by unfold terr; rw [if_pos (by omega), if_pos (by omega)]
      have hE := tk_bad hT hlt0 (by omega) (by omega) (by rw [ht]; show ((2 : Int) ≠ 0); decide)
      have hA : desA l = toksA l := by unfold desA; rw [if_neg (by omega)]
      have h0 : ¬ (desA l).2.1 = 0 := by rw [hA, hE, ht]; show ¬ ((2 : Int) = 0); decide
      exact bodyPost_ret (results_tmp3 rfl _ _ _) rfl ⟨_, rfl, _, by rw [hA, hE, ht]; rfl, by unfold desR; rw [if_neg h0]; exact OwnR.nil _ _ _ _, bel⟩
    have hp274 := of_decide_eq_false hg273
    refine wp_cond_false rfl ?_
    refine wp_skip ?_
    show Code.wp _ _ _ _ _
    refine wp_seq ?_
    have ht0 : terr l i = 0 := by unfold terr; rw [if_pos (by omega), if_neg (by omega)]
    have htk : tokI l i = (1, (l.take m).drop i, plc l i) := by unfold tokI; rw [hmE, show tkind (kd (chr l i)) = 1 from by unfold tkind; (repeat' split) <;> omega]
    refine wp_region_lit ?_
    refine st_mv v ?_
    simp only [nf0, nf1, nf2, nf3, nf4]
    refine st_value (v := (.agg #[.int .i64 1, .string (str ((l.take m).drop i)), .int .i64 ((plc l i).1), .int .i64 ((plc l i).2.1), .int .i64 ((plc l i).2.2)])) (by rfl) (run_loadW (.tmp 9) rfl (cs := #[.int .i64 1, .string (str ((l.take m).drop i)), .int .i64 ((plc l i).1), .int .i64 ((plc l i).2.1), .int .i64 ((plc l i).2.2)]) aggTok rfl B272) ?_
    simp only [nf0, nf1, nf2, nf3, nf4]
    refine st_lit (by rfl) (f_run_lit_23_1 (.tmp 108) rfl (m0 := (1, ((l.take m).drop i), (((plc l i).1), ((plc l i).2.1), ((plc l i).2.2)))) rfl _) ?_
    intro g275 w276 B277 hb278 lo279
    simp only [nf0, nf1, nf2, nf3, nf4]
    have n280 := O3.off lo279
    have n281 := B272.ne lo279
    replace lo279 := low_le bel lo279
    replace O3 := O3.same hb278
    replace B272 := B272.below hb278
    replace bel := bl_step bel hb278
    clear hb278
    refine st_append slTok rfl (.tmp 107) (.tmp 109) rfl rfl O3 ([(1, ((l.take m).drop i), (((plc l i).1), ((plc l i).2.1), ((plc l i).2.2)))] : List TTok) rfl rfl B277 (by simp [Enc.all, eTok, ePl]) (by have := tk_len hT; simp only [List.length_cons, List.length_nil]; omega) bel.size ?_
    intro v282 w283 O284 hg285 hat286
    simp only [nf0, nf1, nf2, nf3, nf4]
    have n287 := (n266 : Off _ _).app B272 hat286
    replace B272 := B272.keptR hg285 n266
    replace bel := bl_app bel O3 hg285
    clear O3 hg285 hat286
    refine st_mv v282 ?_
    simp only [nf0, nf1, nf2, nf3, nf4]
    refine wpList_nil ?_
    show Code.wp _ _ _ _ _
    refine wp_region_lit ?_
    refine st_mv (.int .i64 (m : Int)) ?_
    simp only [nf0, nf1, nf2, nf3, nf4]
    refine st_mv (.int .i64 (m : Int)) ?_
    simp only [nf0, nf1, nf2, nf3, nf4]
    refine wpList_nil ?_
    show ∃ m, m < _ ∧ _
    exact ⟨_, (by omega), m, (f - 1), _, v282, rfl, rfl, O284, bel, (by have h_ := tk_tok hT hlt0 (by omega) (by omega) ht0; rw [hmE, htk] at h_; exact h_)⟩
  have hp289 := of_decide_eq_true hg256
  cases hg296 : decide (((kd (chr l m) : Nat) : Int) = 2)
  rotate_left
  · have hp336 := of_decide_eq_true hg296
    refine wp_region_lit ?_
    refine st_mv (.int .i64 (m : Int)) ?_
    simp only [nf0, nf1, nf2, nf3, nf4]
    refine st_mv (.string (str l)) ?_
    simp only [nf0, nf1, nf2, nf3, nf4]
    refine st_value (v := (.int .i64 (l.length : Int))) (by rfl) (run_len_text (.tmp 42) rfl Try.underlying9 (l := l) rfl w17) ?_
    simp only [nf0, nf1, nf2, nf3, nf4]
    refine st_value (v := (.bool true)) (by rfl) ((run_lss (.tmp 41) (.tmp 43) rfl rfl rfl w17).trans (by rw [hg18])) ?_
    simp only [nf0, nf1, nf2, nf3, nf4]
    refine st_mv (.bool true) ?_
    simp only [nf0, nf1, nf2, nf3, nf4]
    refine st_mv (.int .i64 ((kd (chr l i) : Nat) : Int)) ?_
    simp only [nf0, nf1, nf2, nf3, nf4]
    refine st_value (v := (.bool true)) (by rfl) ((run_eql_int (.tmp 46) (.const (.int .i64 1)) rfl rfl rfl w17).trans (by rw [hg89])) ?_
    simp only [nf0, nf1, nf2, nf3, nf4]
    refine st_mv (.bool true) ?_
    simp only [nf0, nf1, nf2, nf3, nf4]
    refine st_mv (.string (str l)) ?_
    simp only [nf0, nf1, nf2, nf3, nf4]
    refine st_mv (.int .i64 (m : Int)) ?_
    simp only [nf0, nf1, nf2, nf3, nf4]
    refine st_value (v := (.int .u8 (chr l m))) (by rfl) (run_index_text (.tmp 49) (.tmp 50) rfl Try.underlying9 (l := l) rfl rfl m (by omega) (by omega) w17) ?_
    simp only [nf0, nf1, nf2, nf3, nf4]
    refine st_call1 (v := (.int .i64 ((kd (chr l m) : Nat) : Int))) (by rfl) (f_run_call_22_1 (.tmp 51) rfl rfl _) (kind_calls (chr l m) w17) ?_
    intro w337 hb338
    simp only [nf0, nf1, nf2, nf3, nf4]
    replace O3 := O3.same hb338
    replace bel := bl_step bel hb338
    clear hb338
    refine st_value (v := (.bool true)) (by rfl) ((run_geq (.tmp 52) (.const (.int .i64 1)) rfl rfl rfl w337).trans (by rw [hg162])) ?_
    simp only [nf0, nf1, nf2, nf3, nf4]
    refine st_mv (.bool true) ?_
    simp only [nf0, nf1, nf2, nf3, nf4]
    refine st_mv (.bool true) ?_
    simp only [nf0, nf1, nf2, nf3, nf4]
    refine st_mv (.string (str l)) ?_
    simp only [nf0, nf1, nf2, nf3, nf4]
    refine st_mv (.int .i64 (m : Int)) ?_
    simp only [nf0, nf1, nf2, nf3, nf4]
    refine st_value (v := (.int .u8 (chr l m))) (by rfl) (run_index_text (.tmp 56) (.tmp 57) rfl Try.underlying9 (l := l) rfl rfl m (by omega) (by omega) w337) ?_
    simp only [nf0, nf1, nf2, nf3, nf4]
    refine st_call1 (v := (.int .i64 ((kd (chr l m) : Nat) : Int))) (by rfl) (f_run_call_22_1 (.tmp 58) rfl rfl _) (kind_calls (chr l m) w337) ?_
    intro w339 hb340
    simp only [nf0, nf1, nf2, nf3, nf4]
    replace O3 := O3.same hb340
    replace bel := bl_step bel hb340
    clear hb340
    refine st_value (v := (.bool false)) (by rfl) ((run_leq (.tmp 59) (.const (.int .i64 3)) rfl rfl rfl w339).trans (by rw [hg250])) ?_
    simp only [nf0, nf1, nf2, nf3, nf4]
    refine st_mv (.bool false) ?_
    simp only [nf0, nf1, nf2, nf3, nf4]
    refine st_mv (.bool false) ?_
    simp only [nf0, nf1, nf2, nf3, nf4]
    refine st_mv (.int .i64 ((kd (chr l i) : Nat) : Int)) ?_
    simp only [nf0, nf1, nf2, nf3, nf4]
    refine st_value (v := (.bool true)) (by rfl) ((run_eql_int (.tmp 63) (.const (.int .i64 2)) rfl rfl rfl w339).trans (by rw [hg256])) ?_
    simp only [nf0, nf1, nf2, nf3, nf4]
    refine st_mv (.bool true) ?_
    simp only [nf0, nf1, nf2, nf3, nf4]
    refine st_mv (.string (str l)) ?_
    simp only [nf0, nf1, nf2, nf3, nf4]
    refine st_mv (.int .i64 (m : Int)) ?_
    simp only [nf0, nf1, nf2, nf3, nf4]
    refine st_value (v := (.int .u8 (chr l m))) (by rfl) (run_index_text (.tmp 66) (.tmp 67) rfl Try.underlying9 (l := l) rfl rfl m (by omega) (by omega) w339) ?_
    simp only [nf0, nf1, nf2, nf3, nf4]
    refine st_call1 (v := (.int .i64 ((kd (chr l m) : Nat) : Int))) (by rfl) (f_run_call_22_1 (.tmp 68) rfl rfl _) (kind_calls (chr l m) w339) ?_
    intro w341 hb342
    simp only [nf0, nf1, nf2, nf3, nf4]
    replace O3 := O3.same hb342
    replace bel := bl_step bel hb342
    clear hb342
    refine st_value (v := (.bool true)) (by rfl) ((run_eql_int (.tmp 69) (.const (.int .i64 2)) rfl rfl rfl w341).trans (by rw [hg296])) ?_
    simp only [nf0, nf1, nf2, nf3, nf4]
    refine st_mv (.bool true) ?_
    simp only [nf0, nf1, nf2, nf3, nf4]
    refine st_nob (j := 30) (t := 71) (c := true) rfl rfl rfl rfl rfl ?_
    simp only [nf0, nf1, nf2, nf3, nf4]
    refine st_nob (j := 30) (t := 71) (c := true) rfl rfl rfl rfl rfl ?_
    simp only [nf0, nf1, nf2, nf3, nf4]
    refine st_nob (j := 30) (t := 71) (c := true) rfl rfl rfl rfl rfl ?_
    simp only [nf0, nf1, nf2, nf3, nf4]
    refine st_nob (j := 30) (t := 71) (c := true) rfl rfl rfl rfl rfl ?_
    simp only [nf0, nf1, nf2, nf3, nf4]
    refine st_nob (j := 30) (t := 71) (c := true) rfl rfl rfl rfl rfl ?_
    simp only [nf0, nf1, nf2, nf3, nf4]
    refine st_mv (.bool true) ?_
    simp only [nf0, nf1, nf2, nf3, nf4]
    refine st_mv (.bool true) ?_
    simp only [nf0, nf1, nf2, nf3, nf4]
    refine st_mv (.bool true) ?_
    simp only [nf0, nf1, nf2, nf3, nf4]
    refine st_mv (.bool true) ?_
    simp only [nf0, nf1, nf2, nf3, nf4]
    refine wpList_nil ?_
    show Code.wp _ _ _ _ _
    refine wp_cond_true rfl ?_
    refine wp_skip ?_
    show Code.wp _ _ _ _ _
    refine wp_block ?_
    refine wp_region_lit ?_
    refine st_mv (.int .i64 (m : Int)) ?_
    simp only [nf0, nf1, nf2, nf3, nf4]
    refine st_value (v := (.int .i64 ((m : Int) + 1))) (by rfl) (run_add_in (.tmp 81) (.const (.int .i64 1)) rfl rfl rfl (by omega) w341) ?_
    simp only [nf0, nf1, nf2, nf3, nf4]
    refine st_mv (.int .i64 ((m : Int) + 1)) ?_
    simp only [nf0, nf1, nf2, nf3, nf4]
    refine wpList_nil ?_
    show ∃ m, m < _ ∧ _
    exact ⟨_, (by omega), (m + 1), rfl, rfl, O3, bel, (by omega), (we_more him hme (by omega) (by omega))⟩
  have hp297 := of_decide_eq_false hg296
  refine wp_region_lit ?_
  refine st_mv (.int .i64 (m : Int)) ?_
  simp only [nf0, nf1, nf2, nf3, nf4]
  refine st_mv (.string (str l)) ?_
  simp only [nf0, nf1, nf2, nf3, nf4]
  refine st_value (v := (.int .i64 (l.length : Int))) (by rfl) (run_len_text (.tmp 42) rfl Try.underlying9 (l := l) rfl w17) ?_
  simp only [nf0, nf1, nf2, nf3, nf4]
  refine st_value (v := (.bool true)) (by rfl) ((run_lss (.tmp 41) (.tmp 43) rfl rfl rfl w17).trans (by rw [hg18])) ?_
  simp only [nf0, nf1, nf2, nf3, nf4]
  refine st_mv (.bool true) ?_
  simp only [nf0, nf1, nf2, nf3, nf4]
  refine st_mv (.int .i64 ((kd (chr l i) : Nat) : Int)) ?_
  simp only [nf0, nf1, nf2, nf3, nf4]
  refine st_value (v := (.bool true)) (by rfl) ((run_eql_int (.tmp 46) (.const (.int .i64 1)) rfl rfl rfl w17).trans (by rw [hg89])) ?_
  simp only [nf0, nf1, nf2, nf3, nf4]
  refine st_mv (.bool true) ?_
  simp only [nf0, nf1, nf2, nf3, nf4]
  refine st_mv (.string (str l)) ?_
  simp only [nf0, nf1, nf2, nf3, nf4]
  refine st_mv (.int .i64 (m : Int)) ?_
  simp only [nf0, nf1, nf2, nf3, nf4]
  refine st_value (v := (.int .u8 (chr l m))) (by rfl) (run_index_text (.tmp 49) (.tmp 50) rfl Try.underlying9 (l := l) rfl rfl m (by omega) (by omega) w17) ?_
  simp only [nf0, nf1, nf2, nf3, nf4]
  refine st_call1 (v := (.int .i64 ((kd (chr l m) : Nat) : Int))) (by rfl) (f_run_call_22_1 (.tmp 51) rfl rfl _) (kind_calls (chr l m) w17) ?_
  intro w298 hb299
  simp only [nf0, nf1, nf2, nf3, nf4]
  replace O3 := O3.same hb299
  replace bel := bl_step bel hb299
  clear hb299
  refine st_value (v := (.bool true)) (by rfl) ((run_geq (.tmp 52) (.const (.int .i64 1)) rfl rfl rfl w298).trans (by rw [hg162])) ?_
  simp only [nf0, nf1, nf2, nf3, nf4]
  refine st_mv (.bool true) ?_
  simp only [nf0, nf1, nf2, nf3, nf4]
  refine st_mv (.bool true) ?_
  simp only [nf0, nf1, nf2, nf3, nf4]
  refine st_mv (.string (str l)) ?_
  simp only [nf0, nf1, nf2, nf3, nf4]
  refine st_mv (.int .i64 (m : Int)) ?_
  simp only [nf0, nf1, nf2, nf3, nf4]
  refine st_value (v := (.int .u8 (chr l m))) (by rfl) (run_index_text (.tmp 56) (.tmp 57) rfl Try.underlying9 (l := l) rfl rfl m (by omega) (by omega) w298) ?_
  simp only [nf0, nf1, nf2, nf3, nf4]
  refine st_call1 (v := (.int .i64 ((kd (chr l m) : Nat) : Int))) (by rfl) (f_run_call_22_1 (.tmp 58) rfl rfl _) (kind_calls (chr l m) w298) ?_
  intro w300 hb301
  simp only [nf0, nf1, nf2, nf3, nf4]
  replace O3 := O3.same hb301
  replace bel := bl_step bel hb301
  clear hb301
  refine st_value (v := (.bool false)) (by rfl) ((run_leq (.tmp 59) (.const (.int .i64 3)) rfl rfl rfl w300).trans (by rw [hg250])) ?_
  simp only [nf0, nf1, nf2, nf3, nf4]
  refine st_mv (.bool false) ?_
  simp only [nf0, nf1, nf2, nf3, nf4]
  refine st_mv (.bool false) ?_
  simp only [nf0, nf1, nf2, nf3, nf4]
  refine st_mv (.int .i64 ((kd (chr l i) : Nat) : Int)) ?_
  simp only [nf0, nf1, nf2, nf3, nf4]
  refine st_value (v := (.bool true)) (by rfl) ((run_eql_int (.tmp 63) (.const (.int .i64 2)) rfl rfl rfl w300).trans (by rw [hg256])) ?_
  simp only [nf0, nf1, nf2, nf3, nf4]
  refine st_mv (.bool true) ?_
  simp only [nf0, nf1, nf2, nf3, nf4]
  refine st_mv (.string (str l)) ?_
  simp only [nf0, nf1, nf2, nf3, nf4]
  refine st_mv (.int .i64 (m : Int)) ?_
  simp only [nf0, nf1, nf2, nf3, nf4]
  refine st_value (v := (.int .u8 (chr l m))) (by rfl) (run_index_text (.tmp 66) (.tmp 67) rfl Try.underlying9 (l := l) rfl rfl m (by omega) (by omega) w300) ?_
  simp only [nf0, nf1, nf2, nf3, nf4]
  refine st_call1 (v := (.int .i64 ((kd (chr l m) : Nat) : Int))) (by rfl) (f_run_call_22_1 (.tmp 68) rfl rfl _) (kind_calls (chr l m) w300) ?_
  intro w302 hb303
  simp only [nf0, nf1, nf2, nf3, nf4]
  replace O3 := O3.same hb303
  replace bel := bl_step bel hb303
  clear hb303
  refine st_value (v := (.bool false)) (by rfl) ((run_eql_int (.tmp 69) (.const (.int .i64 2)) rfl rfl rfl w302).trans (by rw [hg296])) ?_
  simp only [nf0, nf1, nf2, nf3, nf4]
  refine st_mv (.bool false) ?_
  simp only [nf0, nf1, nf2, nf3, nf4]
  refine st_mv (.string (str l)) ?_
  simp only [nf0, nf1, nf2, nf3, nf4]
  refine st_mv (.int .i64 (m : Int)) ?_
  simp only [nf0, nf1, nf2, nf3, nf4]
  refine st_value (v := (.int .u8 (chr l m))) (by rfl) (run_index_text (.tmp 72) (.tmp 73) rfl Try.underlying9 (l := l) rfl rfl m (by omega) (by omega) w302) ?_
  simp only [nf0, nf1, nf2, nf3, nf4]
  refine st_call1 (v := (.int .i64 ((kd (chr l m) : Nat) : Int))) (by rfl) (f_run_call_22_1 (.tmp 74) rfl rfl _) (kind_calls (chr l m) w302) ?_
  intro w304 hb305
  simp only [nf0, nf1, nf2, nf3, nf4]
  replace O3 := O3.same hb305
  replace bel := bl_step bel hb305
  clear hb305
  refine st_value (v := (.bool (decide (((kd (chr l m) : Nat) : Int) = 4)))) (by rfl) (run_eql_int (.tmp 75) (.const (.int .i64 4)) rfl rfl rfl w304) ?_
  simp only [nf0, nf1, nf2, nf3, nf4]
  refine st_mv (.bool (decide (((kd (chr l m) : Nat) : Int) = 4))) ?_
  simp only [nf0, nf1, nf2, nf3, nf4]
  refine st_mv (.bool (decide (((kd (chr l m) : Nat) : Int) = 4))) ?_
  simp only [nf0, nf1, nf2, nf3, nf4]
  refine st_mv (.bool (decide (((kd (chr l m) : Nat) : Int) = 4))) ?_
  simp only [nf0, nf1, nf2, nf3, nf4]
  refine st_mv (.bool (decide (((kd (chr l m) : Nat) : Int) = 4))) ?_
  simp only [nf0, nf1, nf2, nf3, nf4]
  refine wpList_nil ?_
  show Code.wp _ _ _ _ _
  cases hg306 : decide (((kd (chr l m) : Nat) : Int) = 4)
  rotate_left
  · have hp335 := of_decide_eq_true hg306
    refine wp_cond_true rfl ?_
    refine wp_skip ?_
    show Code.wp _ _ _ _ _
    refine wp_block ?_
    refine wp_region_lit ?_
    refine st_mv (.int .i64 (m : Int)) ?_
    simp only [nf0, nf1, nf2, nf3, nf4]
    refine st_value (v := (.int .i64 ((m : Int) + 1))) (by rfl) (run_add_in (.tmp 81) (.const (.int .i64 1)) rfl rfl rfl (by omega) w304) ?_
    simp only [nf0, nf1, nf2, nf3, nf4]
    refine st_mv (.int .i64 ((m : Int) + 1)) ?_
    simp only [nf0, nf1, nf2, nf3, nf4]
    refine wpList_nil ?_
    show ∃ m, m < _ ∧ _
    exact ⟨_, (by omega), (m + 1), rfl, rfl, O3, bel, (by omega), (we_more him hme (by omega) (by omega))⟩
  have hp307 := of_decide_eq_false hg306
  refine wp_cond_false rfl ?_
  refine wp_exit ?_
  show Code.wp _ _ _ _ _
  refine wp_seq ?_
  have hmE : wend l i = m := we_here him hme hlt0 (by omega)
  refine wp_region_facts2_lit (C := Abv w304) 9 [.val (.string (str l)), .val (.int .i64 (i : Int)), .val (.int .i64 (m : Int)), .val (.string (str ((l.take m).drop i))), .val (.string (str l)), .val (.int .i64 (i : Int)), .val (.agg #[.int .i64 ((plc l i).1), .int .i64 ((plc l i).2.1), .int .i64 ((plc l i).2.2)]), .val (.agg #[.int .i64 0, .string (str ((l.take m).drop i)), .int .i64 ((plc l i).1), .int .i64 ((plc l i).2.1), .int .i64 ((plc l i).2.2)]), .new #[.int .i64 0, .string ⟨#[]⟩, .int .i64 0, .int .i64 0, .int .i64 0] 33] w304.heap.size (by kernel_rfl) (by simp) (by kernel_rfl) (by kernel_rfl) (fun _ h => h.size) (Abv.start _) ?_
  simp only [List.take_succ_cons, List.take_zero, List.drop_succ_cons, List.drop_zero]
  refine fst2_val (fun W hC hh => ok2_value (v := (.string (str l))) (by rfl) (by rfl) rfl hC (G0.refl _)) ?_
  simp only [nf0, nf1, nf2, nf3, nf4]
  refine fst2_val (fun W hC hh => ok2_value (v := (.int .i64 (i : Int))) (by rfl) (by rfl) rfl hC (G0.refl _)) ?_
  simp only [nf0, nf1, nf2, nf3, nf4]
  refine fst2_val (fun W hC hh => ok2_value (v := (.int .i64 (m : Int))) (by rfl) (by rfl) rfl hC (G0.refl _)) ?_
  simp only [nf0, nf1, nf2, nf3, nf4]
  refine fst2_val (fun W hC hh => ok2_value (v := (.string (str ((l.take m).drop i)))) (by rfl) (run_sub_text (.tmp 83) (.tmp 84) (.tmp 85) rfl Try.underlying9 (l := l) (p := i) (q := m) rfl rfl rfl (by omega) (by omega) (by omega) (by omega) W) rfl hC (G0.refl _)) ?_
  simp only [nf0, nf1, nf2, nf3, nf4]
  refine fst2_val (fun W hC hh => ok2_value (v := (.string (str l))) (by rfl) (by rfl) rfl hC (G0.refl _)) ?_
  simp only [nf0, nf1, nf2, nf3, nf4]
  refine fst2_val (fun W hC hh => ok2_value (v := (.int .i64 (i : Int))) (by rfl) (by rfl) rfl hC (G0.refl _)) ?_
  simp only [nf0, nf1, nf2, nf3, nf4]
  refine fst2_val (fun W hC hh => ok2_call (by rfl) (f_run_call_12_2 (.tmp 87) (.tmp 88) rfl rfl rfl W) ((refAt_in (l := l) (i := i) (by omega) (by omega) W).mono fun e W' ⟨h1, h2⟩ => ⟨h1, hC.step h2, h2⟩)) ?_
  simp only [nf0, nf1, nf2, nf3, nf4]
  refine fst2_val (fun W hC hh => ok2_value (v := (.agg #[.int .i64 0, .string (str ((l.take m).drop i)), .int .i64 ((plc l i).1), .int .i64 ((plc l i).2.1), .int .i64 ((plc l i).2.2)])) (by rfl) (run_buildV rfl (by kernel_rfl) W) rfl hC (G0.refl _)) ?_
  simp only [nf0, nf1, nf2, nf3, nf4]
  refine fst2_new (fun W hC hh => ok2_new (by rfl) (run_allocV rfl f_zero_33 W) (hC.step (bl_alloc (Below.refl _ _) _))) fun g308 lo309 => ?_
  simp only [nf0, nf1, nf2, nf3, nf4]
  refine fst2_nil fun w311 hC hh hnd => ?_
  replace hC : Below w304.heap.size w304 w311 := hC
  have B310 : Blk w311 g308 #[.int .i64 0, .string ⟨#[]⟩, .int .i64 0, .int .i64 0, .int .i64 0] 33 := (List.forall_mem_cons.1 hh).1
  replace hh := (List.forall_mem_cons.1 hh).2
  have n312 := O3.off lo309
  replace lo309 := low_le bel lo309
  clear hh hnd
  replace O3 := O3.same hC
  replace bel := bl_step bel hC
  clear hC
  refine st_row (by rfl) (run_storeW (.tmp 9) (.tmp 90) rfl (cs := #[.int .i64 0, .string (str ((l.take m).drop i)), .int .i64 ((plc l i).1), .int .i64 ((plc l i).2.1), .int .i64 ((plc l i).2.2)]) aggTok rfl rfl B310 rfl (by simp [Value.oneCell'])) B310 ?_
  intro w313 B315 hg314
  simp only [nf0, nf1, nf2, nf3, nf4]
  replace O3 := O3.keptB hg314 n312
  replace bel := bl_kept0 bel hg314 lo309
  clear hg314
  clear B310
  refine wpList_nil ?_
  show Code.wp _ _ _ _ _
  refine wp_seq ?_
  refine wp_seq ?_
  refine wp_region_lit ?_
  refine st_mv (.int .i64 ((kd (chr l i) : Nat) : Int)) ?_
  simp only [nf0, nf1, nf2, nf3, nf4]
  refine wpList_nil ?_
  show Code.wp _ _ _ _ _
  refine wp_block ?_
  refine wp_seq ?_
  refine wp_region_lit ?_
  refine st_value (v := (.bool true)) (by rfl) ((run_eql_int (.tmp 91) (.const (.int .i64 1)) rfl rfl rfl w313).trans (by rw [hg89])) ?_
  simp only [nf0, nf1, nf2, nf3, nf4]
  refine st_mv (.bool true) ?_
  simp only [nf0, nf1, nf2, nf3, nf4]
  refine wpList_nil ?_
  show Code.wp _ _ _ _ _
  refine wp_cond_true rfl ?_
  refine wp_seq ?_
  refine wp_region_lit ?_
  refine st_value (v := (.pointer (some ⟨g308, 0, none⟩))) (by rfl) (run_fieldA (.tmp 9) rfl f_fld_33_0 rfl rfl w313) ?_
  simp only [nf0, nf1, nf2, nf3, nf4]
  refine st_cell (v := (.int .i64 1)) (by rfl) (run_storeB (.tmp 95) (.const (.int .i64 1)) rfl f_one_3 B315 (show 0 < 5 by decide) rfl rfl rfl rfl) B315 ?_
  intro w316 B318 hg317
  simp only [nf0, nf1, nf2, nf3, nf4]
  replace O3 := O3.keptB hg317 n312
  replace bel := bl_kept0 bel hg317 lo309
  clear hg317
  clear B315
  replace B318 : Blk w316 g308 #[.int .i64 1, .string (str ((l.take m).drop i)), .int .i64 ((plc l i).1), .int .i64 ((plc l i).2.1), .int .i64 ((plc l i).2.2)] 33 := B318
  refine wpList_nil ?_
  show Code.wp _ _ _ _ _
  refine wp_seq ?_
  refine wp_region_lit ?_
  refine st_mv (.int .i64 (m : Int)) ?_
  simp only [nf0, nf1, nf2, nf3, nf4]
  refine st_mv (.int .i64 (i : Int)) ?_
  simp only [nf0, nf1, nf2, nf3, nf4]
  refine st_value (v := (.int .i64 ((m : Int) - (i : Int)))) (by rfl) (run_sub_in (.tmp 96) (.tmp 97) rfl rfl rfl (by omega) w316) ?_
  simp only [nf0, nf1, nf2, nf3, nf4]
  refine st_value (v := (.bool (decide (32 < ((m : Int) - (i : Int)))))) (by rfl) (run_gtr (.tmp 98) (.const (.int .i64 32)) rfl rfl rfl w316) ?_
  simp only [nf0, nf1, nf2, nf3, nf4]
  refine wpList_nil ?_
  show Code.wp _ _ _ _ _
  cases hg319 : decide (32 < ((m : Int) - (i : Int)))
  rotate_left
  · have hp334 := of_decide_eq_true hg319
    refine wp_cond_true rfl ?_
    refine wp_seq ?_
    refine wp_region_lit ?_
    refine st_mv (.int .i64 (i : Int)) ?_
    simp only [nf0, nf1, nf2, nf3, nf4]
    refine st_mv (.slice none 0 0) ?_
    simp only [nf0, nf1, nf2, nf3, nf4]
    refine st_mv (.int .i64 2) ?_
    simp only [nf0, nf1, nf2, nf3, nf4]
    refine st_mv (.int .i64 (i : Int)) ?_
    simp only [nf0, nf1, nf2, nf3, nf4]
    refine wpList_nil ?_
    show Code.wp _ _ _ _ _
    refine wp_ret ?_
    first | show bodyPost _ _ _ _ _ _ | (simp only [Exit.then, Exit.inBlock]; show bodyPost _ _ _ _ _ _)
    have ht : terr l i = 2 := by unfold terr; rw [if_pos (by omega), if_pos (by omega)]
    have hE := tk_bad hT hlt0 (by omega) (by omega) (by rw [ht]; show ((2 : Int) ≠ 0); decide)
    have hA : desA l = toksA l := by unfold desA; rw [if_neg (by omega)]
    have h0 : ¬ (desA l).2.1 = 0 := by rw [hA, hE, ht]; show ¬ ((2 : Int) = 0); decide
    exact bodyPost_ret (results_tmp3 rfl _ _ _) rfl ⟨_, rfl, _, by rw [hA, hE, ht]; rfl, by unfold desR; rw [if_neg h0]; exact OwnR.nil _ _ _ _, bel⟩
  have hp320 := of_decide_eq_false hg319
  refine wp_cond_false rfl ?_
  refine wp_skip ?_
  show Code.wp _ _ _ _ _
  refine wp_seq ?_
  have ht0 : terr l i = 0 := by unfold terr; rw [if_pos (by omega), if_neg (by omega)]
  have htk : tokI l i = (1, (l.take m).drop i, plc l i) := by unfold tokI; rw [hmE, show tkind (kd (chr l i)) = 1 from by unfold tkind; (repeat' split) <;> omega]
  refine wp_region_lit ?_
  refine st_mv v ?_
  simp only [nf0, nf1, nf2, nf3, nf4]
  refine st_value (v := (.agg #[.int .i64 1, .string (str ((l.take m).drop i)), .int .i64 ((plc l i).1), .int .i64 ((plc l i).2.1), .int .i64 ((plc l i).2.2)])) (by rfl) (run_loadW (.tmp 9) rfl (cs := #[.int .i64 1, .string (str ((l.take m).drop i)), .int .i64 ((plc l i).1), .int .i64 ((plc l i).2.1), .int .i64 ((plc l i).2.2)]) aggTok rfl B318) ?_
  simp only [nf0, nf1, nf2, nf3, nf4]
  refine st_lit (by rfl) (f_run_lit_23_1 (.tmp 108) rfl (m0 := (1, ((l.take m).drop i), (((plc l i).1), ((plc l i).2.1), ((plc l i).2.2)))) rfl _) ?_
  intro g321 w322 B323 hb324 lo325
  simp only [nf0, nf1, nf2, nf3, nf4]
  have n326 := O3.off lo325
  have n327 := B318.ne lo325
  replace lo325 := low_le bel lo325
  replace O3 := O3.same hb324
  replace B318 := B318.below hb324
  replace bel := bl_step bel hb324
  clear hb324
  refine st_append slTok rfl (.tmp 107) (.tmp 109) rfl rfl O3 ([(1, ((l.take m).drop i), (((plc l i).1), ((plc l i).2.1), ((plc l i).2.2)))] : List TTok) rfl rfl B323 (by simp [Enc.all, eTok, ePl]) (by have := tk_len hT; simp only [List.length_cons, List.length_nil]; omega) bel.size ?_
  intro v328 w329 O330 hg331 hat332
  simp only [nf0, nf1, nf2, nf3, nf4]
  have n333 := (n312 : Off _ _).app B318 hat332
  replace B318 := B318.keptR hg331 n312
  replace bel := bl_app bel O3 hg331
  clear O3 hg331 hat332
  refine st_mv v328 ?_
  simp only [nf0, nf1, nf2, nf3, nf4]
  refine wpList_nil ?_
  show Code.wp _ _ _ _ _
  refine wp_region_lit ?_
  refine st_mv (.int .i64 (m : Int)) ?_
  simp only [nf0, nf1, nf2, nf3, nf4]
  refine st_mv (.int .i64 (m : Int)) ?_
  simp only [nf0, nf1, nf2, nf3, nf4]
  refine wpList_nil ?_
  show ∃ m, m < _ ∧ _
  exact ⟨_, (by omega), m, (f - 1), _, v328, rfl, rfl, O330, bel, (by have h_ := tk_tok hT hlt0 (by omega) (by omega) ht0; rw [hmE, htk] at h_; exact h_)⟩
end Go.Proofs.Ytkebpmcgmmhifaa

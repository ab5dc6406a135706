/- Lemmas that the chapter's laws rest on: PgRefCheck, ProgChecksWalk, OpenW, OpenPg, ProgChecks. -/
import Derived.Test.YtjbmahjfmffnoaaDoorM3ff885a4a3
/- The document's Check. -/
namespace Go.Proofs.YtjbmahjfmffnoaaDoor
open Go.RowKit Go.WideShapes Go.ChangeShapes
set_option linter.unusedSimpArgs false
set_option linter.unusedVariables false

theorem d_fld_24_0 : FieldAt Tryd.prog 24 0 0 := fieldAt_of (s := 0) Tryd.underlying24 (by kernel_rfl)
theorem d_one_3 : One Tryd.prog 3 := one_of Tryd.underlying3 rfl (by kernel_rfl)
theorem d_fld_24_1 : FieldAt Tryd.prog 24 1 1 := fieldAt_of (s := 0) Tryd.underlying24 (by kernel_rfl)
theorem d_one_22 : One Tryd.prog 22 := one_of Tryd.underlying22 rfl (by kernel_rfl)
theorem d_fld_35_0 : FieldAt Tryd.prog 35 0 0 := fieldAt_of (s := 0) Tryd.underlying35 (by kernel_rfl)
theorem d_zero_35 : ZeroOf Tryd.prog 35 #[.int .i64 0, .int .i64 0, .int .i64 0, .int .i32 0] := zeroOf (z := .agg #[.int .i64 0, .int .i64 0, .int .i64 0, .int .i32 0]) (by kernel_rfl) rfl
theorem d_fld_35_1 : FieldAt Tryd.prog 35 1 1 := fieldAt_of (s := 0) Tryd.underlying35 (by kernel_rfl)
theorem d_fld_35_2 : FieldAt Tryd.prog 35 2 2 := fieldAt_of (s := 0) Tryd.underlying35 (by kernel_rfl)
theorem d_fld_35_3 : FieldAt Tryd.prog 35 3 3 := fieldAt_of (s := 0) Tryd.underlying35 (by kernel_rfl)
theorem d_one_21 : One Tryd.prog 21 := one_of Tryd.underlying21 rfl (by kernel_rfl)
theorem d_run_call_16_1 {o : Oper} {a : Act} (x0 : Operand) {ts : Array TypeId} (ho : o.op = .call { callee := .value (.func 16), args := #[x0], argTypes := ts }) {v0 : Value} (h0 : a.eval x0 = v0) (W : World) : (execOp a.eval o).run Tryd.prog W = .ok (.enter 16 #[v0]) W := by
  unfold execOp
  simp only [ho]
  subst h0
  go_simp
theorem d_run_call_17_2 {o : Oper} {a : Act} (x0 : Operand) (x1 : Operand) {ts : Array TypeId} (ho : o.op = .call { callee := .value (.func 17), args := #[x0, x1], argTypes := ts }) {v0 : Value} (h0 : a.eval x0 = v0) {v1 : Value} (h1 : a.eval x1 = v1) (W : World) : (execOp a.eval o).run Tryd.prog W = .ok (.enter 17 #[v0, v1]) W := by
  unfold execOp
  simp only [ho]
  subst h0 h1
  go_simp
theorem d_run_call_18_2 {o : Oper} {a : Act} (x0 : Operand) (x1 : Operand) {ts : Array TypeId} (ho : o.op = .call { callee := .value (.func 18), args := #[x0, x1], argTypes := ts }) {v0 : Value} (h0 : a.eval x0 = v0) {v1 : Value} (h1 : a.eval x1 = v1) (W : World) : (execOp a.eval o).run Tryd.prog W = .ok (.enter 18 #[v0, v1]) W := by
  unfold execOp
  simp only [ho]
  subst h0 h1
  go_simp

attribute [local irreducible] Go.wpList Go.Code.wp
set_option maxRecDepth 100000 in
set_option maxHeartbeats 4000000 in
theorem refCheck_calls (A : Option Addr) (pr : Int) (xs : List TIns) (cap : Nat) (hcap : xs.length ≤ cap) (hl : xs.length ≤ 100000) (hok : ∀ x ∈ xs, okIns x) (w : World) (hr : Reads w A (eIns.all xs)) : Calls Tryd.prog 7 #[.agg #[.int .i64 pr, .slice A xs.length cap]] w (fun e w' => e = .returned (.tuple #[.int .i64 (chk pr xs).1, .int .i64 (chk pr xs).2]) ∧ Below w.heap.size w w') := by
  have bel : Below w.heap.size w w := Below.refl _ _
  go_enter Tryd.func7, Tryd.ntmps7
  refine wp_seq ?_
  refine wp_region_lit ?_
  refine st_new (cs := #[.int .i64 pr, .slice A xs.length cap]) (t := 24) (by rfl) (run_boxV (.tmp 0) rfl (v := (.agg #[.int .i64 pr, .slice A xs.length cap])) rfl rfl _) ?_
  intro g1 w2 B3 hb4 lo5
  simp only [nf0, nf1, nf2, nf3, nf4]
  replace lo5 := low_le bel lo5
  replace bel := bl_step bel hb4
  clear hb4
  refine st_mv (.int .i64 0) ?_
  simp only [nf0, nf1, nf2, nf3, nf4]
  refine st_mv (.int .i64 0) ?_
  simp only [nf0, nf1, nf2, nf3, nf4]
  refine wpList_nil ?_
  show Code.wp _ _ _ _ _
  refine wp_seq ?_
  refine wp_seq ?_
  cases hg6 : decide (pr < 0)
  rotate_left
  · have hp183 := of_decide_eq_true hg6
    refine wp_region_lit ?_
    refine st_value (v := (.pointer (some ⟨g1, 0, none⟩))) (by rfl) (run_fieldA (.tmp 1) rfl d_fld_24_0 rfl rfl w2) ?_
    simp only [nf0, nf1, nf2, nf3, nf4]
    refine st_value (v := (.int .i64 pr)) (by rfl) (run_loadB (.tmp 9) rfl d_one_3 rfl B3 rfl) ?_
    simp only [nf0, nf1, nf2, nf3, nf4]
    refine st_value (v := (.bool true)) (by rfl) ((run_lss (.tmp 10) (.const (.int .i64 0)) rfl rfl rfl w2).trans (by rw [hg6])) ?_
    simp only [nf0, nf1, nf2, nf3, nf4]
    refine st_mv (.bool true) ?_
    simp only [nf0, nf1, nf2, nf3, nf4]
    refine st_nob (j := 3) (t := 12) (c := true) rfl rfl rfl rfl rfl ?_
    simp only [nf0, nf1, nf2, nf3, nf4]
    refine st_nob (j := 3) (t := 12) (c := true) rfl rfl rfl rfl rfl ?_
    simp only [nf0, nf1, nf2, nf3, nf4]
    refine st_nob (j := 3) (t := 12) (c := true) rfl rfl rfl rfl rfl ?_
    simp only [nf0, nf1, nf2, nf3, nf4]
    refine st_mv (.bool true) ?_
    simp only [nf0, nf1, nf2, nf3, nf4]
    refine wpList_nil ?_
    show Code.wp _ _ _ _ _
    refine wp_cond_true rfl ?_
    refine wp_seq ?_
    refine wp_region_lit ?_
    refine st_mv (.int .i64 26) ?_
    simp only [nf0, nf1, nf2, nf3, nf4]
    refine st_mv (.int .i64 0) ?_
    simp only [nf0, nf1, nf2, nf3, nf4]
    refine wpList_nil ?_
    show Code.wp _ _ _ _ _
    refine wp_ret ?_
    first | show bodyPost _ _ _ _ _ _ | (simp only [Exit.then, Exit.inBlock]; show bodyPost _ _ _ _ _ _)
    have hE : chk pr xs = (26, 0) := chk_size (by omega)
    exact bodyPost_ret (results_tmp2 rfl _ _ _) rfl ⟨by rw [hE]; rfl, bel⟩
  have hp7 := of_decide_eq_false hg6
  refine wp_region_lit ?_
  refine st_value (v := (.pointer (some ⟨g1, 0, none⟩))) (by rfl) (run_fieldA (.tmp 1) rfl d_fld_24_0 rfl rfl w2) ?_
  simp only [nf0, nf1, nf2, nf3, nf4]
  refine st_value (v := (.int .i64 pr)) (by rfl) (run_loadB (.tmp 9) rfl d_one_3 rfl B3 rfl) ?_
  simp only [nf0, nf1, nf2, nf3, nf4]
  refine st_value (v := (.bool false)) (by rfl) ((run_lss (.tmp 10) (.const (.int .i64 0)) rfl rfl rfl w2).trans (by rw [hg6])) ?_
  simp only [nf0, nf1, nf2, nf3, nf4]
  refine st_mv (.bool false) ?_
  simp only [nf0, nf1, nf2, nf3, nf4]
  refine st_value (v := (.pointer (some ⟨g1, 0, none⟩))) (by rfl) (run_fieldA (.tmp 1) rfl d_fld_24_0 rfl rfl w2) ?_
  simp only [nf0, nf1, nf2, nf3, nf4]
  refine st_value (v := (.int .i64 pr)) (by rfl) (run_loadB (.tmp 13) rfl d_one_3 rfl B3 rfl) ?_
  simp only [nf0, nf1, nf2, nf3, nf4]
  refine st_value (v := (.bool (decide (3 < pr)))) (by rfl) (run_gtr (.tmp 14) (.const (.int .i64 3)) rfl rfl rfl w2) ?_
  simp only [nf0, nf1, nf2, nf3, nf4]
  refine st_mv (.bool (decide (3 < pr))) ?_
  simp only [nf0, nf1, nf2, nf3, nf4]
  refine wpList_nil ?_
  show Code.wp _ _ _ _ _
  cases hg8 : decide (3 < pr)
  rotate_left
  · have hp182 := of_decide_eq_true hg8
    refine wp_cond_true rfl ?_
    refine wp_seq ?_
    refine wp_region_lit ?_
    refine st_mv (.int .i64 26) ?_
    simp only [nf0, nf1, nf2, nf3, nf4]
    refine st_mv (.int .i64 0) ?_
    simp only [nf0, nf1, nf2, nf3, nf4]
    refine wpList_nil ?_
    show Code.wp _ _ _ _ _
    refine wp_ret ?_
    first | show bodyPost _ _ _ _ _ _ | (simp only [Exit.then, Exit.inBlock]; show bodyPost _ _ _ _ _ _)
    have hE : chk pr xs = (26, 0) := chk_size (by omega)
    exact bodyPost_ret (results_tmp2 rfl _ _ _) rfl ⟨by rw [hE]; rfl, bel⟩
  have hp9 := of_decide_eq_false hg8
  refine wp_cond_false rfl ?_
  refine wp_skip ?_
  show Code.wp _ _ _ _ _
  refine wp_seq ?_
  refine wp_seq ?_
  cases hg10 : decide ((xs.length : Int) < 1)
  rotate_left
  · have hp181 := of_decide_eq_true hg10
    refine wp_region_lit ?_
    refine st_value (v := (.pointer (some ⟨g1, 1, none⟩))) (by rfl) (run_fieldA (.tmp 1) rfl d_fld_24_1 rfl rfl w2) ?_
    simp only [nf0, nf1, nf2, nf3, nf4]
    refine st_value (v := (.slice A xs.length cap)) (by rfl) (run_loadB (.tmp 17) rfl d_one_22 rfl B3 rfl) ?_
    simp only [nf0, nf1, nf2, nf3, nf4]
    refine st_value (v := (.int .i64 (xs.length : Int))) (by rfl) (run_len (.tmp 18) rfl ⟨_, Tryd.underlying22⟩ rfl w2) ?_
    simp only [nf0, nf1, nf2, nf3, nf4]
    refine st_value (v := (.bool true)) (by rfl) ((run_lss (.tmp 19) (.const (.int .i64 1)) rfl rfl rfl w2).trans (by rw [hg10])) ?_
    simp only [nf0, nf1, nf2, nf3, nf4]
    refine st_mv (.bool true) ?_
    simp only [nf0, nf1, nf2, nf3, nf4]
    refine st_nob (j := 4) (t := 21) (c := true) rfl rfl rfl rfl rfl ?_
    simp only [nf0, nf1, nf2, nf3, nf4]
    refine st_nob (j := 4) (t := 21) (c := true) rfl rfl rfl rfl rfl ?_
    simp only [nf0, nf1, nf2, nf3, nf4]
    refine st_nob (j := 4) (t := 21) (c := true) rfl rfl rfl rfl rfl ?_
    simp only [nf0, nf1, nf2, nf3, nf4]
    refine st_nob (j := 4) (t := 21) (c := true) rfl rfl rfl rfl rfl ?_
    simp only [nf0, nf1, nf2, nf3, nf4]
    refine st_mv (.bool true) ?_
    simp only [nf0, nf1, nf2, nf3, nf4]
    refine wpList_nil ?_
    show Code.wp _ _ _ _ _
    refine wp_cond_true rfl ?_
    refine wp_seq ?_
    refine wp_region_lit ?_
    refine st_mv (.int .i64 33) ?_
    simp only [nf0, nf1, nf2, nf3, nf4]
    refine st_mv (.int .i64 0) ?_
    simp only [nf0, nf1, nf2, nf3, nf4]
    refine wpList_nil ?_
    show Code.wp _ _ _ _ _
    refine wp_ret ?_
    first | show bodyPost _ _ _ _ _ _ | (simp only [Exit.then, Exit.inBlock]; show bodyPost _ _ _ _ _ _)
    have hE : chk pr xs = (33, 0) := chk_len (by omega) (by omega)
    exact bodyPost_ret (results_tmp2 rfl _ _ _) rfl ⟨by rw [hE]; rfl, bel⟩
  have hp11 := of_decide_eq_false hg10
  refine wp_region_lit ?_
  refine st_value (v := (.pointer (some ⟨g1, 1, none⟩))) (by rfl) (run_fieldA (.tmp 1) rfl d_fld_24_1 rfl rfl w2) ?_
  simp only [nf0, nf1, nf2, nf3, nf4]
  refine st_value (v := (.slice A xs.length cap)) (by rfl) (run_loadB (.tmp 17) rfl d_one_22 rfl B3 rfl) ?_
  simp only [nf0, nf1, nf2, nf3, nf4]
  refine st_value (v := (.int .i64 (xs.length : Int))) (by rfl) (run_len (.tmp 18) rfl ⟨_, Tryd.underlying22⟩ rfl w2) ?_
  simp only [nf0, nf1, nf2, nf3, nf4]
  refine st_value (v := (.bool false)) (by rfl) ((run_lss (.tmp 19) (.const (.int .i64 1)) rfl rfl rfl w2).trans (by rw [hg10])) ?_
  simp only [nf0, nf1, nf2, nf3, nf4]
  refine st_mv (.bool false) ?_
  simp only [nf0, nf1, nf2, nf3, nf4]
  refine st_value (v := (.pointer (some ⟨g1, 1, none⟩))) (by rfl) (run_fieldA (.tmp 1) rfl d_fld_24_1 rfl rfl w2) ?_
  simp only [nf0, nf1, nf2, nf3, nf4]
  refine st_value (v := (.slice A xs.length cap)) (by rfl) (run_loadB (.tmp 22) rfl d_one_22 rfl B3 rfl) ?_
  simp only [nf0, nf1, nf2, nf3, nf4]
  refine st_value (v := (.int .i64 (xs.length : Int))) (by rfl) (run_len (.tmp 23) rfl ⟨_, Tryd.underlying22⟩ rfl w2) ?_
  simp only [nf0, nf1, nf2, nf3, nf4]
  refine st_value (v := (.bool (decide (64 < (xs.length : Int))))) (by rfl) (run_gtr (.tmp 24) (.const (.int .i64 64)) rfl rfl rfl w2) ?_
  simp only [nf0, nf1, nf2, nf3, nf4]
  refine st_mv (.bool (decide (64 < (xs.length : Int)))) ?_
  simp only [nf0, nf1, nf2, nf3, nf4]
  refine wpList_nil ?_
  show Code.wp _ _ _ _ _
  cases hg12 : decide (64 < (xs.length : Int))
  rotate_left
  · have hp180 := of_decide_eq_true hg12
    refine wp_cond_true rfl ?_
    refine wp_seq ?_
    refine wp_region_lit ?_
    refine st_mv (.int .i64 33) ?_
    simp only [nf0, nf1, nf2, nf3, nf4]
    refine st_mv (.int .i64 0) ?_
    simp only [nf0, nf1, nf2, nf3, nf4]
    refine wpList_nil ?_
    show Code.wp _ _ _ _ _
    refine wp_ret ?_
    first | show bodyPost _ _ _ _ _ _ | (simp only [Exit.then, Exit.inBlock]; show bodyPost _ _ _ _ _ _)
    have hE : chk pr xs = (33, 0) := chk_len (by omega) (by omega)
    exact bodyPost_ret (results_tmp2 rfl _ _ _) rfl ⟨by rw [hE]; rfl, bel⟩
  have hp13 := of_decide_eq_false hg12
  refine wp_cond_false rfl ?_
  refine wp_skip ?_
  show Code.wp _ _ _ _ _
  refine wp_seq ?_
  refine wp_seq ?_
  refine wp_region_lit ?_
  refine st_value (v := (.pointer (some ⟨g1, 1, none⟩))) (by rfl) (run_fieldA (.tmp 1) rfl d_fld_24_1 rfl rfl w2) ?_
  simp only [nf0, nf1, nf2, nf3, nf4]
  refine st_value (v := (.slice A xs.length cap)) (by rfl) (run_loadB (.tmp 27) rfl d_one_22 rfl B3 rfl) ?_
  simp only [nf0, nf1, nf2, nf3, nf4]
  refine st_value (v := (.int .i64 (xs.length : Int))) (by rfl) (run_len (.tmp 28) rfl ⟨_, Tryd.underlying22⟩ rfl w2) ?_
  simp only [nf0, nf1, nf2, nf3, nf4]
  refine st_mv (.int .i64 0) ?_
  simp only [nf0, nf1, nf2, nf3, nf4]
  refine wpList_nil ?_
  show Code.wp _ _ _ _ _
  refine wp_block ?_
  refine wp_loop_left (fun n_ a_ wr_ => (fun J14 => ∃ (k : Nat), n_ = xs.length - k ∧ a_ = ⟨#[J14 0, .pointer (some ⟨g1, 0, none⟩), J14 2, J14 3, J14 4, J14 5, J14 6, J14 7, J14 8, J14 9, J14 10, J14 11, J14 12, J14 13, J14 14, J14 15, J14 16, J14 17, J14 18, J14 19, J14 20, J14 21, J14 22, J14 23, J14 24, J14 25, J14 26, J14 27, .slice A xs.length cap, .int .i64 (xs.length : Int), .int .i64 (k : Int), J14 31, J14 32, J14 33, J14 34, J14 35, J14 36, J14 37, J14 38, J14 39, J14 40, J14 41, J14 42, J14 43, J14 44, J14 45, J14 46, J14 47, J14 48, J14 49, J14 50, J14 51, J14 52, J14 53, J14 54, J14 55, J14 56, J14 57, J14 58, J14 59, J14 60, J14 61, J14 62, J14 63, J14 64, J14 65, J14 66, J14 67, J14 68, J14 69, J14 70, J14 71, J14 72, J14 73, J14 74, J14 75, J14 76, J14 77, J14 78, J14 79, J14 80, J14 81, J14 82, J14 83, J14 84, J14 85, J14 86, J14 87, J14 88, J14 89, J14 90, J14 91, J14 92, J14 93, J14 94, J14 95, J14 96, J14 97, J14 98, J14 99, J14 100, J14 101, J14 102, J14 103, J14 104, J14 105, J14 106, J14 107, J14 108, J14 109, J14 110, J14 111, J14 112, J14 113, J14 114, J14 115, J14 116, J14 117, J14 118, J14 119, J14 120, J14 121, J14 122, J14 123, J14 124, J14 125, J14 126, J14 127, J14 128, J14 129, J14 130, J14 131, J14 132, J14 133, J14 134, J14 135, J14 136, J14 137, J14 138, J14 139, J14 140, J14 141, J14 142], []⟩ ∧ Blk wr_ g1 #[.int .i64 pr, .slice A xs.length cap] 24 ∧ Below w.heap.size w wr_ ∧ (k ≤ xs.length) ∧ (firstE (xs.length : Int) xs 0 = firstE (xs.length : Int) (xs.drop k) k)) (jk a_)) (xs.length - 0) ⟨0, rfl, rfl, B3, bel, (Nat.zero_le _), (by rw [List.drop_zero])⟩ ?_
  clear B3
  clear bel
  intro n_ a_ w15 h_
  revert h_
  generalize jk a_ = J14
  rintro ⟨k, hms, rfl, B3, bel, hk, hF⟩
  refine wp_seq ?_
  refine wp_region_lit ?_
  refine st_value (v := (.bool (decide ((k : Int) < (xs.length : Int))))) (by rfl) (run_lss (.tmp 30) (.tmp 29) rfl rfl rfl w15) ?_
  simp only [nf0, nf1, nf2, nf3, nf4]
  refine wpList_nil ?_
  show Code.wp _ _ _ _ _
  refine wp_seq ?_
  cases hg16 : decide ((k : Int) < (xs.length : Int))
  · have hp17 := of_decide_eq_false hg16
    refine wp_cond_false rfl ?_
    refine wp_exit ?_
    show Code.wp _ _ _ _ _
    refine wp_seq ?_
    obtain rfl : k = xs.length := by omega
    have hch := chk_last (pr := pr) (by omega) (by omega) hF
    obtain ⟨b18, o19, rfl, _⟩ := (hr.same bel).at_ (by rw [Enc.all_length]; exact Nat.mul_pos (by omega) (by decide))
    refine wp_region_lit ?_
    refine st_value (v := (.pointer (some ⟨g1, 1, none⟩))) (by rfl) (run_fieldA (.tmp 1) rfl d_fld_24_1 rfl rfl w15) ?_
    simp only [nf0, nf1, nf2, nf3, nf4]
    refine st_value (v := (.slice (some ⟨b18, o19, none⟩) xs.length cap)) (by rfl) (run_loadB (.tmp 124) rfl d_one_22 rfl B3 rfl) ?_
    simp only [nf0, nf1, nf2, nf3, nf4]
    refine st_value (v := (.pointer (some ⟨g1, 1, none⟩))) (by rfl) (run_fieldA (.tmp 1) rfl d_fld_24_1 rfl rfl w15) ?_
    simp only [nf0, nf1, nf2, nf3, nf4]
    refine st_value (v := (.slice (some ⟨b18, o19, none⟩) xs.length cap)) (by rfl) (run_loadB (.tmp 126) rfl d_one_22 rfl B3 rfl) ?_
    simp only [nf0, nf1, nf2, nf3, nf4]
    refine st_value (v := (.int .i64 (xs.length : Int))) (by rfl) (run_len (.tmp 127) rfl ⟨_, Tryd.underlying22⟩ rfl w15) ?_
    simp only [nf0, nf1, nf2, nf3, nf4]
    refine st_value (v := (.int .i64 ((xs.length - 1 : Nat) : Int))) (by rfl) ((run_sub_in (.tmp 128) (.const (.int .i64 1)) rfl rfl rfl (by omega) w15).trans (by rw [show (xs.length : Int) - 1 = ((xs.length - 1 : Nat) : Int) by omega])) ?_
    simp only [nf0, nf1, nf2, nf3, nf4]
    refine st_value (v := (.pointer (some ⟨b18, o19 + (xs.length - 1) * 4, none⟩))) (by rfl) (run_indexAddrN (.tmp 125) (.tmp 129) rfl Tryd.underlying22 slIns.sz (i := (xs.length - 1)) rfl (by exact (congrArg (Value.int .i64) (show ((xs.length - 1 : Nat) : Int) = ((xs.length - 1 : Nat) : Int) by omega))) (by omega) w15) ?_
    simp only [nf0, nf1, nf2, nf3, nf4]
    refine st_value (v := (.pointer (some ⟨b18, o19 + (xs.length - 1) * 4 + 0, none⟩))) (by rfl) (run_fieldA (.tmp 130) rfl d_fld_35_0 rfl rfl w15) ?_
    simp only [nf0, nf1, nf2, nf3, nf4]
    refine st_value (v := (.int .i64 ((insAt xs (xs.length - 1)).1))) (by rfl) (run_loadC (.tmp 131) rfl d_one_3 rfl (Reads.cellE (E := eIns) (j := 0) (hr.same bel) (insAt_get (l := xs) (i := (xs.length - 1)) (by omega)) (by rfl))) ?_
    simp only [nf0, nf1, nf2, nf3, nf4]
    refine st_mv (.int .i64 ((insAt xs (xs.length - 1)).1)) ?_
    simp only [nf0, nf1, nf2, nf3, nf4]
    refine wpList_nil ?_
    show Code.wp _ _ _ _ _
    refine wp_seq ?_
    refine wp_seq ?_
    cases hg20 : decide (((insAt xs (xs.length - 1)).1) = 4)
    rotate_left
    · have hp26 := of_decide_eq_true hg20
      refine wp_region_lit ?_
      refine st_mv (.int .i64 ((insAt xs (xs.length - 1)).1)) ?_
      simp only [nf0, nf1, nf2, nf3, nf4]
      refine st_value (v := (.bool false)) (by rfl) ((run_neq_int (.tmp 133) (.const (.int .i64 4)) rfl rfl rfl w15).trans (by rw [hg20]; rfl)) ?_
      simp only [nf0, nf1, nf2, nf3, nf4]
      refine st_mv (.bool false) ?_
      simp only [nf0, nf1, nf2, nf3, nf4]
      refine st_nob (j := 2) (t := 135) (c := false) rfl rfl rfl rfl rfl ?_
      simp only [nf0, nf1, nf2, nf3, nf4]
      refine st_nob (j := 2) (t := 135) (c := false) rfl rfl rfl rfl rfl ?_
      simp only [nf0, nf1, nf2, nf3, nf4]
      refine st_mv (.bool false) ?_
      simp only [nf0, nf1, nf2, nf3, nf4]
      refine wpList_nil ?_
      show Code.wp _ _ _ _ _
      refine wp_cond_false rfl ?_
      refine wp_skip ?_
      show Code.wp _ _ _ _ _
      refine wp_seq ?_
      refine wp_region_lit ?_
      refine st_mv (.int .i64 0) ?_
      simp only [nf0, nf1, nf2, nf3, nf4]
      refine st_mv (.int .i64 0) ?_
      simp only [nf0, nf1, nf2, nf3, nf4]
      refine wpList_nil ?_
      show Code.wp _ _ _ _ _
      refine wp_ret ?_
      first | show bodyPost _ _ _ _ _ _ | (simp only [Exit.then, Exit.inBlock]; show bodyPost _ _ _ _ _ _)
      have hE : chk pr xs = (0, 0) := by rw [hch, if_pos (by omega)]
      exact bodyPost_ret (results_tmp2 rfl _ _ _) rfl ⟨by rw [hE]; rfl, bel⟩
    have hp21 := of_decide_eq_false hg20
    refine wp_region_lit ?_
    refine st_mv (.int .i64 ((insAt xs (xs.length - 1)).1)) ?_
    simp only [nf0, nf1, nf2, nf3, nf4]
    refine st_value (v := (.bool true)) (by rfl) ((run_neq_int (.tmp 133) (.const (.int .i64 4)) rfl rfl rfl w15).trans (by rw [hg20]; rfl)) ?_
    simp only [nf0, nf1, nf2, nf3, nf4]
    refine st_mv (.bool true) ?_
    simp only [nf0, nf1, nf2, nf3, nf4]
    refine st_mv (.int .i64 ((insAt xs (xs.length - 1)).1)) ?_
    simp only [nf0, nf1, nf2, nf3, nf4]
    refine st_value (v := (.bool (!decide (((insAt xs (xs.length - 1)).1) = 14)))) (by rfl) (run_neq_int (.tmp 136) (.const (.int .i64 14)) rfl rfl rfl w15) ?_
    simp only [nf0, nf1, nf2, nf3, nf4]
    refine st_mv (.bool (!decide (((insAt xs (xs.length - 1)).1) = 14))) ?_
    simp only [nf0, nf1, nf2, nf3, nf4]
    refine wpList_nil ?_
    show Code.wp _ _ _ _ _
    cases hg22 : decide (((insAt xs (xs.length - 1)).1) = 14)
    rotate_left
    · have hp25 := of_decide_eq_true hg22
      refine wp_cond_false rfl ?_
      refine wp_skip ?_
      show Code.wp _ _ _ _ _
      refine wp_seq ?_
      refine wp_region_lit ?_
      refine st_mv (.int .i64 0) ?_
      simp only [nf0, nf1, nf2, nf3, nf4]
      refine st_mv (.int .i64 0) ?_
      simp only [nf0, nf1, nf2, nf3, nf4]
      refine wpList_nil ?_
      show Code.wp _ _ _ _ _
      refine wp_ret ?_
      first | show bodyPost _ _ _ _ _ _ | (simp only [Exit.then, Exit.inBlock]; show bodyPost _ _ _ _ _ _)
      have hE : chk pr xs = (0, 0) := by rw [hch, if_pos (by omega)]
      exact bodyPost_ret (results_tmp2 rfl _ _ _) rfl ⟨by rw [hE]; rfl, bel⟩
    have hp23 := of_decide_eq_false hg22
    refine wp_cond_true rfl ?_
    refine wp_seq ?_
    refine wp_region_facts2_lit (C := Abv w15) 5 [.val (.pointer (some ⟨g1, 1, none⟩)), .val (.slice (some ⟨b18, o19, none⟩) xs.length cap), .val (.int .i64 (xs.length : Int)), .val (.int .i64 ((xs.length : Int) - 1)), .val (.int .i64 32)] w15.heap.size (by kernel_rfl) (by simp) (by kernel_rfl) (by kernel_rfl) (fun _ h => h.size) (Abv.start _) ?_
    simp only [List.take_succ_cons, List.take_zero, List.drop_succ_cons, List.drop_zero]
    refine fst2_val (fun W hC hh => ok2_value (v := (.pointer (some ⟨g1, 1, none⟩))) (by rfl) (run_fieldA (.tmp 1) rfl d_fld_24_1 rfl rfl W) rfl hC (G0.refl _)) ?_
    simp only [nf0, nf1, nf2, nf3, nf4]
    refine fst2_val (fun W hC hh => ok2_value (v := (.slice (some ⟨b18, o19, none⟩) xs.length cap)) (by rfl) (run_loadB (.tmp 139) rfl d_one_22 rfl (B3.below hC) rfl) rfl hC (G0.refl _)) ?_
    simp only [nf0, nf1, nf2, nf3, nf4]
    refine fst2_val (fun W hC hh => ok2_value (v := (.int .i64 (xs.length : Int))) (by rfl) (run_len (.tmp 140) rfl ⟨_, Tryd.underlying22⟩ rfl W) rfl hC (G0.refl _)) ?_
    simp only [nf0, nf1, nf2, nf3, nf4]
    refine fst2_val (fun W hC hh => ok2_value (v := (.int .i64 ((xs.length : Int) - 1))) (by rfl) (run_sub_in (.tmp 141) (.const (.int .i64 1)) rfl rfl rfl (by omega) W) rfl hC (G0.refl _)) ?_
    simp only [nf0, nf1, nf2, nf3, nf4]
    refine fst2_val (fun W hC hh => ok2_value (v := (.int .i64 32)) (by rfl) (by rfl) rfl hC (G0.refl _)) ?_
    simp only [nf0, nf1, nf2, nf3, nf4]
    refine fst2_nil fun w24 hC hh hnd => ?_
    replace hC : Below w15.heap.size w15 w24 := hC
    clear hh hnd
    replace B3 := B3.below hC
    replace bel := bl_step bel hC
    clear hC
    refine st_mv (.int .i64 ((xs.length : Int) - 1)) ?_
    simp only [nf0, nf1, nf2, nf3, nf4]
    refine wpList_nil ?_
    show Code.wp _ _ _ _ _
    refine wp_ret ?_
    first | show bodyPost _ _ _ _ _ _ | (simp only [Exit.then, Exit.inBlock]; show bodyPost _ _ _ _ _ _)
    have hE : chk pr xs = (32, ((xs.length : Int) - 1)) := by rw [hch, if_neg (by omega)]
    exact bodyPost_ret (results_tmp2 rfl _ _ _) rfl ⟨by rw [hE]; rfl, bel⟩
  have hp27 := of_decide_eq_true hg16
  refine wp_cond_true rfl ?_
  refine wp_skip ?_
  show Code.wp _ _ _ _ _
  refine wp_seq ?_
  refine wp_block ?_
  refine wp_seq ?_
  obtain ⟨b28, o29, rfl, _⟩ := (hr.same bel).at_ (by rw [Enc.all_length]; exact Nat.mul_pos (by omega) (by decide))
  refine wp_region_lit ?_
  refine st_mv (.int .i64 (k : Int)) ?_
  simp only [nf0, nf1, nf2, nf3, nf4]
  refine st_value (v := (.pointer (some ⟨b28, o29 + k * 4, none⟩))) (by rfl) (run_indexAddrN (.tmp 28) (.tmp 30) rfl Tryd.underlying22 slIns.sz (i := k) rfl rfl (by omega) w15) ?_
  simp only [nf0, nf1, nf2, nf3, nf4]
  refine st_value (v := (.agg #[.int .i64 ((insAt xs k).1), .int .i64 ((insAt xs k).2.1), .int .i64 ((insAt xs k).2.2.1), .int .i32 ((insAt xs k).2.2.2)])) (by rfl) (run_loadE (E := eIns) (.tmp 33) rfl aggIns rfl (hr.same bel) (insAt_get (by omega))) ?_
  simp only [nf0, nf1, nf2, nf3, nf4]
  refine st_new (cs := #[.int .i64 0, .int .i64 0, .int .i64 0, .int .i32 0]) (t := 35) (by rfl) (run_allocV rfl d_zero_35 _) ?_
  intro g30 w31 B32 hb33 lo34
  simp only [nf0, nf1, nf2, nf3, nf4]
  have n35 := B3.ne lo34
  replace lo34 := low_le bel lo34
  replace B3 := B3.below hb33
  replace bel := bl_step bel hb33
  clear hb33
  refine st_mv (.int .i64 (k : Int)) ?_
  simp only [nf0, nf1, nf2, nf3, nf4]
  refine st_row (by rfl) (run_storeW (.tmp 5) (.tmp 34) rfl (cs := #[.int .i64 ((insAt xs k).1), .int .i64 ((insAt xs k).2.1), .int .i64 ((insAt xs k).2.2.1), .int .i32 ((insAt xs k).2.2.2)]) aggIns rfl rfl B32 rfl (by simp [Value.oneCell'])) B32 ?_
  intro w36 B38 hg37
  simp only [nf0, nf1, nf2, nf3, nf4]
  replace B3 := B3.kept hg37 n35
  replace bel := bl_kept0 bel hg37 lo34
  clear hg37
  clear B32
  refine wpList_nil ?_
  show Code.wp _ _ _ _ _
  refine wp_seq ?_
  refine wp_region_lit ?_
  refine st_value (v := (.pointer (some ⟨g30, 0, none⟩))) (by rfl) (run_fieldA (.tmp 5) rfl d_fld_35_0 rfl rfl w36) ?_
  simp only [nf0, nf1, nf2, nf3, nf4]
  refine st_value (v := (.int .i64 ((insAt xs k).1))) (by rfl) (run_loadB (.tmp 35) rfl d_one_3 rfl B38 rfl) ?_
  simp only [nf0, nf1, nf2, nf3, nf4]
  refine st_call1 (v := (.string (str (shp ((insAt xs k).1))))) (by rfl) (d_run_call_16_1 (.tmp 36) rfl rfl _) (shape_calls ((insAt xs k).1) w36) ?_
  intro w39 hb40
  simp only [nf0, nf1, nf2, nf3, nf4]
  replace B3 := B3.below hb40
  replace B38 := B38.below hb40
  replace bel := bl_step bel hb40
  clear hb40
  refine st_mv (.string (str (shp ((insAt xs k).1)))) ?_
  simp only [nf0, nf1, nf2, nf3, nf4]
  refine wpList_nil ?_
  show Code.wp _ _ _ _ _
  refine wp_seq ?_
  refine wp_seq ?_
  cases hg41 : decide (((insAt xs k).1) < 1)
  rotate_left
  · have hp179 := of_decide_eq_true hg41
    have hkl : k < xs.length := by omega
    refine wp_region_lit ?_
    refine st_value (v := (.pointer (some ⟨g30, 0, none⟩))) (by rfl) (run_fieldA (.tmp 5) rfl d_fld_35_0 rfl rfl w39) ?_
    simp only [nf0, nf1, nf2, nf3, nf4]
    refine st_value (v := (.int .i64 ((insAt xs k).1))) (by rfl) (run_loadB (.tmp 38) rfl d_one_3 rfl B38 rfl) ?_
    simp only [nf0, nf1, nf2, nf3, nf4]
    refine st_value (v := (.bool true)) (by rfl) ((run_lss (.tmp 39) (.const (.int .i64 1)) rfl rfl rfl w39).trans (by rw [hg41])) ?_
    simp only [nf0, nf1, nf2, nf3, nf4]
    refine st_mv (.bool true) ?_
    simp only [nf0, nf1, nf2, nf3, nf4]
    refine st_nob (j := 3) (t := 41) (c := true) rfl rfl rfl rfl rfl ?_
    simp only [nf0, nf1, nf2, nf3, nf4]
    refine st_nob (j := 3) (t := 41) (c := true) rfl rfl rfl rfl rfl ?_
    simp only [nf0, nf1, nf2, nf3, nf4]
    refine st_nob (j := 3) (t := 41) (c := true) rfl rfl rfl rfl rfl ?_
    simp only [nf0, nf1, nf2, nf3, nf4]
    refine st_mv (.bool true) ?_
    simp only [nf0, nf1, nf2, nf3, nf4]
    refine wpList_nil ?_
    show Code.wp _ _ _ _ _
    refine wp_cond_true rfl ?_
    refine wp_seq ?_
    refine wp_region_lit ?_
    refine st_mv (.int .i64 (k : Int)) ?_
    simp only [nf0, nf1, nf2, nf3, nf4]
    refine st_mv (.int .i64 30) ?_
    simp only [nf0, nf1, nf2, nf3, nf4]
    refine st_mv (.int .i64 (k : Int)) ?_
    simp only [nf0, nf1, nf2, nf3, nf4]
    refine wpList_nil ?_
    show Code.wp _ _ _ _ _
    refine wp_ret ?_
    first | show bodyPost _ _ _ _ _ _ | (simp only [Exit.then, Exit.inBlock]; show bodyPost _ _ _ _ _ _)
    have hi_ : insE (insAt xs k) (xs.length : Int) = 30 := if_neg (by omega)
    have hE : chk pr xs = (30, (k : Int)) := by have h_ := chk_bad (pr := pr) (by omega) (by omega) hF hkl (by rw [hi_]; decide); rw [hi_] at h_; exact h_
    exact bodyPost_ret (results_tmp2 rfl _ _ _) rfl ⟨by rw [hE]; rfl, bel⟩
  have hp42 := of_decide_eq_false hg41
  have hkl : k < xs.length := by omega
  refine wp_region_lit ?_
  refine st_value (v := (.pointer (some ⟨g30, 0, none⟩))) (by rfl) (run_fieldA (.tmp 5) rfl d_fld_35_0 rfl rfl w39) ?_
  simp only [nf0, nf1, nf2, nf3, nf4]
  refine st_value (v := (.int .i64 ((insAt xs k).1))) (by rfl) (run_loadB (.tmp 38) rfl d_one_3 rfl B38 rfl) ?_
  simp only [nf0, nf1, nf2, nf3, nf4]
  refine st_value (v := (.bool false)) (by rfl) ((run_lss (.tmp 39) (.const (.int .i64 1)) rfl rfl rfl w39).trans (by rw [hg41])) ?_
  simp only [nf0, nf1, nf2, nf3, nf4]
  refine st_mv (.bool false) ?_
  simp only [nf0, nf1, nf2, nf3, nf4]
  refine st_value (v := (.pointer (some ⟨g30, 0, none⟩))) (by rfl) (run_fieldA (.tmp 5) rfl d_fld_35_0 rfl rfl w39) ?_
  simp only [nf0, nf1, nf2, nf3, nf4]
  refine st_value (v := (.int .i64 ((insAt xs k).1))) (by rfl) (run_loadB (.tmp 42) rfl d_one_3 rfl B38 rfl) ?_
  simp only [nf0, nf1, nf2, nf3, nf4]
  refine st_value (v := (.bool (decide (14 < ((insAt xs k).1))))) (by rfl) (run_gtr (.tmp 43) (.const (.int .i64 14)) rfl rfl rfl w39) ?_
  simp only [nf0, nf1, nf2, nf3, nf4]
  refine st_mv (.bool (decide (14 < ((insAt xs k).1)))) ?_
  simp only [nf0, nf1, nf2, nf3, nf4]
  refine wpList_nil ?_
  show Code.wp _ _ _ _ _
  cases hg43 : decide (14 < ((insAt xs k).1))
  rotate_left
  · have hp178 := of_decide_eq_true hg43
    refine wp_cond_true rfl ?_
    refine wp_seq ?_
    refine wp_region_lit ?_
    refine st_mv (.int .i64 (k : Int)) ?_
    simp only [nf0, nf1, nf2, nf3, nf4]
    refine st_mv (.int .i64 30) ?_
    simp only [nf0, nf1, nf2, nf3, nf4]
    refine st_mv (.int .i64 (k : Int)) ?_
    simp only [nf0, nf1, nf2, nf3, nf4]
    refine wpList_nil ?_
    show Code.wp _ _ _ _ _
    refine wp_ret ?_
    first | show bodyPost _ _ _ _ _ _ | (simp only [Exit.then, Exit.inBlock]; show bodyPost _ _ _ _ _ _)
    have hi_ : insE (insAt xs k) (xs.length : Int) = 30 := if_neg (by omega)
    have hE : chk pr xs = (30, (k : Int)) := by have h_ := chk_bad (pr := pr) (by omega) (by omega) hF hkl (by rw [hi_]; decide); rw [hi_] at h_; exact h_
    exact bodyPost_ret (results_tmp2 rfl _ _ _) rfl ⟨by rw [hE]; rfl, bel⟩
  have hp44 := of_decide_eq_false hg43
  refine wp_cond_false rfl ?_
  refine wp_skip ?_
  show Code.wp _ _ _ _ _
  refine wp_seq ?_
  refine wp_seq ?_
  cases hg45 : badB (shA ((insAt xs k).1)) ((insAt xs k).2.1)
  rotate_left
  · have hp175 := trivial
    refine wp_region_facts2_litD (C := Abv w39) 10 [.val (.string (str (shp ((insAt xs k).1)))), .val (.bool (shA ((insAt xs k).1))), .val (.pointer (some ⟨g30, 1, none⟩)), .val (.int .i64 ((insAt xs k).2.1)), .val (.bool true), .val (.bool true), .val undef, .val undef, .val undef, .val undef] w39.heap.size (by kernel_rfl) (by simp) (by kernel_rfl) (by kernel_rfl) (fun _ h => h.size) (Abv.start _) ?_
    simp only [List.take_succ_cons, List.take_zero, List.drop_succ_cons, List.drop_zero]
    refine fst2_val (fun W hC hh => ok2_value (v := (.string (str (shp ((insAt xs k).1))))) (by rfl) (by rfl) rfl hC (G0.refl _)) ?_
    simp only [nf0, nf1, nf2, nf3, nf4]
    refine fst2_val (fun W hC hh => ok2_call (by rfl) (d_run_call_18_2 (.tmp 47) (.const (.int .u8 65)) rfl rfl rfl W) (((show Calls _ _ _ _ fun e w' => e = .returned (.bool (shA ((insAt xs k).1))) ∧ Below W.heap.size W w' from by have h_ := hasC_calls (shp ((insAt xs k).1)) 65 (by have := (shp_has ((insAt xs k).1)).2.2.2; omega) W; rw [(shp_has ((insAt xs k).1)).1] at h_; exact h_)).mono fun e W' ⟨h1, h2⟩ => ⟨h1, hC.step h2, h2⟩)) ?_
    simp only [nf0, nf1, nf2, nf3, nf4]
    refine fst2_val (fun W hC hh => ok2_value (v := (.pointer (some ⟨g30, 1, none⟩))) (by rfl) (run_fieldA (.tmp 5) rfl d_fld_35_1 rfl rfl W) rfl hC (G0.refl _)) ?_
    simp only [nf0, nf1, nf2, nf3, nf4]
    refine fst2_val (fun W hC hh => ok2_value (v := (.int .i64 ((insAt xs k).2.1))) (by rfl) (run_loadB (.tmp 49) rfl d_one_3 rfl (B38.below hC) rfl) rfl hC (G0.refl _)) ?_
    simp only [nf0, nf1, nf2, nf3, nf4]
    refine fst2_val (fun W hC hh => ok2_call (by rfl) (d_run_call_17_2 (.tmp 48) (.tmp 50) rfl rfl rfl W) (((show Calls _ _ _ _ fun e w' => e = .returned (.bool true) ∧ Below W.heap.size W w' from by have h_ := badReg_calls (shA ((insAt xs k).1)) ((insAt xs k).2.1) W; rw [hg45] at h_; exact h_)).mono fun e W' ⟨h1, h2⟩ => ⟨h1, hC.step h2, h2⟩)) ?_
    simp only [nf0, nf1, nf2, nf3, nf4]
    refine fst2_val (fun W hC hh => ok2_value (v := (.bool true)) (by rfl) (by rfl) rfl hC (G0.refl _)) ?_
    simp only [nf0, nf1, nf2, nf3, nf4]
    refine fst2_val (fun W hC hh => ok2_not (by rfl)) ?_
    simp only [nf0, nf1, nf2, nf3, nf4]
    refine fst2_val (fun W hC hh => ok2_not (by rfl)) ?_
    simp only [nf0, nf1, nf2, nf3, nf4]
    refine fst2_val (fun W hC hh => ok2_not (by rfl)) ?_
    simp only [nf0, nf1, nf2, nf3, nf4]
    refine fst2_val (fun W hC hh => ok2_not (by rfl)) ?_
    simp only [nf0, nf1, nf2, nf3, nf4]
    refine fst2_nil fun w176 hC hh hnd => ?_
    replace hC : Below w39.heap.size w39 w176 := hC
    clear hh hnd
    replace B3 := B3.below hC
    replace B38 := B38.below hC
    replace bel := bl_step bel hC
    clear hC
    refine st_nob (j := 5) (t := 52) (c := true) rfl rfl rfl rfl rfl ?_
    simp only [nf0, nf1, nf2, nf3, nf4]
    refine st_mv (.bool true) ?_
    simp only [nf0, nf1, nf2, nf3, nf4]
    refine wpList_nil ?_
    show Code.wp _ _ _ _ _
    refine wp_cond_true rfl ?_
    refine wp_seq ?_
    refine wp_region_lit ?_
    refine st_mv (.int .i64 (k : Int)) ?_
    simp only [nf0, nf1, nf2, nf3, nf4]
    refine st_mv (.int .i64 31) ?_
    simp only [nf0, nf1, nf2, nf3, nf4]
    refine st_mv (.int .i64 (k : Int)) ?_
    simp only [nf0, nf1, nf2, nf3, nf4]
    refine wpList_nil ?_
    show Code.wp _ _ _ _ _
    refine wp_ret ?_
    first | show bodyPost _ _ _ _ _ _ | (simp only [Exit.then, Exit.inBlock]; show bodyPost _ _ _ _ _ _)
    have hr176 : regB (shA ((insAt xs k).1)) ((insAt xs k).2.1) = false := by have h_ := hg45; rw [badB_not] at h_; simpa using h_
    have hi_ : insE (insAt xs k) (xs.length : Int) = 31 := by unfold insE; rw [if_pos (by omega), if_neg (by rintro ⟨h1_, h2_⟩; simp_all)]
    have hE : chk pr xs = (31, (k : Int)) := by have h_ := chk_bad (pr := pr) (by omega) (by omega) hF hkl (by rw [hi_]; decide); rw [hi_] at h_; exact h_
    exact bodyPost_ret (results_tmp2 rfl _ _ _) rfl ⟨by rw [hE]; rfl, bel⟩
  have hp46 := trivial
  refine wp_region_facts2_litD (C := Abv w39) 10 [.val (.string (str (shp ((insAt xs k).1)))), .val (.bool (shA ((insAt xs k).1))), .val (.pointer (some ⟨g30, 1, none⟩)), .val (.int .i64 ((insAt xs k).2.1)), .val (.bool false), .val (.bool false), .val (.string (str (shp ((insAt xs k).1)))), .val (.bool (shB ((insAt xs k).1))), .val (.pointer (some ⟨g30, 2, none⟩)), .val (.int .i64 ((insAt xs k).2.2.1))] w39.heap.size (by kernel_rfl) (by simp) (by kernel_rfl) (by kernel_rfl) (fun _ h => h.size) (Abv.start _) ?_
  simp only [List.take_succ_cons, List.take_zero, List.drop_succ_cons, List.drop_zero]
  refine fst2_val (fun W hC hh => ok2_value (v := (.string (str (shp ((insAt xs k).1))))) (by rfl) (by rfl) rfl hC (G0.refl _)) ?_
  simp only [nf0, nf1, nf2, nf3, nf4]
  refine fst2_val (fun W hC hh => ok2_call (by rfl) (d_run_call_18_2 (.tmp 47) (.const (.int .u8 65)) rfl rfl rfl W) (((show Calls _ _ _ _ fun e w' => e = .returned (.bool (shA ((insAt xs k).1))) ∧ Below W.heap.size W w' from by have h_ := hasC_calls (shp ((insAt xs k).1)) 65 (by have := (shp_has ((insAt xs k).1)).2.2.2; omega) W; rw [(shp_has ((insAt xs k).1)).1] at h_; exact h_)).mono fun e W' ⟨h1, h2⟩ => ⟨h1, hC.step h2, h2⟩)) ?_
  simp only [nf0, nf1, nf2, nf3, nf4]
  refine fst2_val (fun W hC hh => ok2_value (v := (.pointer (some ⟨g30, 1, none⟩))) (by rfl) (run_fieldA (.tmp 5) rfl d_fld_35_1 rfl rfl W) rfl hC (G0.refl _)) ?_
  simp only [nf0, nf1, nf2, nf3, nf4]
  refine fst2_val (fun W hC hh => ok2_value (v := (.int .i64 ((insAt xs k).2.1))) (by rfl) (run_loadB (.tmp 49) rfl d_one_3 rfl (B38.below hC) rfl) rfl hC (G0.refl _)) ?_
  simp only [nf0, nf1, nf2, nf3, nf4]
  refine fst2_val (fun W hC hh => ok2_call (by rfl) (d_run_call_17_2 (.tmp 48) (.tmp 50) rfl rfl rfl W) (((show Calls _ _ _ _ fun e w' => e = .returned (.bool false) ∧ Below W.heap.size W w' from by have h_ := badReg_calls (shA ((insAt xs k).1)) ((insAt xs k).2.1) W; rw [hg45] at h_; exact h_)).mono fun e W' ⟨h1, h2⟩ => ⟨h1, hC.step h2, h2⟩)) ?_
  simp only [nf0, nf1, nf2, nf3, nf4]
  refine fst2_val (fun W hC hh => ok2_value (v := (.bool false)) (by rfl) (by rfl) rfl hC (G0.refl _)) ?_
  simp only [nf0, nf1, nf2, nf3, nf4]
  refine fst2_val (fun W hC hh => ok2_value (v := (.string (str (shp ((insAt xs k).1))))) (by rfl) (by rfl) rfl hC (G0.refl _)) ?_
  simp only [nf0, nf1, nf2, nf3, nf4]
  refine fst2_val (fun W hC hh => ok2_call (by rfl) (d_run_call_18_2 (.tmp 53) (.const (.int .u8 66)) rfl rfl rfl W) (((show Calls _ _ _ _ fun e w' => e = .returned (.bool (shB ((insAt xs k).1))) ∧ Below W.heap.size W w' from by have h_ := hasC_calls (shp ((insAt xs k).1)) 66 (by have := (shp_has ((insAt xs k).1)).2.2.2; omega) W; rw [(shp_has ((insAt xs k).1)).2.1] at h_; exact h_)).mono fun e W' ⟨h1, h2⟩ => ⟨h1, hC.step h2, h2⟩)) ?_
  simp only [nf0, nf1, nf2, nf3, nf4]
  refine fst2_val (fun W hC hh => ok2_value (v := (.pointer (some ⟨g30, 2, none⟩))) (by rfl) (run_fieldA (.tmp 5) rfl d_fld_35_2 rfl rfl W) rfl hC (G0.refl _)) ?_
  simp only [nf0, nf1, nf2, nf3, nf4]
  refine fst2_val (fun W hC hh => ok2_value (v := (.int .i64 ((insAt xs k).2.2.1))) (by rfl) (run_loadB (.tmp 55) rfl d_one_3 rfl (B38.below hC) rfl) rfl hC (G0.refl _)) ?_
  simp only [nf0, nf1, nf2, nf3, nf4]
  refine fst2_nil fun w47 hC hh hnd => ?_
  replace hC : Below w39.heap.size w39 w47 := hC
  clear hh hnd
  replace B3 := B3.below hC
  replace B38 := B38.below hC
  replace bel := bl_step bel hC
  clear hC
  refine st_call1 (v := (.bool (badB (shB ((insAt xs k).1)) ((insAt xs k).2.2.1)))) (by rfl) (d_run_call_17_2 (.tmp 54) (.tmp 56) rfl rfl rfl _) (badReg_calls (shB ((insAt xs k).1)) ((insAt xs k).2.2.1) w47) ?_
  intro w48 hb49
  simp only [nf0, nf1, nf2, nf3, nf4]
  replace B3 := B3.below hb49
  replace B38 := B38.below hb49
  replace bel := bl_step bel hb49
  clear hb49
  refine st_mv (.bool (badB (shB ((insAt xs k).1)) ((insAt xs k).2.2.1))) ?_
  simp only [nf0, nf1, nf2, nf3, nf4]
  refine wpList_nil ?_
  show Code.wp _ _ _ _ _
  cases hg50 : badB (shB ((insAt xs k).1)) ((insAt xs k).2.2.1)
  rotate_left
  · have hp172 := trivial
    refine wp_cond_true rfl ?_
    refine wp_seq ?_
    refine wp_region_lit ?_
    refine st_mv (.int .i64 (k : Int)) ?_
    simp only [nf0, nf1, nf2, nf3, nf4]
    refine st_mv (.int .i64 31) ?_
    simp only [nf0, nf1, nf2, nf3, nf4]
    refine st_mv (.int .i64 (k : Int)) ?_
    simp only [nf0, nf1, nf2, nf3, nf4]
    refine wpList_nil ?_
    show Code.wp _ _ _ _ _
    refine wp_ret ?_
    first | show bodyPost _ _ _ _ _ _ | (simp only [Exit.then, Exit.inBlock]; show bodyPost _ _ _ _ _ _)
    have hr172 : regB (shA ((insAt xs k).1)) ((insAt xs k).2.1) = true := by have h_ := hg45; rw [badB_not] at h_; simpa using h_
    have hr173 : regB (shB ((insAt xs k).1)) ((insAt xs k).2.2.1) = false := by have h_ := hg50; rw [badB_not] at h_; simpa using h_
    have hi_ : insE (insAt xs k) (xs.length : Int) = 31 := by unfold insE; rw [if_pos (by omega), if_neg (by rintro ⟨h1_, h2_⟩; simp_all)]
    have hE : chk pr xs = (31, (k : Int)) := by have h_ := chk_bad (pr := pr) (by omega) (by omega) hF hkl (by rw [hi_]; decide); rw [hi_] at h_; exact h_
    exact bodyPost_ret (results_tmp2 rfl _ _ _) rfl ⟨by rw [hE]; rfl, bel⟩
  have hp51 := trivial
  refine wp_cond_false rfl ?_
  refine wp_skip ?_
  show Code.wp _ _ _ _ _
  refine wp_seq ?_
  refine wp_seq ?_
  cases hg52 : decide (((insAt xs k).1) = 4)
  rotate_left
  · have hp157 := of_decide_eq_true hg52
    cases hg158 : decide (((insAt xs k).2.2.2) < 0)
    rotate_left
    · have hp169 := of_decide_eq_true hg158
      refine wp_region_lit ?_
      refine st_value (v := (.pointer (some ⟨g30, 0, none⟩))) (by rfl) (run_fieldA (.tmp 5) rfl d_fld_35_0 rfl rfl w48) ?_
      simp only [nf0, nf1, nf2, nf3, nf4]
      refine st_value (v := (.int .i64 ((insAt xs k).1))) (by rfl) (run_loadB (.tmp 60) rfl d_one_3 rfl B38 rfl) ?_
      simp only [nf0, nf1, nf2, nf3, nf4]
      refine st_value (v := (.bool true)) (by rfl) ((run_eql_int (.tmp 61) (.const (.int .i64 4)) rfl rfl rfl w48).trans (by rw [hg52])) ?_
      simp only [nf0, nf1, nf2, nf3, nf4]
      refine st_mv (.bool true) ?_
      simp only [nf0, nf1, nf2, nf3, nf4]
      refine st_nob (j := 3) (t := 63) (c := true) rfl rfl rfl rfl rfl ?_
      simp only [nf0, nf1, nf2, nf3, nf4]
      refine st_nob (j := 3) (t := 63) (c := true) rfl rfl rfl rfl rfl ?_
      simp only [nf0, nf1, nf2, nf3, nf4]
      refine st_nob (j := 3) (t := 63) (c := true) rfl rfl rfl rfl rfl ?_
      simp only [nf0, nf1, nf2, nf3, nf4]
      refine st_mv (.bool true) ?_
      simp only [nf0, nf1, nf2, nf3, nf4]
      refine st_mv (.bool true) ?_
      simp only [nf0, nf1, nf2, nf3, nf4]
      refine st_value (v := (.pointer (some ⟨g30, 3, none⟩))) (by rfl) (run_fieldA (.tmp 5) rfl d_fld_35_3 rfl rfl w48) ?_
      simp only [nf0, nf1, nf2, nf3, nf4]
      refine st_value (v := (.int .i32 ((insAt xs k).2.2.2))) (by rfl) (run_loadB (.tmp 69) rfl d_one_21 rfl B38 rfl) ?_
      simp only [nf0, nf1, nf2, nf3, nf4]
      refine st_value (v := (.bool true)) (by rfl) ((run_lss (.tmp 70) (.const (.int .i32 0)) rfl rfl rfl w48).trans (by rw [hg158])) ?_
      simp only [nf0, nf1, nf2, nf3, nf4]
      refine st_mv (.bool true) ?_
      simp only [nf0, nf1, nf2, nf3, nf4]
      refine st_nob (j := 12) (t := 72) (c := true) rfl rfl rfl rfl rfl ?_
      simp only [nf0, nf1, nf2, nf3, nf4]
      refine st_nob (j := 12) (t := 72) (c := true) rfl rfl rfl rfl rfl ?_
      simp only [nf0, nf1, nf2, nf3, nf4]
      refine st_nob (j := 12) (t := 72) (c := true) rfl rfl rfl rfl rfl ?_
      simp only [nf0, nf1, nf2, nf3, nf4]
      refine st_nob (j := 12) (t := 72) (c := true) rfl rfl rfl rfl rfl ?_
      simp only [nf0, nf1, nf2, nf3, nf4]
      refine st_nob (j := 12) (t := 72) (c := true) rfl rfl rfl rfl rfl ?_
      simp only [nf0, nf1, nf2, nf3, nf4]
      refine st_nob (j := 12) (t := 72) (c := true) rfl rfl rfl rfl rfl ?_
      simp only [nf0, nf1, nf2, nf3, nf4]
      refine st_nob (j := 12) (t := 72) (c := true) rfl rfl rfl rfl rfl ?_
      simp only [nf0, nf1, nf2, nf3, nf4]
      refine st_mv (.bool true) ?_
      simp only [nf0, nf1, nf2, nf3, nf4]
      refine st_mv (.bool true) ?_
      simp only [nf0, nf1, nf2, nf3, nf4]
      refine wpList_nil ?_
      show Code.wp _ _ _ _ _
      refine wp_cond_true rfl ?_
      refine wp_seq ?_
      refine wp_region_lit ?_
      refine st_mv (.int .i64 (k : Int)) ?_
      simp only [nf0, nf1, nf2, nf3, nf4]
      refine st_mv (.int .i64 32) ?_
      simp only [nf0, nf1, nf2, nf3, nf4]
      refine st_mv (.int .i64 (k : Int)) ?_
      simp only [nf0, nf1, nf2, nf3, nf4]
      refine wpList_nil ?_
      show Code.wp _ _ _ _ _
      refine wp_ret ?_
      first | show bodyPost _ _ _ _ _ _ | (simp only [Exit.then, Exit.inBlock]; show bodyPost _ _ _ _ _ _)
      have hr169 : regB (shA ((insAt xs k).1)) ((insAt xs k).2.1) = true := by have h_ := hg45; rw [badB_not] at h_; simpa using h_
      have hr170 : regB (shB ((insAt xs k).1)) ((insAt xs k).2.2.1) = true := by have h_ := hg50; rw [badB_not] at h_; simpa using h_
      have hnu : numE (insAt xs k).1 (insAt xs k).2.2.2 (xs.length : Int) = 32 := by unfold numE; (repeat' split) <;> omega
      have hi_ : insE (insAt xs k) (xs.length : Int) = 32 := by unfold insE; rw [if_pos (by omega), if_pos ⟨by assumption, by assumption⟩, hnu]
      have hE : chk pr xs = (32, (k : Int)) := by have h_ := chk_bad (pr := pr) (by omega) (by omega) hF hkl (by rw [hi_]; decide); rw [hi_] at h_; exact h_
      exact bodyPost_ret (results_tmp2 rfl _ _ _) rfl ⟨by rw [hE]; rfl, bel⟩
    have hp159 := of_decide_eq_false hg158
    refine wp_region_lit ?_
    refine st_value (v := (.pointer (some ⟨g30, 0, none⟩))) (by rfl) (run_fieldA (.tmp 5) rfl d_fld_35_0 rfl rfl w48) ?_
    simp only [nf0, nf1, nf2, nf3, nf4]
    refine st_value (v := (.int .i64 ((insAt xs k).1))) (by rfl) (run_loadB (.tmp 60) rfl d_one_3 rfl B38 rfl) ?_
    simp only [nf0, nf1, nf2, nf3, nf4]
    refine st_value (v := (.bool true)) (by rfl) ((run_eql_int (.tmp 61) (.const (.int .i64 4)) rfl rfl rfl w48).trans (by rw [hg52])) ?_
    simp only [nf0, nf1, nf2, nf3, nf4]
    refine st_mv (.bool true) ?_
    simp only [nf0, nf1, nf2, nf3, nf4]
    refine st_nob (j := 3) (t := 63) (c := true) rfl rfl rfl rfl rfl ?_
    simp only [nf0, nf1, nf2, nf3, nf4]
    refine st_nob (j := 3) (t := 63) (c := true) rfl rfl rfl rfl rfl ?_
    simp only [nf0, nf1, nf2, nf3, nf4]
    refine st_nob (j := 3) (t := 63) (c := true) rfl rfl rfl rfl rfl ?_
    simp only [nf0, nf1, nf2, nf3, nf4]
    refine st_mv (.bool true) ?_
    simp only [nf0, nf1, nf2, nf3, nf4]
    refine st_mv (.bool true) ?_
    simp only [nf0, nf1, nf2, nf3, nf4]
    refine st_value (v := (.pointer (some ⟨g30, 3, none⟩))) (by rfl) (run_fieldA (.tmp 5) rfl d_fld_35_3 rfl rfl w48) ?_
    simp only [nf0, nf1, nf2, nf3, nf4]
    refine st_value (v := (.int .i32 ((insAt xs k).2.2.2))) (by rfl) (run_loadB (.tmp 69) rfl d_one_21 rfl B38 rfl) ?_
    simp only [nf0, nf1, nf2, nf3, nf4]
    refine st_value (v := (.bool false)) (by rfl) ((run_lss (.tmp 70) (.const (.int .i32 0)) rfl rfl rfl w48).trans (by rw [hg158])) ?_
    simp only [nf0, nf1, nf2, nf3, nf4]
    refine st_mv (.bool false) ?_
    simp only [nf0, nf1, nf2, nf3, nf4]
    refine st_value (v := (.pointer (some ⟨g30, 3, none⟩))) (by rfl) (run_fieldA (.tmp 5) rfl d_fld_35_3 rfl rfl w48) ?_
    simp only [nf0, nf1, nf2, nf3, nf4]
    refine st_value (v := (.int .i32 ((insAt xs k).2.2.2))) (by rfl) (run_loadB (.tmp 73) rfl d_one_21 rfl B38 rfl) ?_
    simp only [nf0, nf1, nf2, nf3, nf4]
    refine st_value (v := (.int .i64 ((insAt xs k).2.2.2))) (by rfl) (run_conv_i32_i64 (.tmp 74) rfl Tryd.underlying21 Tryd.underlying3 (z := (insAt xs k).2.2.2) rfl (by have h_ := (hok _ (insAt_mem hkl)).2.2.2; omega) w48) ?_
    simp only [nf0, nf1, nf2, nf3, nf4]
    refine st_value (v := (.pointer (some ⟨g1, 1, none⟩))) (by rfl) (run_fieldA (.tmp 1) rfl d_fld_24_1 rfl rfl w48) ?_
    simp only [nf0, nf1, nf2, nf3, nf4]
    refine st_value (v := (.slice (some ⟨b28, o29, none⟩) xs.length cap)) (by rfl) (run_loadB (.tmp 76) rfl d_one_22 rfl B3 rfl) ?_
    simp only [nf0, nf1, nf2, nf3, nf4]
    refine st_value (v := (.int .i64 (xs.length : Int))) (by rfl) (run_len (.tmp 77) rfl ⟨_, Tryd.underlying22⟩ rfl w48) ?_
    simp only [nf0, nf1, nf2, nf3, nf4]
    refine st_value (v := (.bool (decide ((xs.length : Int) ≤ ((insAt xs k).2.2.2))))) (by rfl) (run_geq (.tmp 75) (.tmp 78) rfl rfl rfl w48) ?_
    simp only [nf0, nf1, nf2, nf3, nf4]
    refine st_mv (.bool (decide ((xs.length : Int) ≤ ((insAt xs k).2.2.2)))) ?_
    simp only [nf0, nf1, nf2, nf3, nf4]
    refine st_mv (.bool (decide ((xs.length : Int) ≤ ((insAt xs k).2.2.2)))) ?_
    simp only [nf0, nf1, nf2, nf3, nf4]
    refine wpList_nil ?_
    show Code.wp _ _ _ _ _
    cases hg160 : decide ((xs.length : Int) ≤ ((insAt xs k).2.2.2))
    rotate_left
    · have hp166 := of_decide_eq_true hg160
      refine wp_cond_true rfl ?_
      refine wp_seq ?_
      refine wp_region_lit ?_
      refine st_mv (.int .i64 (k : Int)) ?_
      simp only [nf0, nf1, nf2, nf3, nf4]
      refine st_mv (.int .i64 32) ?_
      simp only [nf0, nf1, nf2, nf3, nf4]
      refine st_mv (.int .i64 (k : Int)) ?_
      simp only [nf0, nf1, nf2, nf3, nf4]
      refine wpList_nil ?_
      show Code.wp _ _ _ _ _
      refine wp_ret ?_
      first | show bodyPost _ _ _ _ _ _ | (simp only [Exit.then, Exit.inBlock]; show bodyPost _ _ _ _ _ _)
      have hr166 : regB (shA ((insAt xs k).1)) ((insAt xs k).2.1) = true := by have h_ := hg45; rw [badB_not] at h_; simpa using h_
      have hr167 : regB (shB ((insAt xs k).1)) ((insAt xs k).2.2.1) = true := by have h_ := hg50; rw [badB_not] at h_; simpa using h_
      have hnu : numE (insAt xs k).1 (insAt xs k).2.2.2 (xs.length : Int) = 32 := by unfold numE; (repeat' split) <;> omega
      have hi_ : insE (insAt xs k) (xs.length : Int) = 32 := by unfold insE; rw [if_pos (by omega), if_pos ⟨by assumption, by assumption⟩, hnu]
      have hE : chk pr xs = (32, (k : Int)) := by have h_ := chk_bad (pr := pr) (by omega) (by omega) hF hkl (by rw [hi_]; decide); rw [hi_] at h_; exact h_
      exact bodyPost_ret (results_tmp2 rfl _ _ _) rfl ⟨by rw [hE]; rfl, bel⟩
    have hp161 := of_decide_eq_false hg160
    refine wp_cond_false rfl ?_
    refine wp_skip ?_
    show Code.wp _ _ _ _ _
    refine wp_seq ?_
    refine wp_region_lit ?_
    refine st_value (v := (.pointer (some ⟨g30, 0, none⟩))) (by rfl) (run_fieldA (.tmp 5) rfl d_fld_35_0 rfl rfl w48) ?_
    simp only [nf0, nf1, nf2, nf3, nf4]
    refine st_value (v := (.int .i64 ((insAt xs k).1))) (by rfl) (run_loadB (.tmp 83) rfl d_one_3 rfl B38 rfl) ?_
    simp only [nf0, nf1, nf2, nf3, nf4]
    refine st_value (v := (.bool false)) (by rfl) ((run_eql_int (.tmp 84) (.const (.int .i64 7)) rfl rfl rfl w48).trans (by rw [decide_eq_false (by omega)])) ?_
    simp only [nf0, nf1, nf2, nf3, nf4]
    refine st_mv (.bool false) ?_
    simp only [nf0, nf1, nf2, nf3, nf4]
    refine st_value (v := (.pointer (some ⟨g30, 0, none⟩))) (by rfl) (run_fieldA (.tmp 5) rfl d_fld_35_0 rfl rfl w48) ?_
    simp only [nf0, nf1, nf2, nf3, nf4]
    refine st_value (v := (.int .i64 ((insAt xs k).1))) (by rfl) (run_loadB (.tmp 87) rfl d_one_3 rfl B38 rfl) ?_
    simp only [nf0, nf1, nf2, nf3, nf4]
    refine st_value (v := (.bool false)) (by rfl) ((run_eql_int (.tmp 88) (.const (.int .i64 9)) rfl rfl rfl w48).trans (by rw [decide_eq_false (by omega)])) ?_
    simp only [nf0, nf1, nf2, nf3, nf4]
    refine st_mv (.bool false) ?_
    simp only [nf0, nf1, nf2, nf3, nf4]
    refine st_mv (.bool false) ?_
    simp only [nf0, nf1, nf2, nf3, nf4]
    refine st_value (v := (.pointer (some ⟨g30, 0, none⟩))) (by rfl) (run_fieldA (.tmp 5) rfl d_fld_35_0 rfl rfl w48) ?_
    simp only [nf0, nf1, nf2, nf3, nf4]
    refine st_value (v := (.int .i64 ((insAt xs k).1))) (by rfl) (run_loadB (.tmp 92) rfl d_one_3 rfl B38 rfl) ?_
    simp only [nf0, nf1, nf2, nf3, nf4]
    refine st_value (v := (.bool false)) (by rfl) ((run_eql_int (.tmp 93) (.const (.int .i64 10)) rfl rfl rfl w48).trans (by rw [decide_eq_false (by omega)])) ?_
    simp only [nf0, nf1, nf2, nf3, nf4]
    refine st_mv (.bool false) ?_
    simp only [nf0, nf1, nf2, nf3, nf4]
    refine st_mv (.bool false) ?_
    simp only [nf0, nf1, nf2, nf3, nf4]
    refine st_value (v := (.pointer (some ⟨g30, 0, none⟩))) (by rfl) (run_fieldA (.tmp 5) rfl d_fld_35_0 rfl rfl w48) ?_
    simp only [nf0, nf1, nf2, nf3, nf4]
    refine st_value (v := (.int .i64 ((insAt xs k).1))) (by rfl) (run_loadB (.tmp 97) rfl d_one_3 rfl B38 rfl) ?_
    simp only [nf0, nf1, nf2, nf3, nf4]
    refine st_value (v := (.bool false)) (by rfl) ((run_eql_int (.tmp 98) (.const (.int .i64 12)) rfl rfl rfl w48).trans (by rw [decide_eq_false (by omega)])) ?_
    simp only [nf0, nf1, nf2, nf3, nf4]
    refine st_mv (.bool false) ?_
    simp only [nf0, nf1, nf2, nf3, nf4]
    refine st_mv (.bool false) ?_
    simp only [nf0, nf1, nf2, nf3, nf4]
    refine wpList_nil ?_
    show Code.wp _ _ _ _ _
    refine wp_seq ?_
    refine wp_region_lit ?_
    refine st_mv (.bool false) ?_
    simp only [nf0, nf1, nf2, nf3, nf4]
    refine st_mv (.bool false) ?_
    simp only [nf0, nf1, nf2, nf3, nf4]
    refine st_nob (j := 1) (t := 102) (c := false) rfl rfl rfl rfl rfl ?_
    simp only [nf0, nf1, nf2, nf3, nf4]
    refine st_nob (j := 1) (t := 102) (c := false) rfl rfl rfl rfl rfl ?_
    simp only [nf0, nf1, nf2, nf3, nf4]
    refine st_nob (j := 1) (t := 102) (c := false) rfl rfl rfl rfl rfl ?_
    simp only [nf0, nf1, nf2, nf3, nf4]
    refine st_nob (j := 1) (t := 102) (c := false) rfl rfl rfl rfl rfl ?_
    simp only [nf0, nf1, nf2, nf3, nf4]
    refine st_nou (j := 5) (t := 106) rfl rfl rfl rfl ?_
    simp only [nf0, nf1, nf2, nf3, nf4]
    refine st_nou (j := 5) (t := 106) rfl rfl rfl rfl ?_
    simp only [nf0, nf1, nf2, nf3, nf4]
    refine st_nou (j := 5) (t := 106) rfl rfl rfl rfl ?_
    simp only [nf0, nf1, nf2, nf3, nf4]
    refine st_nob (j := 1) (t := 102) (c := false) rfl rfl rfl rfl rfl ?_
    simp only [nf0, nf1, nf2, nf3, nf4]
    refine st_mv (.bool false) ?_
    simp only [nf0, nf1, nf2, nf3, nf4]
    refine st_mv (.bool false) ?_
    simp only [nf0, nf1, nf2, nf3, nf4]
    refine st_mv (.string (str (shp ((insAt xs k).1)))) ?_
    simp only [nf0, nf1, nf2, nf3, nf4]
    refine st_call1 (v := (.bool true)) (by rfl) (d_run_call_18_2 (.tmp 113) (.const (.int .u8 78)) rfl rfl rfl _) (show Calls _ _ _ _ fun e w' => e = .returned (.bool (true)) ∧ Below w48.heap.size w48 w' from by have h_ := hasC_calls (shp ((insAt xs k).1)) 78 (by have := (shp_has ((insAt xs k).1)).2.2.2; omega) w48; rw [(shp_has ((insAt xs k).1)).2.2.1, show shN ((insAt xs k).1) = true from decide_eq_true (by omega)] at h_; exact h_) ?_
    intro w162 hb163
    simp only [nf0, nf1, nf2, nf3, nf4]
    replace B3 := B3.below hb163
    replace B38 := B38.below hb163
    replace bel := bl_step bel hb163
    clear hb163
    refine st_value (v := (.bool false)) (by rfl) (run_not (.tmp 114) rfl (b := true) rfl w162) ?_
    simp only [nf0, nf1, nf2, nf3, nf4]
    refine st_mv (.bool false) ?_
    simp only [nf0, nf1, nf2, nf3, nf4]
    refine st_nob (j := 15) (t := 116) (c := false) rfl rfl rfl rfl rfl ?_
    simp only [nf0, nf1, nf2, nf3, nf4]
    refine st_nob (j := 15) (t := 116) (c := false) rfl rfl rfl rfl rfl ?_
    simp only [nf0, nf1, nf2, nf3, nf4]
    refine st_nob (j := 15) (t := 116) (c := false) rfl rfl rfl rfl rfl ?_
    simp only [nf0, nf1, nf2, nf3, nf4]
    refine st_mv (.bool false) ?_
    simp only [nf0, nf1, nf2, nf3, nf4]
    refine st_mv (.bool false) ?_
    simp only [nf0, nf1, nf2, nf3, nf4]
    refine wpList_nil ?_
    show Code.wp _ _ _ _ _
    refine wp_cond_false rfl ?_
    refine wp_skip ?_
    show Code.wp _ _ _ _ _
    refine wp_region_lit ?_
    refine st_value (v := (.int .i64 ((k : Int) + 1))) (by rfl) (run_add_in (.tmp 30) (.const (.int .i64 1)) rfl rfl rfl (by omega) w162) ?_
    simp only [nf0, nf1, nf2, nf3, nf4]
    refine st_mv (.int .i64 ((k : Int) + 1)) ?_
    simp only [nf0, nf1, nf2, nf3, nf4]
    refine wpList_nil ?_
    have hr163 : regB (shA ((insAt xs k).1)) ((insAt xs k).2.1) = true := by have h_ := hg45; rw [badB_not] at h_; simpa using h_
    have hr164 : regB (shB ((insAt xs k).1)) ((insAt xs k).2.2.1) = true := by have h_ := hg50; rw [badB_not] at h_; simpa using h_
    have hnu : numE (insAt xs k).1 (insAt xs k).2.2.2 (xs.length : Int) = 0 := by unfold numE; (repeat' split) <;> omega
    have hi_ : insE (insAt xs k) (xs.length : Int) = 0 := by unfold insE; rw [if_pos (by omega), if_pos ⟨by assumption, by assumption⟩, hnu]
    show ∃ m, m < _ ∧ _
    exact ⟨_, (by omega), (k + 1), rfl, rfl, B3, bel, (by omega), (by rw [hF, firstE_step (by omega), if_pos hi_])⟩
  have hp53 := of_decide_eq_false hg52
  cases hg54 : decide (((insAt xs k).1) = 5)
  rotate_left
  · have hp142 := of_decide_eq_true hg54
    cases hg143 : decide (((insAt xs k).2.2.2) < 0)
    rotate_left
    · have hp154 := of_decide_eq_true hg143
      refine wp_region_lit ?_
      refine st_value (v := (.pointer (some ⟨g30, 0, none⟩))) (by rfl) (run_fieldA (.tmp 5) rfl d_fld_35_0 rfl rfl w48) ?_
      simp only [nf0, nf1, nf2, nf3, nf4]
      refine st_value (v := (.int .i64 ((insAt xs k).1))) (by rfl) (run_loadB (.tmp 60) rfl d_one_3 rfl B38 rfl) ?_
      simp only [nf0, nf1, nf2, nf3, nf4]
      refine st_value (v := (.bool false)) (by rfl) ((run_eql_int (.tmp 61) (.const (.int .i64 4)) rfl rfl rfl w48).trans (by rw [hg52])) ?_
      simp only [nf0, nf1, nf2, nf3, nf4]
      refine st_mv (.bool false) ?_
      simp only [nf0, nf1, nf2, nf3, nf4]
      refine st_value (v := (.pointer (some ⟨g30, 0, none⟩))) (by rfl) (run_fieldA (.tmp 5) rfl d_fld_35_0 rfl rfl w48) ?_
      simp only [nf0, nf1, nf2, nf3, nf4]
      refine st_value (v := (.int .i64 ((insAt xs k).1))) (by rfl) (run_loadB (.tmp 64) rfl d_one_3 rfl B38 rfl) ?_
      simp only [nf0, nf1, nf2, nf3, nf4]
      refine st_value (v := (.bool true)) (by rfl) ((run_eql_int (.tmp 65) (.const (.int .i64 5)) rfl rfl rfl w48).trans (by rw [hg54])) ?_
      simp only [nf0, nf1, nf2, nf3, nf4]
      refine st_mv (.bool true) ?_
      simp only [nf0, nf1, nf2, nf3, nf4]
      refine st_mv (.bool true) ?_
      simp only [nf0, nf1, nf2, nf3, nf4]
      refine st_value (v := (.pointer (some ⟨g30, 3, none⟩))) (by rfl) (run_fieldA (.tmp 5) rfl d_fld_35_3 rfl rfl w48) ?_
      simp only [nf0, nf1, nf2, nf3, nf4]
      refine st_value (v := (.int .i32 ((insAt xs k).2.2.2))) (by rfl) (run_loadB (.tmp 69) rfl d_one_21 rfl B38 rfl) ?_
      simp only [nf0, nf1, nf2, nf3, nf4]
      refine st_value (v := (.bool true)) (by rfl) ((run_lss (.tmp 70) (.const (.int .i32 0)) rfl rfl rfl w48).trans (by rw [hg143])) ?_
      simp only [nf0, nf1, nf2, nf3, nf4]
      refine st_mv (.bool true) ?_
      simp only [nf0, nf1, nf2, nf3, nf4]
      refine st_nob (j := 12) (t := 72) (c := true) rfl rfl rfl rfl rfl ?_
      simp only [nf0, nf1, nf2, nf3, nf4]
      refine st_nob (j := 12) (t := 72) (c := true) rfl rfl rfl rfl rfl ?_
      simp only [nf0, nf1, nf2, nf3, nf4]
      refine st_nob (j := 12) (t := 72) (c := true) rfl rfl rfl rfl rfl ?_
      simp only [nf0, nf1, nf2, nf3, nf4]
      refine st_nob (j := 12) (t := 72) (c := true) rfl rfl rfl rfl rfl ?_
      simp only [nf0, nf1, nf2, nf3, nf4]
      refine st_nob (j := 12) (t := 72) (c := true) rfl rfl rfl rfl rfl ?_
      simp only [nf0, nf1, nf2, nf3, nf4]
      refine st_nob (j := 12) (t := 72) (c := true) rfl rfl rfl rfl rfl ?_
      simp only [nf0, nf1, nf2, nf3, nf4]
      refine st_nob (j := 12) (t := 72) (c := true) rfl rfl rfl rfl rfl ?_
      simp only [nf0, nf1, nf2, nf3, nf4]
      refine st_mv (.bool true) ?_
      simp only [nf0, nf1, nf2, nf3, nf4]
      refine st_mv (.bool true) ?_
      simp only [nf0, nf1, nf2, nf3, nf4]
      refine wpList_nil ?_
      show Code.wp _ _ _ _ _
      refine wp_cond_true rfl ?_
      refine wp_seq ?_
      refine wp_region_lit ?_
      refine st_mv (.int .i64 (k : Int)) ?_
      simp only [nf0, nf1, nf2, nf3, nf4]
      refine st_mv (.int .i64 32) ?_
      simp only [nf0, nf1, nf2, nf3, nf4]
      refine st_mv (.int .i64 (k : Int)) ?_
      simp only [nf0, nf1, nf2, nf3, nf4]
      refine wpList_nil ?_
      show Code.wp _ _ _ _ _
      refine wp_ret ?_
      first | show bodyPost _ _ _ _ _ _ | (simp only [Exit.then, Exit.inBlock]; show bodyPost _ _ _ _ _ _)
      have hr154 : regB (shA ((insAt xs k).1)) ((insAt xs k).2.1) = true := by have h_ := hg45; rw [badB_not] at h_; simpa using h_
      have hr155 : regB (shB ((insAt xs k).1)) ((insAt xs k).2.2.1) = true := by have h_ := hg50; rw [badB_not] at h_; simpa using h_
      have hnu : numE (insAt xs k).1 (insAt xs k).2.2.2 (xs.length : Int) = 32 := by unfold numE; (repeat' split) <;> omega
      have hi_ : insE (insAt xs k) (xs.length : Int) = 32 := by unfold insE; rw [if_pos (by omega), if_pos ⟨by assumption, by assumption⟩, hnu]
      have hE : chk pr xs = (32, (k : Int)) := by have h_ := chk_bad (pr := pr) (by omega) (by omega) hF hkl (by rw [hi_]; decide); rw [hi_] at h_; exact h_
      exact bodyPost_ret (results_tmp2 rfl _ _ _) rfl ⟨by rw [hE]; rfl, bel⟩
    have hp144 := of_decide_eq_false hg143
    refine wp_region_lit ?_
    refine st_value (v := (.pointer (some ⟨g30, 0, none⟩))) (by rfl) (run_fieldA (.tmp 5) rfl d_fld_35_0 rfl rfl w48) ?_
    simp only [nf0, nf1, nf2, nf3, nf4]
    refine st_value (v := (.int .i64 ((insAt xs k).1))) (by rfl) (run_loadB (.tmp 60) rfl d_one_3 rfl B38 rfl) ?_
    simp only [nf0, nf1, nf2, nf3, nf4]
    refine st_value (v := (.bool false)) (by rfl) ((run_eql_int (.tmp 61) (.const (.int .i64 4)) rfl rfl rfl w48).trans (by rw [hg52])) ?_
    simp only [nf0, nf1, nf2, nf3, nf4]
    refine st_mv (.bool false) ?_
    simp only [nf0, nf1, nf2, nf3, nf4]
    refine st_value (v := (.pointer (some ⟨g30, 0, none⟩))) (by rfl) (run_fieldA (.tmp 5) rfl d_fld_35_0 rfl rfl w48) ?_
    simp only [nf0, nf1, nf2, nf3, nf4]
    refine st_value (v := (.int .i64 ((insAt xs k).1))) (by rfl) (run_loadB (.tmp 64) rfl d_one_3 rfl B38 rfl) ?_
    simp only [nf0, nf1, nf2, nf3, nf4]
    refine st_value (v := (.bool true)) (by rfl) ((run_eql_int (.tmp 65) (.const (.int .i64 5)) rfl rfl rfl w48).trans (by rw [hg54])) ?_
    simp only [nf0, nf1, nf2, nf3, nf4]
    refine st_mv (.bool true) ?_
    simp only [nf0, nf1, nf2, nf3, nf4]
    refine st_mv (.bool true) ?_
    simp only [nf0, nf1, nf2, nf3, nf4]
    refine st_value (v := (.pointer (some ⟨g30, 3, none⟩))) (by rfl) (run_fieldA (.tmp 5) rfl d_fld_35_3 rfl rfl w48) ?_
    simp only [nf0, nf1, nf2, nf3, nf4]
    refine st_value (v := (.int .i32 ((insAt xs k).2.2.2))) (by rfl) (run_loadB (.tmp 69) rfl d_one_21 rfl B38 rfl) ?_
    simp only [nf0, nf1, nf2, nf3, nf4]
    refine st_value (v := (.bool false)) (by rfl) ((run_lss (.tmp 70) (.const (.int .i32 0)) rfl rfl rfl w48).trans (by rw [hg143])) ?_
    simp only [nf0, nf1, nf2, nf3, nf4]
    refine st_mv (.bool false) ?_
    simp only [nf0, nf1, nf2, nf3, nf4]
    refine st_value (v := (.pointer (some ⟨g30, 3, none⟩))) (by rfl) (run_fieldA (.tmp 5) rfl d_fld_35_3 rfl rfl w48) ?_
    simp only [nf0, nf1, nf2, nf3, nf4]
    refine st_value (v := (.int .i32 ((insAt xs k).2.2.2))) (by rfl) (run_loadB (.tmp 73) rfl d_one_21 rfl B38 rfl) ?_
    simp only [nf0, nf1, nf2, nf3, nf4]
    refine st_value (v := (.int .i64 ((insAt xs k).2.2.2))) (by rfl) (run_conv_i32_i64 (.tmp 74) rfl Tryd.underlying21 Tryd.underlying3 (z := (insAt xs k).2.2.2) rfl (by have h_ := (hok _ (insAt_mem hkl)).2.2.2; omega) w48) ?_
    simp only [nf0, nf1, nf2, nf3, nf4]
    refine st_value (v := (.pointer (some ⟨g1, 1, none⟩))) (by rfl) (run_fieldA (.tmp 1) rfl d_fld_24_1 rfl rfl w48) ?_
    simp only [nf0, nf1, nf2, nf3, nf4]
    refine st_value (v := (.slice (some ⟨b28, o29, none⟩) xs.length cap)) (by rfl) (run_loadB (.tmp 76) rfl d_one_22 rfl B3 rfl) ?_
    simp only [nf0, nf1, nf2, nf3, nf4]
    refine st_value (v := (.int .i64 (xs.length : Int))) (by rfl) (run_len (.tmp 77) rfl ⟨_, Tryd.underlying22⟩ rfl w48) ?_
    simp only [nf0, nf1, nf2, nf3, nf4]
    refine st_value (v := (.bool (decide ((xs.length : Int) ≤ ((insAt xs k).2.2.2))))) (by rfl) (run_geq (.tmp 75) (.tmp 78) rfl rfl rfl w48) ?_
    simp only [nf0, nf1, nf2, nf3, nf4]
    refine st_mv (.bool (decide ((xs.length : Int) ≤ ((insAt xs k).2.2.2)))) ?_
    simp only [nf0, nf1, nf2, nf3, nf4]
    refine st_mv (.bool (decide ((xs.length : Int) ≤ ((insAt xs k).2.2.2)))) ?_
    simp only [nf0, nf1, nf2, nf3, nf4]
    refine wpList_nil ?_
    show Code.wp _ _ _ _ _
    cases hg145 : decide ((xs.length : Int) ≤ ((insAt xs k).2.2.2))
    rotate_left
    · have hp151 := of_decide_eq_true hg145
      refine wp_cond_true rfl ?_
      refine wp_seq ?_
      refine wp_region_lit ?_
      refine st_mv (.int .i64 (k : Int)) ?_
      simp only [nf0, nf1, nf2, nf3, nf4]
      refine st_mv (.int .i64 32) ?_
      simp only [nf0, nf1, nf2, nf3, nf4]
      refine st_mv (.int .i64 (k : Int)) ?_
      simp only [nf0, nf1, nf2, nf3, nf4]
      refine wpList_nil ?_
      show Code.wp _ _ _ _ _
      refine wp_ret ?_
      first | show bodyPost _ _ _ _ _ _ | (simp only [Exit.then, Exit.inBlock]; show bodyPost _ _ _ _ _ _)
      have hr151 : regB (shA ((insAt xs k).1)) ((insAt xs k).2.1) = true := by have h_ := hg45; rw [badB_not] at h_; simpa using h_
      have hr152 : regB (shB ((insAt xs k).1)) ((insAt xs k).2.2.1) = true := by have h_ := hg50; rw [badB_not] at h_; simpa using h_
      have hnu : numE (insAt xs k).1 (insAt xs k).2.2.2 (xs.length : Int) = 32 := by unfold numE; (repeat' split) <;> omega
      have hi_ : insE (insAt xs k) (xs.length : Int) = 32 := by unfold insE; rw [if_pos (by omega), if_pos ⟨by assumption, by assumption⟩, hnu]
      have hE : chk pr xs = (32, (k : Int)) := by have h_ := chk_bad (pr := pr) (by omega) (by omega) hF hkl (by rw [hi_]; decide); rw [hi_] at h_; exact h_
      exact bodyPost_ret (results_tmp2 rfl _ _ _) rfl ⟨by rw [hE]; rfl, bel⟩
    have hp146 := of_decide_eq_false hg145
    refine wp_cond_false rfl ?_
    refine wp_skip ?_
    show Code.wp _ _ _ _ _
    refine wp_seq ?_
    refine wp_region_lit ?_
    refine st_value (v := (.pointer (some ⟨g30, 0, none⟩))) (by rfl) (run_fieldA (.tmp 5) rfl d_fld_35_0 rfl rfl w48) ?_
    simp only [nf0, nf1, nf2, nf3, nf4]
    refine st_value (v := (.int .i64 ((insAt xs k).1))) (by rfl) (run_loadB (.tmp 83) rfl d_one_3 rfl B38 rfl) ?_
    simp only [nf0, nf1, nf2, nf3, nf4]
    refine st_value (v := (.bool false)) (by rfl) ((run_eql_int (.tmp 84) (.const (.int .i64 7)) rfl rfl rfl w48).trans (by rw [decide_eq_false (by omega)])) ?_
    simp only [nf0, nf1, nf2, nf3, nf4]
    refine st_mv (.bool false) ?_
    simp only [nf0, nf1, nf2, nf3, nf4]
    refine st_value (v := (.pointer (some ⟨g30, 0, none⟩))) (by rfl) (run_fieldA (.tmp 5) rfl d_fld_35_0 rfl rfl w48) ?_
    simp only [nf0, nf1, nf2, nf3, nf4]
    refine st_value (v := (.int .i64 ((insAt xs k).1))) (by rfl) (run_loadB (.tmp 87) rfl d_one_3 rfl B38 rfl) ?_
    simp only [nf0, nf1, nf2, nf3, nf4]
    refine st_value (v := (.bool false)) (by rfl) ((run_eql_int (.tmp 88) (.const (.int .i64 9)) rfl rfl rfl w48).trans (by rw [decide_eq_false (by omega)])) ?_
    simp only [nf0, nf1, nf2, nf3, nf4]
    refine st_mv (.bool false) ?_
    simp only [nf0, nf1, nf2, nf3, nf4]
    refine st_mv (.bool false) ?_
    simp only [nf0, nf1, nf2, nf3, nf4]
    refine st_value (v := (.pointer (some ⟨g30, 0, none⟩))) (by rfl) (run_fieldA (.tmp 5) rfl d_fld_35_0 rfl rfl w48) ?_
    simp only [nf0, nf1, nf2, nf3, nf4]
    refine st_value (v := (.int .i64 ((insAt xs k).1))) (by rfl) (run_loadB (.tmp 92) rfl d_one_3 rfl B38 rfl) ?_
    simp only [nf0, nf1, nf2, nf3, nf4]
    refine st_value (v := (.bool false)) (by rfl) ((run_eql_int (.tmp 93) (.const (.int .i64 10)) rfl rfl rfl w48).trans (by rw [decide_eq_false (by omega)])) ?_
    simp only [nf0, nf1, nf2, nf3, nf4]
    refine st_mv (.bool false) ?_
    simp only [nf0, nf1, nf2, nf3, nf4]
    refine st_mv (.bool false) ?_
    simp only [nf0, nf1, nf2, nf3, nf4]
    refine st_value (v := (.pointer (some ⟨g30, 0, none⟩))) (by rfl) (run_fieldA (.tmp 5) rfl d_fld_35_0 rfl rfl w48) ?_
    simp only [nf0, nf1, nf2, nf3, nf4]
    refine st_value (v := (.int .i64 ((insAt xs k).1))) (by rfl) (run_loadB (.tmp 97) rfl d_one_3 rfl B38 rfl) ?_
    simp only [nf0, nf1, nf2, nf3, nf4]
    refine st_value (v := (.bool false)) (by rfl) ((run_eql_int (.tmp 98) (.const (.int .i64 12)) rfl rfl rfl w48).trans (by rw [decide_eq_false (by omega)])) ?_
    simp only [nf0, nf1, nf2, nf3, nf4]
    refine st_mv (.bool false) ?_
    simp only [nf0, nf1, nf2, nf3, nf4]
    refine st_mv (.bool false) ?_
    simp only [nf0, nf1, nf2, nf3, nf4]
    refine wpList_nil ?_
    show Code.wp _ _ _ _ _
    refine wp_seq ?_
    refine wp_region_lit ?_
    refine st_mv (.bool false) ?_
    simp only [nf0, nf1, nf2, nf3, nf4]
    refine st_mv (.bool false) ?_
    simp only [nf0, nf1, nf2, nf3, nf4]
    refine st_nob (j := 1) (t := 102) (c := false) rfl rfl rfl rfl rfl ?_
    simp only [nf0, nf1, nf2, nf3, nf4]
    refine st_nob (j := 1) (t := 102) (c := false) rfl rfl rfl rfl rfl ?_
    simp only [nf0, nf1, nf2, nf3, nf4]
    refine st_nob (j := 1) (t := 102) (c := false) rfl rfl rfl rfl rfl ?_
    simp only [nf0, nf1, nf2, nf3, nf4]
    refine st_nob (j := 1) (t := 102) (c := false) rfl rfl rfl rfl rfl ?_
    simp only [nf0, nf1, nf2, nf3, nf4]
    refine st_nou (j := 5) (t := 106) rfl rfl rfl rfl ?_
    simp only [nf0, nf1, nf2, nf3, nf4]
    refine st_nou (j := 5) (t := 106) rfl rfl rfl rfl ?_
    simp only [nf0, nf1, nf2, nf3, nf4]
    refine st_nou (j := 5) (t := 106) rfl rfl rfl rfl ?_
    simp only [nf0, nf1, nf2, nf3, nf4]
    refine st_nob (j := 1) (t := 102) (c := false) rfl rfl rfl rfl rfl ?_
    simp only [nf0, nf1, nf2, nf3, nf4]
    refine st_mv (.bool false) ?_
    simp only [nf0, nf1, nf2, nf3, nf4]
    refine st_mv (.bool false) ?_
    simp only [nf0, nf1, nf2, nf3, nf4]
    refine st_mv (.string (str (shp ((insAt xs k).1)))) ?_
    simp only [nf0, nf1, nf2, nf3, nf4]
    refine st_call1 (v := (.bool true)) (by rfl) (d_run_call_18_2 (.tmp 113) (.const (.int .u8 78)) rfl rfl rfl _) (show Calls _ _ _ _ fun e w' => e = .returned (.bool (true)) ∧ Below w48.heap.size w48 w' from by have h_ := hasC_calls (shp ((insAt xs k).1)) 78 (by have := (shp_has ((insAt xs k).1)).2.2.2; omega) w48; rw [(shp_has ((insAt xs k).1)).2.2.1, show shN ((insAt xs k).1) = true from decide_eq_true (by omega)] at h_; exact h_) ?_
    intro w147 hb148
    simp only [nf0, nf1, nf2, nf3, nf4]
    replace B3 := B3.below hb148
    replace B38 := B38.below hb148
    replace bel := bl_step bel hb148
    clear hb148
    refine st_value (v := (.bool false)) (by rfl) (run_not (.tmp 114) rfl (b := true) rfl w147) ?_
    simp only [nf0, nf1, nf2, nf3, nf4]
    refine st_mv (.bool false) ?_
    simp only [nf0, nf1, nf2, nf3, nf4]
    refine st_nob (j := 15) (t := 116) (c := false) rfl rfl rfl rfl rfl ?_
    simp only [nf0, nf1, nf2, nf3, nf4]
    refine st_nob (j := 15) (t := 116) (c := false) rfl rfl rfl rfl rfl ?_
    simp only [nf0, nf1, nf2, nf3, nf4]
    refine st_nob (j := 15) (t := 116) (c := false) rfl rfl rfl rfl rfl ?_
    simp only [nf0, nf1, nf2, nf3, nf4]
    refine st_mv (.bool false) ?_
    simp only [nf0, nf1, nf2, nf3, nf4]
    refine st_mv (.bool false) ?_
    simp only [nf0, nf1, nf2, nf3, nf4]
    refine wpList_nil ?_
    show Code.wp _ _ _ _ _
    refine wp_cond_false rfl ?_
    refine wp_skip ?_
    show Code.wp _ _ _ _ _
    refine wp_region_lit ?_
    refine st_value (v := (.int .i64 ((k : Int) + 1))) (by rfl) (run_add_in (.tmp 30) (.const (.int .i64 1)) rfl rfl rfl (by omega) w147) ?_
    simp only [nf0, nf1, nf2, nf3, nf4]
    refine st_mv (.int .i64 ((k : Int) + 1)) ?_
    simp only [nf0, nf1, nf2, nf3, nf4]
    refine wpList_nil ?_
    have hr148 : regB (shA ((insAt xs k).1)) ((insAt xs k).2.1) = true := by have h_ := hg45; rw [badB_not] at h_; simpa using h_
    have hr149 : regB (shB ((insAt xs k).1)) ((insAt xs k).2.2.1) = true := by have h_ := hg50; rw [badB_not] at h_; simpa using h_
    have hnu : numE (insAt xs k).1 (insAt xs k).2.2.2 (xs.length : Int) = 0 := by unfold numE; (repeat' split) <;> omega
    have hi_ : insE (insAt xs k) (xs.length : Int) = 0 := by unfold insE; rw [if_pos (by omega), if_pos ⟨by assumption, by assumption⟩, hnu]
    show ∃ m, m < _ ∧ _
    exact ⟨_, (by omega), (k + 1), rfl, rfl, B3, bel, (by omega), (by rw [hF, firstE_step (by omega), if_pos hi_])⟩
  have hp55 := of_decide_eq_false hg54
  refine wp_region_lit ?_
  refine st_value (v := (.pointer (some ⟨g30, 0, none⟩))) (by rfl) (run_fieldA (.tmp 5) rfl d_fld_35_0 rfl rfl w48) ?_
  simp only [nf0, nf1, nf2, nf3, nf4]
  refine st_value (v := (.int .i64 ((insAt xs k).1))) (by rfl) (run_loadB (.tmp 60) rfl d_one_3 rfl B38 rfl) ?_
  simp only [nf0, nf1, nf2, nf3, nf4]
  refine st_value (v := (.bool false)) (by rfl) ((run_eql_int (.tmp 61) (.const (.int .i64 4)) rfl rfl rfl w48).trans (by rw [hg52])) ?_
  simp only [nf0, nf1, nf2, nf3, nf4]
  refine st_mv (.bool false) ?_
  simp only [nf0, nf1, nf2, nf3, nf4]
  refine st_value (v := (.pointer (some ⟨g30, 0, none⟩))) (by rfl) (run_fieldA (.tmp 5) rfl d_fld_35_0 rfl rfl w48) ?_
  simp only [nf0, nf1, nf2, nf3, nf4]
  refine st_value (v := (.int .i64 ((insAt xs k).1))) (by rfl) (run_loadB (.tmp 64) rfl d_one_3 rfl B38 rfl) ?_
  simp only [nf0, nf1, nf2, nf3, nf4]
  refine st_value (v := (.bool false)) (by rfl) ((run_eql_int (.tmp 65) (.const (.int .i64 5)) rfl rfl rfl w48).trans (by rw [hg54])) ?_
  simp only [nf0, nf1, nf2, nf3, nf4]
  refine st_mv (.bool false) ?_
  simp only [nf0, nf1, nf2, nf3, nf4]
  refine st_mv (.bool false) ?_
  simp only [nf0, nf1, nf2, nf3, nf4]
  refine st_nob (j := 8) (t := 68) (c := false) rfl rfl rfl rfl rfl ?_
  simp only [nf0, nf1, nf2, nf3, nf4]
  refine st_nob (j := 8) (t := 68) (c := false) rfl rfl rfl rfl rfl ?_
  simp only [nf0, nf1, nf2, nf3, nf4]
  refine st_nob (j := 8) (t := 68) (c := false) rfl rfl rfl rfl rfl ?_
  simp only [nf0, nf1, nf2, nf3, nf4]
  refine st_nob (j := 8) (t := 68) (c := false) rfl rfl rfl rfl rfl ?_
  simp only [nf0, nf1, nf2, nf3, nf4]
  refine st_nou (j := 12) (t := 72) rfl rfl rfl rfl ?_
  simp only [nf0, nf1, nf2, nf3, nf4]
  refine st_nou (j := 12) (t := 72) rfl rfl rfl rfl ?_
  simp only [nf0, nf1, nf2, nf3, nf4]
  refine st_nou (j := 12) (t := 72) rfl rfl rfl rfl ?_
  simp only [nf0, nf1, nf2, nf3, nf4]
  refine st_nou (j := 12) (t := 72) rfl rfl rfl rfl ?_
  simp only [nf0, nf1, nf2, nf3, nf4]
  refine st_nou (j := 12) (t := 72) rfl rfl rfl rfl ?_
  simp only [nf0, nf1, nf2, nf3, nf4]
  refine st_nou (j := 12) (t := 72) rfl rfl rfl rfl ?_
  simp only [nf0, nf1, nf2, nf3, nf4]
  refine st_nou (j := 12) (t := 72) rfl rfl rfl rfl ?_
  simp only [nf0, nf1, nf2, nf3, nf4]
  refine st_nob (j := 8) (t := 68) (c := false) rfl rfl rfl rfl rfl ?_
  simp only [nf0, nf1, nf2, nf3, nf4]
  refine st_mv (.bool false) ?_
  simp only [nf0, nf1, nf2, nf3, nf4]
  refine wpList_nil ?_
  show Code.wp _ _ _ _ _
  refine wp_cond_false rfl ?_
  refine wp_skip ?_
  show Code.wp _ _ _ _ _
  refine wp_seq ?_
  cases hg56 : decide (((insAt xs k).1) = 7)
  rotate_left
  · have hp127 := of_decide_eq_true hg56
    refine wp_region_lit ?_
    refine st_value (v := (.pointer (some ⟨g30, 0, none⟩))) (by rfl) (run_fieldA (.tmp 5) rfl d_fld_35_0 rfl rfl w48) ?_
    simp only [nf0, nf1, nf2, nf3, nf4]
    refine st_value (v := (.int .i64 ((insAt xs k).1))) (by rfl) (run_loadB (.tmp 83) rfl d_one_3 rfl B38 rfl) ?_
    simp only [nf0, nf1, nf2, nf3, nf4]
    refine st_value (v := (.bool true)) (by rfl) ((run_eql_int (.tmp 84) (.const (.int .i64 7)) rfl rfl rfl w48).trans (by rw [hg56])) ?_
    simp only [nf0, nf1, nf2, nf3, nf4]
    refine st_mv (.bool true) ?_
    simp only [nf0, nf1, nf2, nf3, nf4]
    refine st_nob (j := 3) (t := 86) (c := true) rfl rfl rfl rfl rfl ?_
    simp only [nf0, nf1, nf2, nf3, nf4]
    refine st_nob (j := 3) (t := 86) (c := true) rfl rfl rfl rfl rfl ?_
    simp only [nf0, nf1, nf2, nf3, nf4]
    refine st_nob (j := 3) (t := 86) (c := true) rfl rfl rfl rfl rfl ?_
    simp only [nf0, nf1, nf2, nf3, nf4]
    refine st_mv (.bool true) ?_
    simp only [nf0, nf1, nf2, nf3, nf4]
    refine st_mv (.bool true) ?_
    simp only [nf0, nf1, nf2, nf3, nf4]
    refine st_nob (j := 8) (t := 91) (c := true) rfl rfl rfl rfl rfl ?_
    simp only [nf0, nf1, nf2, nf3, nf4]
    refine st_nob (j := 8) (t := 91) (c := true) rfl rfl rfl rfl rfl ?_
    simp only [nf0, nf1, nf2, nf3, nf4]
    refine st_nob (j := 8) (t := 91) (c := true) rfl rfl rfl rfl rfl ?_
    simp only [nf0, nf1, nf2, nf3, nf4]
    refine st_mv (.bool true) ?_
    simp only [nf0, nf1, nf2, nf3, nf4]
    refine st_mv (.bool true) ?_
    simp only [nf0, nf1, nf2, nf3, nf4]
    refine st_nob (j := 13) (t := 96) (c := true) rfl rfl rfl rfl rfl ?_
    simp only [nf0, nf1, nf2, nf3, nf4]
    refine st_nob (j := 13) (t := 96) (c := true) rfl rfl rfl rfl rfl ?_
    simp only [nf0, nf1, nf2, nf3, nf4]
    refine st_nob (j := 13) (t := 96) (c := true) rfl rfl rfl rfl rfl ?_
    simp only [nf0, nf1, nf2, nf3, nf4]
    refine st_mv (.bool true) ?_
    simp only [nf0, nf1, nf2, nf3, nf4]
    refine st_mv (.bool true) ?_
    simp only [nf0, nf1, nf2, nf3, nf4]
    refine wpList_nil ?_
    show Code.wp _ _ _ _ _
    refine wp_seq ?_
    cases hg128 : decide (((insAt xs k).2.2.2) < 0)
    rotate_left
    · have hp139 := of_decide_eq_true hg128
      refine wp_region_lit ?_
      refine st_mv (.bool true) ?_
      simp only [nf0, nf1, nf2, nf3, nf4]
      refine st_mv (.bool true) ?_
      simp only [nf0, nf1, nf2, nf3, nf4]
      refine st_value (v := (.pointer (some ⟨g30, 3, none⟩))) (by rfl) (run_fieldA (.tmp 5) rfl d_fld_35_3 rfl rfl w48) ?_
      simp only [nf0, nf1, nf2, nf3, nf4]
      refine st_value (v := (.int .i32 ((insAt xs k).2.2.2))) (by rfl) (run_loadB (.tmp 103) rfl d_one_21 rfl B38 rfl) ?_
      simp only [nf0, nf1, nf2, nf3, nf4]
      refine st_value (v := (.bool true)) (by rfl) ((run_lss (.tmp 104) (.const (.int .i32 0)) rfl rfl rfl w48).trans (by rw [hg128])) ?_
      simp only [nf0, nf1, nf2, nf3, nf4]
      refine st_mv (.bool true) ?_
      simp only [nf0, nf1, nf2, nf3, nf4]
      refine st_nob (j := 5) (t := 106) (c := true) rfl rfl rfl rfl rfl ?_
      simp only [nf0, nf1, nf2, nf3, nf4]
      refine st_nob (j := 5) (t := 106) (c := true) rfl rfl rfl rfl rfl ?_
      simp only [nf0, nf1, nf2, nf3, nf4]
      refine st_nob (j := 5) (t := 106) (c := true) rfl rfl rfl rfl rfl ?_
      simp only [nf0, nf1, nf2, nf3, nf4]
      refine st_mv (.bool true) ?_
      simp only [nf0, nf1, nf2, nf3, nf4]
      refine st_mv (.bool true) ?_
      simp only [nf0, nf1, nf2, nf3, nf4]
      refine st_mv (.bool true) ?_
      simp only [nf0, nf1, nf2, nf3, nf4]
      refine st_nob (j := 11) (t := 112) (c := true) rfl rfl rfl rfl rfl ?_
      simp only [nf0, nf1, nf2, nf3, nf4]
      refine st_nob (j := 11) (t := 112) (c := true) rfl rfl rfl rfl rfl ?_
      simp only [nf0, nf1, nf2, nf3, nf4]
      refine st_nob (j := 11) (t := 112) (c := true) rfl rfl rfl rfl rfl ?_
      simp only [nf0, nf1, nf2, nf3, nf4]
      refine st_nob (j := 11) (t := 112) (c := true) rfl rfl rfl rfl rfl ?_
      simp only [nf0, nf1, nf2, nf3, nf4]
      refine st_nou (j := 15) (t := 116) rfl rfl rfl rfl ?_
      simp only [nf0, nf1, nf2, nf3, nf4]
      refine st_nou (j := 15) (t := 116) rfl rfl rfl rfl ?_
      simp only [nf0, nf1, nf2, nf3, nf4]
      refine st_nou (j := 15) (t := 116) rfl rfl rfl rfl ?_
      simp only [nf0, nf1, nf2, nf3, nf4]
      refine st_nob (j := 11) (t := 112) (c := true) rfl rfl rfl rfl rfl ?_
      simp only [nf0, nf1, nf2, nf3, nf4]
      refine st_mv (.bool true) ?_
      simp only [nf0, nf1, nf2, nf3, nf4]
      refine wpList_nil ?_
      show Code.wp _ _ _ _ _
      refine wp_cond_true rfl ?_
      refine wp_seq ?_
      refine wp_region_lit ?_
      refine st_mv (.int .i64 (k : Int)) ?_
      simp only [nf0, nf1, nf2, nf3, nf4]
      refine st_mv (.int .i64 26) ?_
      simp only [nf0, nf1, nf2, nf3, nf4]
      refine st_mv (.int .i64 (k : Int)) ?_
      simp only [nf0, nf1, nf2, nf3, nf4]
      refine wpList_nil ?_
      show Code.wp _ _ _ _ _
      refine wp_ret ?_
      first | show bodyPost _ _ _ _ _ _ | (simp only [Exit.then, Exit.inBlock]; show bodyPost _ _ _ _ _ _)
      have hr139 : regB (shA ((insAt xs k).1)) ((insAt xs k).2.1) = true := by have h_ := hg45; rw [badB_not] at h_; simpa using h_
      have hr140 : regB (shB ((insAt xs k).1)) ((insAt xs k).2.2.1) = true := by have h_ := hg50; rw [badB_not] at h_; simpa using h_
      have hnu : numE (insAt xs k).1 (insAt xs k).2.2.2 (xs.length : Int) = 26 := by unfold numE; (repeat' split) <;> omega
      have hi_ : insE (insAt xs k) (xs.length : Int) = 26 := by unfold insE; rw [if_pos (by omega), if_pos ⟨by assumption, by assumption⟩, hnu]
      have hE : chk pr xs = (26, (k : Int)) := by have h_ := chk_bad (pr := pr) (by omega) (by omega) hF hkl (by rw [hi_]; decide); rw [hi_] at h_; exact h_
      exact bodyPost_ret (results_tmp2 rfl _ _ _) rfl ⟨by rw [hE]; rfl, bel⟩
    have hp129 := of_decide_eq_false hg128
    cases hg130 : decide (15 < ((insAt xs k).2.2.2))
    rotate_left
    · have hp136 := of_decide_eq_true hg130
      refine wp_region_lit ?_
      refine st_mv (.bool true) ?_
      simp only [nf0, nf1, nf2, nf3, nf4]
      refine st_mv (.bool true) ?_
      simp only [nf0, nf1, nf2, nf3, nf4]
      refine st_value (v := (.pointer (some ⟨g30, 3, none⟩))) (by rfl) (run_fieldA (.tmp 5) rfl d_fld_35_3 rfl rfl w48) ?_
      simp only [nf0, nf1, nf2, nf3, nf4]
      refine st_value (v := (.int .i32 ((insAt xs k).2.2.2))) (by rfl) (run_loadB (.tmp 103) rfl d_one_21 rfl B38 rfl) ?_
      simp only [nf0, nf1, nf2, nf3, nf4]
      refine st_value (v := (.bool false)) (by rfl) ((run_lss (.tmp 104) (.const (.int .i32 0)) rfl rfl rfl w48).trans (by rw [hg128])) ?_
      simp only [nf0, nf1, nf2, nf3, nf4]
      refine st_mv (.bool false) ?_
      simp only [nf0, nf1, nf2, nf3, nf4]
      refine st_value (v := (.pointer (some ⟨g30, 3, none⟩))) (by rfl) (run_fieldA (.tmp 5) rfl d_fld_35_3 rfl rfl w48) ?_
      simp only [nf0, nf1, nf2, nf3, nf4]
      refine st_value (v := (.int .i32 ((insAt xs k).2.2.2))) (by rfl) (run_loadB (.tmp 107) rfl d_one_21 rfl B38 rfl) ?_
      simp only [nf0, nf1, nf2, nf3, nf4]
      refine st_value (v := (.bool true)) (by rfl) ((run_gtr (.tmp 108) (.const (.int .i32 15)) rfl rfl rfl w48).trans (by rw [hg130])) ?_
      simp only [nf0, nf1, nf2, nf3, nf4]
      refine st_mv (.bool true) ?_
      simp only [nf0, nf1, nf2, nf3, nf4]
      refine st_mv (.bool true) ?_
      simp only [nf0, nf1, nf2, nf3, nf4]
      refine st_mv (.bool true) ?_
      simp only [nf0, nf1, nf2, nf3, nf4]
      refine st_nob (j := 11) (t := 112) (c := true) rfl rfl rfl rfl rfl ?_
      simp only [nf0, nf1, nf2, nf3, nf4]
      refine st_nob (j := 11) (t := 112) (c := true) rfl rfl rfl rfl rfl ?_
      simp only [nf0, nf1, nf2, nf3, nf4]
      refine st_nob (j := 11) (t := 112) (c := true) rfl rfl rfl rfl rfl ?_
      simp only [nf0, nf1, nf2, nf3, nf4]
      refine st_nob (j := 11) (t := 112) (c := true) rfl rfl rfl rfl rfl ?_
      simp only [nf0, nf1, nf2, nf3, nf4]
      refine st_nou (j := 15) (t := 116) rfl rfl rfl rfl ?_
      simp only [nf0, nf1, nf2, nf3, nf4]
      refine st_nou (j := 15) (t := 116) rfl rfl rfl rfl ?_
      simp only [nf0, nf1, nf2, nf3, nf4]
      refine st_nou (j := 15) (t := 116) rfl rfl rfl rfl ?_
      simp only [nf0, nf1, nf2, nf3, nf4]
      refine st_nob (j := 11) (t := 112) (c := true) rfl rfl rfl rfl rfl ?_
      simp only [nf0, nf1, nf2, nf3, nf4]
      refine st_mv (.bool true) ?_
      simp only [nf0, nf1, nf2, nf3, nf4]
      refine wpList_nil ?_
      show Code.wp _ _ _ _ _
      refine wp_cond_true rfl ?_
      refine wp_seq ?_
      refine wp_region_lit ?_
      refine st_mv (.int .i64 (k : Int)) ?_
      simp only [nf0, nf1, nf2, nf3, nf4]
      refine st_mv (.int .i64 26) ?_
      simp only [nf0, nf1, nf2, nf3, nf4]
      refine st_mv (.int .i64 (k : Int)) ?_
      simp only [nf0, nf1, nf2, nf3, nf4]
      refine wpList_nil ?_
      show Code.wp _ _ _ _ _
      refine wp_ret ?_
      first | show bodyPost _ _ _ _ _ _ | (simp only [Exit.then, Exit.inBlock]; show bodyPost _ _ _ _ _ _)
      have hr136 : regB (shA ((insAt xs k).1)) ((insAt xs k).2.1) = true := by have h_ := hg45; rw [badB_not] at h_; simpa using h_
      have hr137 : regB (shB ((insAt xs k).1)) ((insAt xs k).2.2.1) = true := by have h_ := hg50; rw [badB_not] at h_; simpa using h_
      have hnu : numE (insAt xs k).1 (insAt xs k).2.2.2 (xs.length : Int) = 26 := by unfold numE; (repeat' split) <;> omega
      have hi_ : insE (insAt xs k) (xs.length : Int) = 26 := by unfold insE; rw [if_pos (by omega), if_pos ⟨by assumption, by assumption⟩, hnu]
      have hE : chk pr xs = (26, (k : Int)) := by have h_ := chk_bad (pr := pr) (by omega) (by omega) hF hkl (by rw [hi_]; decide); rw [hi_] at h_; exact h_
      exact bodyPost_ret (results_tmp2 rfl _ _ _) rfl ⟨by rw [hE]; rfl, bel⟩
    have hp131 := of_decide_eq_false hg130
    refine wp_region_lit ?_
    refine st_mv (.bool true) ?_
    simp only [nf0, nf1, nf2, nf3, nf4]
    refine st_mv (.bool true) ?_
    simp only [nf0, nf1, nf2, nf3, nf4]
    refine st_value (v := (.pointer (some ⟨g30, 3, none⟩))) (by rfl) (run_fieldA (.tmp 5) rfl d_fld_35_3 rfl rfl w48) ?_
    simp only [nf0, nf1, nf2, nf3, nf4]
    refine st_value (v := (.int .i32 ((insAt xs k).2.2.2))) (by rfl) (run_loadB (.tmp 103) rfl d_one_21 rfl B38 rfl) ?_
    simp only [nf0, nf1, nf2, nf3, nf4]
    refine st_value (v := (.bool false)) (by rfl) ((run_lss (.tmp 104) (.const (.int .i32 0)) rfl rfl rfl w48).trans (by rw [hg128])) ?_
    simp only [nf0, nf1, nf2, nf3, nf4]
    refine st_mv (.bool false) ?_
    simp only [nf0, nf1, nf2, nf3, nf4]
    refine st_value (v := (.pointer (some ⟨g30, 3, none⟩))) (by rfl) (run_fieldA (.tmp 5) rfl d_fld_35_3 rfl rfl w48) ?_
    simp only [nf0, nf1, nf2, nf3, nf4]
    refine st_value (v := (.int .i32 ((insAt xs k).2.2.2))) (by rfl) (run_loadB (.tmp 107) rfl d_one_21 rfl B38 rfl) ?_
    simp only [nf0, nf1, nf2, nf3, nf4]
    refine st_value (v := (.bool false)) (by rfl) ((run_gtr (.tmp 108) (.const (.int .i32 15)) rfl rfl rfl w48).trans (by rw [hg130])) ?_
    simp only [nf0, nf1, nf2, nf3, nf4]
    refine st_mv (.bool false) ?_
    simp only [nf0, nf1, nf2, nf3, nf4]
    refine st_mv (.bool false) ?_
    simp only [nf0, nf1, nf2, nf3, nf4]
    refine st_mv (.bool false) ?_
    simp only [nf0, nf1, nf2, nf3, nf4]
    refine st_mv (.string (str (shp ((insAt xs k).1)))) ?_
    simp only [nf0, nf1, nf2, nf3, nf4]
    refine st_call1 (v := (.bool true)) (by rfl) (d_run_call_18_2 (.tmp 113) (.const (.int .u8 78)) rfl rfl rfl _) (show Calls _ _ _ _ fun e w' => e = .returned (.bool (true)) ∧ Below w48.heap.size w48 w' from by have h_ := hasC_calls (shp ((insAt xs k).1)) 78 (by have := (shp_has ((insAt xs k).1)).2.2.2; omega) w48; rw [(shp_has ((insAt xs k).1)).2.2.1, show shN ((insAt xs k).1) = true from decide_eq_true (by omega)] at h_; exact h_) ?_
    intro w132 hb133
    simp only [nf0, nf1, nf2, nf3, nf4]
    replace B3 := B3.below hb133
    replace B38 := B38.below hb133
    replace bel := bl_step bel hb133
    clear hb133
    refine st_value (v := (.bool false)) (by rfl) (run_not (.tmp 114) rfl (b := true) rfl w132) ?_
    simp only [nf0, nf1, nf2, nf3, nf4]
    refine st_mv (.bool false) ?_
    simp only [nf0, nf1, nf2, nf3, nf4]
    refine st_nob (j := 15) (t := 116) (c := false) rfl rfl rfl rfl rfl ?_
    simp only [nf0, nf1, nf2, nf3, nf4]
    refine st_nob (j := 15) (t := 116) (c := false) rfl rfl rfl rfl rfl ?_
    simp only [nf0, nf1, nf2, nf3, nf4]
    refine st_nob (j := 15) (t := 116) (c := false) rfl rfl rfl rfl rfl ?_
    simp only [nf0, nf1, nf2, nf3, nf4]
    refine st_mv (.bool false) ?_
    simp only [nf0, nf1, nf2, nf3, nf4]
    refine st_mv (.bool false) ?_
    simp only [nf0, nf1, nf2, nf3, nf4]
    refine wpList_nil ?_
    show Code.wp _ _ _ _ _
    refine wp_cond_false rfl ?_
    refine wp_skip ?_
    show Code.wp _ _ _ _ _
    refine wp_region_lit ?_
    refine st_value (v := (.int .i64 ((k : Int) + 1))) (by rfl) (run_add_in (.tmp 30) (.const (.int .i64 1)) rfl rfl rfl (by omega) w132) ?_
    simp only [nf0, nf1, nf2, nf3, nf4]
    refine st_mv (.int .i64 ((k : Int) + 1)) ?_
    simp only [nf0, nf1, nf2, nf3, nf4]
    refine wpList_nil ?_
    have hr133 : regB (shA ((insAt xs k).1)) ((insAt xs k).2.1) = true := by have h_ := hg45; rw [badB_not] at h_; simpa using h_
    have hr134 : regB (shB ((insAt xs k).1)) ((insAt xs k).2.2.1) = true := by have h_ := hg50; rw [badB_not] at h_; simpa using h_
    have hnu : numE (insAt xs k).1 (insAt xs k).2.2.2 (xs.length : Int) = 0 := by unfold numE; (repeat' split) <;> omega
    have hi_ : insE (insAt xs k) (xs.length : Int) = 0 := by unfold insE; rw [if_pos (by omega), if_pos ⟨by assumption, by assumption⟩, hnu]
    show ∃ m, m < _ ∧ _
    exact ⟨_, (by omega), (k + 1), rfl, rfl, B3, bel, (by omega), (by rw [hF, firstE_step (by omega), if_pos hi_])⟩
  have hp57 := of_decide_eq_false hg56
  cases hg58 : decide (((insAt xs k).1) = 9)
  rotate_left
  · have hp112 := of_decide_eq_true hg58
    refine wp_region_lit ?_
    refine st_value (v := (.pointer (some ⟨g30, 0, none⟩))) (by rfl) (run_fieldA (.tmp 5) rfl d_fld_35_0 rfl rfl w48) ?_
    simp only [nf0, nf1, nf2, nf3, nf4]
    refine st_value (v := (.int .i64 ((insAt xs k).1))) (by rfl) (run_loadB (.tmp 83) rfl d_one_3 rfl B38 rfl) ?_
    simp only [nf0, nf1, nf2, nf3, nf4]
    refine st_value (v := (.bool false)) (by rfl) ((run_eql_int (.tmp 84) (.const (.int .i64 7)) rfl rfl rfl w48).trans (by rw [hg56])) ?_
    simp only [nf0, nf1, nf2, nf3, nf4]
    refine st_mv (.bool false) ?_
    simp only [nf0, nf1, nf2, nf3, nf4]
    refine st_value (v := (.pointer (some ⟨g30, 0, none⟩))) (by rfl) (run_fieldA (.tmp 5) rfl d_fld_35_0 rfl rfl w48) ?_
    simp only [nf0, nf1, nf2, nf3, nf4]
    refine st_value (v := (.int .i64 ((insAt xs k).1))) (by rfl) (run_loadB (.tmp 87) rfl d_one_3 rfl B38 rfl) ?_
    simp only [nf0, nf1, nf2, nf3, nf4]
    refine st_value (v := (.bool true)) (by rfl) ((run_eql_int (.tmp 88) (.const (.int .i64 9)) rfl rfl rfl w48).trans (by rw [hg58])) ?_
    simp only [nf0, nf1, nf2, nf3, nf4]
    refine st_mv (.bool true) ?_
    simp only [nf0, nf1, nf2, nf3, nf4]
    refine st_mv (.bool true) ?_
    simp only [nf0, nf1, nf2, nf3, nf4]
    refine st_nob (j := 8) (t := 91) (c := true) rfl rfl rfl rfl rfl ?_
    simp only [nf0, nf1, nf2, nf3, nf4]
    refine st_nob (j := 8) (t := 91) (c := true) rfl rfl rfl rfl rfl ?_
    simp only [nf0, nf1, nf2, nf3, nf4]
    refine st_nob (j := 8) (t := 91) (c := true) rfl rfl rfl rfl rfl ?_
    simp only [nf0, nf1, nf2, nf3, nf4]
    refine st_mv (.bool true) ?_
    simp only [nf0, nf1, nf2, nf3, nf4]
    refine st_mv (.bool true) ?_
    simp only [nf0, nf1, nf2, nf3, nf4]
    refine st_nob (j := 13) (t := 96) (c := true) rfl rfl rfl rfl rfl ?_
    simp only [nf0, nf1, nf2, nf3, nf4]
    refine st_nob (j := 13) (t := 96) (c := true) rfl rfl rfl rfl rfl ?_
    simp only [nf0, nf1, nf2, nf3, nf4]
    refine st_nob (j := 13) (t := 96) (c := true) rfl rfl rfl rfl rfl ?_
    simp only [nf0, nf1, nf2, nf3, nf4]
    refine st_mv (.bool true) ?_
    simp only [nf0, nf1, nf2, nf3, nf4]
    refine st_mv (.bool true) ?_
    simp only [nf0, nf1, nf2, nf3, nf4]
    refine wpList_nil ?_
    show Code.wp _ _ _ _ _
    refine wp_seq ?_
    cases hg113 : decide (((insAt xs k).2.2.2) < 0)
    rotate_left
    · have hp124 := of_decide_eq_true hg113
      refine wp_region_lit ?_
      refine st_mv (.bool true) ?_
      simp only [nf0, nf1, nf2, nf3, nf4]
      refine st_mv (.bool true) ?_
      simp only [nf0, nf1, nf2, nf3, nf4]
      refine st_value (v := (.pointer (some ⟨g30, 3, none⟩))) (by rfl) (run_fieldA (.tmp 5) rfl d_fld_35_3 rfl rfl w48) ?_
      simp only [nf0, nf1, nf2, nf3, nf4]
      refine st_value (v := (.int .i32 ((insAt xs k).2.2.2))) (by rfl) (run_loadB (.tmp 103) rfl d_one_21 rfl B38 rfl) ?_
      simp only [nf0, nf1, nf2, nf3, nf4]
      refine st_value (v := (.bool true)) (by rfl) ((run_lss (.tmp 104) (.const (.int .i32 0)) rfl rfl rfl w48).trans (by rw [hg113])) ?_
      simp only [nf0, nf1, nf2, nf3, nf4]
      refine st_mv (.bool true) ?_
      simp only [nf0, nf1, nf2, nf3, nf4]
      refine st_nob (j := 5) (t := 106) (c := true) rfl rfl rfl rfl rfl ?_
      simp only [nf0, nf1, nf2, nf3, nf4]
      refine st_nob (j := 5) (t := 106) (c := true) rfl rfl rfl rfl rfl ?_
      simp only [nf0, nf1, nf2, nf3, nf4]
      refine st_nob (j := 5) (t := 106) (c := true) rfl rfl rfl rfl rfl ?_
      simp only [nf0, nf1, nf2, nf3, nf4]
      refine st_mv (.bool true) ?_
      simp only [nf0, nf1, nf2, nf3, nf4]
      refine st_mv (.bool true) ?_
      simp only [nf0, nf1, nf2, nf3, nf4]
      refine st_mv (.bool true) ?_
      simp only [nf0, nf1, nf2, nf3, nf4]
      refine st_nob (j := 11) (t := 112) (c := true) rfl rfl rfl rfl rfl ?_
      simp only [nf0, nf1, nf2, nf3, nf4]
      refine st_nob (j := 11) (t := 112) (c := true) rfl rfl rfl rfl rfl ?_
      simp only [nf0, nf1, nf2, nf3, nf4]
      refine st_nob (j := 11) (t := 112) (c := true) rfl rfl rfl rfl rfl ?_
      simp only [nf0, nf1, nf2, nf3, nf4]
      refine st_nob (j := 11) (t := 112) (c := true) rfl rfl rfl rfl rfl ?_
      simp only [nf0, nf1, nf2, nf3, nf4]
      refine st_nou (j := 15) (t := 116) rfl rfl rfl rfl ?_
      simp only [nf0, nf1, nf2, nf3, nf4]
      refine st_nou (j := 15) (t := 116) rfl rfl rfl rfl ?_
      simp only [nf0, nf1, nf2, nf3, nf4]
      refine st_nou (j := 15) (t := 116) rfl rfl rfl rfl ?_
      simp only [nf0, nf1, nf2, nf3, nf4]
      refine st_nob (j := 11) (t := 112) (c := true) rfl rfl rfl rfl rfl ?_
      simp only [nf0, nf1, nf2, nf3, nf4]
      refine st_mv (.bool true) ?_
      simp only [nf0, nf1, nf2, nf3, nf4]
      refine wpList_nil ?_
      show Code.wp _ _ _ _ _
      refine wp_cond_true rfl ?_
      refine wp_seq ?_
      refine wp_region_lit ?_
      refine st_mv (.int .i64 (k : Int)) ?_
      simp only [nf0, nf1, nf2, nf3, nf4]
      refine st_mv (.int .i64 26) ?_
      simp only [nf0, nf1, nf2, nf3, nf4]
      refine st_mv (.int .i64 (k : Int)) ?_
      simp only [nf0, nf1, nf2, nf3, nf4]
      refine wpList_nil ?_
      show Code.wp _ _ _ _ _
      refine wp_ret ?_
      first | show bodyPost _ _ _ _ _ _ | (simp only [Exit.then, Exit.inBlock]; show bodyPost _ _ _ _ _ _)
      have hr124 : regB (shA ((insAt xs k).1)) ((insAt xs k).2.1) = true := by have h_ := hg45; rw [badB_not] at h_; simpa using h_
      have hr125 : regB (shB ((insAt xs k).1)) ((insAt xs k).2.2.1) = true := by have h_ := hg50; rw [badB_not] at h_; simpa using h_
      have hnu : numE (insAt xs k).1 (insAt xs k).2.2.2 (xs.length : Int) = 26 := by unfold numE; (repeat' split) <;> omega
      have hi_ : insE (insAt xs k) (xs.length : Int) = 26 := by unfold insE; rw [if_pos (by omega), if_pos ⟨by assumption, by assumption⟩, hnu]
      have hE : chk pr xs = (26, (k : Int)) := by have h_ := chk_bad (pr := pr) (by omega) (by omega) hF hkl (by rw [hi_]; decide); rw [hi_] at h_; exact h_
      exact bodyPost_ret (results_tmp2 rfl _ _ _) rfl ⟨by rw [hE]; rfl, bel⟩
    have hp114 := of_decide_eq_false hg113
    cases hg115 : decide (15 < ((insAt xs k).2.2.2))
    rotate_left
    · have hp121 := of_decide_eq_true hg115
      refine wp_region_lit ?_
      refine st_mv (.bool true) ?_
      simp only [nf0, nf1, nf2, nf3, nf4]
      refine st_mv (.bool true) ?_
      simp only [nf0, nf1, nf2, nf3, nf4]
      refine st_value (v := (.pointer (some ⟨g30, 3, none⟩))) (by rfl) (run_fieldA (.tmp 5) rfl d_fld_35_3 rfl rfl w48) ?_
      simp only [nf0, nf1, nf2, nf3, nf4]
      refine st_value (v := (.int .i32 ((insAt xs k).2.2.2))) (by rfl) (run_loadB (.tmp 103) rfl d_one_21 rfl B38 rfl) ?_
      simp only [nf0, nf1, nf2, nf3, nf4]
      refine st_value (v := (.bool false)) (by rfl) ((run_lss (.tmp 104) (.const (.int .i32 0)) rfl rfl rfl w48).trans (by rw [hg113])) ?_
      simp only [nf0, nf1, nf2, nf3, nf4]
      refine st_mv (.bool false) ?_
      simp only [nf0, nf1, nf2, nf3, nf4]
      refine st_value (v := (.pointer (some ⟨g30, 3, none⟩))) (by rfl) (run_fieldA (.tmp 5) rfl d_fld_35_3 rfl rfl w48) ?_
      simp only [nf0, nf1, nf2, nf3, nf4]
      refine st_value (v := (.int .i32 ((insAt xs k).2.2.2))) (by rfl) (run_loadB (.tmp 107) rfl d_one_21 rfl B38 rfl) ?_
      simp only [nf0, nf1, nf2, nf3, nf4]
      refine st_value (v := (.bool true)) (by rfl) ((run_gtr (.tmp 108) (.const (.int .i32 15)) rfl rfl rfl w48).trans (by rw [hg115])) ?_
      simp only [nf0, nf1, nf2, nf3, nf4]
      refine st_mv (.bool true) ?_
      simp only [nf0, nf1, nf2, nf3, nf4]
      refine st_mv (.bool true) ?_
      simp only [nf0, nf1, nf2, nf3, nf4]
      refine st_mv (.bool true) ?_
      simp only [nf0, nf1, nf2, nf3, nf4]
      refine st_nob (j := 11) (t := 112) (c := true) rfl rfl rfl rfl rfl ?_
      simp only [nf0, nf1, nf2, nf3, nf4]
      refine st_nob (j := 11) (t := 112) (c := true) rfl rfl rfl rfl rfl ?_
      simp only [nf0, nf1, nf2, nf3, nf4]
      refine st_nob (j := 11) (t := 112) (c := true) rfl rfl rfl rfl rfl ?_
      simp only [nf0, nf1, nf2, nf3, nf4]
      refine st_nob (j := 11) (t := 112) (c := true) rfl rfl rfl rfl rfl ?_
      simp only [nf0, nf1, nf2, nf3, nf4]
      refine st_nou (j := 15) (t := 116) rfl rfl rfl rfl ?_
      simp only [nf0, nf1, nf2, nf3, nf4]
      refine st_nou (j := 15) (t := 116) rfl rfl rfl rfl ?_
      simp only [nf0, nf1, nf2, nf3, nf4]
      refine st_nou (j := 15) (t := 116) rfl rfl rfl rfl ?_
      simp only [nf0, nf1, nf2, nf3, nf4]
      refine st_nob (j := 11) (t := 112) (c := true) rfl rfl rfl rfl rfl ?_
      simp only [nf0, nf1, nf2, nf3, nf4]
      refine st_mv (.bool true) ?_
      simp only [nf0, nf1, nf2, nf3, nf4]
      refine wpList_nil ?_
      show Code.wp _ _ _ _ _
      refine wp_cond_true rfl ?_
      refine wp_seq ?_
      refine wp_region_lit ?_
      refine st_mv (.int .i64 (k : Int)) ?_
      simp only [nf0, nf1, nf2, nf3, nf4]
      refine st_mv (.int .i64 26) ?_
      simp only [nf0, nf1, nf2, nf3, nf4]
      refine st_mv (.int .i64 (k : Int)) ?_
      simp only [nf0, nf1, nf2, nf3, nf4]
      refine wpList_nil ?_
      show Code.wp _ _ _ _ _
      refine wp_ret ?_
      first | show bodyPost _ _ _ _ _ _ | (simp only [Exit.then, Exit.inBlock]; show bodyPost _ _ _ _ _ _)
      have hr121 : regB (shA ((insAt xs k).1)) ((insAt xs k).2.1) = true := by have h_ := hg45; rw [badB_not] at h_; simpa using h_
      have hr122 : regB (shB ((insAt xs k).1)) ((insAt xs k).2.2.1) = true := by have h_ := hg50; rw [badB_not] at h_; simpa using h_
      have hnu : numE (insAt xs k).1 (insAt xs k).2.2.2 (xs.length : Int) = 26 := by unfold numE; (repeat' split) <;> omega
      have hi_ : insE (insAt xs k) (xs.length : Int) = 26 := by unfold insE; rw [if_pos (by omega), if_pos ⟨by assumption, by assumption⟩, hnu]
      have hE : chk pr xs = (26, (k : Int)) := by have h_ := chk_bad (pr := pr) (by omega) (by omega) hF hkl (by rw [hi_]; decide); rw [hi_] at h_; exact h_
      exact bodyPost_ret (results_tmp2 rfl _ _ _) rfl ⟨by rw [hE]; rfl, bel⟩
    have hp116 := of_decide_eq_false hg115
    refine wp_region_lit ?_
    refine st_mv (.bool true) ?_
    simp only [nf0, nf1, nf2, nf3, nf4]
    refine st_mv (.bool true) ?_
    simp only [nf0, nf1, nf2, nf3, nf4]
    refine st_value (v := (.pointer (some ⟨g30, 3, none⟩))) (by rfl) (run_fieldA (.tmp 5) rfl d_fld_35_3 rfl rfl w48) ?_
    simp only [nf0, nf1, nf2, nf3, nf4]
    refine st_value (v := (.int .i32 ((insAt xs k).2.2.2))) (by rfl) (run_loadB (.tmp 103) rfl d_one_21 rfl B38 rfl) ?_
    simp only [nf0, nf1, nf2, nf3, nf4]
    refine st_value (v := (.bool false)) (by rfl) ((run_lss (.tmp 104) (.const (.int .i32 0)) rfl rfl rfl w48).trans (by rw [hg113])) ?_
    simp only [nf0, nf1, nf2, nf3, nf4]
    refine st_mv (.bool false) ?_
    simp only [nf0, nf1, nf2, nf3, nf4]
    refine st_value (v := (.pointer (some ⟨g30, 3, none⟩))) (by rfl) (run_fieldA (.tmp 5) rfl d_fld_35_3 rfl rfl w48) ?_
    simp only [nf0, nf1, nf2, nf3, nf4]
    refine st_value (v := (.int .i32 ((insAt xs k).2.2.2))) (by rfl) (run_loadB (.tmp 107) rfl d_one_21 rfl B38 rfl) ?_
    simp only [nf0, nf1, nf2, nf3, nf4]
    refine st_value (v := (.bool false)) (by rfl) ((run_gtr (.tmp 108) (.const (.int .i32 15)) rfl rfl rfl w48).trans (by rw [hg115])) ?_
    simp only [nf0, nf1, nf2, nf3, nf4]
    refine st_mv (.bool false) ?_
    simp only [nf0, nf1, nf2, nf3, nf4]
    refine st_mv (.bool false) ?_
    simp only [nf0, nf1, nf2, nf3, nf4]
    refine st_mv (.bool false) ?_
    simp only [nf0, nf1, nf2, nf3, nf4]
    refine st_mv (.string (str (shp ((insAt xs k).1)))) ?_
    simp only [nf0, nf1, nf2, nf3, nf4]
    refine st_call1 (v := (.bool true)) (by rfl) (d_run_call_18_2 (.tmp 113) (.const (.int .u8 78)) rfl rfl rfl _) (show Calls _ _ _ _ fun e w' => e = .returned (.bool (true)) ∧ Below w48.heap.size w48 w' from by have h_ := hasC_calls (shp ((insAt xs k).1)) 78 (by have := (shp_has ((insAt xs k).1)).2.2.2; omega) w48; rw [(shp_has ((insAt xs k).1)).2.2.1, show shN ((insAt xs k).1) = true from decide_eq_true (by omega)] at h_; exact h_) ?_
    intro w117 hb118
    simp only [nf0, nf1, nf2, nf3, nf4]
    replace B3 := B3.below hb118
    replace B38 := B38.below hb118
    replace bel := bl_step bel hb118
    clear hb118
    refine st_value (v := (.bool false)) (by rfl) (run_not (.tmp 114) rfl (b := true) rfl w117) ?_
    simp only [nf0, nf1, nf2, nf3, nf4]
    refine st_mv (.bool false) ?_
    simp only [nf0, nf1, nf2, nf3, nf4]
    refine st_nob (j := 15) (t := 116) (c := false) rfl rfl rfl rfl rfl ?_
    simp only [nf0, nf1, nf2, nf3, nf4]
    refine st_nob (j := 15) (t := 116) (c := false) rfl rfl rfl rfl rfl ?_
    simp only [nf0, nf1, nf2, nf3, nf4]
    refine st_nob (j := 15) (t := 116) (c := false) rfl rfl rfl rfl rfl ?_
    simp only [nf0, nf1, nf2, nf3, nf4]
    refine st_mv (.bool false) ?_
    simp only [nf0, nf1, nf2, nf3, nf4]
    refine st_mv (.bool false) ?_
    simp only [nf0, nf1, nf2, nf3, nf4]
    refine wpList_nil ?_
    show Code.wp _ _ _ _ _
    refine wp_cond_false rfl ?_
    refine wp_skip ?_
    show Code.wp _ _ _ _ _
    refine wp_region_lit ?_
    refine st_value (v := (.int .i64 ((k : Int) + 1))) (by rfl) (run_add_in (.tmp 30) (.const (.int .i64 1)) rfl rfl rfl (by omega) w117) ?_
    simp only [nf0, nf1, nf2, nf3, nf4]
    refine st_mv (.int .i64 ((k : Int) + 1)) ?_
    simp only [nf0, nf1, nf2, nf3, nf4]
    refine wpList_nil ?_
    have hr118 : regB (shA ((insAt xs k).1)) ((insAt xs k).2.1) = true := by have h_ := hg45; rw [badB_not] at h_; simpa using h_
    have hr119 : regB (shB ((insAt xs k).1)) ((insAt xs k).2.2.1) = true := by have h_ := hg50; rw [badB_not] at h_; simpa using h_
    have hnu : numE (insAt xs k).1 (insAt xs k).2.2.2 (xs.length : Int) = 0 := by unfold numE; (repeat' split) <;> omega
    have hi_ : insE (insAt xs k) (xs.length : Int) = 0 := by unfold insE; rw [if_pos (by omega), if_pos ⟨by assumption, by assumption⟩, hnu]
    show ∃ m, m < _ ∧ _
    exact ⟨_, (by omega), (k + 1), rfl, rfl, B3, bel, (by omega), (by rw [hF, firstE_step (by omega), if_pos hi_])⟩
  have hp59 := of_decide_eq_false hg58
  cases hg60 : decide (((insAt xs k).1) = 10)
  rotate_left
  · have hp97 := of_decide_eq_true hg60
    refine wp_region_lit ?_
    refine st_value (v := (.pointer (some ⟨g30, 0, none⟩))) (by rfl) (run_fieldA (.tmp 5) rfl d_fld_35_0 rfl rfl w48) ?_
    simp only [nf0, nf1, nf2, nf3, nf4]
    refine st_value (v := (.int .i64 ((insAt xs k).1))) (by rfl) (run_loadB (.tmp 83) rfl d_one_3 rfl B38 rfl) ?_
    simp only [nf0, nf1, nf2, nf3, nf4]
    refine st_value (v := (.bool false)) (by rfl) ((run_eql_int (.tmp 84) (.const (.int .i64 7)) rfl rfl rfl w48).trans (by rw [hg56])) ?_
    simp only [nf0, nf1, nf2, nf3, nf4]
    refine st_mv (.bool false) ?_
    simp only [nf0, nf1, nf2, nf3, nf4]
    refine st_value (v := (.pointer (some ⟨g30, 0, none⟩))) (by rfl) (run_fieldA (.tmp 5) rfl d_fld_35_0 rfl rfl w48) ?_
    simp only [nf0, nf1, nf2, nf3, nf4]
    refine st_value (v := (.int .i64 ((insAt xs k).1))) (by rfl) (run_loadB (.tmp 87) rfl d_one_3 rfl B38 rfl) ?_
    simp only [nf0, nf1, nf2, nf3, nf4]
    refine st_value (v := (.bool false)) (by rfl) ((run_eql_int (.tmp 88) (.const (.int .i64 9)) rfl rfl rfl w48).trans (by rw [hg58])) ?_
    simp only [nf0, nf1, nf2, nf3, nf4]
    refine st_mv (.bool false) ?_
    simp only [nf0, nf1, nf2, nf3, nf4]
    refine st_mv (.bool false) ?_
    simp only [nf0, nf1, nf2, nf3, nf4]
    refine st_value (v := (.pointer (some ⟨g30, 0, none⟩))) (by rfl) (run_fieldA (.tmp 5) rfl d_fld_35_0 rfl rfl w48) ?_
    simp only [nf0, nf1, nf2, nf3, nf4]
    refine st_value (v := (.int .i64 ((insAt xs k).1))) (by rfl) (run_loadB (.tmp 92) rfl d_one_3 rfl B38 rfl) ?_
    simp only [nf0, nf1, nf2, nf3, nf4]
    refine st_value (v := (.bool true)) (by rfl) ((run_eql_int (.tmp 93) (.const (.int .i64 10)) rfl rfl rfl w48).trans (by rw [hg60])) ?_
    simp only [nf0, nf1, nf2, nf3, nf4]
    refine st_mv (.bool true) ?_
    simp only [nf0, nf1, nf2, nf3, nf4]
    refine st_mv (.bool true) ?_
    simp only [nf0, nf1, nf2, nf3, nf4]
    refine st_nob (j := 13) (t := 96) (c := true) rfl rfl rfl rfl rfl ?_
    simp only [nf0, nf1, nf2, nf3, nf4]
    refine st_nob (j := 13) (t := 96) (c := true) rfl rfl rfl rfl rfl ?_
    simp only [nf0, nf1, nf2, nf3, nf4]
    refine st_nob (j := 13) (t := 96) (c := true) rfl rfl rfl rfl rfl ?_
    simp only [nf0, nf1, nf2, nf3, nf4]
    refine st_mv (.bool true) ?_
    simp only [nf0, nf1, nf2, nf3, nf4]
    refine st_mv (.bool true) ?_
    simp only [nf0, nf1, nf2, nf3, nf4]
    refine wpList_nil ?_
    show Code.wp _ _ _ _ _
    refine wp_seq ?_
    cases hg98 : decide (((insAt xs k).2.2.2) < 0)
    rotate_left
    · have hp109 := of_decide_eq_true hg98
      refine wp_region_lit ?_
      refine st_mv (.bool true) ?_
      simp only [nf0, nf1, nf2, nf3, nf4]
      refine st_mv (.bool true) ?_
      simp only [nf0, nf1, nf2, nf3, nf4]
      refine st_value (v := (.pointer (some ⟨g30, 3, none⟩))) (by rfl) (run_fieldA (.tmp 5) rfl d_fld_35_3 rfl rfl w48) ?_
      simp only [nf0, nf1, nf2, nf3, nf4]
      refine st_value (v := (.int .i32 ((insAt xs k).2.2.2))) (by rfl) (run_loadB (.tmp 103) rfl d_one_21 rfl B38 rfl) ?_
      simp only [nf0, nf1, nf2, nf3, nf4]
      refine st_value (v := (.bool true)) (by rfl) ((run_lss (.tmp 104) (.const (.int .i32 0)) rfl rfl rfl w48).trans (by rw [hg98])) ?_
      simp only [nf0, nf1, nf2, nf3, nf4]
      refine st_mv (.bool true) ?_
      simp only [nf0, nf1, nf2, nf3, nf4]
      refine st_nob (j := 5) (t := 106) (c := true) rfl rfl rfl rfl rfl ?_
      simp only [nf0, nf1, nf2, nf3, nf4]
      refine st_nob (j := 5) (t := 106) (c := true) rfl rfl rfl rfl rfl ?_
      simp only [nf0, nf1, nf2, nf3, nf4]
      refine st_nob (j := 5) (t := 106) (c := true) rfl rfl rfl rfl rfl ?_
      simp only [nf0, nf1, nf2, nf3, nf4]
      refine st_mv (.bool true) ?_
      simp only [nf0, nf1, nf2, nf3, nf4]
      refine st_mv (.bool true) ?_
      simp only [nf0, nf1, nf2, nf3, nf4]
      refine st_mv (.bool true) ?_
      simp only [nf0, nf1, nf2, nf3, nf4]
      refine st_nob (j := 11) (t := 112) (c := true) rfl rfl rfl rfl rfl ?_
      simp only [nf0, nf1, nf2, nf3, nf4]
      refine st_nob (j := 11) (t := 112) (c := true) rfl rfl rfl rfl rfl ?_
      simp only [nf0, nf1, nf2, nf3, nf4]
      refine st_nob (j := 11) (t := 112) (c := true) rfl rfl rfl rfl rfl ?_
      simp only [nf0, nf1, nf2, nf3, nf4]
      refine st_nob (j := 11) (t := 112) (c := true) rfl rfl rfl rfl rfl ?_
      simp only [nf0, nf1, nf2, nf3, nf4]
      refine st_nou (j := 15) (t := 116) rfl rfl rfl rfl ?_
      simp only [nf0, nf1, nf2, nf3, nf4]
      refine st_nou (j := 15) (t := 116) rfl rfl rfl rfl ?_
      simp only [nf0, nf1, nf2, nf3, nf4]
      refine st_nou (j := 15) (t := 116) rfl rfl rfl rfl ?_
      simp only [nf0, nf1, nf2, nf3, nf4]
      refine st_nob (j := 11) (t := 112) (c := true) rfl rfl rfl rfl rfl ?_
      simp only [nf0, nf1, nf2, nf3, nf4]
      refine st_mv (.bool true) ?_
      simp only [nf0, nf1, nf2, nf3, nf4]
      refine wpList_nil ?_
      show Code.wp _ _ _ _ _
      refine wp_cond_true rfl ?_
      refine wp_seq ?_
      refine wp_region_lit ?_
      refine st_mv (.int .i64 (k : Int)) ?_
      simp only [nf0, nf1, nf2, nf3, nf4]
      refine st_mv (.int .i64 26) ?_
      simp only [nf0, nf1, nf2, nf3, nf4]
      refine st_mv (.int .i64 (k : Int)) ?_
      simp only [nf0, nf1, nf2, nf3, nf4]
      refine wpList_nil ?_
      show Code.wp _ _ _ _ _
      refine wp_ret ?_
      first | show bodyPost _ _ _ _ _ _ | (simp only [Exit.then, Exit.inBlock]; show bodyPost _ _ _ _ _ _)
      have hr109 : regB (shA ((insAt xs k).1)) ((insAt xs k).2.1) = true := by have h_ := hg45; rw [badB_not] at h_; simpa using h_
      have hr110 : regB (shB ((insAt xs k).1)) ((insAt xs k).2.2.1) = true := by have h_ := hg50; rw [badB_not] at h_; simpa using h_
      have hnu : numE (insAt xs k).1 (insAt xs k).2.2.2 (xs.length : Int) = 26 := by unfold numE; (repeat' split) <;> omega
      have hi_ : insE (insAt xs k) (xs.length : Int) = 26 := by unfold insE; rw [if_pos (by omega), if_pos ⟨by assumption, by assumption⟩, hnu]
      have hE : chk pr xs = (26, (k : Int)) := by have h_ := chk_bad (pr := pr) (by omega) (by omega) hF hkl (by rw [hi_]; decide); rw [hi_] at h_; exact h_
      exact bodyPost_ret (results_tmp2 rfl _ _ _) rfl ⟨by rw [hE]; rfl, bel⟩
    have hp99 := of_decide_eq_false hg98
    cases hg100 : decide (15 < ((insAt xs k).2.2.2))
    rotate_left
    · have hp106 := of_decide_eq_true hg100
      refine wp_region_lit ?_
      refine st_mv (.bool true) ?_
      simp only [nf0, nf1, nf2, nf3, nf4]
      refine st_mv (.bool true) ?_
      simp only [nf0, nf1, nf2, nf3, nf4]
      refine st_value (v := (.pointer (some ⟨g30, 3, none⟩))) (by rfl) (run_fieldA (.tmp 5) rfl d_fld_35_3 rfl rfl w48) ?_
      simp only [nf0, nf1, nf2, nf3, nf4]
      refine st_value (v := (.int .i32 ((insAt xs k).2.2.2))) (by rfl) (run_loadB (.tmp 103) rfl d_one_21 rfl B38 rfl) ?_
      simp only [nf0, nf1, nf2, nf3, nf4]
      refine st_value (v := (.bool false)) (by rfl) ((run_lss (.tmp 104) (.const (.int .i32 0)) rfl rfl rfl w48).trans (by rw [hg98])) ?_
      simp only [nf0, nf1, nf2, nf3, nf4]
      refine st_mv (.bool false) ?_
      simp only [nf0, nf1, nf2, nf3, nf4]
      refine st_value (v := (.pointer (some ⟨g30, 3, none⟩))) (by rfl) (run_fieldA (.tmp 5) rfl d_fld_35_3 rfl rfl w48) ?_
      simp only [nf0, nf1, nf2, nf3, nf4]
      refine st_value (v := (.int .i32 ((insAt xs k).2.2.2))) (by rfl) (run_loadB (.tmp 107) rfl d_one_21 rfl B38 rfl) ?_
      simp only [nf0, nf1, nf2, nf3, nf4]
      refine st_value (v := (.bool true)) (by rfl) ((run_gtr (.tmp 108) (.const (.int .i32 15)) rfl rfl rfl w48).trans (by rw [hg100])) ?_
      simp only [nf0, nf1, nf2, nf3, nf4]
      refine st_mv (.bool true) ?_
      simp only [nf0, nf1, nf2, nf3, nf4]
      refine st_mv (.bool true) ?_
      simp only [nf0, nf1, nf2, nf3, nf4]
      refine st_mv (.bool true) ?_
      simp only [nf0, nf1, nf2, nf3, nf4]
      refine st_nob (j := 11) (t := 112) (c := true) rfl rfl rfl rfl rfl ?_
      simp only [nf0, nf1, nf2, nf3, nf4]
      refine st_nob (j := 11) (t := 112) (c := true) rfl rfl rfl rfl rfl ?_
      simp only [nf0, nf1, nf2, nf3, nf4]
      refine st_nob (j := 11) (t := 112) (c := true) rfl rfl rfl rfl rfl ?_
      simp only [nf0, nf1, nf2, nf3, nf4]
      refine st_nob (j := 11) (t := 112) (c := true) rfl rfl rfl rfl rfl ?_
      simp only [nf0, nf1, nf2, nf3, nf4]
      refine st_nou (j := 15) (t := 116) rfl rfl rfl rfl ?_
      simp only [nf0, nf1, nf2, nf3, nf4]
      refine st_nou (j := 15) (t := 116) rfl rfl rfl rfl ?_
      simp only [nf0, nf1, nf2, nf3, nf4]
      refine st_nou (j := 15) (t := 116) rfl rfl rfl rfl ?_
      simp only [nf0, nf1, nf2, nf3, nf4]
      refine st_nob (j := 11) (t := 112) (c := true) rfl rfl rfl rfl rfl ?_
      simp only [nf0, nf1, nf2, nf3, nf4]
      refine st_mv (.bool true) ?_
      simp only [nf0, nf1, nf2, nf3, nf4]
      refine wpList_nil ?_
      show Code.wp _ _ _ _ _
      refine wp_cond_true rfl ?_
      refine wp_seq ?_
      refine wp_region_lit ?_
      refine st_mv (.int .i64 (k : Int)) ?_
      simp only [nf0, nf1, nf2, nf3, nf4]
      refine st_mv (.int .i64 26) ?_
      simp only [nf0, nf1, nf2, nf3, nf4]
      refine st_mv (.int .i64 (k : Int)) ?_
      simp only [nf0, nf1, nf2, nf3, nf4]
      refine wpList_nil ?_
      show Code.wp _ _ _ _ _
      refine wp_ret ?_
      first | show bodyPost _ _ _ _ _ _ | (simp only [Exit.then, Exit.inBlock]; show bodyPost _ _ _ _ _ _)
      have hr106 : regB (shA ((insAt xs k).1)) ((insAt xs k).2.1) = true := by have h_ := hg45; rw [badB_not] at h_; simpa using h_
      have hr107 : regB (shB ((insAt xs k).1)) ((insAt xs k).2.2.1) = true := by have h_ := hg50; rw [badB_not] at h_; simpa using h_
      have hnu : numE (insAt xs k).1 (insAt xs k).2.2.2 (xs.length : Int) = 26 := by unfold numE; (repeat' split) <;> omega
      have hi_ : insE (insAt xs k) (xs.length : Int) = 26 := by unfold insE; rw [if_pos (by omega), if_pos ⟨by assumption, by assumption⟩, hnu]
      have hE : chk pr xs = (26, (k : Int)) := by have h_ := chk_bad (pr := pr) (by omega) (by omega) hF hkl (by rw [hi_]; decide); rw [hi_] at h_; exact h_
      exact bodyPost_ret (results_tmp2 rfl _ _ _) rfl ⟨by rw [hE]; rfl, bel⟩
    have hp101 := of_decide_eq_false hg100
    refine wp_region_lit ?_
    refine st_mv (.bool true) ?_
    simp only [nf0, nf1, nf2, nf3, nf4]
    refine st_mv (.bool true) ?_
    simp only [nf0, nf1, nf2, nf3, nf4]
    refine st_value (v := (.pointer (some ⟨g30, 3, none⟩))) (by rfl) (run_fieldA (.tmp 5) rfl d_fld_35_3 rfl rfl w48) ?_
    simp only [nf0, nf1, nf2, nf3, nf4]
    refine st_value (v := (.int .i32 ((insAt xs k).2.2.2))) (by rfl) (run_loadB (.tmp 103) rfl d_one_21 rfl B38 rfl) ?_
    simp only [nf0, nf1, nf2, nf3, nf4]
    refine st_value (v := (.bool false)) (by rfl) ((run_lss (.tmp 104) (.const (.int .i32 0)) rfl rfl rfl w48).trans (by rw [hg98])) ?_
    simp only [nf0, nf1, nf2, nf3, nf4]
    refine st_mv (.bool false) ?_
    simp only [nf0, nf1, nf2, nf3, nf4]
    refine st_value (v := (.pointer (some ⟨g30, 3, none⟩))) (by rfl) (run_fieldA (.tmp 5) rfl d_fld_35_3 rfl rfl w48) ?_
    simp only [nf0, nf1, nf2, nf3, nf4]
    refine st_value (v := (.int .i32 ((insAt xs k).2.2.2))) (by rfl) (run_loadB (.tmp 107) rfl d_one_21 rfl B38 rfl) ?_
    simp only [nf0, nf1, nf2, nf3, nf4]
    refine st_value (v := (.bool false)) (by rfl) ((run_gtr (.tmp 108) (.const (.int .i32 15)) rfl rfl rfl w48).trans (by rw [hg100])) ?_
    simp only [nf0, nf1, nf2, nf3, nf4]
    refine st_mv (.bool false) ?_
    simp only [nf0, nf1, nf2, nf3, nf4]
    refine st_mv (.bool false) ?_
    simp only [nf0, nf1, nf2, nf3, nf4]
    refine st_mv (.bool false) ?_
    simp only [nf0, nf1, nf2, nf3, nf4]
    refine st_mv (.string (str (shp ((insAt xs k).1)))) ?_
    simp only [nf0, nf1, nf2, nf3, nf4]
    refine st_call1 (v := (.bool true)) (by rfl) (d_run_call_18_2 (.tmp 113) (.const (.int .u8 78)) rfl rfl rfl _) (show Calls _ _ _ _ fun e w' => e = .returned (.bool (true)) ∧ Below w48.heap.size w48 w' from by have h_ := hasC_calls (shp ((insAt xs k).1)) 78 (by have := (shp_has ((insAt xs k).1)).2.2.2; omega) w48; rw [(shp_has ((insAt xs k).1)).2.2.1, show shN ((insAt xs k).1) = true from decide_eq_true (by omega)] at h_; exact h_) ?_
    intro w102 hb103
    simp only [nf0, nf1, nf2, nf3, nf4]
    replace B3 := B3.below hb103
    replace B38 := B38.below hb103
    replace bel := bl_step bel hb103
    clear hb103
    refine st_value (v := (.bool false)) (by rfl) (run_not (.tmp 114) rfl (b := true) rfl w102) ?_
    simp only [nf0, nf1, nf2, nf3, nf4]
    refine st_mv (.bool false) ?_
    simp only [nf0, nf1, nf2, nf3, nf4]
    refine st_nob (j := 15) (t := 116) (c := false) rfl rfl rfl rfl rfl ?_
    simp only [nf0, nf1, nf2, nf3, nf4]
    refine st_nob (j := 15) (t := 116) (c := false) rfl rfl rfl rfl rfl ?_
    simp only [nf0, nf1, nf2, nf3, nf4]
    refine st_nob (j := 15) (t := 116) (c := false) rfl rfl rfl rfl rfl ?_
    simp only [nf0, nf1, nf2, nf3, nf4]
    refine st_mv (.bool false) ?_
    simp only [nf0, nf1, nf2, nf3, nf4]
    refine st_mv (.bool false) ?_
    simp only [nf0, nf1, nf2, nf3, nf4]
    refine wpList_nil ?_
    show Code.wp _ _ _ _ _
    refine wp_cond_false rfl ?_
    refine wp_skip ?_
    show Code.wp _ _ _ _ _
    refine wp_region_lit ?_
    refine st_value (v := (.int .i64 ((k : Int) + 1))) (by rfl) (run_add_in (.tmp 30) (.const (.int .i64 1)) rfl rfl rfl (by omega) w102) ?_
    simp only [nf0, nf1, nf2, nf3, nf4]
    refine st_mv (.int .i64 ((k : Int) + 1)) ?_
    simp only [nf0, nf1, nf2, nf3, nf4]
    refine wpList_nil ?_
    have hr103 : regB (shA ((insAt xs k).1)) ((insAt xs k).2.1) = true := by have h_ := hg45; rw [badB_not] at h_; simpa using h_
    have hr104 : regB (shB ((insAt xs k).1)) ((insAt xs k).2.2.1) = true := by have h_ := hg50; rw [badB_not] at h_; simpa using h_
    have hnu : numE (insAt xs k).1 (insAt xs k).2.2.2 (xs.length : Int) = 0 := by unfold numE; (repeat' split) <;> omega
    have hi_ : insE (insAt xs k) (xs.length : Int) = 0 := by unfold insE; rw [if_pos (by omega), if_pos ⟨by assumption, by assumption⟩, hnu]
    show ∃ m, m < _ ∧ _
    exact ⟨_, (by omega), (k + 1), rfl, rfl, B3, bel, (by omega), (by rw [hF, firstE_step (by omega), if_pos hi_])⟩
  have hp61 := of_decide_eq_false hg60
  refine wp_region_lit ?_
  refine st_value (v := (.pointer (some ⟨g30, 0, none⟩))) (by rfl) (run_fieldA (.tmp 5) rfl d_fld_35_0 rfl rfl w48) ?_
  simp only [nf0, nf1, nf2, nf3, nf4]
  refine st_value (v := (.int .i64 ((insAt xs k).1))) (by rfl) (run_loadB (.tmp 83) rfl d_one_3 rfl B38 rfl) ?_
  simp only [nf0, nf1, nf2, nf3, nf4]
  refine st_value (v := (.bool false)) (by rfl) ((run_eql_int (.tmp 84) (.const (.int .i64 7)) rfl rfl rfl w48).trans (by rw [hg56])) ?_
  simp only [nf0, nf1, nf2, nf3, nf4]
  refine st_mv (.bool false) ?_
  simp only [nf0, nf1, nf2, nf3, nf4]
  refine st_value (v := (.pointer (some ⟨g30, 0, none⟩))) (by rfl) (run_fieldA (.tmp 5) rfl d_fld_35_0 rfl rfl w48) ?_
  simp only [nf0, nf1, nf2, nf3, nf4]
  refine st_value (v := (.int .i64 ((insAt xs k).1))) (by rfl) (run_loadB (.tmp 87) rfl d_one_3 rfl B38 rfl) ?_
  simp only [nf0, nf1, nf2, nf3, nf4]
  refine st_value (v := (.bool false)) (by rfl) ((run_eql_int (.tmp 88) (.const (.int .i64 9)) rfl rfl rfl w48).trans (by rw [hg58])) ?_
  simp only [nf0, nf1, nf2, nf3, nf4]
  refine st_mv (.bool false) ?_
  simp only [nf0, nf1, nf2, nf3, nf4]
  refine st_mv (.bool false) ?_
  simp only [nf0, nf1, nf2, nf3, nf4]
  refine st_value (v := (.pointer (some ⟨g30, 0, none⟩))) (by rfl) (run_fieldA (.tmp 5) rfl d_fld_35_0 rfl rfl w48) ?_
  simp only [nf0, nf1, nf2, nf3, nf4]
  refine st_value (v := (.int .i64 ((insAt xs k).1))) (by rfl) (run_loadB (.tmp 92) rfl d_one_3 rfl B38 rfl) ?_
  simp only [nf0, nf1, nf2, nf3, nf4]
  refine st_value (v := (.bool false)) (by rfl) ((run_eql_int (.tmp 93) (.const (.int .i64 10)) rfl rfl rfl w48).trans (by rw [hg60])) ?_
  simp only [nf0, nf1, nf2, nf3, nf4]
  refine st_mv (.bool false) ?_
  simp only [nf0, nf1, nf2, nf3, nf4]
  refine st_mv (.bool false) ?_
  simp only [nf0, nf1, nf2, nf3, nf4]
  refine st_value (v := (.pointer (some ⟨g30, 0, none⟩))) (by rfl) (run_fieldA (.tmp 5) rfl d_fld_35_0 rfl rfl w48) ?_
  simp only [nf0, nf1, nf2, nf3, nf4]
  refine st_value (v := (.int .i64 ((insAt xs k).1))) (by rfl) (run_loadB (.tmp 97) rfl d_one_3 rfl B38 rfl) ?_
  simp only [nf0, nf1, nf2, nf3, nf4]
  refine st_value (v := (.bool (decide (((insAt xs k).1) = 12)))) (by rfl) (run_eql_int (.tmp 98) (.const (.int .i64 12)) rfl rfl rfl w48) ?_
  simp only [nf0, nf1, nf2, nf3, nf4]
  refine st_mv (.bool (decide (((insAt xs k).1) = 12))) ?_
  simp only [nf0, nf1, nf2, nf3, nf4]
  refine st_mv (.bool (decide (((insAt xs k).1) = 12))) ?_
  simp only [nf0, nf1, nf2, nf3, nf4]
  refine wpList_nil ?_
  show Code.wp _ _ _ _ _
  refine wp_seq ?_
  cases hg62 : decide (((insAt xs k).1) = 12)
  · have hp63 := of_decide_eq_false hg62
    cases hg66 : shN ((insAt xs k).1)
    rotate_left
    · have hp77 := trivial
      refine wp_region_lit ?_
      refine st_mv (.bool false) ?_
      simp only [nf0, nf1, nf2, nf3, nf4]
      refine st_mv (.bool false) ?_
      simp only [nf0, nf1, nf2, nf3, nf4]
      refine st_nob (j := 1) (t := 102) (c := false) rfl rfl rfl rfl rfl ?_
      simp only [nf0, nf1, nf2, nf3, nf4]
      refine st_nob (j := 1) (t := 102) (c := false) rfl rfl rfl rfl rfl ?_
      simp only [nf0, nf1, nf2, nf3, nf4]
      refine st_nob (j := 1) (t := 102) (c := false) rfl rfl rfl rfl rfl ?_
      simp only [nf0, nf1, nf2, nf3, nf4]
      refine st_nob (j := 1) (t := 102) (c := false) rfl rfl rfl rfl rfl ?_
      simp only [nf0, nf1, nf2, nf3, nf4]
      refine st_nou (j := 5) (t := 106) rfl rfl rfl rfl ?_
      simp only [nf0, nf1, nf2, nf3, nf4]
      refine st_nou (j := 5) (t := 106) rfl rfl rfl rfl ?_
      simp only [nf0, nf1, nf2, nf3, nf4]
      refine st_nou (j := 5) (t := 106) rfl rfl rfl rfl ?_
      simp only [nf0, nf1, nf2, nf3, nf4]
      refine st_nob (j := 1) (t := 102) (c := false) rfl rfl rfl rfl rfl ?_
      simp only [nf0, nf1, nf2, nf3, nf4]
      refine st_mv (.bool false) ?_
      simp only [nf0, nf1, nf2, nf3, nf4]
      refine st_mv (.bool false) ?_
      simp only [nf0, nf1, nf2, nf3, nf4]
      refine st_mv (.string (str (shp ((insAt xs k).1)))) ?_
      simp only [nf0, nf1, nf2, nf3, nf4]
      refine st_call1 (v := (.bool true)) (by rfl) (d_run_call_18_2 (.tmp 113) (.const (.int .u8 78)) rfl rfl rfl _) (by have h_ := (show Calls _ _ _ _ fun e w' => e = .returned (.bool (shN ((insAt xs k).1))) ∧ Below w48.heap.size w48 w' from by have h_ := hasC_calls (shp ((insAt xs k).1)) 78 (by have := (shp_has ((insAt xs k).1)).2.2.2; omega) w48; rw [(shp_has ((insAt xs k).1)).2.2.1] at h_; exact h_); rw [hg66] at h_; exact h_) ?_
      intro w78 hb79
      simp only [nf0, nf1, nf2, nf3, nf4]
      replace B3 := B3.below hb79
      replace B38 := B38.below hb79
      replace bel := bl_step bel hb79
      clear hb79
      refine st_value (v := (.bool false)) (by rfl) (run_not (.tmp 114) rfl (b := true) rfl w78) ?_
      simp only [nf0, nf1, nf2, nf3, nf4]
      refine st_mv (.bool false) ?_
      simp only [nf0, nf1, nf2, nf3, nf4]
      refine st_nob (j := 15) (t := 116) (c := false) rfl rfl rfl rfl rfl ?_
      simp only [nf0, nf1, nf2, nf3, nf4]
      refine st_nob (j := 15) (t := 116) (c := false) rfl rfl rfl rfl rfl ?_
      simp only [nf0, nf1, nf2, nf3, nf4]
      refine st_nob (j := 15) (t := 116) (c := false) rfl rfl rfl rfl rfl ?_
      simp only [nf0, nf1, nf2, nf3, nf4]
      refine st_mv (.bool false) ?_
      simp only [nf0, nf1, nf2, nf3, nf4]
      refine st_mv (.bool false) ?_
      simp only [nf0, nf1, nf2, nf3, nf4]
      refine wpList_nil ?_
      show Code.wp _ _ _ _ _
      refine wp_cond_false rfl ?_
      refine wp_skip ?_
      show Code.wp _ _ _ _ _
      refine wp_region_lit ?_
      refine st_value (v := (.int .i64 ((k : Int) + 1))) (by rfl) (run_add_in (.tmp 30) (.const (.int .i64 1)) rfl rfl rfl (by omega) w78) ?_
      simp only [nf0, nf1, nf2, nf3, nf4]
      refine st_mv (.int .i64 ((k : Int) + 1)) ?_
      simp only [nf0, nf1, nf2, nf3, nf4]
      refine wpList_nil ?_
      have hr79 : regB (shA ((insAt xs k).1)) ((insAt xs k).2.1) = true := by have h_ := hg45; rw [badB_not] at h_; simpa using h_
      have hr80 : regB (shB ((insAt xs k).1)) ((insAt xs k).2.2.1) = true := by have h_ := hg50; rw [badB_not] at h_; simpa using h_
      have hsn := hg66
      unfold shN at hsn
      replace hsn := of_decide_eq_true hsn
      have hnu : numE (insAt xs k).1 (insAt xs k).2.2.2 (xs.length : Int) = 0 := by unfold numE; (repeat' split) <;> omega
      have hi_ : insE (insAt xs k) (xs.length : Int) = 0 := by unfold insE; rw [if_pos (by omega), if_pos ⟨by assumption, by assumption⟩, hnu]
      show ∃ m, m < _ ∧ _
      exact ⟨_, (by omega), (k + 1), rfl, rfl, B3, bel, (by omega), (by rw [hF, firstE_step (by omega), if_pos hi_])⟩
    have hp67 := trivial
    refine wp_region_lit ?_
    refine st_mv (.bool false) ?_
    simp only [nf0, nf1, nf2, nf3, nf4]
    refine st_mv (.bool false) ?_
    simp only [nf0, nf1, nf2, nf3, nf4]
    refine st_nob (j := 1) (t := 102) (c := false) rfl rfl rfl rfl rfl ?_
    simp only [nf0, nf1, nf2, nf3, nf4]
    refine st_nob (j := 1) (t := 102) (c := false) rfl rfl rfl rfl rfl ?_
    simp only [nf0, nf1, nf2, nf3, nf4]
    refine st_nob (j := 1) (t := 102) (c := false) rfl rfl rfl rfl rfl ?_
    simp only [nf0, nf1, nf2, nf3, nf4]
    refine st_nob (j := 1) (t := 102) (c := false) rfl rfl rfl rfl rfl ?_
    simp only [nf0, nf1, nf2, nf3, nf4]
    refine st_nou (j := 5) (t := 106) rfl rfl rfl rfl ?_
    simp only [nf0, nf1, nf2, nf3, nf4]
    refine st_nou (j := 5) (t := 106) rfl rfl rfl rfl ?_
    simp only [nf0, nf1, nf2, nf3, nf4]
    refine st_nou (j := 5) (t := 106) rfl rfl rfl rfl ?_
    simp only [nf0, nf1, nf2, nf3, nf4]
    refine st_nob (j := 1) (t := 102) (c := false) rfl rfl rfl rfl rfl ?_
    simp only [nf0, nf1, nf2, nf3, nf4]
    refine st_mv (.bool false) ?_
    simp only [nf0, nf1, nf2, nf3, nf4]
    refine st_mv (.bool false) ?_
    simp only [nf0, nf1, nf2, nf3, nf4]
    refine st_mv (.string (str (shp ((insAt xs k).1)))) ?_
    simp only [nf0, nf1, nf2, nf3, nf4]
    refine st_call1 (v := (.bool false)) (by rfl) (d_run_call_18_2 (.tmp 113) (.const (.int .u8 78)) rfl rfl rfl _) (by have h_ := (show Calls _ _ _ _ fun e w' => e = .returned (.bool (shN ((insAt xs k).1))) ∧ Below w48.heap.size w48 w' from by have h_ := hasC_calls (shp ((insAt xs k).1)) 78 (by have := (shp_has ((insAt xs k).1)).2.2.2; omega) w48; rw [(shp_has ((insAt xs k).1)).2.2.1] at h_; exact h_); rw [hg66] at h_; exact h_) ?_
    intro w68 hb69
    simp only [nf0, nf1, nf2, nf3, nf4]
    replace B3 := B3.below hb69
    replace B38 := B38.below hb69
    replace bel := bl_step bel hb69
    clear hb69
    refine st_value (v := (.bool true)) (by rfl) (run_not (.tmp 114) rfl (b := false) rfl w68) ?_
    simp only [nf0, nf1, nf2, nf3, nf4]
    refine st_mv (.bool true) ?_
    simp only [nf0, nf1, nf2, nf3, nf4]
    refine st_value (v := (.pointer (some ⟨g30, 3, none⟩))) (by rfl) (run_fieldA (.tmp 5) rfl d_fld_35_3 rfl rfl w68) ?_
    simp only [nf0, nf1, nf2, nf3, nf4]
    refine st_value (v := (.int .i32 ((insAt xs k).2.2.2))) (by rfl) (run_loadB (.tmp 117) rfl d_one_21 rfl B38 rfl) ?_
    simp only [nf0, nf1, nf2, nf3, nf4]
    refine st_value (v := (.bool (!decide (((insAt xs k).2.2.2) = 0)))) (by rfl) (run_neq_int (.tmp 118) (.const (.int .i32 0)) rfl rfl rfl w68) ?_
    simp only [nf0, nf1, nf2, nf3, nf4]
    refine st_mv (.bool (!decide (((insAt xs k).2.2.2) = 0))) ?_
    simp only [nf0, nf1, nf2, nf3, nf4]
    refine st_mv (.bool (!decide (((insAt xs k).2.2.2) = 0))) ?_
    simp only [nf0, nf1, nf2, nf3, nf4]
    refine wpList_nil ?_
    show Code.wp _ _ _ _ _
    cases hg70 : decide (((insAt xs k).2.2.2) = 0)
    rotate_left
    · have hp74 := of_decide_eq_true hg70
      refine wp_cond_false rfl ?_
      refine wp_skip ?_
      show Code.wp _ _ _ _ _
      refine wp_region_lit ?_
      refine st_value (v := (.int .i64 ((k : Int) + 1))) (by rfl) (run_add_in (.tmp 30) (.const (.int .i64 1)) rfl rfl rfl (by omega) w68) ?_
      simp only [nf0, nf1, nf2, nf3, nf4]
      refine st_mv (.int .i64 ((k : Int) + 1)) ?_
      simp only [nf0, nf1, nf2, nf3, nf4]
      refine wpList_nil ?_
      have hr74 : regB (shA ((insAt xs k).1)) ((insAt xs k).2.1) = true := by have h_ := hg45; rw [badB_not] at h_; simpa using h_
      have hr75 : regB (shB ((insAt xs k).1)) ((insAt xs k).2.2.1) = true := by have h_ := hg50; rw [badB_not] at h_; simpa using h_
      have hsn := hg66
      unfold shN at hsn
      replace hsn := of_decide_eq_false hsn
      have hnu : numE (insAt xs k).1 (insAt xs k).2.2.2 (xs.length : Int) = 0 := by unfold numE; (repeat' split) <;> omega
      have hi_ : insE (insAt xs k) (xs.length : Int) = 0 := by unfold insE; rw [if_pos (by omega), if_pos ⟨by assumption, by assumption⟩, hnu]
      show ∃ m, m < _ ∧ _
      exact ⟨_, (by omega), (k + 1), rfl, rfl, B3, bel, (by omega), (by rw [hF, firstE_step (by omega), if_pos hi_])⟩
    have hp71 := of_decide_eq_false hg70
    refine wp_cond_true rfl ?_
    refine wp_seq ?_
    refine wp_region_lit ?_
    refine st_mv (.int .i64 (k : Int)) ?_
    simp only [nf0, nf1, nf2, nf3, nf4]
    refine st_mv (.int .i64 26) ?_
    simp only [nf0, nf1, nf2, nf3, nf4]
    refine st_mv (.int .i64 (k : Int)) ?_
    simp only [nf0, nf1, nf2, nf3, nf4]
    refine wpList_nil ?_
    show Code.wp _ _ _ _ _
    refine wp_ret ?_
    first | show bodyPost _ _ _ _ _ _ | (simp only [Exit.then, Exit.inBlock]; show bodyPost _ _ _ _ _ _)
    have hr71 : regB (shA ((insAt xs k).1)) ((insAt xs k).2.1) = true := by have h_ := hg45; rw [badB_not] at h_; simpa using h_
    have hr72 : regB (shB ((insAt xs k).1)) ((insAt xs k).2.2.1) = true := by have h_ := hg50; rw [badB_not] at h_; simpa using h_
    have hsn := hg66
    unfold shN at hsn
    replace hsn := of_decide_eq_false hsn
    have hnu : numE (insAt xs k).1 (insAt xs k).2.2.2 (xs.length : Int) = 26 := by unfold numE; (repeat' split) <;> omega
    have hi_ : insE (insAt xs k) (xs.length : Int) = 26 := by unfold insE; rw [if_pos (by omega), if_pos ⟨by assumption, by assumption⟩, hnu]
    have hE : chk pr xs = (26, (k : Int)) := by have h_ := chk_bad (pr := pr) (by omega) (by omega) hF hkl (by rw [hi_]; decide); rw [hi_] at h_; exact h_
    exact bodyPost_ret (results_tmp2 rfl _ _ _) rfl ⟨by rw [hE]; rfl, bel⟩
  have hp82 := of_decide_eq_true hg62
  cases hg83 : decide (((insAt xs k).2.2.2) < 0)
  rotate_left
  · have hp94 := of_decide_eq_true hg83
    refine wp_region_lit ?_
    refine st_mv (.bool true) ?_
    simp only [nf0, nf1, nf2, nf3, nf4]
    refine st_mv (.bool true) ?_
    simp only [nf0, nf1, nf2, nf3, nf4]
    refine st_value (v := (.pointer (some ⟨g30, 3, none⟩))) (by rfl) (run_fieldA (.tmp 5) rfl d_fld_35_3 rfl rfl w48) ?_
    simp only [nf0, nf1, nf2, nf3, nf4]
    refine st_value (v := (.int .i32 ((insAt xs k).2.2.2))) (by rfl) (run_loadB (.tmp 103) rfl d_one_21 rfl B38 rfl) ?_
    simp only [nf0, nf1, nf2, nf3, nf4]
    refine st_value (v := (.bool true)) (by rfl) ((run_lss (.tmp 104) (.const (.int .i32 0)) rfl rfl rfl w48).trans (by rw [hg83])) ?_
    simp only [nf0, nf1, nf2, nf3, nf4]
    refine st_mv (.bool true) ?_
    simp only [nf0, nf1, nf2, nf3, nf4]
    refine st_nob (j := 5) (t := 106) (c := true) rfl rfl rfl rfl rfl ?_
    simp only [nf0, nf1, nf2, nf3, nf4]
    refine st_nob (j := 5) (t := 106) (c := true) rfl rfl rfl rfl rfl ?_
    simp only [nf0, nf1, nf2, nf3, nf4]
    refine st_nob (j := 5) (t := 106) (c := true) rfl rfl rfl rfl rfl ?_
    simp only [nf0, nf1, nf2, nf3, nf4]
    refine st_mv (.bool true) ?_
    simp only [nf0, nf1, nf2, nf3, nf4]
    refine st_mv (.bool true) ?_
    simp only [nf0, nf1, nf2, nf3, nf4]
    refine st_mv (.bool true) ?_
    simp only [nf0, nf1, nf2, nf3, nf4]
    refine st_nob (j := 11) (t := 112) (c := true) rfl rfl rfl rfl rfl ?_
    simp only [nf0, nf1, nf2, nf3, nf4]
    refine st_nob (j := 11) (t := 112) (c := true) rfl rfl rfl rfl rfl ?_
    simp only [nf0, nf1, nf2, nf3, nf4]
    refine st_nob (j := 11) (t := 112) (c := true) rfl rfl rfl rfl rfl ?_
    simp only [nf0, nf1, nf2, nf3, nf4]
    refine st_nob (j := 11) (t := 112) (c := true) rfl rfl rfl rfl rfl ?_
    simp only [nf0, nf1, nf2, nf3, nf4]
    refine st_nou (j := 15) (t := 116) rfl rfl rfl rfl ?_
    simp only [nf0, nf1, nf2, nf3, nf4]
    refine st_nou (j := 15) (t := 116) rfl rfl rfl rfl ?_
    simp only [nf0, nf1, nf2, nf3, nf4]
    refine st_nou (j := 15) (t := 116) rfl rfl rfl rfl ?_
    simp only [nf0, nf1, nf2, nf3, nf4]
    refine st_nob (j := 11) (t := 112) (c := true) rfl rfl rfl rfl rfl ?_
    simp only [nf0, nf1, nf2, nf3, nf4]
    refine st_mv (.bool true) ?_
    simp only [nf0, nf1, nf2, nf3, nf4]
    refine wpList_nil ?_
    show Code.wp _ _ _ _ _
    refine wp_cond_true rfl ?_
    refine wp_seq ?_
    refine wp_region_lit ?_
    refine st_mv (.int .i64 (k : Int)) ?_
    simp only [nf0, nf1, nf2, nf3, nf4]
    refine st_mv (.int .i64 26) ?_
    simp only [nf0, nf1, nf2, nf3, nf4]
    refine st_mv (.int .i64 (k : Int)) ?_
    simp only [nf0, nf1, nf2, nf3, nf4]
    refine wpList_nil ?_
    show Code.wp _ _ _ _ _
    refine wp_ret ?_
    first | show bodyPost _ _ _ _ _ _ | (simp only [Exit.then, Exit.inBlock]; show bodyPost _ _ _ _ _ _)
    have hr94 : regB (shA ((insAt xs k).1)) ((insAt xs k).2.1) = true := by have h_ := hg45; rw [badB_not] at h_; simpa using h_
    have hr95 : regB (shB ((insAt xs k).1)) ((insAt xs k).2.2.1) = true := by have h_ := hg50; rw [badB_not] at h_; simpa using h_
    have hnu : numE (insAt xs k).1 (insAt xs k).2.2.2 (xs.length : Int) = 26 := by unfold numE; (repeat' split) <;> omega
    have hi_ : insE (insAt xs k) (xs.length : Int) = 26 := by unfold insE; rw [if_pos (by omega), if_pos ⟨by assumption, by assumption⟩, hnu]
    have hE : chk pr xs = (26, (k : Int)) := by have h_ := chk_bad (pr := pr) (by omega) (by omega) hF hkl (by rw [hi_]; decide); rw [hi_] at h_; exact h_
    exact bodyPost_ret (results_tmp2 rfl _ _ _) rfl ⟨by rw [hE]; rfl, bel⟩
  have hp84 := of_decide_eq_false hg83
  cases hg85 : decide (15 < ((insAt xs k).2.2.2))
  rotate_left
  · have hp91 := of_decide_eq_true hg85
    refine wp_region_lit ?_
    refine st_mv (.bool true) ?_
    simp only [nf0, nf1, nf2, nf3, nf4]
    refine st_mv (.bool true) ?_
    simp only [nf0, nf1, nf2, nf3, nf4]
    refine st_value (v := (.pointer (some ⟨g30, 3, none⟩))) (by rfl) (run_fieldA (.tmp 5) rfl d_fld_35_3 rfl rfl w48) ?_
    simp only [nf0, nf1, nf2, nf3, nf4]
    refine st_value (v := (.int .i32 ((insAt xs k).2.2.2))) (by rfl) (run_loadB (.tmp 103) rfl d_one_21 rfl B38 rfl) ?_
    simp only [nf0, nf1, nf2, nf3, nf4]
    refine st_value (v := (.bool false)) (by rfl) ((run_lss (.tmp 104) (.const (.int .i32 0)) rfl rfl rfl w48).trans (by rw [hg83])) ?_
    simp only [nf0, nf1, nf2, nf3, nf4]
    refine st_mv (.bool false) ?_
    simp only [nf0, nf1, nf2, nf3, nf4]
    refine st_value (v := (.pointer (some ⟨g30, 3, none⟩))) (by rfl) (run_fieldA (.tmp 5) rfl d_fld_35_3 rfl rfl w48) ?_
    simp only [nf0, nf1, nf2, nf3, nf4]
    refine st_value (v := (.int .i32 ((insAt xs k).2.2.2))) (by rfl) (run_loadB (.tmp 107) rfl d_one_21 rfl B38 rfl) ?_
    simp only [nf0, nf1, nf2, nf3, nf4]
    refine st_value (v := (.bool true)) (by rfl) ((run_gtr (.tmp 108) (.const (.int .i32 15)) rfl rfl rfl w48).trans (by rw [hg85])) ?_
    simp only [nf0, nf1, nf2, nf3, nf4]
    refine st_mv (.bool true) ?_
    simp only [nf0, nf1, nf2, nf3, nf4]
    refine st_mv (.bool true) ?_
    simp only [nf0, nf1, nf2, nf3, nf4]
    refine st_mv (.bool true) ?_
    simp only [nf0, nf1, nf2, nf3, nf4]
    refine st_nob (j := 11) (t := 112) (c := true) rfl rfl rfl rfl rfl ?_
    simp only [nf0, nf1, nf2, nf3, nf4]
    refine st_nob (j := 11) (t := 112) (c := true) rfl rfl rfl rfl rfl ?_
    simp only [nf0, nf1, nf2, nf3, nf4]
    refine st_nob (j := 11) (t := 112) (c := true) rfl rfl rfl rfl rfl ?_
    simp only [nf0, nf1, nf2, nf3, nf4]
    refine st_nob (j := 11) (t := 112) (c := true) rfl rfl rfl rfl rfl ?_
    simp only [nf0, nf1, nf2, nf3, nf4]
    refine st_nou (j := 15) (t := 116) rfl rfl rfl rfl ?_
    simp only [nf0, nf1, nf2, nf3, nf4]
    refine st_nou (j := 15) (t := 116) rfl rfl rfl rfl ?_
    simp only [nf0, nf1, nf2, nf3, nf4]
    refine st_nou (j := 15) (t := 116) rfl rfl rfl rfl ?_
    simp only [nf0, nf1, nf2, nf3, nf4]
    refine st_nob (j := 11) (t := 112) (c := true) rfl rfl rfl rfl rfl ?_
    simp only [nf0, nf1, nf2, nf3, nf4]
    refine st_mv (.bool true) ?_
    simp only [nf0, nf1, nf2, nf3, nf4]
    refine wpList_nil ?_
    show Code.wp _ _ _ _ _
    refine wp_cond_true rfl ?_
    refine wp_seq ?_
    refine wp_region_lit ?_
    refine st_mv (.int .i64 (k : Int)) ?_
    simp only [nf0, nf1, nf2, nf3, nf4]
    refine st_mv (.int .i64 26) ?_
    simp only [nf0, nf1, nf2, nf3, nf4]
    refine st_mv (.int .i64 (k : Int)) ?_
    simp only [nf0, nf1, nf2, nf3, nf4]
    refine wpList_nil ?_
    show Code.wp _ _ _ _ _
    refine wp_ret ?_
    first | show bodyPost _ _ _ _ _ _ | (simp only [Exit.then, Exit.inBlock]; show bodyPost _ _ _ _ _ _)
    have hr91 : regB (shA ((insAt xs k).1)) ((insAt xs k).2.1) = true := by have h_ := hg45; rw [badB_not] at h_; simpa using h_
    have hr92 : regB (shB ((insAt xs k).1)) ((insAt xs k).2.2.1) = true := by have h_ := hg50; rw [badB_not] at h_; simpa using h_
    have hnu : numE (insAt xs k).1 (insAt xs k).2.2.2 (xs.length : Int) = 26 := by unfold numE; (repeat' split) <;> omega
    have hi_ : insE (insAt xs k) (xs.length : Int) = 26 := by unfold insE; rw [if_pos (by omega), if_pos ⟨by assumption, by assumption⟩, hnu]
    have hE : chk pr xs = (26, (k : Int)) := by have h_ := chk_bad (pr := pr) (by omega) (by omega) hF hkl (by rw [hi_]; decide); rw [hi_] at h_; exact h_
    exact bodyPost_ret (results_tmp2 rfl _ _ _) rfl ⟨by rw [hE]; rfl, bel⟩
  have hp86 := of_decide_eq_false hg85
  refine wp_region_lit ?_
  refine st_mv (.bool true) ?_
  simp only [nf0, nf1, nf2, nf3, nf4]
  refine st_mv (.bool true) ?_
  simp only [nf0, nf1, nf2, nf3, nf4]
  refine st_value (v := (.pointer (some ⟨g30, 3, none⟩))) (by rfl) (run_fieldA (.tmp 5) rfl d_fld_35_3 rfl rfl w48) ?_
  simp only [nf0, nf1, nf2, nf3, nf4]
  refine st_value (v := (.int .i32 ((insAt xs k).2.2.2))) (by rfl) (run_loadB (.tmp 103) rfl d_one_21 rfl B38 rfl) ?_
  simp only [nf0, nf1, nf2, nf3, nf4]
  refine st_value (v := (.bool false)) (by rfl) ((run_lss (.tmp 104) (.const (.int .i32 0)) rfl rfl rfl w48).trans (by rw [hg83])) ?_
  simp only [nf0, nf1, nf2, nf3, nf4]
  refine st_mv (.bool false) ?_
  simp only [nf0, nf1, nf2, nf3, nf4]
  refine st_value (v := (.pointer (some ⟨g30, 3, none⟩))) (by rfl) (run_fieldA (.tmp 5) rfl d_fld_35_3 rfl rfl w48) ?_
  simp only [nf0, nf1, nf2, nf3, nf4]
  refine st_value (v := (.int .i32 ((insAt xs k).2.2.2))) (by rfl) (run_loadB (.tmp 107) rfl d_one_21 rfl B38 rfl) ?_
  simp only [nf0, nf1, nf2, nf3, nf4]
  refine st_value (v := (.bool false)) (by rfl) ((run_gtr (.tmp 108) (.const (.int .i32 15)) rfl rfl rfl w48).trans (by rw [hg85])) ?_
  simp only [nf0, nf1, nf2, nf3, nf4]
  refine st_mv (.bool false) ?_
  simp only [nf0, nf1, nf2, nf3, nf4]
  refine st_mv (.bool false) ?_
  simp only [nf0, nf1, nf2, nf3, nf4]
  refine st_mv (.bool false) ?_
  simp only [nf0, nf1, nf2, nf3, nf4]
  refine st_mv (.string (str (shp ((insAt xs k).1)))) ?_
  simp only [nf0, nf1, nf2, nf3, nf4]
  refine st_call1 (v := (.bool true)) (by rfl) (d_run_call_18_2 (.tmp 113) (.const (.int .u8 78)) rfl rfl rfl _) (show Calls _ _ _ _ fun e w' => e = .returned (.bool (true)) ∧ Below w48.heap.size w48 w' from by have h_ := hasC_calls (shp ((insAt xs k).1)) 78 (by have := (shp_has ((insAt xs k).1)).2.2.2; omega) w48; rw [(shp_has ((insAt xs k).1)).2.2.1, show shN ((insAt xs k).1) = true from decide_eq_true (by omega)] at h_; exact h_) ?_
  intro w87 hb88
  simp only [nf0, nf1, nf2, nf3, nf4]
  replace B3 := B3.below hb88
  replace B38 := B38.below hb88
  replace bel := bl_step bel hb88
  clear hb88
  refine st_value (v := (.bool false)) (by rfl) (run_not (.tmp 114) rfl (b := true) rfl w87) ?_
  simp only [nf0, nf1, nf2, nf3, nf4]
  refine st_mv (.bool false) ?_
  simp only [nf0, nf1, nf2, nf3, nf4]
  refine st_nob (j := 15) (t := 116) (c := false) rfl rfl rfl rfl rfl ?_
  simp only [nf0, nf1, nf2, nf3, nf4]
  refine st_nob (j := 15) (t := 116) (c := false) rfl rfl rfl rfl rfl ?_
  simp only [nf0, nf1, nf2, nf3, nf4]
  refine st_nob (j := 15) (t := 116) (c := false) rfl rfl rfl rfl rfl ?_
  simp only [nf0, nf1, nf2, nf3, nf4]
  refine st_mv (.bool false) ?_
  simp only [nf0, nf1, nf2, nf3, nf4]
  refine st_mv (.bool false) ?_
  simp only [nf0, nf1, nf2, nf3, nf4]
  refine wpList_nil ?_
  show Code.wp _ _ _ _ _
  refine wp_cond_false rfl ?_
  refine wp_skip ?_
  show Code.wp _ _ _ _ _
  refine wp_region_lit ?_
  refine st_value (v := (.int .i64 ((k : Int) + 1))) (by rfl) (run_add_in (.tmp 30) (.const (.int .i64 1)) rfl rfl rfl (by omega) w87) ?_
  simp only [nf0, nf1, nf2, nf3, nf4]
  refine st_mv (.int .i64 ((k : Int) + 1)) ?_
  simp only [nf0, nf1, nf2, nf3, nf4]
  refine wpList_nil ?_
  have hr88 : regB (shA ((insAt xs k).1)) ((insAt xs k).2.1) = true := by have h_ := hg45; rw [badB_not] at h_; simpa using h_
  have hr89 : regB (shB ((insAt xs k).1)) ((insAt xs k).2.2.1) = true := by have h_ := hg50; rw [badB_not] at h_; simpa using h_
  have hnu : numE (insAt xs k).1 (insAt xs k).2.2.2 (xs.length : Int) = 0 := by unfold numE; (repeat' split) <;> omega
  have hi_ : insE (insAt xs k) (xs.length : Int) = 0 := by unfold insE; rw [if_pos (by omega), if_pos ⟨by assumption, by assumption⟩, hnu]
  show ∃ m, m < _ ∧ _
  exact ⟨_, (by omega), (k + 1), rfl, rfl, B3, bel, (by omega), (by rw [hF, firstE_step (by omega), if_pos hi_])⟩
end Go.Proofs.YtjbmahjfmffnoaaDoor

/- What the law ProgChecks does. -/
namespace Go.Proofs.YtjbmahjfmffnoaaDoor
open Go.RowKit Go.WideShapes Go.ChangeShapes
set_option linter.unusedSimpArgs false
set_option linter.unusedVariables false

theorem m_run_call_5_1 {o : Oper} {a : Act} (x0 : Operand) {ts : Array TypeId} (ho : o.op = .call { callee := .value (.func 5), args := #[x0], argTypes := ts }) {v0 : Value} (h0 : a.eval x0 = v0) (W : World) : (execOp a.eval o).run Tryd.prog W = .ok (.enter 5 #[v0]) W := by
  unfold execOp
  simp only [ho]
  subst h0
  go_simp
theorem m_run_call_6_1 {o : Oper} {a : Act} (x0 : Operand) {ts : Array TypeId} (ho : o.op = .call { callee := .value (.func 6), args := #[x0], argTypes := ts }) {v0 : Value} (h0 : a.eval x0 = v0) (W : World) : (execOp a.eval o).run Tryd.prog W = .ok (.enter 6 #[v0]) W := by
  unfold execOp
  simp only [ho]
  subst h0
  go_simp
theorem m_run_call_7_1 {o : Oper} {a : Act} (x0 : Operand) {ts : Array TypeId} (ho : o.op = .call { callee := .value (.func 7), args := #[x0], argTypes := ts }) {v0 : Value} (h0 : a.eval x0 = v0) (W : World) : (execOp a.eval o).run Tryd.prog W = .ok (.enter 7 #[v0]) W := by
  unfold execOp
  simp only [ho]
  subst h0
  go_simp
theorem m_run_call_8_1 {o : Oper} {a : Act} (x0 : Operand) {ts : Array TypeId} (ho : o.op = .call { callee := .value (.func 8), args := #[x0], argTypes := ts }) {v0 : Value} (h0 : a.eval x0 = v0) (W : World) : (execOp a.eval o).run Tryd.prog W = .ok (.enter 8 #[v0]) W := by
  unfold execOp
  simp only [ho]
  subst h0
  go_simp
theorem m_run_call_9_1 {o : Oper} {a : Act} (x0 : Operand) {ts : Array TypeId} (ho : o.op = .call { callee := .value (.func 9), args := #[x0], argTypes := ts }) {v0 : Value} (h0 : a.eval x0 = v0) (W : World) : (execOp a.eval o).run Tryd.prog W = .ok (.enter 9 #[v0]) W := by
  unfold execOp
  simp only [ho]
  subst h0
  go_simp
theorem m_run_call_10_0 {o : Oper} {a : Act}  {ts : Array TypeId} (ho : o.op = .call { callee := .value (.func 10), args := #[], argTypes := ts })  (W : World) : (execOp a.eval o).run Tryd.prog W = .ok (.enter 10 #[]) W := by
  unfold execOp
  simp only [ho]
  go_simp

attribute [local irreducible] Go.wpList Go.Code.wp
set_option maxRecDepth 100000 in
set_option maxHeartbeats 4000000 in
theorem checksLaw_calls {A : Option Addr} {pr : Int} {xs : List TIns} {cap : Nat} (hpr : -9223372036854775808 ≤ pr ∧ pr ≤ 9223372036854775807) (hok : ∀ x ∈ xs, okIns x) (hcap : xs.length ≤ cap) (hl : xs.length ≤ 9223372036854775807) {k : Int} (w : World) (hr : Reads w A (eIns.all xs)) : Calls Tryd.prog 3 #[.agg #[.int .i64 pr, .slice A xs.length cap], .int .i64 k] w fun e w' => e = .returned (.bool true) ∧ Below w.heap.size w w' := by
  have bel : Below w.heap.size w w := Below.refl _ _
  have hrz := hr.takeE 80
  have hlz : (xs.take 80).length ≤ 80 := by rw [List.length_take]; omega
  have hcz : (xs.take 80).length ≤ cap := Nat.le_trans (by rw [List.length_take]; omega) hcap
  have hoz : ∀ x ∈ xs.take 80, okIns x := fun x hx => hok x (List.mem_of_mem_take hx)
  go_enter Tryd.func3, Tryd.ntmps3
  refine wp_seq ?_
  refine wp_region_lit ?_
  refine st_new (cs := #[.int .i64 pr, .slice A xs.length cap]) (t := 24) (by rfl) (run_boxV (.tmp 0) rfl (v := (.agg #[.int .i64 pr, .slice A xs.length cap])) rfl rfl _) ?_
  intro g1 w2 B3 hb4 lo5
  simp only [nf0, nf1, nf2, nf3, nf4]
  replace lo5 := low_le bel lo5
  replace bel := bl_step bel hb4
  clear hb4
  refine st_mv (.bool false) ?_
  simp only [nf0, nf1, nf2, nf3, nf4]
  refine wpList_nil ?_
  show Code.wp _ _ _ _ _
  refine wp_seq ?_
  refine wp_region_lit ?_
  refine st_value (v := (.agg #[.int .i64 pr, .slice A xs.length cap])) (by rfl) (run_loadW (.tmp 2) rfl (cs := #[.int .i64 pr, .slice A xs.length cap]) aggPrg rfl B3) ?_
  simp only [nf0, nf1, nf2, nf3, nf4]
  refine st_call1 (v := (.agg #[.int .i64 pr, .slice A (xs.take 80).length cap])) (by rfl) (m_run_call_5_1 (.tmp 9) rfl rfl _) (cutP_calls A pr xs cap hcap hl w2 (hr.same bel)) ?_
  intro w6 hb7
  simp only [nf0, nf1, nf2, nf3, nf4]
  replace B3 := B3.below hb7
  replace bel := bl_step bel hb7
  clear hb7
  refine st_row (by rfl) (run_storeW (.tmp 2) (.tmp 10) rfl (cs := #[.int .i64 pr, .slice A (xs.take 80).length cap]) aggPrg rfl rfl B3 rfl (by simp [Value.oneCell'])) B3 ?_
  intro w8 B10 hg9
  simp only [nf0, nf1, nf2, nf3, nf4]
  replace bel := bl_kept0 bel hg9 lo5
  clear hg9
  clear B3
  refine wpList_nil ?_
  show Code.wp _ _ _ _ _
  refine wp_seq ?_
  refine wp_region_lit ?_
  refine st_value (v := (.agg #[.int .i64 pr, .slice A (xs.take 80).length cap])) (by rfl) (run_loadW (.tmp 2) rfl (cs := #[.int .i64 pr, .slice A (xs.take 80).length cap]) aggPrg rfl B10) ?_
  simp only [nf0, nf1, nf2, nf3, nf4]
  refine st_call1 (v := (.tuple #[.int .i64 ((chk pr (xs.take 80)).1), .int .i64 ((chk pr (xs.take 80)).2)])) (by rfl) (m_run_call_6_1 (.tmp 12) rfl rfl _) (check_calls A pr (xs.take 80) cap hcz (by omega) hoz w8 (hrz.same bel)) ?_
  intro w11 hb12
  simp only [nf0, nf1, nf2, nf3, nf4]
  replace B10 := B10.below hb12
  replace bel := bl_step bel hb12
  clear hb12
  refine st_mv (.tuple #[.int .i64 ((chk pr (xs.take 80)).1), .int .i64 ((chk pr (xs.take 80)).2)]) ?_
  simp only [nf0, nf1, nf2, nf3, nf4]
  refine st_mv (.int .i64 ((chk pr (xs.take 80)).1)) ?_
  simp only [nf0, nf1, nf2, nf3, nf4]
  refine st_mv (.int .i64 ((chk pr (xs.take 80)).2)) ?_
  simp only [nf0, nf1, nf2, nf3, nf4]
  refine st_mv (.int .i64 ((chk pr (xs.take 80)).1)) ?_
  simp only [nf0, nf1, nf2, nf3, nf4]
  refine st_mv (.int .i64 ((chk pr (xs.take 80)).2)) ?_
  simp only [nf0, nf1, nf2, nf3, nf4]
  refine wpList_nil ?_
  show Code.wp _ _ _ _ _
  refine wp_seq ?_
  refine wp_region_lit ?_
  refine st_value (v := (.agg #[.int .i64 pr, .slice A (xs.take 80).length cap])) (by rfl) (run_loadW (.tmp 2) rfl (cs := #[.int .i64 pr, .slice A (xs.take 80).length cap]) aggPrg rfl B10) ?_
  simp only [nf0, nf1, nf2, nf3, nf4]
  refine st_call1 (v := (.tuple #[.int .i64 ((chk pr (xs.take 80)).1), .int .i64 ((chk pr (xs.take 80)).2)])) (by rfl) (m_run_call_7_1 (.tmp 17) rfl rfl _) (refCheck_calls A pr (xs.take 80) cap hcz (by omega) hoz w11 (hrz.same bel)) ?_
  intro w13 hb14
  simp only [nf0, nf1, nf2, nf3, nf4]
  replace B10 := B10.below hb14
  replace bel := bl_step bel hb14
  clear hb14
  refine st_mv (.tuple #[.int .i64 ((chk pr (xs.take 80)).1), .int .i64 ((chk pr (xs.take 80)).2)]) ?_
  simp only [nf0, nf1, nf2, nf3, nf4]
  refine st_mv (.int .i64 ((chk pr (xs.take 80)).1)) ?_
  simp only [nf0, nf1, nf2, nf3, nf4]
  refine st_mv (.int .i64 ((chk pr (xs.take 80)).2)) ?_
  simp only [nf0, nf1, nf2, nf3, nf4]
  refine st_mv (.int .i64 ((chk pr (xs.take 80)).1)) ?_
  simp only [nf0, nf1, nf2, nf3, nf4]
  refine st_mv (.int .i64 ((chk pr (xs.take 80)).2)) ?_
  simp only [nf0, nf1, nf2, nf3, nf4]
  refine wpList_nil ?_
  show Code.wp _ _ _ _ _
  refine wp_seq ?_
  refine wp_region_lit ?_
  refine st_mv (.int .i64 ((chk pr (xs.take 80)).1)) ?_
  simp only [nf0, nf1, nf2, nf3, nf4]
  refine st_mv (.int .i64 ((chk pr (xs.take 80)).1)) ?_
  simp only [nf0, nf1, nf2, nf3, nf4]
  refine st_value (v := (.bool true)) (by rfl) (run_eql_int_t (.tmp 21) (.tmp 22) rfl rfl rfl rfl w13) ?_
  simp only [nf0, nf1, nf2, nf3, nf4]
  refine st_mv (.bool true) ?_
  simp only [nf0, nf1, nf2, nf3, nf4]
  refine st_mv (.int .i64 ((chk pr (xs.take 80)).2)) ?_
  simp only [nf0, nf1, nf2, nf3, nf4]
  refine st_mv (.int .i64 ((chk pr (xs.take 80)).2)) ?_
  simp only [nf0, nf1, nf2, nf3, nf4]
  refine st_value (v := (.bool true)) (by rfl) (run_eql_int_t (.tmp 25) (.tmp 26) rfl rfl rfl rfl w13) ?_
  simp only [nf0, nf1, nf2, nf3, nf4]
  refine st_mv (.bool true) ?_
  simp only [nf0, nf1, nf2, nf3, nf4]
  refine st_mv (.bool true) ?_
  simp only [nf0, nf1, nf2, nf3, nf4]
  refine st_mv (.int .i64 k) ?_
  simp only [nf0, nf1, nf2, nf3, nf4]
  refine st_call1 (v := (.string (str (nmP k)))) (by rfl) (m_run_call_8_1 (.tmp 30) rfl rfl _) (pname_calls k w13) ?_
  intro w15 hb16
  simp only [nf0, nf1, nf2, nf3, nf4]
  replace B10 := B10.below hb16
  replace bel := bl_step bel hb16
  clear hb16
  refine st_mv (.int .i64 k) ?_
  simp only [nf0, nf1, nf2, nf3, nf4]
  refine st_call1 (v := (.string (str (nmP k)))) (by rfl) (m_run_call_9_1 (.tmp 32) rfl rfl _) (refPName_calls k w15) ?_
  intro w17 hb18
  simp only [nf0, nf1, nf2, nf3, nf4]
  replace B10 := B10.below hb18
  replace bel := bl_step bel hb18
  clear hb18
  refine st_value (v := (.bool true)) (by rfl) (run_eql_text_t (.tmp 31) (.tmp 33) (l := (nmP k)) (m := (nmP k)) rfl rfl rfl rfl w17) ?_
  simp only [nf0, nf1, nf2, nf3, nf4]
  refine st_mv (.bool true) ?_
  simp only [nf0, nf1, nf2, nf3, nf4]
  refine st_mv (.bool true) ?_
  simp only [nf0, nf1, nf2, nf3, nf4]
  refine st_call1 (v := (.bool true)) (by rfl) (m_run_call_10_0  rfl  _) (pgLives_calls w17) ?_
  intro w19 hb20
  simp only [nf0, nf1, nf2, nf3, nf4]
  replace B10 := B10.below hb20
  replace bel := bl_step bel hb20
  clear hb20
  refine st_mv (.bool true) ?_
  simp only [nf0, nf1, nf2, nf3, nf4]
  refine st_mv (.bool true) ?_
  simp only [nf0, nf1, nf2, nf3, nf4]
  refine wpList_nil ?_
  show Code.wp _ _ _ _ _
  refine wp_ret ?_
  first | show bodyPost _ _ _ _ _ _ | (simp only [Exit.then, Exit.inBlock]; show bodyPost _ _ _ _ _ _)
  exact bodyPost_ret (results_tmp rfl _ _ _) rfl ⟨rfl, bel⟩
end Go.Proofs.YtjbmahjfmffnoaaDoor

/- How arguments of types with slices within are laid open: what the cells of such a value look like, in one world. -/
namespace Go.Proofs.YtjbmahjfmffnoaaDoor
open Go.RowKit Go.WideShapes Go.ChangeShapes

/-- What can be read as data of type t looks so, in this world. -/
def FlatW (P : Program) (w : World) (t : TypeId) (R : List Value → Prop) : Prop :=
  ∀ {H : Type} {enc : TypeId × Value → H} {base : Nat} {spare : Nat → Bool} {held : Bool} {fuel : Nat} {cs : List Value} {x : DataW H × List MemPlace},
    DataW.trod enc P w base spare held fuel t cs = some x → R cs
theorem Flat.here {P : Program} {w : World} {t : TypeId} {R : List Value → Prop} (h : Flat P t R) : FlatW P w t R := fun hx => h hx
theorem FlatW.imp {P : Program} {w : World} {t : TypeId} {R R' : List Value → Prop} (h : FlatW P w t R) (hr : ∀ cs, R cs → R' cs) : FlatW P w t R' := fun hx => hr _ (h hx)
/-- A struct: each field's cells look so. -/
theorem flatW_struct {P : Program} {w : World} {t : TypeId} {fs : Array Field} (R : Nat → List Value → Prop) (ht : P.underlying t = some (.struct fs)) (hf : ∀ i f, fs[i]? = some f → FlatW P w f.type (R i)) :
    FlatW P w t (fun cs => cs.length = P.cellsOf t ∧ ∀ i f, fs[i]? = some f → R i ((cs.drop f.offset).take (P.cellsOf f.type))) := by
  intro H enc base spare held fuel cs x h
  cases fuel with
  | zero => simp [DataW.trod] at h
  | succ m =>
    unfold DataW.trod at h
    rw [ht] at h
    split at h <;> simp_all
    obtain ⟨_, xs, hp, _⟩ := h
    intro i f hi
    obtain ⟨y, hy⟩ := mapM_each' hp f (by rw [Array.getElem?_eq_some_iff] at hi; obtain ⟨h1, h2⟩ := hi; simp [← h2])
    exact hf i f hi hy
/-- A slice: nil, or a row in memory. -/
theorem flatW_slice {P : Program} {w : World} {t e : TypeId} {R : List Value → Prop} (ht : P.underlying t = some (.slice e)) (he : FlatW P w e R) : FlatW P w t (fun cs => ∃ A len cap, cs = [.slice A len cap] ∧ SliceOf P w e R A len cap) := by
  intro H enc base spare held fuel cs x h
  cases fuel with
  | zero => simp [DataW.trod] at h
  | succ m =>
    unfold DataW.trod at h
    rw [ht] at h
    split at h
    case h_7 => exact ⟨none, 0, 0, rfl, Nat.le_refl _, Nat.zero_le _, fun _ => rfl, fun i hi => by omega⟩
    case h_8 e' ad len cap he' =>
      obtain rfl : e = e' := by injection he' with he'; injection he'
      by_cases hc0 : base ≤ ad.block ∧ len ≤ cap ∧ cap ≤ maxLen
      · simp only [hc0, and_self, if_true, Option.bind_eq_some_iff] at h
        obtain ⟨_, h1, h2⟩ := hc0
        obtain ⟨elems, hel, _⟩ := h
        refine ⟨some ad, len, cap, rfl, h1, h2, by simp, fun i hi => ?_⟩
        obtain ⟨y, hy⟩ := mapM_range hel i hi
        simp only [Option.bind_eq_some_iff] at hy
        obtain ⟨cs, hc, hx⟩ := hy
        obtain ⟨g1, g2⟩ := cells?_get hc
        exact ⟨ad, cs, rfl, g1, he hx, g2⟩
      · simp [hc0] at h
    all_goals first | (rename_i hk; injection hk with hk; injection hk; done) | (rename_i hk _; injection hk with hk; injection hk; done) | (cases h; done) | simp_all
/-- A value of such a type: its cells. -/
theorem openW_one {H : Type} {enc : TypeId × Value → H} {P : Program} {w : World} {base : Nat} {spare : Nat → Bool} {held : Bool} {t : TypeId} {v : Value} {d : DataW H} {ps : List MemPlace} {R : List Value → Prop}
    (hf : FlatW P w t R) (h : DataW.Trod enc P w base spare held t v d ps) : R v.cells.toList := by
  obtain ⟨fuel, hx⟩ := h
  exact hf hx
end Go.Proofs.YtjbmahjfmffnoaaDoor

/- A program that is handed in. -/
namespace Go.Proofs.YtjbmahjfmffnoaaDoor
open Go.RowKit Go.WideShapes Go.ChangeShapes

theorem openInt {H : Type} {enc : TypeId × Value → H} {w : World} {r : Reach} {b0 base : Nat} {spare : Nat → Bool} {held : Bool} {v : Value} {d : DataW H} {ps : List MemPlace}
    (hval : Value.okWide Tryd.prog w r b0 3 v) (h : DataW.Trod enc Tryd.prog w base spare held 3 v d ps) : ∃ n, v = .int .i64 n ∧ (Lit.int .i64 n).wf = true := by
  obtain ⟨n, hv, _, _, hw⟩ := open_int Tryd.underlying3 hval h
  exact ⟨n, hv, hw⟩
def rPrg (w : World) : Nat → List Value → Prop
  | 0, cs => ∃ n, cs = [.int .i64 n] ∧ (Lit.int .i64 n).wf = true
  | 1, cs => ∃ A len cap, cs = [.slice A len cap] ∧ SliceOf Tryd.prog w 35 (fun cs => ∃ p, cs = eIns.enc p ∧ okIns p) A len cap
  | _, _ => True
theorem openProg {H : Type} {enc : TypeId × Value → H} {w : World} {r : Reach} {b0 base : Nat} {spare : Nat → Bool} {held : Bool} {v : Value} {d : DataW H} {ps : List MemPlace}
    (hval : Value.okWide Tryd.prog w r b0 24 v) (h : DataW.Trod enc Tryd.prog w base spare held 24 v d ps) :
    ∃ (A : Option Addr) (pr : Int) (xs : List TIns) (cap : Nat), v = .agg #[.int .i64 pr, .slice A xs.length cap] ∧ (-9223372036854775808 ≤ pr ∧ pr ≤ 9223372036854775807) ∧ (∀ x ∈ xs, okIns x) ∧ xs.length ≤ cap ∧ xs.length ≤ 9223372036854775807 ∧ Reads w A (eIns.all xs) := by
  unfold Value.okWide at hval
  rw [Tryd.underlying24] at hval
  obtain ⟨cs, rfl, _⟩ := hval
  have h3 := openW_one (flatW_struct (P := Tryd.prog) (w := w) (t := 24) (rPrg w) Tryd.underlying24 (by
    intro i f hf
    match i, hf with
    | 0, hf => simp at hf; subst hf; show FlatW Tryd.prog w 3 (fun cs => ∃ n, cs = [.int .i64 n] ∧ (Lit.int .i64 n).wf = true); exact fun hx => flat_int Tryd.underlying3 hx
    | 1, hf => simp at hf; subst hf; show FlatW Tryd.prog w 22 (rPrg w 1); exact fun hx => flatW_slice Tryd.underlying22 (fun hx => flatIns hx) hx
    | k + 2, hf => simp at hf)) h
  obtain ⟨hl, hi⟩ := h3
  have hc : Tryd.prog.cellsOf 24 = 2 := by kernel_rfl
  rw [hc] at hl
  have hu0 : Tryd.prog.cellsOf 3 = 1 := by kernel_rfl
  have hu1 : Tryd.prog.cellsOf 22 = 1 := by kernel_rfl
  obtain ⟨n, h0, w0⟩ := hi 0 _ rfl
  change List.take (Tryd.prog.cellsOf 3) (List.drop 0 _) = _ at h0
  rw [hu0] at h0
  obtain ⟨A, len, cap, h1, hs⟩ := hi 1 _ rfl
  change List.take (Tryd.prog.cellsOf 22) (List.drop 1 _) = _ at h1
  rw [hu1] at h1
  obtain ⟨xs, rfl, ho, hr⟩ := slice_list eIns _ (by kernel_rfl) (by decide) hs
  obtain ⟨l⟩ := cs
  change l.length = 2 at hl
  change List.take 1 (List.drop 0 l) = _ at h0
  change List.take 1 (List.drop 1 l) = _ at h1
  match l, hl with
  | [c0, c1], _ =>
    simp only [List.drop_succ_cons, List.drop_zero, List.take_succ_cons, List.take_zero, List.cons.injEq, and_true] at h0 h1
    subst h0 h1
    exact ⟨A, n, xs, cap, rfl, I64_of' w0, ho, hs.1, Nat.le_trans hs.1 hs.2.1, hr⟩
end Go.Proofs.YtjbmahjfmffnoaaDoor

/- The law ProgChecks, at any arguments. -/
namespace Go.Proofs.YtjbmahjfmffnoaaDoor
open Go.RowKit Go.WideShapes Go.ChangeShapes

theorem progChecks_law {H : Type} {enc : TypeId × Value → H} {W : World} {v0 v1 : Value} {d0 d1 : DataW H} {p0 p1 : List MemPlace} {b0 b1 : Nat} (o0 : Value.okWide Tryd.prog W .any b0 24 v0) (o1 : Value.okWide Tryd.prog W .any b1 3 v1) (h0 : DataW.Trod enc Tryd.prog W 0 (fun _ => true) true 24 v0 d0 p0) (h1 : DataW.Trod enc Tryd.prog W 0 (fun _ => true) true 3 v1 d1 p1) :
    Calls Tryd.prog 3 #[v0, v1] W fun e W' => e = .returned (.bool true) ∧ Below W.heap.size W W' := by
  obtain ⟨A, pr, xs, cap, rfl, hpr, hok, hcap, hl, hr⟩ := openProg o0 h0
  obtain ⟨k, rfl, _⟩ := openInt o1 h1
  exact checksLaw_calls hpr hok hcap hl W hr
end Go.Proofs.YtjbmahjfmffnoaaDoor

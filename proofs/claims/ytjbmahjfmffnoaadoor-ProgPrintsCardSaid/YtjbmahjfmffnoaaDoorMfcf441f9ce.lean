/- Lemmas that the chapter's laws rest on: PgNum, PgTake, Facts8, PgIns, PgParse, PgLives, ProgPrintsWalk, OpenW, OpenPg, ProgPrints. -/
import Derived.Test.YtjbmahjfmffnoaaDoorM6ad32806a5
/- Single digits, read; what is taken of a line's words. -/
namespace Go.Proofs.YtjbmahjfmffnoaaDoor
open Go.RowKit Go.WideShapes Go.ChangeShapes
set_option linter.unusedSimpArgs false
set_option linter.unusedVariables false

theorem g_run_call_22_1 {o : Oper} {a : Act} (x0 : Operand) {ts : Array TypeId} (ho : o.op = .call { callee := .value (.func 22), args := #[x0], argTypes := ts }) {v0 : Value} (h0 : a.eval x0 = v0) (W : World) : (execOp a.eval o).run Tryd.prog W = .ok (.enter 22 #[v0]) W := by
  unfold execOp
  simp only [ho]
  subst h0
  go_simp
theorem g_run_call_34_2 {o : Oper} {a : Act} (x0 : Operand) (x1 : Operand) {ts : Array TypeId} (ho : o.op = .call { callee := .value (.func 34), args := #[x0, x1], argTypes := ts }) {v0 : Value} (h0 : a.eval x0 = v0) {v1 : Value} (h1 : a.eval x1 = v1) (W : World) : (execOp a.eval o).run Tryd.prog W = .ok (.enter 34 #[v0, v1]) W := by
  unfold execOp
  simp only [ho]
  subst h0 h1
  go_simp
theorem g_run_call_41_1 {o : Oper} {a : Act} (x0 : Operand) {ts : Array TypeId} (ho : o.op = .call { callee := .value (.func 41), args := #[x0], argTypes := ts }) {v0 : Value} (h0 : a.eval x0 = v0) (W : World) : (execOp a.eval o).run Tryd.prog W = .ok (.enter 41 #[v0]) W := by
  unfold execOp
  simp only [ho]
  subst h0
  go_simp
theorem g_one_39 : One Tryd.prog 39 := one_of Tryd.underlying39 rfl (by kernel_rfl)
theorem run_conv_i64_i32 {P : Program} {o : Oper} {a : Act} {t t' : TypeId} (x : Operand) {z : Int} (ho : o.op = .convert t t' x) (ht : P.underlying t = some (.int .i64)) (ht' : P.underlying t' = some (.int .i32)) (hx : a.eval x = .int .i64 z) (hz : -2147483648 ≤ z ∧ z ≤ 2147483647) (W : World) : (execOp a.eval o).run P W = .ok (.value (.int .i32 z)) W := by
  have h1 : IntKind.i32.wrap z = z := by rw [IntKind.wrap_i32]; omega
  unfold execOp; simp only [ho, hx]
  simp [convert, run_underlying ht, run_underlying ht', go_sem, h1]
theorem dec_one {c : UInt8} (hc : 48 ≤ c.toNat ∧ c.toNat ≤ 57) : tdecI ((c.toNat : Int) - 48) = [c] := by
  unfold tdecI
  rw [if_neg (by omega), tdec_small (by omega)]
  congr 1
  apply UInt8.toNat_inj.1
  rw [tdg_val]
  omega
theorem cutP_yes (p r : List UInt8) (w : World) : Calls Tryd.prog 34 #[.string (str (p ++ r)), .string (str p)] w fun e w' => e = .returned (.tuple #[.string (str r), .bool true]) ∧ Below w.heap.size w w' := by
  refine (Tryd.strings_CutPrefix (str (p ++ r)) (str p) w).mono ?_
  rintro e w' ⟨rfl, rfl⟩
  refine ⟨?_, Below.refl _ _⟩
  have h1 : Lib.hasPrefix (p ++ r) p = true := by unfold Lib.hasPrefix; rw [List.isPrefixOf_iff_prefix]; exact List.prefix_append p r
  rw [str_data, str_data]
  unfold Lib.trimPrefix
  rw [h1, if_pos rfl, List.drop_left]
  rfl
theorem cutP_no {x y : UInt8} {r q : List UInt8} (h : x ≠ y) (w : World) : Calls Tryd.prog 34 #[.string (str (x :: r)), .string (str (y :: q))] w fun e w' => e = .returned (.tuple #[.string (str (x :: r)), .bool false]) ∧ Below w.heap.size w w' := by
  refine (Tryd.strings_CutPrefix (str (x :: r)) (str (y :: q)) w).mono ?_
  rintro e w' ⟨rfl, rfl⟩
  refine ⟨?_, Below.refl _ _⟩
  have h1 : Lib.hasPrefix (x :: r) (y :: q) = false := by
    unfold Lib.hasPrefix
    rw [← Bool.not_eq_true, List.isPrefixOf_iff_prefix]
    intro hp
    obtain ⟨t, ht⟩ := hp
    injection ht with h1 h2
    exact h h1.symm
  rw [str_data, str_data]
  unfold Lib.trimPrefix
  rw [h1]
  rfl

attribute [local irreducible] Go.wpList Go.Code.wp
set_option maxRecDepth 100000 in
set_option maxHeartbeats 4000000 in
theorem parseNum_one {c : UInt8} (hc : 48 ≤ c.toNat ∧ c.toNat ≤ 57) (w : World) : Calls Tryd.prog 41 #[.string (str [c])] w fun e w' => e = .returned (.tuple #[.int .i32 ((c.toNat : Int) - 48), .bool true]) ∧ Below w.heap.size w w' := by
  have bel : Below w.heap.size w w := Below.refl _ _
  have hch : chr [c] 0 = (c.toNat : Int) := rfl
  have hl1 : ([c] : List UInt8).length = 1 := rfl
  go_enter Tryd.func41, Tryd.ntmps41
  refine wp_seq ?_
  refine wp_region_lit ?_
  refine st_mv (.int .i32 0) ?_
  simp only [nf0, nf1, nf2, nf3, nf4]
  refine st_mv (.bool false) ?_
  simp only [nf0, nf1, nf2, nf3, nf4]
  refine wpList_nil ?_
  show Code.wp _ _ _ _ _
  refine wp_seq ?_
  refine wp_region_lit ?_
  refine st_mv (.int .i64 0) ?_
  simp only [nf0, nf1, nf2, nf3, nf4]
  refine wpList_nil ?_
  show Code.wp _ _ _ _ _
  refine wp_seq ?_
  refine wp_region_lit ?_
  refine st_mv (.string (str [c])) ?_
  simp only [nf0, nf1, nf2, nf3, nf4]
  refine st_call1 (v := (.tuple #[.string (str [c]), .bool false])) (by rfl) (g_run_call_34_2 (.tmp 9) (.const (.string ⟨#[45]⟩)) rfl rfl rfl _) (cutP_no (x := c) (y := 45) (r := []) (q := []) (fun e => by rw [e] at hc; exact absurd hc.1 (by decide)) w) ?_
  intro w1 hb2
  simp only [nf0, nf1, nf2, nf3, nf4]
  replace bel := bl_step bel hb2
  clear hb2
  refine st_mv (.tuple #[.string (str [c]), .bool false]) ?_
  simp only [nf0, nf1, nf2, nf3, nf4]
  refine st_mv (.string (str [c])) ?_
  simp only [nf0, nf1, nf2, nf3, nf4]
  refine st_mv (.bool false) ?_
  simp only [nf0, nf1, nf2, nf3, nf4]
  refine st_mv (.string (str [c])) ?_
  simp only [nf0, nf1, nf2, nf3, nf4]
  refine st_mv (.bool false) ?_
  simp only [nf0, nf1, nf2, nf3, nf4]
  refine wpList_nil ?_
  show Code.wp _ _ _ _ _
  refine wp_seq ?_
  refine wp_seq ?_
  refine wp_region_lit ?_
  refine st_mv (.string (str [c])) ?_
  simp only [nf0, nf1, nf2, nf3, nf4]
  refine st_value (v := (.int .i64 ([c].length : Int))) (by rfl) (run_len_text (.tmp 13) rfl Tryd.underlying9 (l := [c]) rfl w1) ?_
  simp only [nf0, nf1, nf2, nf3, nf4]
  refine st_mv (.int .i64 0) ?_
  simp only [nf0, nf1, nf2, nf3, nf4]
  refine wpList_nil ?_
  show Code.wp _ _ _ _ _
  refine wp_block ?_
  refine wp_loop_rnds 1 ?_
  show Code.wp _ _ _ _ _
  refine wp_seq ?_
  refine wp_region_lit ?_
  refine st_value (v := (.bool true)) (by rfl) ((run_lss (.tmp 15) (.tmp 14) rfl rfl rfl w1).trans (by rw [decide_eq_true (by omega)])) ?_
  simp only [nf0, nf1, nf2, nf3, nf4]
  refine wpList_nil ?_
  show Code.wp _ _ _ _ _
  refine wp_seq ?_
  refine wp_cond_true rfl ?_
  refine wp_skip ?_
  show Code.wp _ _ _ _ _
  refine wp_seq ?_
  refine wp_block ?_
  refine wp_seq ?_
  refine wp_region_lit ?_
  refine st_mv (.int .i64 0) ?_
  simp only [nf0, nf1, nf2, nf3, nf4]
  refine st_mv (.int .i64 0) ?_
  simp only [nf0, nf1, nf2, nf3, nf4]
  refine wpList_nil ?_
  show Code.wp _ _ _ _ _
  refine wp_seq ?_
  refine wp_seq ?_
  refine wp_region_lit ?_
  refine st_mv (.string (str [c])) ?_
  simp only [nf0, nf1, nf2, nf3, nf4]
  refine st_mv (.int .i64 0) ?_
  simp only [nf0, nf1, nf2, nf3, nf4]
  refine st_value (v := (.int .u8 (chr [c] 0))) (by rfl) (run_index_text (.tmp 18) (.tmp 19) rfl Tryd.underlying9 (l := [c]) rfl rfl 0 (by omega) (by omega) w1) ?_
  simp only [nf0, nf1, nf2, nf3, nf4]
  refine st_value (v := (.bool false)) (by rfl) ((run_lss (.tmp 20) (.const (.int .u8 48)) rfl rfl rfl w1).trans (by rw [decide_eq_false (by omega)])) ?_
  simp only [nf0, nf1, nf2, nf3, nf4]
  refine st_mv (.bool false) ?_
  simp only [nf0, nf1, nf2, nf3, nf4]
  refine st_mv (.string (str [c])) ?_
  simp only [nf0, nf1, nf2, nf3, nf4]
  refine st_mv (.int .i64 0) ?_
  simp only [nf0, nf1, nf2, nf3, nf4]
  refine st_value (v := (.int .u8 (chr [c] 0))) (by rfl) (run_index_text (.tmp 23) (.tmp 24) rfl Tryd.underlying9 (l := [c]) rfl rfl 0 (by omega) (by omega) w1) ?_
  simp only [nf0, nf1, nf2, nf3, nf4]
  refine st_value (v := (.bool false)) (by rfl) ((run_gtr (.tmp 25) (.const (.int .u8 57)) rfl rfl rfl w1).trans (by rw [decide_eq_false (by omega)])) ?_
  simp only [nf0, nf1, nf2, nf3, nf4]
  refine st_mv (.bool false) ?_
  simp only [nf0, nf1, nf2, nf3, nf4]
  refine st_mv (.bool false) ?_
  simp only [nf0, nf1, nf2, nf3, nf4]
  refine st_mv (.int .i64 0) ?_
  simp only [nf0, nf1, nf2, nf3, nf4]
  refine st_value (v := (.bool false)) (by rfl) ((run_gtr (.tmp 29) (.const (.int .i64 4294967296)) rfl rfl rfl w1).trans (by rw [decide_eq_false (by omega)])) ?_
  simp only [nf0, nf1, nf2, nf3, nf4]
  refine st_mv (.bool false) ?_
  simp only [nf0, nf1, nf2, nf3, nf4]
  refine wpList_nil ?_
  show Code.wp _ _ _ _ _
  refine wp_cond_false rfl ?_
  refine wp_skip ?_
  show Code.wp _ _ _ _ _
  refine wp_region_lit ?_
  refine st_mv (.int .i64 0) ?_
  simp only [nf0, nf1, nf2, nf3, nf4]
  refine st_value (v := (.int .i64 0)) (by rfl) ((run_mul_in (.const (.int .i64 10)) (.tmp 32) rfl rfl rfl (by omega) w1).trans (by rfl)) ?_
  simp only [nf0, nf1, nf2, nf3, nf4]
  refine st_mv (.string (str [c])) ?_
  simp only [nf0, nf1, nf2, nf3, nf4]
  refine st_mv (.int .i64 0) ?_
  simp only [nf0, nf1, nf2, nf3, nf4]
  refine st_value (v := (.int .u8 (chr [c] 0))) (by rfl) (run_index_text (.tmp 34) (.tmp 35) rfl Tryd.underlying9 (l := [c]) rfl rfl 0 (by omega) (by omega) w1) ?_
  simp only [nf0, nf1, nf2, nf3, nf4]
  refine st_value (v := (.int .u8 ((c.toNat : Int) - 48))) (by rfl) ((run_sub (.tmp 36) (.const (.int .u8 48)) rfl rfl rfl w1).trans (by rw [wrap_u8, show (chr [c] 0 - 48) % 256 = ((c.toNat : Int) - 48) by omega])) ?_
  simp only [nf0, nf1, nf2, nf3, nf4]
  refine st_value (v := (.int .i64 ((c.toNat : Int) - 48))) (by rfl) (run_conv_u8 (.tmp 37) rfl Tryd.underlying5 Tryd.underlying2 (m := ((c.toNat : Int) - 48)) rfl (by omega) w1) ?_
  simp only [nf0, nf1, nf2, nf3, nf4]
  refine st_value (v := (.int .i64 ((c.toNat : Int) - 48))) (by rfl) ((run_add_in (.tmp 33) (.tmp 38) rfl rfl rfl (by omega) w1).trans (by rw [Int.zero_add])) ?_
  simp only [nf0, nf1, nf2, nf3, nf4]
  refine st_mv (.int .i64 ((c.toNat : Int) - 48)) ?_
  simp only [nf0, nf1, nf2, nf3, nf4]
  refine wpList_nil ?_
  show Code.wp _ _ _ _ _
  refine wp_region_lit ?_
  refine st_value (v := (.int .i64 1)) (by rfl) (run_add_in (m := 0) (n := 1) (.tmp 15) (.const (.int .i64 1)) rfl rfl rfl (by omega) w1) ?_
  simp only [nf0, nf1, nf2, nf3, nf4]
  refine st_mv (.int .i64 1) ?_
  simp only [nf0, nf1, nf2, nf3, nf4]
  refine wpList_nil ?_
  show Code.wp _ _ _ _ _
  refine wp_seq ?_
  refine wp_region_lit ?_
  refine st_value (v := (.bool false)) (by rfl) ((run_lss (.tmp 15) (.tmp 14) rfl rfl rfl w1).trans (by rw [decide_eq_false (by omega)])) ?_
  simp only [nf0, nf1, nf2, nf3, nf4]
  refine wpList_nil ?_
  show Code.wp _ _ _ _ _
  refine wp_seq ?_
  refine wp_cond_false rfl ?_
  refine wp_exit ?_
  show Code.wp _ _ _ _ _
  refine wp_seq ?_
  refine wp_seq ?_
  refine wp_region_lit ?_
  refine st_mv (.bool false) ?_
  simp only [nf0, nf1, nf2, nf3, nf4]
  refine wpList_nil ?_
  show Code.wp _ _ _ _ _
  refine wp_cond_false rfl ?_
  refine wp_skip ?_
  show Code.wp _ _ _ _ _
  refine wp_seq ?_
  refine wp_region_lit ?_
  refine st_mv (.int .i64 ((c.toNat : Int) - 48)) ?_
  simp only [nf0, nf1, nf2, nf3, nf4]
  refine st_value (v := (.int .i32 ((c.toNat : Int) - 48))) (by rfl) (run_conv_i64_i32 (.tmp 44) rfl Tryd.underlying2 Tryd.underlying21 (z := ((c.toNat : Int) - 48)) rfl (by omega) w1) ?_
  simp only [nf0, nf1, nf2, nf3, nf4]
  refine st_mv (.int .i64 ((c.toNat : Int) - 48)) ?_
  simp only [nf0, nf1, nf2, nf3, nf4]
  refine st_value (v := (.int .i32 ((c.toNat : Int) - 48))) (by rfl) (run_conv_i64_i32 (.tmp 46) rfl Tryd.underlying2 Tryd.underlying21 (z := ((c.toNat : Int) - 48)) rfl (by omega) w1) ?_
  simp only [nf0, nf1, nf2, nf3, nf4]
  refine st_value (v := (.int .i64 ((c.toNat : Int) - 48))) (by rfl) (run_conv_i32_i64 (.tmp 47) rfl Tryd.underlying21 Tryd.underlying2 (z := ((c.toNat : Int) - 48)) rfl (by omega) w1) ?_
  simp only [nf0, nf1, nf2, nf3, nf4]
  refine st_mv (.int .i64 ((c.toNat : Int) - 48)) ?_
  simp only [nf0, nf1, nf2, nf3, nf4]
  refine st_value (v := (.bool true)) (by rfl) (run_eql_int_t (.tmp 48) (.tmp 49) rfl rfl rfl rfl w1) ?_
  simp only [nf0, nf1, nf2, nf3, nf4]
  refine st_mv (.bool true) ?_
  simp only [nf0, nf1, nf2, nf3, nf4]
  refine st_mv (.int .i64 ((c.toNat : Int) - 48)) ?_
  simp only [nf0, nf1, nf2, nf3, nf4]
  refine st_call1 (v := (.string (str (tdecI ((c.toNat : Int) - 48))))) (by rfl) (g_run_call_22_1 (.tmp 52) rfl rfl _) (dec_calls (n := ((c.toNat : Int) - 48)) (by omega) w1) ?_
  intro w3 hb4
  simp only [nf0, nf1, nf2, nf3, nf4]
  replace bel := bl_step bel hb4
  clear hb4
  refine st_mv (.string (str [c])) ?_
  simp only [nf0, nf1, nf2, nf3, nf4]
  refine st_value (v := (.bool true)) (by rfl) (run_eql_text_t (.tmp 53) (.tmp 54) rfl (l := tdecI ((c.toNat : Int) - 48)) (m := [c]) rfl rfl (dec_one hc) w3) ?_
  simp only [nf0, nf1, nf2, nf3, nf4]
  refine st_mv (.bool true) ?_
  simp only [nf0, nf1, nf2, nf3, nf4]
  refine st_mv (.int .i32 ((c.toNat : Int) - 48)) ?_
  simp only [nf0, nf1, nf2, nf3, nf4]
  refine st_mv (.bool true) ?_
  simp only [nf0, nf1, nf2, nf3, nf4]
  refine wpList_nil ?_
  show Code.wp _ _ _ _ _
  refine wp_ret ?_
  first | show bodyPost _ _ _ _ _ _ | (simp only [Exit.then, Exit.inBlock]; show bodyPost _ _ _ _ _ _)
  exact bodyPost_ret (results_tmp2 rfl _ _ _) rfl ⟨rfl, bel⟩
set_option maxRecDepth 100000 in
set_option maxHeartbeats 4000000 in
theorem parseReg_one {c : UInt8} (hc : 48 ≤ c.toNat ∧ c.toNat ≤ 51) (w : World) : Calls Tryd.prog 44 #[.string (str [114, c])] w fun e w' => e = .returned (.tuple #[.int .i64 ((c.toNat : Int) - 48), .bool true]) ∧ Below w.heap.size w w' := by
  have bel : Below w.heap.size w w := Below.refl _ _
  go_enter Tryd.func44, Tryd.ntmps44
  refine wp_seq ?_
  refine wp_region_lit ?_
  refine st_mv (.int .i64 0) ?_
  simp only [nf0, nf1, nf2, nf3, nf4]
  refine st_mv (.bool false) ?_
  simp only [nf0, nf1, nf2, nf3, nf4]
  refine wpList_nil ?_
  show Code.wp _ _ _ _ _
  refine wp_seq ?_
  refine wp_region_lit ?_
  refine st_mv (.string (str [114, c])) ?_
  simp only [nf0, nf1, nf2, nf3, nf4]
  refine st_call1 (v := (.tuple #[.string (str [c]), .bool true])) (by rfl) (g_run_call_34_2 (.tmp 9) (.const (.string ⟨#[114]⟩)) rfl rfl rfl _) (cutP_yes [114] ([c] : List UInt8) w) ?_
  intro w1 hb2
  simp only [nf0, nf1, nf2, nf3, nf4]
  replace bel := bl_step bel hb2
  clear hb2
  refine st_mv (.tuple #[.string (str [c]), .bool true]) ?_
  simp only [nf0, nf1, nf2, nf3, nf4]
  refine st_mv (.string (str [c])) ?_
  simp only [nf0, nf1, nf2, nf3, nf4]
  refine st_mv (.bool true) ?_
  simp only [nf0, nf1, nf2, nf3, nf4]
  refine st_mv (.string (str [c])) ?_
  simp only [nf0, nf1, nf2, nf3, nf4]
  refine st_mv (.bool true) ?_
  simp only [nf0, nf1, nf2, nf3, nf4]
  refine wpList_nil ?_
  show Code.wp _ _ _ _ _
  refine wp_seq ?_
  refine wp_region_lit ?_
  refine st_mv (.string (str [c])) ?_
  simp only [nf0, nf1, nf2, nf3, nf4]
  refine st_call1 (v := (.tuple #[.int .i32 ((c.toNat : Int) - 48), .bool true])) (by rfl) (g_run_call_41_1 (.tmp 14) rfl rfl _) (parseNum_one (c := c) ⟨hc.1, by omega⟩ w1) ?_
  intro w3 hb4
  simp only [nf0, nf1, nf2, nf3, nf4]
  replace bel := bl_step bel hb4
  clear hb4
  refine st_mv (.tuple #[.int .i32 ((c.toNat : Int) - 48), .bool true]) ?_
  simp only [nf0, nf1, nf2, nf3, nf4]
  refine st_mv (.int .i32 ((c.toNat : Int) - 48)) ?_
  simp only [nf0, nf1, nf2, nf3, nf4]
  refine st_mv (.bool true) ?_
  simp only [nf0, nf1, nf2, nf3, nf4]
  refine st_mv (.int .i32 ((c.toNat : Int) - 48)) ?_
  simp only [nf0, nf1, nf2, nf3, nf4]
  refine st_mv (.bool true) ?_
  simp only [nf0, nf1, nf2, nf3, nf4]
  refine wpList_nil ?_
  show Code.wp _ _ _ _ _
  refine wp_seq ?_
  refine wp_region_lit ?_
  refine st_mv (.int .i32 ((c.toNat : Int) - 48)) ?_
  simp only [nf0, nf1, nf2, nf3, nf4]
  refine st_value (v := (.int .i64 ((c.toNat : Int) - 48))) (by rfl) (run_conv_i32_i64 (.tmp 18) rfl Tryd.underlying21 Tryd.underlying3 (z := ((c.toNat : Int) - 48)) rfl (by omega) w3) ?_
  simp only [nf0, nf1, nf2, nf3, nf4]
  refine st_mv (.bool true) ?_
  simp only [nf0, nf1, nf2, nf3, nf4]
  refine st_mv (.bool true) ?_
  simp only [nf0, nf1, nf2, nf3, nf4]
  refine st_mv (.bool true) ?_
  simp only [nf0, nf1, nf2, nf3, nf4]
  refine st_mv (.bool true) ?_
  simp only [nf0, nf1, nf2, nf3, nf4]
  refine st_mv (.bool true) ?_
  simp only [nf0, nf1, nf2, nf3, nf4]
  refine st_mv (.int .i32 ((c.toNat : Int) - 48)) ?_
  simp only [nf0, nf1, nf2, nf3, nf4]
  refine st_value (v := (.bool true)) (by rfl) ((run_geq (.tmp 25) (.const (.int .i32 0)) rfl rfl rfl w3).trans (by rw [decide_eq_true (by omega)])) ?_
  simp only [nf0, nf1, nf2, nf3, nf4]
  refine st_mv (.bool true) ?_
  simp only [nf0, nf1, nf2, nf3, nf4]
  refine st_mv (.bool true) ?_
  simp only [nf0, nf1, nf2, nf3, nf4]
  refine st_mv (.int .i32 ((c.toNat : Int) - 48)) ?_
  simp only [nf0, nf1, nf2, nf3, nf4]
  refine st_value (v := (.bool true)) (by rfl) ((run_lss (.tmp 29) (.const (.int .i32 4)) rfl rfl rfl w3).trans (by rw [decide_eq_true (by omega)])) ?_
  simp only [nf0, nf1, nf2, nf3, nf4]
  refine st_mv (.bool true) ?_
  simp only [nf0, nf1, nf2, nf3, nf4]
  refine st_mv (.int .i64 ((c.toNat : Int) - 48)) ?_
  simp only [nf0, nf1, nf2, nf3, nf4]
  refine st_mv (.bool true) ?_
  simp only [nf0, nf1, nf2, nf3, nf4]
  refine wpList_nil ?_
  show Code.wp _ _ _ _ _
  refine wp_ret ?_
  first | show bodyPost _ _ _ _ _ _ | (simp only [Exit.then, Exit.inBlock]; show bodyPost _ _ _ _ _ _)
  exact bodyPost_ret (results_tmp2 rfl _ _ _) rfl ⟨rfl, bel⟩
set_option maxRecDepth 100000 in
set_option maxHeartbeats 4000000 in
theorem parseHead_one {c : UInt8} (hc : 48 ≤ c.toNat ∧ c.toNat ≤ 51) (w : World) : Calls Tryd.prog 33 #[.string (str [112, 114, 111, 103, 32, c])] w fun e w' => e = .returned (.tuple #[.int .i64 ((c.toNat : Int) - 48), .bool true]) ∧ Below w.heap.size w w' := by
  have bel : Below w.heap.size w w := Below.refl _ _
  go_enter Tryd.func33, Tryd.ntmps33
  refine wp_seq ?_
  refine wp_region_lit ?_
  refine st_mv (.int .i64 0) ?_
  simp only [nf0, nf1, nf2, nf3, nf4]
  refine st_mv (.bool false) ?_
  simp only [nf0, nf1, nf2, nf3, nf4]
  refine wpList_nil ?_
  show Code.wp _ _ _ _ _
  refine wp_seq ?_
  refine wp_region_lit ?_
  refine st_mv (.string (str [112, 114, 111, 103, 32, c])) ?_
  simp only [nf0, nf1, nf2, nf3, nf4]
  refine st_call1 (v := (.tuple #[.string (str [c]), .bool true])) (by rfl) (g_run_call_34_2 (.tmp 9) (.const (.string ⟨#[112, 114, 111, 103, 32]⟩)) rfl rfl rfl _) (cutP_yes [112, 114, 111, 103, 32] ([c] : List UInt8) w) ?_
  intro w1 hb2
  simp only [nf0, nf1, nf2, nf3, nf4]
  replace bel := bl_step bel hb2
  clear hb2
  refine st_mv (.tuple #[.string (str [c]), .bool true]) ?_
  simp only [nf0, nf1, nf2, nf3, nf4]
  refine st_mv (.string (str [c])) ?_
  simp only [nf0, nf1, nf2, nf3, nf4]
  refine st_mv (.bool true) ?_
  simp only [nf0, nf1, nf2, nf3, nf4]
  refine st_mv (.string (str [c])) ?_
  simp only [nf0, nf1, nf2, nf3, nf4]
  refine st_mv (.bool true) ?_
  simp only [nf0, nf1, nf2, nf3, nf4]
  refine wpList_nil ?_
  show Code.wp _ _ _ _ _
  refine wp_seq ?_
  refine wp_region_lit ?_
  refine st_mv (.string (str [c])) ?_
  simp only [nf0, nf1, nf2, nf3, nf4]
  refine st_call1 (v := (.tuple #[.int .i32 ((c.toNat : Int) - 48), .bool true])) (by rfl) (g_run_call_41_1 (.tmp 14) rfl rfl _) (parseNum_one (c := c) ⟨hc.1, by omega⟩ w1) ?_
  intro w3 hb4
  simp only [nf0, nf1, nf2, nf3, nf4]
  replace bel := bl_step bel hb4
  clear hb4
  refine st_mv (.tuple #[.int .i32 ((c.toNat : Int) - 48), .bool true]) ?_
  simp only [nf0, nf1, nf2, nf3, nf4]
  refine st_mv (.int .i32 ((c.toNat : Int) - 48)) ?_
  simp only [nf0, nf1, nf2, nf3, nf4]
  refine st_mv (.bool true) ?_
  simp only [nf0, nf1, nf2, nf3, nf4]
  refine st_mv (.int .i32 ((c.toNat : Int) - 48)) ?_
  simp only [nf0, nf1, nf2, nf3, nf4]
  refine st_mv (.bool true) ?_
  simp only [nf0, nf1, nf2, nf3, nf4]
  refine wpList_nil ?_
  show Code.wp _ _ _ _ _
  refine wp_seq ?_
  refine wp_region_lit ?_
  refine st_mv (.int .i32 ((c.toNat : Int) - 48)) ?_
  simp only [nf0, nf1, nf2, nf3, nf4]
  refine st_value (v := (.int .i64 ((c.toNat : Int) - 48))) (by rfl) (run_conv_i32_i64 (.tmp 18) rfl Tryd.underlying21 Tryd.underlying3 (z := ((c.toNat : Int) - 48)) rfl (by omega) w3) ?_
  simp only [nf0, nf1, nf2, nf3, nf4]
  refine st_mv (.bool true) ?_
  simp only [nf0, nf1, nf2, nf3, nf4]
  refine st_mv (.bool true) ?_
  simp only [nf0, nf1, nf2, nf3, nf4]
  refine st_mv (.bool true) ?_
  simp only [nf0, nf1, nf2, nf3, nf4]
  refine st_mv (.bool true) ?_
  simp only [nf0, nf1, nf2, nf3, nf4]
  refine st_mv (.bool true) ?_
  simp only [nf0, nf1, nf2, nf3, nf4]
  refine st_mv (.int .i32 ((c.toNat : Int) - 48)) ?_
  simp only [nf0, nf1, nf2, nf3, nf4]
  refine st_value (v := (.bool true)) (by rfl) ((run_geq (.tmp 25) (.const (.int .i32 0)) rfl rfl rfl w3).trans (by rw [decide_eq_true (by omega)])) ?_
  simp only [nf0, nf1, nf2, nf3, nf4]
  refine st_mv (.bool true) ?_
  simp only [nf0, nf1, nf2, nf3, nf4]
  refine st_mv (.bool true) ?_
  simp only [nf0, nf1, nf2, nf3, nf4]
  refine st_mv (.int .i32 ((c.toNat : Int) - 48)) ?_
  simp only [nf0, nf1, nf2, nf3, nf4]
  refine st_value (v := (.bool true)) (by rfl) ((run_leq (.tmp 29) (.const (.int .i32 3)) rfl rfl rfl w3).trans (by rw [decide_eq_true (by omega)])) ?_
  simp only [nf0, nf1, nf2, nf3, nf4]
  refine st_mv (.bool true) ?_
  simp only [nf0, nf1, nf2, nf3, nf4]
  refine st_mv (.int .i64 ((c.toNat : Int) - 48)) ?_
  simp only [nf0, nf1, nf2, nf3, nf4]
  refine st_mv (.bool true) ?_
  simp only [nf0, nf1, nf2, nf3, nf4]
  refine wpList_nil ?_
  show Code.wp _ _ _ _ _
  refine wp_ret ?_
  first | show bodyPost _ _ _ _ _ _ | (simp only [Exit.then, Exit.inBlock]; show bodyPost _ _ _ _ _ _)
  exact bodyPost_ret (results_tmp2 rfl _ _ _) rfl ⟨rfl, bel⟩
set_option maxRecDepth 100000 in
set_option maxHeartbeats 4000000 in
theorem take_no {w : World} {g : Nat} {v : Value} (hB : Blk w g #[v] 39) : Calls Tryd.prog 43 #[.bool false, .pointer (some ⟨g, 0, none⟩)] w fun e w' => e = .returned (.string (str [])) ∧ Below w.heap.size w w' := by
  have bel : Below w.heap.size w w := Below.refl _ _
  go_enter Tryd.func43, Tryd.ntmps43
  refine wp_seq ?_
  refine wp_region_lit ?_
  refine st_mv (.string (str [])) ?_
  simp only [nf0, nf1, nf2, nf3, nf4]
  refine wpList_nil ?_
  show Code.wp _ _ _ _ _
  refine wp_seq ?_
  refine wp_seq ?_
  refine wp_region_lit ?_
  refine st_mv (.bool false) ?_
  simp only [nf0, nf1, nf2, nf3, nf4]
  refine st_value (v := (.bool true)) (by rfl) (run_not (.tmp 5) rfl (b := false) rfl w) ?_
  simp only [nf0, nf1, nf2, nf3, nf4]
  refine st_mv (.bool true) ?_
  simp only [nf0, nf1, nf2, nf3, nf4]
  refine st_nob (j := 2) (t := 7) (c := true) rfl rfl rfl rfl rfl ?_
  simp only [nf0, nf1, nf2, nf3, nf4]
  refine st_nob (j := 2) (t := 7) (c := true) rfl rfl rfl rfl rfl ?_
  simp only [nf0, nf1, nf2, nf3, nf4]
  refine st_nob (j := 2) (t := 7) (c := true) rfl rfl rfl rfl rfl ?_
  simp only [nf0, nf1, nf2, nf3, nf4]
  refine st_mv (.bool true) ?_
  simp only [nf0, nf1, nf2, nf3, nf4]
  refine wpList_nil ?_
  show Code.wp _ _ _ _ _
  refine wp_cond_true rfl ?_
  refine wp_seq ?_
  refine wp_region_lit ?_
  refine st_mv (.string (str [])) ?_
  simp only [nf0, nf1, nf2, nf3, nf4]
  refine wpList_nil ?_
  show Code.wp _ _ _ _ _
  refine wp_ret ?_
  first | show bodyPost _ _ _ _ _ _ | (simp only [Exit.then, Exit.inBlock]; show bodyPost _ _ _ _ _ _)
  exact bodyPost_ret (results_tmp rfl _ _ _) rfl ⟨rfl, bel⟩
set_option maxRecDepth 100000 in
set_option maxHeartbeats 4000000 in
theorem take_yes {w : World} {g b o cap : Nat} {x : List UInt8} (hB : Blk w g #[.slice (some ⟨b, o, none⟩) ([x] : List (List UInt8)).length cap] 39) (hcap : ([x] : List (List UInt8)).length ≤ cap) (hr : Reads w (some ⟨b, o, none⟩) (eTx.all [x])) : Calls Tryd.prog 43 #[.bool true, .pointer (some ⟨g, 0, none⟩)] w fun e w' => ∃ u, e = .returned u ∧ u = .string (str x) ∧ ∃ A c, Blk w' g #[.slice A 0 c] 39 ∧ Fr [g] w w' := by
  have bel : Fr [g] w w := Fr.refl _ _
  have hl1 : ([x] : List (List UInt8)).length = 1 := rfl
  go_enter Tryd.func43, Tryd.ntmps43
  refine wp_seq ?_
  refine wp_region_lit ?_
  refine st_mv (.string (str [])) ?_
  simp only [nf0, nf1, nf2, nf3, nf4]
  refine wpList_nil ?_
  show Code.wp _ _ _ _ _
  refine wp_seq ?_
  refine wp_seq ?_
  refine wp_region_lit ?_
  refine st_mv (.bool true) ?_
  simp only [nf0, nf1, nf2, nf3, nf4]
  refine st_value (v := (.bool false)) (by rfl) (run_not (.tmp 5) rfl (b := true) rfl w) ?_
  simp only [nf0, nf1, nf2, nf3, nf4]
  refine st_mv (.bool false) ?_
  simp only [nf0, nf1, nf2, nf3, nf4]
  refine st_value (v := (.slice (some ⟨b, o, none⟩) [x].length cap)) (by rfl) (run_loadB (.tmp 1) rfl g_one_39 rfl hB rfl) ?_
  simp only [nf0, nf1, nf2, nf3, nf4]
  refine st_value (v := (.int .i64 ([x].length : Int))) (by rfl) (run_len (.tmp 8) rfl ⟨_, Tryd.underlying39⟩ rfl w) ?_
  simp only [nf0, nf1, nf2, nf3, nf4]
  refine st_value (v := (.bool (decide (([x].length : Int) = 0)))) (by rfl) (run_eql_int (.tmp 9) (.const (.int .i64 0)) rfl rfl rfl w) ?_
  simp only [nf0, nf1, nf2, nf3, nf4]
  refine st_mv (.bool (decide (([x].length : Int) = 0))) ?_
  simp only [nf0, nf1, nf2, nf3, nf4]
  refine wpList_nil ?_
  show Code.wp _ _ _ _ _
  cases hg1 : decide (([x].length : Int) = 0)
  rotate_left
  · have hp7 := of_decide_eq_true hg1
    exfalso
    omega
  have hp2 := of_decide_eq_false hg1
  refine wp_cond_false rfl ?_
  refine wp_skip ?_
  show Code.wp _ _ _ _ _
  refine wp_seq ?_
  refine wp_region_lit ?_
  refine st_value (v := (.slice (some ⟨b, o, none⟩) [x].length cap)) (by rfl) (run_loadB (.tmp 1) rfl g_one_39 rfl hB rfl) ?_
  simp only [nf0, nf1, nf2, nf3, nf4]
  refine st_value (v := (.pointer (some ⟨b, o + 0 * 1, none⟩))) (by rfl) (run_indexAddrN (.tmp 12) (.const (.int .i64 0)) rfl Tryd.underlying39 slTx.sz (i := 0) rfl (by exact (congrArg (Value.int .i64) (show 0 = ((0 : Nat) : Int) by omega))) (by simp) w) ?_
  simp only [nf0, nf1, nf2, nf3, nf4]
  refine st_value (v := (.string (str (tx [x] 0)))) (by rfl) (run_load1 (.tmp 13) rfl Tryd.underlying9 rfl slTx.sz rfl (Reads.txAt hr 0 (by simp))) ?_
  simp only [nf0, nf1, nf2, nf3, nf4]
  refine st_mv (.string (str (tx [x] 0))) ?_
  simp only [nf0, nf1, nf2, nf3, nf4]
  refine wpList_nil ?_
  show Code.wp _ _ _ _ _
  refine wp_seq ?_
  refine wp_region_lit ?_
  refine st_value (v := (.slice (some ⟨b, o, none⟩) [x].length cap)) (by rfl) (run_loadB (.tmp 1) rfl g_one_39 rfl hB rfl) ?_
  simp only [nf0, nf1, nf2, nf3, nf4]
  have R3 := Reads.cutA (p := 1) hr hcap
  refine st_value (v := (.slice (cutA (some ⟨b, o, none⟩) cap 1) ([x].drop 1).length (cap - 1))) (by rfl) (run_cutlo (.tmp 15) (.const (.int .i64 1)) rfl Tryd.underlying39 slTx.sz rfl rfl (p := 1) (by omega) (by omega) hcap w) ?_
  simp only [nf0, nf1, nf2, nf3, nf4]
  refine st_cell (v := (.slice (cutA (some ⟨b, o, none⟩) cap 1) ([x].drop 1).length (cap - 1))) (by rfl) (run_storeB (.tmp 1) (.tmp 16) rfl g_one_39 hB (show 0 < 1 by decide) rfl rfl rfl rfl) hB ?_
  intro w4 B6 hg5
  simp only [nf0, nf1, nf2, nf3, nf4]
  replace bel := fr_in bel hg5 (by simp)
  clear hg5
  clear hB
  replace B6 : Blk w4 g #[.slice (cutA (some ⟨b, o, none⟩) cap 1) ([x].drop 1).length (cap - 1)] 39 := B6
  refine wpList_nil ?_
  show Code.wp _ _ _ _ _
  refine wp_seq ?_
  refine wp_region_lit ?_
  refine st_mv (.string (str (tx [x] 0))) ?_
  simp only [nf0, nf1, nf2, nf3, nf4]
  refine st_mv (.string (str (tx [x] 0))) ?_
  simp only [nf0, nf1, nf2, nf3, nf4]
  refine wpList_nil ?_
  show Code.wp _ _ _ _ _
  refine wp_ret ?_
  first | show bodyPost _ _ _ _ _ _ | (simp only [Exit.then, Exit.inBlock]; show bodyPost _ _ _ _ _ _)
  exact bodyPost_ret (results_tmp rfl _ _ _) rfl ⟨_, rfl, rfl, _, _, B6, bel⟩
end Go.Proofs.YtjbmahjfmffnoaaDoor

/- What is taken of a line's words: nothing. -/
namespace Go.Proofs.YtjbmahjfmffnoaaDoor
open Go.RowKit Go.WideShapes Go.ChangeShapes
set_option linter.unusedVariables false

theorem ok2_skip {P : Program} {ops : Array Oper} {C : World → Prop} {N0 : Nat} {o : Oper} {a : Act} {w : World} (hw : Region.wanted o (yielded ops a.tmps) = true) (h : (execOp a.eval o).run P w = .ok .skip w) (hC : C w) : opok2 P ops C N0 o (.val undef) a w := by
  unfold opok2; rw [if_pos hw]; simp only; rw [h]; exact ⟨rfl, hC, G0.refl _⟩
theorem wp_seq_join2 {P : Program} {x y : Code} {Q : Exit → Act → World → Prop} {a : Act} {w : World} (R : Act → World → Prop) (h : ∀ K : Act → World → Prop, (∀ a' w', R a' w' → K a' w') → x.wp P (Exit.then K Q) a w) (k : ∀ a' w', R a' w' → y.wp P Q a' w') : (Code.seq x y).wp P Q a w :=
  wp_seq (h _ k)
set_option maxRecDepth 100000 in
theorem take_no_same (g : Nat) (w : World) : Calls Tryd.prog 43 #[.bool false, .pointer (some ⟨g, 0, none⟩)] w fun e w' => e = .returned (.string (str [])) ∧ w' = w := by
  go_enter Tryd.func43, Tryd.ntmps43
  go_wp2
  go_ret
  exact ⟨rfl, rfl⟩
theorem nmP_inj : ∀ j k : Fin 15, 1 ≤ j.val → 1 ≤ k.val → nmPL.getD j.val [] = nmPL.getD k.val [] → j = k := by decide
def opv (o i : Nat) : Nat := if o < i then o else 0
theorem opv_yes {o i : Nat} (ho : 1 ≤ o ∧ o ≤ 14) (hi : 1 ≤ i ∧ i ≤ 14) (h : nmP (i : Int) = nmP (o : Int)) : opv o (i + 1) = i := by
  rw [nmP_eq (by unfold knP; omega), nmP_eq (by unfold knP; omega)] at h
  have := nmP_inj ⟨i, by omega⟩ ⟨o, by omega⟩ hi.1 ho.1 (by simpa using h)
  injection this with this
  subst this
  unfold opv
  rw [if_pos (by omega)]
theorem opv_no {o i : Nat} (h : ¬ nmP (i : Int) = nmP (o : Int)) : opv o (i + 1) = opv o i := by
  have : i ≠ o := fun e => h (by rw [e])
  unfold opv
  by_cases h1 : o < i
  · rw [if_pos h1, if_pos (by omega)]
  · rw [if_neg h1, if_neg (by omega)]
end Go.Proofs.YtjbmahjfmffnoaaDoor

/- The law of a region that draws its order (Facts2), where what holds of a world may hang on what has been done; values only. -/
namespace Go.Proofs.YtjbmahjfmffnoaaDoor
open Go.RowKit
/-- One more. -/
def adds (i : Nat) (I : Nat → Prop) : Nat → Prop := fun j => j = i ∨ I j
section
variable {P : Program} {ops : Array Oper} {N0 : Nat}
def opok8 (P : Program) (ops : Array Oper) (C : World → Prop) (N0 : Nat) (o : Oper) (f : Fct) (a : Act) (w : World) : Prop :=
  if Region.wanted o (yielded ops a.tmps) then
    match f with
    | .val c =>
      match (execOp a.eval o).run P w with
      | .ok (.value v) w' => v = c ∧ C w'
      | .ok .skip w' => undef = c ∧ C w'
      | .ok (.enter g args) w' => Calls P g args w' fun e w'' => e = .returned c ∧ C w''
      | _ => False
    | _ => False
  else f.holds N0 undef w ∧ C w
theorem opok8_congr {C : World → Prop} {o : Oper} {f : Fct} {a b : Act} {w : World} (h1 : execOp a.eval o = execOp b.eval o) (h2 : Region.wanted o (yielded ops a.tmps) = Region.wanted o (yielded ops b.tmps)) (h : opok8 P ops C N0 o f a w) : opok8 P ops C N0 o f b w := by
  unfold opok8 at *
  rw [h1, h2] at h
  exact h
theorem ok8_value {C : World → Prop} {o : Oper} {a : Act} {w w' : World} {v c : Value} (hw : Region.wanted o (yielded ops a.tmps) = true) (h : (execOp a.eval o).run P w = .ok (.value v) w') (hf : v = c) (hC : C w') : opok8 P ops C N0 o (.val c) a w := by
  unfold opok8; rw [if_pos hw]; simp only; rw [h]; exact ⟨hf, hC⟩
theorem ok8_skip {C : World → Prop} {o : Oper} {a : Act} {w w' : World} (hw : Region.wanted o (yielded ops a.tmps) = true) (h : (execOp a.eval o).run P w = .ok .skip w') (hC : C w') : opok8 P ops C N0 o (.val undef) a w := by
  unfold opok8; rw [if_pos hw]; simp only; rw [h]; exact ⟨by first | rfl | trivial, hC⟩
theorem ok8_call {C : World → Prop} {o : Oper} {a : Act} {w w' : World} {c : Value} {g : FuncId} {args : Array Value} (hw : Region.wanted o (yielded ops a.tmps) = true) (h : (execOp a.eval o).run P w = .ok (.enter g args) w') (hc : Calls P g args w' fun e w'' => e = .returned c ∧ C w'') : opok8 P ops C N0 o (.val c) a w := by
  unfold opok8; rw [if_pos hw]; simp only; rw [h]; exact hc
theorem ok8_not {C : World → Prop} {o : Oper} {a : Act} {w : World} (hw : Region.wanted o (yielded ops a.tmps) = false) (hC : C w) : opok8 P ops C N0 o (.val undef) a w := by
  unfold opok8; rw [if_neg (by simp [hw])]; exact ⟨rfl, hC⟩
theorem wpOp_of_opok8 {C : World → Prop} {Q : Exit → Act → World → Prop} {K : Act → World → Prop} {i : Nat} {o : Oper} {f : Fct} {a : Act} {w : World} (hi : ops[i]? = some o) (hN : N0 ≤ w.heap.size) (h : opok8 P ops C N0 o f a w)
    (hK : ∀ v w', f.holds N0 v w' → C w' → K (a.put o.dst v) w') : wpOp P ops Q i K a w := by
  unfold wpOp opok8 at *
  simp only [hi]
  by_cases hw : Region.wanted o (yielded ops a.tmps) = true
  · simp only [hw, if_true] at h ⊢
    refine .inl ?_
    unfold Oper.wp
    cases f with
    | new cs t => exact h.elim
    | ex p hp => exact h.elim
    | val c =>
      simp only at h
      generalize (execOp a.eval o).run P w = r at *
      cases r with
      | ok n w' =>
        cases n <;> simp only [Oper.upon] at h ⊢
        case value v => exact hK _ _ h.1 h.2
        case skip => exact hK _ _ h.1 h.2
        case enter g args =>
          refine h.mono fun e w'' ⟨he, h2⟩ => ?_
          subst he
          exact hK _ _ rfl h2
      | halt x w' => exact h.elim
  · simp only [hw, Bool.false_eq_true, if_false] at h ⊢
    exact hK _ _ h.1 h.2
theorem listed_adds {listed : Array Bool} {i : Nat} (h : i < listed.size) : adds (0 + i) (fun j => listed.getD j false = true) = fun j => (listed.setIfInBounds i true).getD j false = true := by
  funext j
  apply propext
  unfold adds
  rw [Nat.zero_add]
  by_cases hj : j = i
  · subst hj; simp [h]
  · rw [getD_set_ne false (Ne.symm hj)]; simp [hj]
variable {C : (Nat → Prop) → World → Prop}
def fst8 (P : Program) (ops : Array Oper) (C : (Nat → Prop) → World → Prop) (N0 : Nat) (Q : Act → World → Prop) : Nat → List Oper → List Fct → Act → List (Nat × (World → Prop)) → List Nat → Prop
  | i, o :: os, f :: fs, a, hs, gs => (∀ I w, C I w → ¬ I i → (∀ p ∈ predsOf o, I p) → (∀ p ∈ hs, p.1 ∈ predsOf o → p.2 w) → opok8 P ops (C (adds i I)) N0 o f a w) ∧
    match f with
    | .val c => fst8 P ops C N0 Q (i + 1) os fs (a.put o.dst c) hs gs
    | .ex p _ => ∀ v, fst8 P ops C N0 Q (i + 1) os fs (a.put o.dst v) ((i, p v) :: hs) gs
    | .new cs t => ∀ g, N0 ≤ g → fst8 P ops C N0 Q (i + 1) os fs (a.put o.dst (.pointer (some ⟨g, 0, none⟩))) ((i, fun w => Blk w g cs t) :: hs) (g :: gs)
  | m, [], [], a, hs, gs => ∀ I w, (∀ j, j < m → I j) → C I w → (∀ p ∈ hs, p.2 w) → gs.Nodup → Q a w
  | _, _, _, _, _, _ => False
theorem fst8_use {Q : Act → World → Prop} {fs0 : List Fct} {vs : Nat → Value} (hv : Agr N0 fs0 vs) : ∀ (os : List Oper) (k : Nat) (fs : List Fct) (a : Act) (hs : List (Nat × (World → Prop))) (gs : List Nat),
    (∀ j, fs[j]? = fs0[k + j]?) →
    (∀ p ∈ hs, ∀ w, (∀ (f : Fct), fs0[p.1]? = some f → f.holds N0 (vs p.1) w) → p.2 w) →
    (∀ (I : Nat → Prop), Dist fs0 vs I → (∀ i, i < k → I i) → gs.Nodup) → (∀ g ∈ gs, ∃ i f, i < k ∧ fs0[i]? = some f ∧ f.isNew = true ∧ vs i = .pointer (some ⟨g, 0, none⟩)) →
    fst8 P ops C N0 Q k os fs a hs gs →
    (∀ j o, os[j]? = some o → ∃ f, fs0[k + j]? = some f ∧ ∀ I w, C I w → ¬ I (k + j) → (∀ p ∈ predsOf o, I p) → Hold N0 fs0 vs (fun i => i ∈ predsOf o) w → opok8 P ops (C (adds (k + j) I)) N0 o f (putsFrom vs k (os.take j) a) w) ∧
    (∀ I w, (∀ j, j < k + os.length → I j) → C I w → Hold N0 fs0 vs (fun _ => True) w → Dist fs0 vs (fun _ => True) → Q (putsFrom vs k os a) w) ∧ fs.length = os.length
  | [], k, [], a, hs, gs, _, hh, hg, _, h => by
    refine ⟨fun j o hj => by simp at hj, fun I w hI hC hq hd => ?_, rfl⟩
    exact h I w (by simpa using hI) hC (fun p hp => hh p hp w fun f hf => hq _ f hf trivial) (hg _ hd fun _ _ => trivial)
  | [], k, f :: fs, a, hs, gs, _, hh, _, _, h => h.elim
  | o :: os, k, [], a, hs, gs, _, hh, _, _, h => h.elim
  | o :: os, k, f :: fs, a, hs, gs, hf, hh, hg, hg2, h => by
    have hk : fs0[k]? = some f := by have := hf 0; simpa using this.symm
    have hf' : ∀ j, fs[j]? = fs0[k + 1 + j]? := fun j => by
      have := hf (j + 1)
      rw [show k + 1 + j = k + (j + 1) from by omega]
      simpa using this
    have hg2' : ∀ g ∈ gs, ∃ i f, i < k + 1 ∧ fs0[i]? = some f ∧ f.isNew = true ∧ vs i = .pointer (some ⟨g, 0, none⟩) := fun g hgm => by
      obtain ⟨i, f, h1, h2⟩ := hg2 g hgm
      exact ⟨i, f, by omega, h2⟩
    have hg' : ∀ (I : Nat → Prop), Dist fs0 vs I → (∀ i, i < k + 1 → I i) → gs.Nodup := fun I hd hi => hg I hd fun i h => hi i (by omega)
    have key : ∃ hs' gs', (∀ p ∈ hs', ∀ w, (∀ (f : Fct), fs0[p.1]? = some f → f.holds N0 (vs p.1) w) → p.2 w) ∧ (∀ (I : Nat → Prop), Dist fs0 vs I → (∀ i, i < k + 1 → I i) → gs'.Nodup) ∧
        (∀ g ∈ gs', ∃ i f, i < k + 1 ∧ fs0[i]? = some f ∧ f.isNew = true ∧ vs i = .pointer (some ⟨g, 0, none⟩)) ∧ fst8 P ops C N0 Q (k + 1) os fs (a.put o.dst (vs k)) hs' gs' := by
      have ha := hv k f hk
      cases f with
      | val c => simp only at ha; rw [ha]; exact ⟨hs, gs, hh, hg', hg2', h.2⟩
      | ex p hp =>
        refine ⟨(k, p (vs k)) :: hs, gs, ?_, hg', hg2', h.2 (vs k)⟩
        intro x hx w hw
        rcases List.mem_cons.1 hx with rfl | hx
        · exact hw _ hk
        · exact hh x hx w hw
      | new cs t =>
        obtain ⟨g, e, hN⟩ := ha
        have h2 := h.2 g hN
        rw [← e] at h2
        refine ⟨(k, fun w => Blk w g cs t) :: hs, g :: gs, ?_, ?_, ?_, h2⟩
        · intro x hx w hw
          rcases List.mem_cons.1 hx with rfl | hx
          · obtain ⟨g', e', _, hb⟩ := hw _ hk
            rw [e] at e'
            injection e' with e'
            injection e' with e'
            injection e' with e'
            subst e'
            exact hb
          · exact hh x hx w hw
        · intro I hd hi
          refine List.nodup_cons.2 ⟨fun hin => ?_, hg' I hd hi⟩
          obtain ⟨i, f, h1, h2, h3, h4⟩ := hg2 g hin
          exact hd i k f _ h2 hk h3 rfl (hi i (by omega)) (hi k (by omega)) (by omega) (h4.trans e.symm)
        · intro x hx
          rcases List.mem_cons.1 hx with rfl | hx
          · exact ⟨k, _, by omega, hk, rfl, e⟩
          · exact hg2' x hx
    obtain ⟨hs', gs', hh', hg'', hg3, h'⟩ := key
    obtain ⟨r1, r2, r3⟩ := fst8_use hv os (k + 1) fs _ hs' gs' hf' hh' hg'' hg3 h'
    refine ⟨fun j oj hj => ?_, fun I w hI => r2 I w (fun j hj => hI j (by simp only [List.length_cons]; omega)), by simp [r3]⟩
    cases j with
    | zero =>
      simp only [List.getElem?_cons_zero, Option.some.injEq] at hj
      subst hj
      refine ⟨f, by simpa using hk, fun I w hC hn hpr hq => h.1 I w hC hn hpr fun p hp hin => hh p hp w fun f' hf' => hq _ f' hf' hin⟩
    | succ j =>
      obtain ⟨f', h1, h2⟩ := r1 j oj (by simpa using hj)
      rw [show k + 1 + j = k + (j + 1) from by omega] at h1 h2
      exact ⟨f', h1, h2⟩

structure FI8 (ops : Array Oper) (C : (Nat → Prop) → World → Prop) (N0 : Nat) (fs0 : List Fct) (m : Nat) (a0 : Act) (listed : Array Bool) (a : Act) (w : World) (vs : Nat → Value) : Prop where
  size : listed.size = ops.size
  cls : C (fun j => listed.getD j false = true) w
  defers : a.defers = a0.defers
  tsize : a.tmps.size = a0.tmps.size
  agree : Agr N0 fs0 vs
  base : ∀ t, (∀ i o, ops[i]? = some o → listed.getD i false = true → o.dst ≠ some t) → a.tmps[t]? = a0.tmps[t]?
  done : ∀ i o d, ops[i]? = some o → listed.getD i false = true → o.dst = some d → a.tmps[d]? = some (vs i)
  facts : Hold N0 fs0 vs (fun i => listed.getD i false = true) w
  dist : Dist fs0 vs (fun i => listed.getD i false = true)
  old : ∀ i f, fs0[i]? = some f → f.isNew = true → listed.getD i false = true → ∃ g, vs i = .pointer (some ⟨g, 0, none⟩) ∧ g < w.heap.size
  down : ∀ (i : Nat) (o : Oper), ops[i]? = some o → listed.getD i false = true → ∀ j ∈ predsOf o, listed.getD j false = true
  head : ∀ i, m ≤ i → listed.getD i false = false

theorem wpAny_of_facts8 {Q : Exit → Act → World → Prop} {fs0 : List Fct} {a0 : Act} {m : Nat} (hB : factsB ops a0.tmps.size = true) (hT : tailB ops m = true) (hN : ∀ I w, C I w → N0 ≤ w.heap.size) (hm : m ≤ ops.size)
    (hV : ∀ (i : Nat) (f : Fct), fs0[i]? = some f → ∃ c, f = Fct.val c) (h : fst8 P ops C N0 (wpList P ops Q (ops.toList.drop m)) 0 (ops.toList.take m) fs0 a0 [] []) : ∀ (fuel : Nat) (listed : Array Bool) (a : Act) (w : World) (vs : Nat → Value), FI8 ops C N0 fs0 m a0 listed a w vs →
    ((List.range ops.size).filter fun i => !listed.getD i false).length ≤ fuel → wpAny P .any ops Q fuel listed a w := by
  have hsel : Region.noSelect ops = true := by simp only [factsB, Bool.and_eq_true] at hB; exact hB.1
  have hedge : ∀ (i : Nat) (o : Oper), ops[i]? = some o → ∀ e ∈ o.after, Region.binds .any e = true → e.on < i := fun i o ho e he hb => (factsOk_of _ hB ho).1 e he hb
  have htail : ∀ i, m ≤ i → i < ops.size → ∀ j, j < i → j ∈ downs ops 3 i := by
    intro i hi hlt j hj
    simp only [tailB, List.all_eq_true, List.mem_range, Bool.or_eq_true, decide_eq_true_eq] at hT
    have := (hT i hlt).resolve_left (by omega) j hj
    simpa using this
  have use : ∀ vs, Agr N0 fs0 vs → _ := fun vs hv => fst8_use (P := P) (ops := ops) (C := C) (N0 := N0) hv (ops.toList.take m) 0 fs0 a0 [] [] (by simp) (by simp) (by simp) (by simp) h
  have hlen : fs0.length = m := by
    have hv : ∃ vs, Agr N0 fs0 vs := ⟨fun i => match fs0[i]? with | some (.val c) => c | some (.new _ _) => .pointer (some ⟨N0, 0, none⟩) | _ => undef, fun i f hf => by
      cases f with
      | val c => simp [hf]
      | ex p hp => trivial
      | new cs t => exact ⟨N0, by simp [hf], Nat.le_refl _⟩⟩
    obtain ⟨vs, hv⟩ := hv
    have := (use vs hv).2.2
    rw [this, List.length_take, Array.length_toList]
    omega
  have fin : ∀ (fuel : Nat) (listed : Array Bool) (a : Act) (w : World) (vs : Nat → Value), FI8 ops C N0 fs0 m a0 listed a w vs → ops.size - m ≤ fuel → (∀ i, i < m → listed.getD i false = true) → wpAny P .any ops Q fuel listed a w := by
    intro fuel listed a w vs I hfuel hall
    obtain ⟨r1, r2, _⟩ := use vs I.agree
    have ea : a = putsFrom vs 0 (ops.toList.take m) a0 := by
      obtain ⟨ts, ds⟩ := a
      have e1 : ds = (putsFrom vs 0 (ops.toList.take m) a0).defers := by rw [putsFrom_defers]; exact I.defers
      have e2 : ts = (putsFrom vs 0 (ops.toList.take m) a0).tmps := by
        apply Array.ext_getElem?
        intro t
        by_cases hex : ∃ (j : Nat) (o : Oper), j < m ∧ ops[j]? = some o ∧ o.dst = some t
        · obtain ⟨j, o, hjm, hj, hd⟩ := hex
          have h1 := I.done j o t hj (hall j hjm) hd
          obtain ⟨_, hlt, _⟩ := factsOk_of _ hB hj
          rw [putsFrom_at vs t (ops.toList.take m) 0 a0 j o (by rw [List.getElem?_take, if_pos hjm]; simpa using hj) hd (hlt t hd) (fun i o' hi hij => by
            rw [List.getElem?_take] at hi
            split at hi
            · obtain ⟨_, _, h3⟩ := factsOk_of _ hB (show ops[i]? = some o' by simpa using hi)
              exact (h3 j o t hj hd).1 (Ne.symm hij)
            · cases hi)]
          simpa using h1
        · rw [putsFrom_other vs t (ops.toList.take m) 0 a0 (fun o ho hd => hex (by
            obtain ⟨i, hi, rfl⟩ := List.mem_iff_getElem.1 ho
            have him : i < m := by simp at hi; omega
            have his : i < ops.size := by simp at hi; omega
            exact ⟨i, _, him, by simp [his], hd⟩))]
          exact I.base t (fun i o hi hl hd => by
            by_cases him : i < m
            · exact hex ⟨i, o, him, hi, hd⟩
            · rw [I.head i (by omega)] at hl; cases hl)
      rw [e1, e2]
    rw [ea]
    have hl : ∀ i f, fs0[i]? = some f → listed.getD i false = true := fun i f hf => hall i (by have := (List.getElem?_eq_some_iff.1 hf).1; omega)
    refine wpAny_tail hedge m htail (ops.size - m) fuel listed _ _ (by omega) hfuel (by omega) I.size (fun j hj => ?_) ?_
    · by_cases hjm : j < m
      · rw [hall j hjm]; simp; omega
      · rw [I.head j (by omega)]; simp; omega
    · rw [show ops.size - (ops.size - m) = m from by omega]
      exact r2 _ w (fun j hj => hall j (by simp at hj; omega)) I.cls (fun i f hf _ => I.facts i f hf (hl i f hf)) (fun i j f g hi hj hf hg _ _ hne => I.dist i j f g hi hj hf hg (hl i f hi) (hl j g hj) hne)
  -- one of the head that has not come up, the lowest, may come up
  have some_ready : ∀ (listed : Array Bool), listed.size = ops.size → Region.ready .any ops listed = [] → ∀ i, i < ops.size → listed.getD i false = true := by
    intro listed hs hr i
    induction i using Nat.strongRecOn with
    | _ i ih =>
      intro hi
      by_cases hl : listed.getD i false = true
      · exact hl
      · exfalso
        have hl' : listed.getD i true = false := by
          have : i < listed.size := by omega
          simp [this] at hl ⊢
          exact hl
        have hm : i ∈ Region.ready .any ops listed := by
          refine mem_ready.2 ⟨hl', ops[i], by simp [hi], fun e he hb => ?_⟩
          have := hedge i _ (show ops[i]? = some ops[i] by simp [hi]) e he hb
          exact ih e.on this (by omega)
        rw [hr] at hm
        cases hm
  intro fuel
  induction fuel with
  | zero =>
    intro listed a w vs I hc
    have hall : ∀ i, i < ops.size → listed.getD i false = true := by
      intro i hi
      have : (List.range ops.size).filter (fun i => !listed.getD i false) = [] := List.length_eq_zero_iff.1 (by omega)
      rw [List.filter_eq_nil_iff] at this
      have := this i (by simp [hi])
      simpa using this
    have hms : m = ops.size := by
      by_cases hlt : m < ops.size
      · have := hall m hlt; rw [I.head m (Nat.le_refl _)] at this; cases this
      · omega
    exact fin 0 listed a w vs I (by omega) fun i hi => hall i (by omega)
  | succ fuel ih =>
    intro listed a w vs I hc
    by_cases hdone : ∀ i, i < m → listed.getD i false = true
    · refine fin (fuel + 1) listed a w vs I ?_ hdone
      -- what is left is the tail
      have : ((List.range ops.size).filter fun i => !listed.getD i false).length ≥ ops.size - m := by
        have h1 : ((List.range ops.size).filter fun i => !listed.getD i false) = (List.range ops.size).filter (fun i => decide (m ≤ i)) := by
          refine List.filter_congr fun i hi => ?_
          by_cases him : i < m
          · rw [hdone i him]; simp; omega
          · rw [I.head i (by omega)]; simp; omega
        rw [h1]
        have h2 : ∀ n, ((List.range n).filter (fun i => decide (m ≤ i))).length = n - m := by
          intro n
          induction n with
          | zero => simp
          | succ n ihn =>
            rw [List.range_succ, List.filter_append, List.length_append, ihn]
            by_cases hmn : m ≤ n
            · simp [hmn]; omega
            · simp [hmn]; omega
        rw [h2]
        exact Nat.le_refl _
      omega
    refine ⟨fun hr => absurd (fun i hi => some_ready listed I.size hr i (by omega)) hdone, fun i hi => ?_⟩
    obtain ⟨h0, o, ho, hall⟩ := mem_ready.1 hi
    have hil := (Array.getElem?_eq_some_iff.1 ho).1
    have hls : i < listed.size := by rw [I.size]; exact hil
    have hun : listed.getD i false = false := by simp [hls] at h0 ⊢; exact h0
    obtain ⟨g1, g2, g3⟩ := factsOk_of _ hB ho
    have hpre : ∀ j ∈ predsOf o, listed.getD j false = true := by
      intro j hj
      simp only [predsOf, List.mem_map, List.mem_filter] at hj
      obtain ⟨e, ⟨he, hb⟩, rfl⟩ := hj
      exact hall e (by simpa using he) hb
    have him : i < m := by
      by_cases h' : i < m
      · exact h'
      · exfalso
        refine hdone fun j hj => ?_
        exact downs_listed listed I.down 3 i o ho hpre j (htail i (by omega) hil j (by omega))
    obtain ⟨r1, _, _⟩ := use vs I.agree
    obtain ⟨f, hf, hok⟩ := r1 i o (by rw [List.getElem?_take, if_pos him]; simpa using ho)
    rw [Nat.zero_add] at hf
    have hok := hok _ w I.cls (by simpa using hun) hpre fun j f hjf hj => I.facts j f hjf (hpre j hj)
    have htk : (ops.toList.take m).take i = ops.toList.take i := by rw [List.take_take, Nat.min_eq_left (by omega)]
    rw [htk] at hok
    -- the two states are alike at what the operation looks at
    have same : ∀ t ∈ o.looksAt ops, (putsFrom vs 0 (ops.toList.take i) a0).tmps[t]? = a.tmps[t]? := by
      intro t ht
      by_cases hex : ∃ (j : Nat) (o' : Oper), ops[j]? = some o' ∧ o'.dst = some t
      · obtain ⟨j, o', hj, hd⟩ := hex
        have hjp := (g3 j o' t hj hd).2 ht
        have hjl := hpre j hjp
        have hji : j < i := by
          simp only [predsOf, List.mem_map, List.mem_filter] at hjp
          obtain ⟨e, ⟨he, hb⟩, rfl⟩ := hjp
          exact g1 e (by simpa using he) hb
        obtain ⟨_, hlt, _⟩ := factsOk_of _ hB hj
        rw [putsFrom_at vs t (ops.toList.take i) 0 a0 j o' (by rw [List.getElem?_take, if_pos hji]; simpa using hj) hd (hlt t hd) (fun k ok hk hkj => by
          rw [List.getElem?_take] at hk
          split at hk
          · obtain ⟨_, _, h3⟩ := factsOk_of _ hB (show ops[k]? = some ok by simpa using hk)
            exact (h3 j o' t hj hd).1 (Ne.symm hkj)
          · cases hk)]
        rw [I.done j o' t hj hjl hd, Nat.zero_add]
      · rw [putsFrom_other vs t (ops.toList.take i) 0 a0 (fun o' ho' hd => hex (by
          obtain ⟨k, hk, rfl⟩ := List.mem_iff_getElem.1 (List.mem_of_mem_take ho')
          exact ⟨k, _, by rw [← Array.getElem?_toList]; exact List.getElem?_eq_getElem hk, hd⟩))]
        exact (I.base t (fun k ok hk _ hd => hex ⟨k, ok, hk, hd⟩)).symm
    have hok : opok8 P ops (C (adds (0 + i) fun j => listed.getD j false = true)) N0 o f a w := by
      refine opok8_congr ?_ ?_ hok
      · refine execOp_congr o (fun cs b => Region.noSelect_spec hsel i o cs b ho) fun x hx => ?_
        cases x with
        | tmp t =>
          have := same t (List.mem_append_left _ (List.mem_filterMap.2 ⟨.tmp t, by simpa using hx, rfl⟩))
          simp only [Act.eval, Array.getD_eq_getD_getElem?, this]
        | _ => rfl
      · unfold Region.wanted
        cases hg : o.guard with
        | none => rfl
        | some gw =>
          obtain ⟨g, want⟩ := gw
          have : yielded ops (putsFrom vs 0 (ops.toList.take i) a0).tmps g = yielded ops a.tmps g := by
            unfold yielded
            cases ht : (ops[g]?).bind (·.dst) with
            | none => rfl
            | some t => rw [Option.bind_some, Option.bind_some, same t (by simp [Oper.looksAt, hg, ht])]
          simp only [this]
    refine wpOp_of_opok8 ho (hN _ w I.cls) hok fun v w' hv hC' => ?_
    refine ih _ _ _ (fun j => if j = i then v else vs j) ⟨by simp [I.size], (listed_adds hls) ▸ hC', ?_, ?_, ?_, ?_, ?_, ?_, ?_, ?_, ?_, ?_⟩ ?_
    · cases hd : o.dst <;> simpa [Act.put] using I.defers
    · cases hd : o.dst <;> simpa [Act.put] using I.tsize
    · intro j fj hj
      by_cases hji : j = i
      · subst hji
        rw [hf] at hj
        injection hj with hj
        subst hj
        simp only [if_true]
        cases f with
        | val c => exact hv
        | ex p hp => trivial
        | new cs t => obtain ⟨g, e1, e2, _⟩ := hv; exact ⟨g, e1, e2⟩
      · simpa [hji] using I.agree j fj hj
    · intro t ht
      have hne : o.dst ≠ some t := ht i o ho (by simp [hls])
      have : (a.put o.dst v).tmps[t]? = a.tmps[t]? := by
        cases hd : o.dst with
        | none => rfl
        | some d =>
          have hne' : d ≠ t := fun e => hne (by rw [hd, e])
          simp [Act.put, Array.getElem?_setIfInBounds_ne hne']
      rw [this]
      exact I.base t fun j oj hj hl => ht j oj hj (getD_set_true hl)
    · intro j oj d hj hl hd
      by_cases hji : j = i
      · subst hji
        rw [ho] at hj
        injection hj with hj
        subst hj
        have := g2 d hd
        rw [← I.tsize] at this
        simp [Act.put, hd, this]
      · rw [getD_set_ne false (Ne.symm hji)] at hl
        have h1 := I.done j oj d hj hl hd
        have hne : o.dst ≠ some d := (g3 j oj d hj hd).1 hji
        have : (a.put o.dst v).tmps[d]? = a.tmps[d]? := by
          cases hd' : o.dst with
          | none => rfl
          | some d' =>
            have hne' : d' ≠ d := fun e => hne (by rw [hd', e])
            simp [Act.put, Array.getElem?_setIfInBounds_ne hne']
        rw [this, h1]
        simp [hji]
    · intro j fj hj hl
      by_cases hji : j = i
      · subst hji
        rw [hf] at hj
        injection hj with hj
        subst hj
        simpa using hv
      · rw [getD_set_ne false (Ne.symm hji)] at hl
        simp only [hji, if_false]
        obtain ⟨c, rfl⟩ := hV j fj hj
        exact I.facts j _ hj hl
    · intro j k fj fk hj hk hnj
      obtain ⟨c, rfl⟩ := hV j fj hj
      cases hnj
    · intro j fj hj hnj
      obtain ⟨c, rfl⟩ := hV j fj hj
      cases hnj
    · intro j oj hj hlj q hq
      by_cases hji : j = i
      · subst hji
        rw [ho] at hj
        injection hj with hj
        subst hj
        exact getD_set_true (hpre q hq)
      · rw [getD_set_ne false (Ne.symm hji)] at hlj
        exact getD_set_true (I.down j oj hj hlj q hq)
    · intro j hj
      rw [getD_set_ne false (by omega)]
      exact I.head j hj
    · -- one less
      have hlen' : ((List.range ops.size).filter fun j => !(listed.setIfInBounds i true).getD j false).length < ((List.range ops.size).filter fun j => !listed.getD j false).length := by
        have e1 : ((List.range ops.size).filter fun j => !(listed.setIfInBounds i true).getD j false) = ((List.range ops.size).filter fun j => !listed.getD j false).filter (fun j => j != i) := by
          rw [List.filter_filter]
          refine List.filter_congr fun j hj => ?_
          by_cases hji : j = i
          · subst hji; simp [hls]
          · rw [getD_set_ne false (Ne.symm hji)]; simp [hji]
        rw [e1]
        refine List.length_filter_lt_length_iff_exists.2 ⟨i, ?_, by simp⟩
        simp [List.mem_filter, hil]
        simpa [hls] using hun
      omega
theorem none_adds (n : Nat) : (fun _ => False) = fun j => (Array.replicate n false).getD j false = true := by
  funext j; apply propext; rw [none_listed]; simp
/-- **One walk of the text's order for the head, then the tail.** -/
theorem wp_region_facts8 {id : Nat} {Q : Exit → Act → World → Prop} {a : Act} {w : World} {l tl : List Oper} (fs : List Fct) (N0 : Nat) (hm : P.follows .mixedOrders = true) (hB : factsB (l ++ tl).toArray a.tmps.size = true) (hT : tailB (l ++ tl).toArray l.length = true) (hN : ∀ I w, C I w → N0 ≤ w.heap.size) (hC : C (fun _ => False) w.drew)
    (hV : ∀ (i : Nat) (f : Fct), fs[i]? = some f → ∃ c, f = Fct.val c) (h : fst8 P (l ++ tl).toArray C N0 (wpList P (l ++ tl).toArray Q tl) 0 l fs a [] []) : (Code.region id (l ++ tl).toArray true).wp P Q a w := by
  have e1 : (l ++ tl).toArray.toList.take l.length = l := by simp
  have e2 : (l ++ tl).toArray.toList.drop l.length = tl := by simp
  refine wp_region_any hm (wpAny_of_facts8 (m := l.length) hB hT hN (by simp) hV (by rw [e1, e2]; exact h) _ _ _ _ (fun i => match fs[i]? with | some (.val c) => c | some (.new _ _) => .pointer (some ⟨N0, 0, none⟩) | _ => undef) ⟨by simp, (none_adds _) ▸ hC, rfl, rfl, ?_, ?_, ?_, ?_, ?_, ?_, ?_, ?_⟩ ?_)
  · intro i f hf
    cases f with
    | val c => simp [hf]
    | ex p hp => trivial
    | new cs t => exact ⟨N0, by simp [hf], Nat.le_refl _⟩
  · intro t _; rfl
  · intro i o d hi hl; rw [none_listed] at hl; cases hl
  · intro i f hf hl; rw [none_listed] at hl; cases hl
  · intro i j f g _ _ _ _ hl; rw [none_listed] at hl; cases hl
  · intro i f _ _ hl; rw [none_listed] at hl; cases hl
  · intro i o _ hl; rw [none_listed] at hl; cases hl
  · intro i _; exact none_listed _ _
  · refine Nat.le_trans (List.length_filter_le _ _) (by simp)
theorem wp_region_facts8_lit {id : Nat} {Q : Exit → Act → World → Prop} {a : Act} {w : World} {l : List Oper} (m : Nat) (fs : List Fct) (N0 : Nat) (hm : P.follows .mixedOrders = true) (hml : m ≤ l.length) (hB : factsB l.toArray a.tmps.size = true) (hT : tailB l.toArray m = true) (hN : ∀ I w, C I w → N0 ≤ w.heap.size) (hC : C (fun _ => False) w.drew)
    (hV : ∀ (i : Nat) (f : Fct), fs[i]? = some f → ∃ c, f = Fct.val c) (h : fst8 P l.toArray C N0 (wpList P l.toArray Q (l.drop m)) 0 (l.take m) fs a [] []) : (Code.region id l.toArray true).wp P Q a w := by
  have e : l.take m ++ l.drop m = l := List.take_append_drop m l
  have r := wp_region_facts8 (P := P) (C := C) (id := id) (Q := Q) (a := a) (w := w) (l := l.take m) (tl := l.drop m) fs N0 hm
  rw [e, List.length_take, Nat.min_eq_left hml] at r
  exact r hB hT hN hC hV h
/-- Two times: until the operation k, and from there on. -/
def Ph (k : Nat) (X Y : World → Prop) (I : Nat → Prop) (W : World) : Prop := (¬ I k → X W) ∧ (I k → Y W)
theorem Ph.other {k i : Nat} {X Y : World → Prop} {I : Nat → Prop} {W : World} (h : Ph k X Y I W) (hi : k ≠ i) : Ph k X Y (adds i I) W :=
  ⟨fun n => h.1 fun m => n (.inr m), fun n => h.2 (n.resolve_left hi)⟩
theorem Ph.now {k : Nat} {X Y : World → Prop} {I : Nat → Prop} {W : World} (h : Y W) : Ph k X Y (adds k I) W := ⟨fun n => absurd (.inl rfl) n, fun _ => h⟩
theorem Ph.both {k : Nat} {X Y Z : World → Prop} {I : Nat → Prop} {W : World} (h : Ph k X Y I W) (hx : X W → Z W) (hy : Y W → Z W) : Z W := by
  by_cases hk : I k
  · exact hy (h.2 hk)
  · exact hx (h.1 hk)
/-! ### One operation at a time -/
theorem vals_all : ∀ (l : List Value) (i : Nat) (f : Fct), (l.map Fct.val)[i]? = some f → ∃ c, f = Fct.val c := by
  intro l i f h
  rw [List.getElem?_map] at h
  cases hl : l[i]? with
  | none => rw [hl] at h; cases h
  | some c => rw [hl] at h; injection h with h; exact ⟨c, h.symm⟩
section
variable {Q : Act → World → Prop} {i : Nat} {o : Oper} {os : List Oper} {fs : List Fct} {a : Act} {hs : List (Nat × (World → Prop))} {gs : List Nat} {w : World}
theorem fst8_val {c : Value} (h1 : ∀ I w, C I w → ¬ I i → (∀ p ∈ predsOf o, I p) → opok8 P ops (C (adds i I)) N0 o (.val c) a w) (h2 : fst8 P ops C N0 Q (i + 1) os fs (a.put o.dst c) hs gs) : fst8 P ops C N0 Q i (o :: os) (.val c :: fs) a hs gs := ⟨fun I w hC hn hp _ => h1 I w hC hn hp, h2⟩
theorem fst8_nil (h : ∀ I w, (∀ j, j < i → I j) → C I w → Q a w) : fst8 P ops C N0 Q i [] [] a hs gs := fun I w hI hC _ _ => h I w hI hC
end
end
end Go.Proofs.YtjbmahjfmffnoaaDoor

/- Two instructions' lines, read. -/
namespace Go.Proofs.YtjbmahjfmffnoaaDoor
open Go.RowKit Go.WideShapes Go.ChangeShapes
set_option linter.unusedSimpArgs false
set_option linter.unusedVariables false

theorem h_zero_35 : ZeroOf Tryd.prog 35 #[.int .i64 0, .int .i64 0, .int .i64 0, .int .i32 0] := zeroOf (z := .agg #[.int .i64 0, .int .i64 0, .int .i64 0, .int .i32 0]) (by kernel_rfl) rfl
theorem h_fld_35_0 : FieldAt Tryd.prog 35 0 0 := fieldAt_of (s := 0) Tryd.underlying35 (by kernel_rfl)
theorem h_one_3 : One Tryd.prog 3 := one_of Tryd.underlying3 rfl (by kernel_rfl)
theorem h_zero_56 : ZeroOf Tryd.prog 56 #[.bool false, .bool false, .bool false] := zeroOf (z := .agg #[.bool false, .bool false, .bool false]) (by kernel_rfl) rfl
theorem h_zero_39 : ZeroOf Tryd.prog 39 #[.slice none 0 0] := zeroOf (z := .slice none 0 0) (by kernel_rfl) rfl
theorem h_one_39 : One Tryd.prog 39 := one_of Tryd.underlying39 rfl (by kernel_rfl)
theorem h_one_4 : One Tryd.prog 4 := one_of Tryd.underlying4 rfl (by kernel_rfl)
theorem h_fld_56_0 : FieldAt Tryd.prog 56 0 0 := fieldAt_of (s := 0) Tryd.underlying56 (by kernel_rfl)
theorem h_fld_56_1 : FieldAt Tryd.prog 56 1 1 := fieldAt_of (s := 0) Tryd.underlying56 (by kernel_rfl)
theorem h_fld_56_2 : FieldAt Tryd.prog 56 2 2 := fieldAt_of (s := 0) Tryd.underlying56 (by kernel_rfl)
theorem h_fld_35_1 : FieldAt Tryd.prog 35 1 1 := fieldAt_of (s := 0) Tryd.underlying35 (by kernel_rfl)
theorem h_run_call_8_1 {o : Oper} {a : Act} (x0 : Operand) {ts : Array TypeId} (ho : o.op = .call { callee := .value (.func 8), args := #[x0], argTypes := ts }) {v0 : Value} (h0 : a.eval x0 = v0) (W : World) : (execOp a.eval o).run Tryd.prog W = .ok (.enter 8 #[v0]) W := by
  unfold execOp
  simp only [ho]
  subst h0
  go_simp
theorem h_run_call_28_1 {o : Oper} {a : Act} (x0 : Operand) {ts : Array TypeId} (ho : o.op = .call { callee := .value (.func 28), args := #[x0], argTypes := ts }) {v0 : Value} (h0 : a.eval x0 = v0) (W : World) : (execOp a.eval o).run Tryd.prog W = .ok (.enter 28 #[v0]) W := by
  unfold execOp
  simp only [ho]
  subst h0
  go_simp
theorem h_run_call_32_2 {o : Oper} {a : Act} (x0 : Operand) (x1 : Operand) {ts : Array TypeId} (ho : o.op = .call { callee := .value (.func 32), args := #[x0, x1], argTypes := ts }) {v0 : Value} (h0 : a.eval x0 = v0) {v1 : Value} (h1 : a.eval x1 = v1) (W : World) : (execOp a.eval o).run Tryd.prog W = .ok (.enter 32 #[v0, v1]) W := by
  unfold execOp
  simp only [ho]
  subst h0 h1
  go_simp
theorem h_run_call_44_1 {o : Oper} {a : Act} (x0 : Operand) {ts : Array TypeId} (ho : o.op = .call { callee := .value (.func 44), args := #[x0], argTypes := ts }) {v0 : Value} (h0 : a.eval x0 = v0) (W : World) : (execOp a.eval o).run Tryd.prog W = .ok (.enter 44 #[v0]) W := by
  unfold execOp
  simp only [ho]
  subst h0
  go_simp
theorem h_run_callc_43_1_1 {o : Oper} {a : Act} (x : Operand) (x0 : Operand) {ts : Array TypeId} (ho : o.op = .call { callee := .value x, args := #[x0], argTypes := ts }) {c0 : Value} (hx : a.eval x = .func (.func 43) #[] #[c0]) {v0 : Value} (h0 : a.eval x0 = v0) (W : World) : (execOp a.eval o).run Tryd.prog W = .ok (.enter 43 #[v0, c0]) W := by
  unfold execOp
  simp only [ho]
  subst h0
  generalize a.eval = ρ at *
  go_simp

attribute [local irreducible] Go.wpList Go.Code.wp
set_option maxRecDepth 100000 in
set_option maxHeartbeats 4000000 in
theorem parseIns_out (w : World) : Calls Tryd.prog 35 #[.string (str [111, 117, 116, 32, 114, 48])] w fun e w' => e = .returned (.tuple #[.agg #[.int .i64 13, .int .i64 0, .int .i64 0, .int .i32 0], .bool true]) ∧ Below w.heap.size w w' := by
  have bel : Below w.heap.size w w := Below.refl _ _
  have hpc : pieces 32 [111, 117, 116, 32, 114, 48] = ([[111, 117, 116], [114, 48]] : List (List UInt8)) := by decide
  have hl2 : ([[111, 117, 116], [114, 48]] : List (List UInt8)).length = 2 := rfl
  go_enter Tryd.func35, Tryd.ntmps35
  refine wp_seq ?_
  refine wp_region_lit ?_
  refine st_new (cs := #[.int .i64 0, .int .i64 0, .int .i64 0, .int .i32 0]) (t := 35) (by rfl) (run_allocV rfl h_zero_35 _) ?_
  intro g1 w2 B3 hb4 lo5
  simp only [nf0, nf1, nf2, nf3, nf4]
  replace lo5 := low_le bel lo5
  replace bel := bl_step bel hb4
  clear hb4
  refine st_mv (.bool false) ?_
  simp only [nf0, nf1, nf2, nf3, nf4]
  refine wpList_nil ?_
  show Code.wp _ _ _ _ _
  refine wp_seq ?_
  refine wp_region_lit ?_
  refine st_mv (.string (str [111, 117, 116, 32, 114, 48])) ?_
  simp only [nf0, nf1, nf2, nf3, nf4]
  have hc6 := splits_calls [111, 117, 116, 32, 114, 48] 32 (by decide) w2
  rw [hpc] at hc6
  refine st_call (by rfl) (h_run_call_32_2 (.tmp 15) (.const (.string ⟨#[32]⟩)) rfl rfl rfl _) hc6 ?_
  rintro v7 w9 ⟨O8, hf10⟩
  simp only [nf0, nf1, nf2, nf3, nf4]
  have n11 := O8.offLow B3
  have O8_ := fun k hk => (O8.lt k hk).1
  replace O8 := O8.lower bel.size
  replace B3 := B3.below hf10
  replace bel := bl_step bel hf10
  clear hf10
  refine st_mv v7 ?_
  simp only [nf0, nf1, nf2, nf3, nf4]
  refine wpList_nil ?_
  show Code.wp _ _ _ _ _
  refine wp_seq ?_
  refine wp_seq ?_
  obtain ⟨A12, c13, hv14, h15, h16, h17, R18⟩ := O8.reads
  subst hv14
  obtain ⟨b19, o20, rfl, _⟩ := R18.at_ (by rw [Enc.all_length]; exact Nat.mul_pos (by omega) (by decide))
  refine wp_region_lit ?_
  refine st_mv (.int .i64 1) ?_
  simp only [nf0, nf1, nf2, nf3, nf4]
  refine wpList_nil ?_
  show Code.wp _ _ _ _ _
  refine wp_block ?_
  refine wp_loop_left (fun n_ a_ wr_ => (fun J21 => ∃ (i : Nat), n_ = 15 - i ∧ a_ = ⟨#[.string (str [111, 117, 116, 32, 114, 48]), J21 1, .pointer (some ⟨g1, 0, none⟩), .bool false, .slice (some ⟨b19, o20, none⟩) ([[111, 117, 116], [114, 48]] : List (List UInt8)).length c13, .int .i64 (i : Int), J21 6, J21 7, J21 8, J21 9, J21 10, J21 11, J21 12, J21 13, J21 14, J21 15, J21 16, J21 17, J21 18, J21 19, J21 20, J21 21, J21 22, J21 23, J21 24, J21 25, J21 26, J21 27, J21 28, J21 29, J21 30, J21 31, J21 32, J21 33, J21 34, J21 35, J21 36, J21 37, J21 38, J21 39, J21 40, J21 41, J21 42, J21 43, J21 44, J21 45, J21 46, J21 47, J21 48, J21 49, J21 50, J21 51, J21 52, J21 53, J21 54, J21 55, J21 56, J21 57, J21 58, J21 59, J21 60, J21 61, J21 62, J21 63, J21 64, J21 65, J21 66, J21 67, J21 68, J21 69, J21 70, J21 71, J21 72, J21 73, J21 74, J21 75, J21 76, J21 77, J21 78, J21 79, J21 80, J21 81, J21 82, J21 83, J21 84, J21 85, J21 86, J21 87, J21 88, J21 89, J21 90, J21 91, J21 92, J21 93, J21 94, J21 95, J21 96], []⟩ ∧ Blk wr_ g1 #[.int .i64 ((opv 13 i : Nat) : Int), .int .i64 0, .int .i64 0, .int .i32 0] 35 ∧ OwnR wr_ w.heap.size 9 eTx (.slice (some ⟨b19, o20, none⟩) ([[111, 117, 116], [114, 48]] : List (List UInt8)).length c13) ([[111, 117, 116], [114, 48]] : List (List UInt8)) ∧ Reads wr_ (some ⟨b19, o20, none⟩) (Enc.all eTx ([[111, 117, 116], [114, 48]] : List (List UInt8))) ∧ Off (.slice (some ⟨b19, o20, none⟩) ([[111, 117, 116], [114, 48]] : List (List UInt8)).length c13) g1 ∧ Below w.heap.size w wr_ ∧ (1 ≤ i ∧ i ≤ 15)) (jk a_)) (15 - 1) ⟨1, rfl, rfl, B3, O8, R18, n11, bel, (by omega)⟩ ?_
  clear B3
  clear O8
  clear R18
  clear n11
  clear bel
  intro n_ a_ w23 h_
  revert h_
  generalize jk a_ = J21
  rintro ⟨i, hms, rfl, B3, O8, R18, n22, bel, hi⟩
  refine wp_seq ?_
  refine wp_seq ?_
  refine wp_region_lit ?_
  refine st_mv (.int .i64 (i : Int)) ?_
  simp only [nf0, nf1, nf2, nf3, nf4]
  refine st_value (v := (.bool (decide ((i : Int) ≤ 14)))) (by rfl) (run_leq (.tmp 17) (.const (.int .i64 14)) rfl rfl rfl w23) ?_
  simp only [nf0, nf1, nf2, nf3, nf4]
  refine wpList_nil ?_
  show Code.wp _ _ _ _ _
  cases hg24 : decide ((i : Int) ≤ 14)
  rotate_left
  · have hp62 := of_decide_eq_true hg24
    refine wp_cond_true rfl ?_
    refine wp_skip ?_
    show Code.wp _ _ _ _ _
    refine wp_seq ?_
    refine wp_block ?_
    refine wp_seq ?_
    refine wp_region_facts2_lit (C := Abv w23) 5 [.val (.int .i64 (i : Int)), .val (.string (str (nmP (i : Int)))), .val (.slice (some ⟨b19, o20, none⟩) ([[111, 117, 116], [114, 48]] : List (List UInt8)).length c13), .val (.pointer (some ⟨b19, o20 + 0 * 1, none⟩)), .val (.string (str (tx ([[111, 117, 116], [114, 48]] : List (List UInt8)) 0)))] w23.heap.size (by kernel_rfl) (by simp) (by kernel_rfl) (by kernel_rfl) (fun _ h => h.size) (Abv.start _) ?_
    simp only [List.take_succ_cons, List.take_zero, List.drop_succ_cons, List.drop_zero]
    refine fst2_val (fun W hC hh => ok2_value (v := (.int .i64 (i : Int))) (by rfl) (by rfl) rfl hC (G0.refl _)) ?_
    simp only [nf0, nf1, nf2, nf3, nf4]
    refine fst2_val (fun W hC hh => ok2_call (by rfl) (h_run_call_8_1 (.tmp 21) rfl rfl W) ((pname_calls (i : Int) W).mono fun e W' ⟨h1, h2⟩ => ⟨h1, hC.step h2, h2⟩)) ?_
    simp only [nf0, nf1, nf2, nf3, nf4]
    refine fst2_val (fun W hC hh => ok2_value (v := (.slice (some ⟨b19, o20, none⟩) ([[111, 117, 116], [114, 48]] : List (List UInt8)).length c13)) (by rfl) (by rfl) rfl hC (G0.refl _)) ?_
    simp only [nf0, nf1, nf2, nf3, nf4]
    refine fst2_val (fun W hC hh => ok2_value (v := (.pointer (some ⟨b19, o20 + 0 * 1, none⟩))) (by rfl) (run_indexAddrN (.tmp 23) (.const (.int .i64 0)) rfl Tryd.underlying39 slTx.sz (i := 0) rfl (by exact (congrArg (Value.int .i64) (show 0 = ((0 : Nat) : Int) by omega))) (by omega) W) rfl hC (G0.refl _)) ?_
    simp only [nf0, nf1, nf2, nf3, nf4]
    refine fst2_val (fun W hC hh => ok2_value (v := (.string (str (tx ([[111, 117, 116], [114, 48]] : List (List UInt8)) 0)))) (by rfl) (run_load1 (.tmp 24) rfl Tryd.underlying9 rfl slTx.sz rfl (Reads.txAt (R18.same hC) 0 (by omega))) rfl hC (G0.refl _)) ?_
    simp only [nf0, nf1, nf2, nf3, nf4]
    refine fst2_nil fun w63 hC hh hnd => ?_
    replace hC : Below w23.heap.size w23 w63 := hC
    clear hh hnd
    replace B3 := B3.below hC
    replace O8 := O8.same hC
    replace R18 := R18.same hC
    replace bel := bl_step bel hC
    clear hC
    refine st_value (v := (.bool (decide ((nmP (i : Int)) = (tx ([[111, 117, 116], [114, 48]] : List (List UInt8)) 0))))) (by rfl) (run_eql_text (.tmp 22) (.tmp 25) (l := (nmP (i : Int))) (m := (tx ([[111, 117, 116], [114, 48]] : List (List UInt8)) 0)) rfl rfl rfl w63) ?_
    simp only [nf0, nf1, nf2, nf3, nf4]
    refine wpList_nil ?_
    show Code.wp _ _ _ _ _
    cases hg64 : decide ((nmP (i : Int)) = (tx ([[111, 117, 116], [114, 48]] : List (List UInt8)) 0))
    · have hp65 := of_decide_eq_false hg64
      refine wp_cond_false rfl ?_
      refine wp_skip ?_
      show Code.wp _ _ _ _ _
      refine wp_region_lit ?_
      refine st_mv (.int .i64 (i : Int)) ?_
      simp only [nf0, nf1, nf2, nf3, nf4]
      refine st_value (v := (.int .i64 ((i : Int) + 1))) (by rfl) (run_add_in (.tmp 19) (.const (.int .i64 1)) rfl rfl rfl (by omega) w63) ?_
      simp only [nf0, nf1, nf2, nf3, nf4]
      refine st_mv (.int .i64 ((i : Int) + 1)) ?_
      simp only [nf0, nf1, nf2, nf3, nf4]
      refine wpList_nil ?_
      show ∃ m, m < _ ∧ _
      exact ⟨_, (by omega), (i + 1), rfl, rfl, (by have h_ := B3; rw [opv_no (show ¬ nmP (i : Int) = nmP ((13 : Nat) : Int) from (by assumption : ¬ nmP (i : Int) = tx ([[111, 117, 116], [114, 48]] : List (List UInt8)) 0))]; exact h_), O8, R18, n22, bel, (by omega)⟩
    have hp66 := of_decide_eq_true hg64
    refine wp_cond_true rfl ?_
    refine wp_region_lit ?_
    refine st_mv (.int .i64 (i : Int)) ?_
    simp only [nf0, nf1, nf2, nf3, nf4]
    refine st_value (v := (.pointer (some ⟨g1, 0, none⟩))) (by rfl) (run_fieldA (.tmp 2) rfl h_fld_35_0 rfl rfl w63) ?_
    simp only [nf0, nf1, nf2, nf3, nf4]
    refine st_cell (v := (.int .i64 (i : Int))) (by rfl) (run_storeB (.tmp 28) (.tmp 27) rfl h_one_3 B3 (show 0 < 4 by decide) rfl rfl rfl rfl) B3 ?_
    intro w67 B69 hg68
    simp only [nf0, nf1, nf2, nf3, nf4]
    replace O8 := O8.keptB hg68 n22
    replace bel := bl_kept0 bel hg68 lo5
    replace R18 := OwnR.rdE O8
    clear hg68
    clear B3
    replace B69 : Blk w67 g1 #[.int .i64 (i : Int), .int .i64 0, .int .i64 0, .int .i32 0] 35 := B69
    refine wpList_nil ?_
    show Code.wp _ _ _ _ _
    refine wp_region_lit ?_
    refine st_mv (.int .i64 (i : Int)) ?_
    simp only [nf0, nf1, nf2, nf3, nf4]
    refine st_value (v := (.int .i64 ((i : Int) + 1))) (by rfl) (run_add_in (.tmp 19) (.const (.int .i64 1)) rfl rfl rfl (by omega) w67) ?_
    simp only [nf0, nf1, nf2, nf3, nf4]
    refine st_mv (.int .i64 ((i : Int) + 1)) ?_
    simp only [nf0, nf1, nf2, nf3, nf4]
    refine wpList_nil ?_
    show ∃ m, m < _ ∧ _
    exact ⟨_, (by omega), (i + 1), rfl, rfl, (by have h_ := B69; rw [opv_yes (by omega) (by omega) (show nmP (i : Int) = nmP ((13 : Nat) : Int) from (by assumption : nmP (i : Int) = tx ([[111, 117, 116], [114, 48]] : List (List UInt8)) 0))]; exact h_), O8, R18, n22, bel, (by omega)⟩
  have hp25 := of_decide_eq_false hg24
  refine wp_cond_false rfl ?_
  refine wp_exit ?_
  show Code.wp _ _ _ _ _
  refine wp_seq ?_
  refine wp_seq ?_
  obtain rfl : i = 15 := by omega
  have B26 : Blk w23 g1 #[.int .i64 13, .int .i64 0, .int .i64 0, .int .i32 0] 35 := B3
  clear B3
  refine wp_region_lit ?_
  refine st_value (v := (.pointer (some ⟨g1, 0, none⟩))) (by rfl) (run_fieldA (.tmp 2) rfl h_fld_35_0 rfl rfl w23) ?_
  simp only [nf0, nf1, nf2, nf3, nf4]
  refine st_value (v := (.int .i64 13)) (by rfl) (run_loadB (.tmp 29) rfl h_one_3 rfl B26 rfl) ?_
  simp only [nf0, nf1, nf2, nf3, nf4]
  refine st_value (v := (.bool false)) (by rfl) (run_eql_int_f (.tmp 30) (.const (.int .i64 0)) rfl rfl rfl (by decide) w23) ?_
  simp only [nf0, nf1, nf2, nf3, nf4]
  refine wpList_nil ?_
  show Code.wp _ _ _ _ _
  refine wp_cond_false rfl ?_
  refine wp_skip ?_
  show Code.wp _ _ _ _ _
  refine wp_seq ?_
  refine wp_region_lit ?_
  refine st_value (v := (.pointer (some ⟨g1, 0, none⟩))) (by rfl) (run_fieldA (.tmp 2) rfl h_fld_35_0 rfl rfl w23) ?_
  simp only [nf0, nf1, nf2, nf3, nf4]
  refine st_value (v := (.int .i64 13)) (by rfl) (run_loadB (.tmp 33) rfl h_one_3 rfl B26 rfl) ?_
  simp only [nf0, nf1, nf2, nf3, nf4]
  refine st_call1 (v := (.agg #[.bool true, .bool false, .bool false])) (by rfl) (h_run_call_28_1 (.tmp 34) rfl rfl _) (show Calls _ _ _ _ fun e w' => e = .returned (.agg #[.bool true, .bool false, .bool false]) ∧ Below w23.heap.size w23 w' from of_calls 13 w23) ?_
  intro w27 hb28
  simp only [nf0, nf1, nf2, nf3, nf4]
  replace B26 := B26.below hb28
  replace O8 := O8.same hb28
  replace R18 := R18.same hb28
  replace bel := bl_step bel hb28
  clear hb28
  refine st_new (cs := #[.bool false, .bool false, .bool false]) (t := 56) (by rfl) (run_allocV rfl h_zero_56 _) ?_
  intro g29 w30 B31 hb32 lo33
  simp only [nf0, nf1, nf2, nf3, nf4]
  have n34 := B26.ne lo33
  have n35 := O8.off lo33
  replace lo33 := low_le bel lo33
  replace B26 := B26.below hb32
  replace O8 := O8.same hb32
  replace R18 := R18.same hb32
  replace bel := bl_step bel hb32
  clear hb32
  refine st_row (by rfl) (run_storeW (.tmp 6) (.tmp 35) rfl (cs := #[.bool true, .bool false, .bool false]) aggShp rfl rfl B31 rfl (by simp [Value.oneCell'])) B31 ?_
  intro w36 B38 hg37
  simp only [nf0, nf1, nf2, nf3, nf4]
  replace B26 := B26.kept hg37 n34
  replace O8 := O8.keptB hg37 n35
  replace bel := bl_kept0 bel hg37 lo33
  replace R18 := OwnR.rdE O8
  clear hg37
  clear B31
  refine wpList_nil ?_
  show Code.wp _ _ _ _ _
  refine wp_seq ?_
  refine wp_region_lit ?_
  refine st_mv (.slice (some ⟨b19, o20, none⟩) ([[111, 117, 116], [114, 48]] : List (List UInt8)).length c13) ?_
  simp only [nf0, nf1, nf2, nf3, nf4]
  have R39 := Reads.cutA (p := 1) R18 h15
  refine st_value (v := (.slice (cutA (some ⟨b19, o20, none⟩) c13 1) (([[111, 117, 116], [114, 48]] : List (List UInt8)).drop 1).length (c13 - 1))) (by rfl) (run_cutlo (.tmp 36) (.const (.int .i64 1)) rfl Tryd.underlying39 slTx.sz rfl rfl (p := 1) (by omega) (by omega) h15 w36) ?_
  simp only [nf0, nf1, nf2, nf3, nf4]
  refine st_new (cs := #[.slice none 0 0]) (t := 39) (by rfl) (run_allocV rfl h_zero_39 _) ?_
  intro g40 w41 B42 hb43 lo44
  simp only [nf0, nf1, nf2, nf3, nf4]
  have n45 := B26.ne lo44
  have n46 := O8.off lo44
  have n47 := B38.ne lo44
  replace lo44 := low_le bel lo44
  replace B26 := B26.below hb43
  replace O8 := O8.same hb43
  replace R18 := R18.same hb43
  replace B38 := B38.below hb43
  replace bel := bl_step bel hb43
  clear hb43
  refine st_cell (v := (.slice (cutA (some ⟨b19, o20, none⟩) c13 1) (([[111, 117, 116], [114, 48]] : List (List UInt8)).drop 1).length (c13 - 1))) (by rfl) (run_storeB (.tmp 7) (.tmp 37) rfl h_one_39 B42 (show 0 < 1 by decide) rfl rfl rfl rfl) B42 ?_
  intro w48 B50 hg49
  simp only [nf0, nf1, nf2, nf3, nf4]
  replace B26 := B26.kept hg49 n45
  replace O8 := O8.keptB hg49 n46
  replace B38 := B38.kept hg49 n47
  replace bel := bl_kept0 bel hg49 lo44
  replace R18 := OwnR.rdE O8
  clear hg49
  clear B42
  replace B50 : Blk w48 g40 #[.slice (cutA (some ⟨b19, o20, none⟩) c13 1) (([[111, 117, 116], [114, 48]] : List (List UInt8)).drop 1).length (c13 - 1)] 39 := B50
  refine wpList_nil ?_
  show Code.wp _ _ _ _ _
  refine wp_seq ?_
  have hcu := cutA_one (b := b19) (o := o20) (c := c13) (by omega)
  have R51 : Reads w48 (some ⟨b19, o20 + 1, none⟩) (eTx.all [[114, 48]]) := rd_cut O8
  have hc1 : ([[114, 48]] : List (List UInt8)).length ≤ c13 - 1 := by show 1 ≤ c13 - 1; omega
  have B52 : Blk w48 g40 #[.slice (some ⟨b19, o20 + 1, none⟩) ([[114, 48]] : List (List UInt8)).length (c13 - 1)] 39 := by have h_ := B50; rw [hcu] at h_; exact h_
  clear B50
  rw [hcu]
  refine wp_region_lit ?_
  refine st_value (v := (.func (.func 43) #[] #[.pointer (some ⟨g40, 0, none⟩)])) (by rfl) (run_func (f := .func 43) (c := #[.tmp 7]) (v := (.func (.func 43) #[] #[.pointer (some ⟨g40, 0, none⟩)])) (by rfl) (by rw [List.map_toArray]; rfl) w48) ?_
  simp only [nf0, nf1, nf2, nf3, nf4]
  refine st_mv (.func (.func 43) #[] #[.pointer (some ⟨g40, 0, none⟩)]) ?_
  simp only [nf0, nf1, nf2, nf3, nf4]
  refine wpList_nil ?_
  show Code.wp _ _ _ _ _
  refine wp_seq_join2 (fun a_ wr_ => ∃ (A_ : Option Addr) (c_ : Nat), a_ = ⟨#[.string (str [111, 117, 116, 32, 114, 48]), J21 1, .pointer (some ⟨g1, 0, none⟩), .bool false, .slice (some ⟨b19, o20, none⟩) ([[111, 117, 116], [114, 48]] : List (List UInt8)).length c13, .int .i64 15, .pointer (some ⟨g29, 0, none⟩), .pointer (some ⟨g40, 0, none⟩), .func (.func 43) #[] #[.pointer (some ⟨g40, 0, none⟩)], .string (str [114, 48]), .string (str []), .string (str []), J21 12, J21 13, J21 14, J21 15, J21 16, .int .i64 15, .bool false, J21 19, J21 20, J21 21, J21 22, J21 23, J21 24, J21 25, J21 26, J21 27, J21 28, .pointer (some ⟨g1, 0, none⟩), .int .i64 13, .bool false, J21 32, .pointer (some ⟨g1, 0, none⟩), .int .i64 13, .agg #[.bool true, .bool false, .bool false], .slice (some ⟨b19, o20, none⟩) ([[111, 117, 116], [114, 48]] : List (List UInt8)).length c13, .slice (some ⟨b19, o20 + 1, none⟩) ([[114, 48]] : List (List UInt8)).length (c13 - 1), .func (.func 43) #[] #[.pointer (some ⟨g40, 0, none⟩)], .func (.func 43) #[] #[.pointer (some ⟨g40, 0, none⟩)], .pointer (some ⟨g29, 0, none⟩), .bool true, .string (str [114, 48]), .func (.func 43) #[] #[.pointer (some ⟨g40, 0, none⟩)], .pointer (some ⟨g29, 1, none⟩), .bool false, .string (str []), .func (.func 43) #[] #[.pointer (some ⟨g40, 0, none⟩)], .pointer (some ⟨g29, 2, none⟩), .bool false, .string (str []), J21 51, J21 52, J21 53, J21 54, J21 55, J21 56, J21 57, J21 58, J21 59, J21 60, J21 61, J21 62, J21 63, J21 64, J21 65, J21 66, J21 67, J21 68, J21 69, J21 70, J21 71, J21 72, J21 73, J21 74, J21 75, J21 76, J21 77, J21 78, J21 79, J21 80, J21 81, J21 82, J21 83, J21 84, J21 85, J21 86, J21 87, J21 88, J21 89, J21 90, J21 91, J21 92, J21 93, J21 94, J21 95, J21 96], []⟩ ∧ Blk wr_ g40 #[.slice A_ 0 c_] 39 ∧ Fr [g40] w48 wr_) ?_ ?_
  · intro Q_ hQ_
    have KK : ∀ (I : Nat → Prop) W, Ph 3 (fun W => Below w48.heap.size w48 W) (fun W => Fr [g40] w48 W ∧ ∃ (A_ : Option Addr) (c_ : Nat), Blk W g40 #[.slice A_ 0 c_] 39) I W → Fr [g40] w48 W := fun I W h => h.both Fr.of_below (fun h => h.1)
    have K6 : ∀ {I : Nat → Prop} W, Ph 3 (fun W => Below w48.heap.size w48 W) (fun W => Fr [g40] w48 W ∧ ∃ (A_ : Option Addr) (c_ : Nat), Blk W g40 #[.slice A_ 0 c_] 39) I W → Blk W g29 #[.bool true, .bool false, .bool false] 56 := fun W h => B38.fr (KK _ W h) (ni1 n47)
    refine wp_region_facts8_lit (C := Ph 3 (fun W => Below w48.heap.size w48 W) (fun W => Fr [g40] w48 W ∧ ∃ (A_ : Option Addr) (c_ : Nat), Blk W g40 #[.slice A_ 0 c_] 39)) 15 ([.func (.func 43) #[] #[.pointer (some ⟨g40, 0, none⟩)], .pointer (some ⟨g29, 0, none⟩), .bool true, .string (str [114, 48]), .func (.func 43) #[] #[.pointer (some ⟨g40, 0, none⟩)], .pointer (some ⟨g29, 1, none⟩), .bool false, .string (str []), .func (.func 43) #[] #[.pointer (some ⟨g40, 0, none⟩)], .pointer (some ⟨g29, 2, none⟩), .bool false, .string (str []), .string (str [114, 48]), .string (str []), .string (str [])].map Fct.val) w48.heap.size (by kernel_rfl) (by simp) (by kernel_rfl) (by kernel_rfl) (fun _ _ h => (KK _ _ h).size) ⟨fun _ => bl_drew (Below.refl _ _), fun h => h.elim⟩ (vals_all _) ?_
    simp only [List.take_succ_cons, List.take_zero, List.drop_succ_cons, List.drop_zero, List.map_cons, List.map_nil]
    refine fst8_val (fun I W hC hn hp => ok8_value (v := (.func (.func 43) #[] #[.pointer (some ⟨g40, 0, none⟩)])) (by rfl) (by rfl) rfl (hC.other (by decide))) ?_
    simp only [nf0, nf1, nf2, nf3, nf4]
    refine fst8_val (fun I W hC hn hp => ok8_value (v := (.pointer (some ⟨g29, 0, none⟩))) (by rfl) (run_fieldA (.tmp 6) rfl h_fld_56_0 rfl rfl W) rfl (hC.other (by decide))) ?_
    simp only [nf0, nf1, nf2, nf3, nf4]
    refine fst8_val (fun I W hC hn hp => ok8_value (v := (.bool true)) (by rfl) (run_loadB (.tmp 40) rfl h_one_4 rfl (K6 W hC) rfl) rfl (hC.other (by decide))) ?_
    simp only [nf0, nf1, nf2, nf3, nf4]
    refine fst8_val (fun I W hC hn hp => ok8_call (by rfl) (h_run_callc_43_1_1 (.tmp 39) (.tmp 41) rfl rfl rfl W) ((take_yes (B52.below (hC.1 hn)) hc1 (R51.same (hC.1 hn))).mono fun e W' ⟨u_, h1_, h2_, A_, c_, h3_, h4_⟩ => ⟨h1_.trans (by rw [h2_]), Ph.now ⟨fr_call (Fr.of_below (hC.1 hn)) h4_ (fun j hj => .inl hj), A_, c_, h3_⟩⟩)) ?_
    simp only [nf0, nf1, nf2, nf3, nf4]
    refine fst8_val (fun I W hC hn hp => ok8_value (v := (.func (.func 43) #[] #[.pointer (some ⟨g40, 0, none⟩)])) (by rfl) (by rfl) rfl (hC.other (by decide))) ?_
    simp only [nf0, nf1, nf2, nf3, nf4]
    refine fst8_val (fun I W hC hn hp => ok8_value (v := (.pointer (some ⟨g29, 1, none⟩))) (by rfl) (run_fieldA (.tmp 6) rfl h_fld_56_1 rfl rfl W) rfl (hC.other (by decide))) ?_
    simp only [nf0, nf1, nf2, nf3, nf4]
    refine fst8_val (fun I W hC hn hp => ok8_value (v := (.bool false)) (by rfl) (run_loadB (.tmp 44) rfl h_one_4 rfl (K6 W hC) rfl) rfl (hC.other (by decide))) ?_
    simp only [nf0, nf1, nf2, nf3, nf4]
    refine fst8_val (fun I W hC hn hp => ok8_call (by rfl) (h_run_callc_43_1_1 (.tmp 43) (.tmp 45) rfl rfl rfl W) ((take_no_same _ W).mono fun e W' ⟨h1_, h2_⟩ => ⟨h1_, h2_ ▸ hC.other (by decide)⟩)) ?_
    simp only [nf0, nf1, nf2, nf3, nf4]
    refine fst8_val (fun I W hC hn hp => ok8_value (v := (.func (.func 43) #[] #[.pointer (some ⟨g40, 0, none⟩)])) (by rfl) (by rfl) rfl (hC.other (by decide))) ?_
    simp only [nf0, nf1, nf2, nf3, nf4]
    refine fst8_val (fun I W hC hn hp => ok8_value (v := (.pointer (some ⟨g29, 2, none⟩))) (by rfl) (run_fieldA (.tmp 6) rfl h_fld_56_2 rfl rfl W) rfl (hC.other (by decide))) ?_
    simp only [nf0, nf1, nf2, nf3, nf4]
    refine fst8_val (fun I W hC hn hp => ok8_value (v := (.bool false)) (by rfl) (run_loadB (.tmp 48) rfl h_one_4 rfl (K6 W hC) rfl) rfl (hC.other (by decide))) ?_
    simp only [nf0, nf1, nf2, nf3, nf4]
    refine fst8_val (fun I W hC hn hp => ok8_call (by rfl) (h_run_callc_43_1_1 (.tmp 47) (.tmp 49) rfl rfl rfl W) ((take_no_same _ W).mono fun e W' ⟨h1_, h2_⟩ => ⟨h1_, h2_ ▸ hC.other (by decide)⟩)) ?_
    simp only [nf0, nf1, nf2, nf3, nf4]
    refine fst8_val (fun I W hC hn hp => ok8_value (v := (.string (str [114, 48]))) (by rfl) (by rfl) rfl (hC.other (by decide))) ?_
    simp only [nf0, nf1, nf2, nf3, nf4]
    refine fst8_val (fun I W hC hn hp => ok8_value (v := (.string (str []))) (by rfl) (by rfl) rfl (hC.other (by decide))) ?_
    simp only [nf0, nf1, nf2, nf3, nf4]
    refine fst8_val (fun I W hC hn hp => ok8_value (v := (.string (str []))) (by rfl) (by rfl) rfl (hC.other (by decide))) ?_
    simp only [nf0, nf1, nf2, nf3, nf4]
    refine fst8_nil fun I W hI hC => ?_
    obtain ⟨hf54, A_, c_, B_⟩ := hC.2 (hI 3 (by decide))
    exact wpList_nil (hQ_ _ _ ⟨_, _, rfl, B_, hf54⟩)
  rintro a_ w53 ⟨A_, c_, rfl, B_, hf54⟩
  replace B26 := B26.fr hf54 (ni1 n45)
  replace O8 := O8.fr hf54 (of1 n46)
  replace B38 := B38.fr hf54 (ni1 n47)
  clear B52
  replace bel := bl_call bel hf54 (lo1 lo44)
  clear hf54
  replace R18 := OwnR.rdE O8
  replace R51 := rd_cut O8
  refine wp_seq ?_
  refine wp_region_facts2_lit (C := Abv w53) 11 [.val (.pointer (some ⟨g29, 0, none⟩)), .val (.bool true), .val (.bool false), .val (.pointer (some ⟨g29, 1, none⟩)), .val (.bool false), .val (.bool true), .val (.pointer (some ⟨g29, 2, none⟩)), .val (.bool false), .val (.bool true), .val (.bool false), .val (.bool true)] w53.heap.size (by kernel_rfl) (by simp) (by kernel_rfl) (by kernel_rfl) (fun _ h => h.size) (Abv.start _) ?_
  simp only [List.take_succ_cons, List.take_zero, List.drop_succ_cons, List.drop_zero]
  refine fst2_val (fun W hC hh => ok2_value (v := (.pointer (some ⟨g29, 0, none⟩))) (by rfl) (run_fieldA (.tmp 6) rfl h_fld_56_0 rfl rfl W) rfl hC (G0.refl _)) ?_
  simp only [nf0, nf1, nf2, nf3, nf4]
  refine fst2_val (fun W hC hh => ok2_value (v := (.bool true)) (by rfl) (run_loadB (.tmp 51) rfl h_one_4 rfl (B38.below hC) rfl) rfl hC (G0.refl _)) ?_
  simp only [nf0, nf1, nf2, nf3, nf4]
  refine fst2_val (fun W hC hh => ok2_value (v := (.bool false)) (by rfl) (run_not (.tmp 52) rfl (b := true) rfl W) rfl hC (G0.refl _)) ?_
  simp only [nf0, nf1, nf2, nf3, nf4]
  refine fst2_val (fun W hC hh => ok2_value (v := (.pointer (some ⟨g29, 1, none⟩))) (by rfl) (run_fieldA (.tmp 6) rfl h_fld_56_1 rfl rfl W) rfl hC (G0.refl _)) ?_
  simp only [nf0, nf1, nf2, nf3, nf4]
  refine fst2_val (fun W hC hh => ok2_value (v := (.bool false)) (by rfl) (run_loadB (.tmp 54) rfl h_one_4 rfl (B38.below hC) rfl) rfl hC (G0.refl _)) ?_
  simp only [nf0, nf1, nf2, nf3, nf4]
  refine fst2_val (fun W hC hh => ok2_value (v := (.bool true)) (by rfl) (run_not (.tmp 55) rfl (b := false) rfl W) rfl hC (G0.refl _)) ?_
  simp only [nf0, nf1, nf2, nf3, nf4]
  refine fst2_val (fun W hC hh => ok2_value (v := (.pointer (some ⟨g29, 2, none⟩))) (by rfl) (run_fieldA (.tmp 6) rfl h_fld_56_2 rfl rfl W) rfl hC (G0.refl _)) ?_
  simp only [nf0, nf1, nf2, nf3, nf4]
  refine fst2_val (fun W hC hh => ok2_value (v := (.bool false)) (by rfl) (run_loadB (.tmp 57) rfl h_one_4 rfl (B38.below hC) rfl) rfl hC (G0.refl _)) ?_
  simp only [nf0, nf1, nf2, nf3, nf4]
  refine fst2_val (fun W hC hh => ok2_value (v := (.bool true)) (by rfl) (run_not (.tmp 58) rfl (b := false) rfl W) rfl hC (G0.refl _)) ?_
  simp only [nf0, nf1, nf2, nf3, nf4]
  refine fst2_val (fun W hC hh => ok2_value (v := (.bool false)) (by rfl) (by rfl) rfl hC (G0.refl _)) ?_
  simp only [nf0, nf1, nf2, nf3, nf4]
  refine fst2_val (fun W hC hh => ok2_value (v := (.bool true)) (by rfl) (by rfl) rfl hC (G0.refl _)) ?_
  simp only [nf0, nf1, nf2, nf3, nf4]
  refine fst2_nil fun w55 hC hh hnd => ?_
  replace hC : Below w53.heap.size w53 w55 := hC
  clear hh hnd
  replace B26 := B26.below hC
  replace O8 := O8.same hC
  replace R18 := R18.same hC
  replace B38 := B38.below hC
  replace B_ := B_.below hC
  replace R51 := R51.same hC
  replace bel := bl_step bel hC
  clear hC
  refine st_mv (.bool true) ?_
  simp only [nf0, nf1, nf2, nf3, nf4]
  refine wpList_nil ?_
  show Code.wp _ _ _ _ _
  refine wp_seq ?_
  refine wp_seq ?_
  refine wp_region_lit ?_
  refine st_value (v := (.pointer (some ⟨g29, 0, none⟩))) (by rfl) (run_fieldA (.tmp 6) rfl h_fld_56_0 rfl rfl w55) ?_
  simp only [nf0, nf1, nf2, nf3, nf4]
  refine st_value (v := (.bool true)) (by rfl) (run_loadB (.tmp 60) rfl h_one_4 rfl B38 rfl) ?_
  simp only [nf0, nf1, nf2, nf3, nf4]
  refine wpList_nil ?_
  show Code.wp _ _ _ _ _
  refine wp_cond_true rfl ?_
  refine wp_region_lit ?_
  refine st_mv (.string (str [114, 48])) ?_
  simp only [nf0, nf1, nf2, nf3, nf4]
  refine st_call1 (v := (.tuple #[.int .i64 (((48 : UInt8).toNat : Int) - 48), .bool true])) (by rfl) (h_run_call_44_1 (.tmp 63) rfl rfl _) (parseReg_one (c := 48) (by decide) w55) ?_
  intro w56 hb57
  simp only [nf0, nf1, nf2, nf3, nf4]
  replace B26 := B26.below hb57
  replace O8 := O8.same hb57
  replace R18 := R18.same hb57
  replace B38 := B38.below hb57
  replace B_ := B_.below hb57
  replace R51 := R51.same hb57
  replace bel := bl_step bel hb57
  clear hb57
  refine st_mv (.tuple #[.int .i64 (((48 : UInt8).toNat : Int) - 48), .bool true]) ?_
  simp only [nf0, nf1, nf2, nf3, nf4]
  refine st_mv (.int .i64 (((48 : UInt8).toNat : Int) - 48)) ?_
  simp only [nf0, nf1, nf2, nf3, nf4]
  refine st_mv (.bool true) ?_
  simp only [nf0, nf1, nf2, nf3, nf4]
  refine st_value (v := (.pointer (some ⟨g1, 1, none⟩))) (by rfl) (run_fieldA (.tmp 2) rfl h_fld_35_1 rfl rfl w56) ?_
  simp only [nf0, nf1, nf2, nf3, nf4]
  refine st_cell (v := (.int .i64 (((48 : UInt8).toNat : Int) - 48))) (by rfl) (run_storeB (.tmp 67) (.tmp 65) rfl h_one_3 B26 (show 1 < 4 by decide) rfl rfl rfl rfl) B26 ?_
  intro w58 B60 hg59
  simp only [nf0, nf1, nf2, nf3, nf4]
  replace O8 := O8.keptB hg59 n22
  replace B38 := B38.kept hg59 n34.symm
  replace B_ := B_.kept hg59 n45.symm
  replace bel := bl_kept0 bel hg59 lo5
  replace R18 := OwnR.rdE O8
  replace R51 := rd_cut O8
  clear hg59
  clear B26
  replace B60 : Blk w58 g1 #[.int .i64 13, .int .i64 (((48 : UInt8).toNat : Int) - 48), .int .i64 0, .int .i32 0] 35 := B60
  refine st_mv (.bool true) ?_
  simp only [nf0, nf1, nf2, nf3, nf4]
  refine wpList_nil ?_
  show Code.wp _ _ _ _ _
  refine wp_seq ?_
  refine wp_seq ?_
  refine wp_region_lit ?_
  refine st_value (v := (.pointer (some ⟨g29, 1, none⟩))) (by rfl) (run_fieldA (.tmp 6) rfl h_fld_56_1 rfl rfl w58) ?_
  simp only [nf0, nf1, nf2, nf3, nf4]
  refine st_value (v := (.bool false)) (by rfl) (run_loadB (.tmp 68) rfl h_one_4 rfl B38 rfl) ?_
  simp only [nf0, nf1, nf2, nf3, nf4]
  refine wpList_nil ?_
  show Code.wp _ _ _ _ _
  refine wp_cond_false rfl ?_
  refine wp_skip ?_
  show Code.wp _ _ _ _ _
  refine wp_seq ?_
  refine wp_seq ?_
  refine wp_region_lit ?_
  refine st_value (v := (.pointer (some ⟨g29, 2, none⟩))) (by rfl) (run_fieldA (.tmp 6) rfl h_fld_56_2 rfl rfl w58) ?_
  simp only [nf0, nf1, nf2, nf3, nf4]
  refine st_value (v := (.bool false)) (by rfl) (run_loadB (.tmp 76) rfl h_one_4 rfl B38 rfl) ?_
  simp only [nf0, nf1, nf2, nf3, nf4]
  refine wpList_nil ?_
  show Code.wp _ _ _ _ _
  refine wp_cond_false rfl ?_
  refine wp_skip ?_
  show Code.wp _ _ _ _ _
  refine wp_seq ?_
  refine wp_region_facts2_lit (C := Abv w58) 14 [.val (.agg #[.int .i64 13, .int .i64 (((48 : UInt8).toNat : Int) - 48), .int .i64 0, .int .i32 0]), .val (.bool true), .val (.bool true), .val (.bool true), .val (.bool true), .val (.bool true), .val (.bool true), .val (.bool true), .val (.bool true), .val (.slice A_ 0 c_), .val (.int .i64 0), .val (.bool true), .val (.bool true), .val undef] w58.heap.size (by kernel_rfl) (by simp) (by kernel_rfl) (by kernel_rfl) (fun _ h => h.size) (Abv.start _) ?_
  simp only [List.take_succ_cons, List.take_zero, List.drop_succ_cons, List.drop_zero]
  refine fst2_val (fun W hC hh => ok2_value (v := (.agg #[.int .i64 13, .int .i64 (((48 : UInt8).toNat : Int) - 48), .int .i64 0, .int .i32 0])) (by rfl) (run_loadW (.tmp 2) rfl (cs := #[.int .i64 13, .int .i64 (((48 : UInt8).toNat : Int) - 48), .int .i64 0, .int .i32 0]) aggIns rfl (B60.below hC)) rfl hC (G0.refl _)) ?_
  simp only [nf0, nf1, nf2, nf3, nf4]
  refine fst2_val (fun W hC hh => ok2_value (v := (.bool true)) (by rfl) (by rfl) rfl hC (G0.refl _)) ?_
  simp only [nf0, nf1, nf2, nf3, nf4]
  refine fst2_val (fun W hC hh => ok2_value (v := (.bool true)) (by rfl) (by rfl) rfl hC (G0.refl _)) ?_
  simp only [nf0, nf1, nf2, nf3, nf4]
  refine fst2_val (fun W hC hh => ok2_value (v := (.bool true)) (by rfl) (by rfl) rfl hC (G0.refl _)) ?_
  simp only [nf0, nf1, nf2, nf3, nf4]
  refine fst2_val (fun W hC hh => ok2_value (v := (.bool true)) (by rfl) (by rfl) rfl hC (G0.refl _)) ?_
  simp only [nf0, nf1, nf2, nf3, nf4]
  refine fst2_val (fun W hC hh => ok2_value (v := (.bool true)) (by rfl) (by rfl) rfl hC (G0.refl _)) ?_
  simp only [nf0, nf1, nf2, nf3, nf4]
  refine fst2_val (fun W hC hh => ok2_value (v := (.bool true)) (by rfl) (by rfl) rfl hC (G0.refl _)) ?_
  simp only [nf0, nf1, nf2, nf3, nf4]
  refine fst2_val (fun W hC hh => ok2_value (v := (.bool true)) (by rfl) (by rfl) rfl hC (G0.refl _)) ?_
  simp only [nf0, nf1, nf2, nf3, nf4]
  refine fst2_val (fun W hC hh => ok2_value (v := (.bool true)) (by rfl) (by rfl) rfl hC (G0.refl _)) ?_
  simp only [nf0, nf1, nf2, nf3, nf4]
  refine fst2_val (fun W hC hh => ok2_value (v := (.slice A_ 0 c_)) (by rfl) (run_loadB (.tmp 7) rfl h_one_39 rfl (B_.below hC) rfl) rfl hC (G0.refl _)) ?_
  simp only [nf0, nf1, nf2, nf3, nf4]
  refine fst2_val (fun W hC hh => ok2_value (v := (.int .i64 0)) (by rfl) (run_len (.tmp 93) rfl ⟨_, Tryd.underlying39⟩ rfl W) rfl hC (G0.refl _)) ?_
  simp only [nf0, nf1, nf2, nf3, nf4]
  refine fst2_val (fun W hC hh => ok2_value (v := (.bool true)) (by rfl) (run_eql_int_t (.tmp 94) (.const (.int .i64 0)) rfl rfl rfl rfl W) rfl hC (G0.refl _)) ?_
  simp only [nf0, nf1, nf2, nf3, nf4]
  refine fst2_val (fun W hC hh => ok2_value (v := (.bool true)) (by rfl) (by rfl) rfl hC (G0.refl _)) ?_
  simp only [nf0, nf1, nf2, nf3, nf4]
  refine fst2_val (fun W hC hh => ok2_skip (by rfl) ((run_storeW (.tmp 2) (.tmp 84) rfl (cs := #[.int .i64 13, .int .i64 (((48 : UInt8).toNat : Int) - 48), .int .i64 0, .int .i32 0]) aggIns rfl rfl (B60.below hC) rfl (by simp [Value.oneCell'])).trans (by rw [setRow_self _ _ _ _ _ (B60.below hC)])) hC) ?_
  simp only [nf0, nf1, nf2, nf3, nf4]
  refine fst2_nil fun w61 hC hh hnd => ?_
  replace hC : Below w58.heap.size w58 w61 := hC
  clear hh hnd
  replace B60 := B60.below hC
  replace O8 := O8.same hC
  replace R18 := R18.same hC
  replace B38 := B38.below hC
  replace B_ := B_.below hC
  replace R51 := R51.same hC
  replace bel := bl_step bel hC
  clear hC
  refine st_mv (.bool true) ?_
  simp only [nf0, nf1, nf2, nf3, nf4]
  refine wpList_nil ?_
  show Code.wp _ _ _ _ _
  refine wp_ret ?_
  first | show bodyPost _ _ _ _ _ _ | (simp only [Exit.then, Exit.inBlock]; show bodyPost _ _ _ _ _ _)
  exact bodyPost_ret (results_agg1t rfl (cs := #[.int .i64 13, .int .i64 (((48 : UInt8).toNat : Int) - 48), .int .i64 0, .int .i32 0]) aggIns (by rfl) B60) rfl ⟨rfl, bel⟩
set_option maxRecDepth 100000 in
set_option maxHeartbeats 4000000 in
theorem parseIns_exit (w : World) : Calls Tryd.prog 35 #[.string (str [101, 120, 105, 116, 32, 114, 48])] w fun e w' => e = .returned (.tuple #[.agg #[.int .i64 14, .int .i64 0, .int .i64 0, .int .i32 0], .bool true]) ∧ Below w.heap.size w w' := by
  have bel : Below w.heap.size w w := Below.refl _ _
  have hpc : pieces 32 [101, 120, 105, 116, 32, 114, 48] = ([[101, 120, 105, 116], [114, 48]] : List (List UInt8)) := by decide
  have hl2 : ([[101, 120, 105, 116], [114, 48]] : List (List UInt8)).length = 2 := rfl
  go_enter Tryd.func35, Tryd.ntmps35
  refine wp_seq ?_
  refine wp_region_lit ?_
  refine st_new (cs := #[.int .i64 0, .int .i64 0, .int .i64 0, .int .i32 0]) (t := 35) (by rfl) (run_allocV rfl h_zero_35 _) ?_
  intro g1 w2 B3 hb4 lo5
  simp only [nf0, nf1, nf2, nf3, nf4]
  replace lo5 := low_le bel lo5
  replace bel := bl_step bel hb4
  clear hb4
  refine st_mv (.bool false) ?_
  simp only [nf0, nf1, nf2, nf3, nf4]
  refine wpList_nil ?_
  show Code.wp _ _ _ _ _
  refine wp_seq ?_
  refine wp_region_lit ?_
  refine st_mv (.string (str [101, 120, 105, 116, 32, 114, 48])) ?_
  simp only [nf0, nf1, nf2, nf3, nf4]
  have hc6 := splits_calls [101, 120, 105, 116, 32, 114, 48] 32 (by decide) w2
  rw [hpc] at hc6
  refine st_call (by rfl) (h_run_call_32_2 (.tmp 15) (.const (.string ⟨#[32]⟩)) rfl rfl rfl _) hc6 ?_
  rintro v7 w9 ⟨O8, hf10⟩
  simp only [nf0, nf1, nf2, nf3, nf4]
  have n11 := O8.offLow B3
  have O8_ := fun k hk => (O8.lt k hk).1
  replace O8 := O8.lower bel.size
  replace B3 := B3.below hf10
  replace bel := bl_step bel hf10
  clear hf10
  refine st_mv v7 ?_
  simp only [nf0, nf1, nf2, nf3, nf4]
  refine wpList_nil ?_
  show Code.wp _ _ _ _ _
  refine wp_seq ?_
  refine wp_seq ?_
  obtain ⟨A12, c13, hv14, h15, h16, h17, R18⟩ := O8.reads
  subst hv14
  obtain ⟨b19, o20, rfl, _⟩ := R18.at_ (by rw [Enc.all_length]; exact Nat.mul_pos (by omega) (by decide))
  refine wp_region_lit ?_
  refine st_mv (.int .i64 1) ?_
  simp only [nf0, nf1, nf2, nf3, nf4]
  refine wpList_nil ?_
  show Code.wp _ _ _ _ _
  refine wp_block ?_
  refine wp_loop_left (fun n_ a_ wr_ => (fun J21 => ∃ (i : Nat), n_ = 15 - i ∧ a_ = ⟨#[.string (str [101, 120, 105, 116, 32, 114, 48]), J21 1, .pointer (some ⟨g1, 0, none⟩), .bool false, .slice (some ⟨b19, o20, none⟩) ([[101, 120, 105, 116], [114, 48]] : List (List UInt8)).length c13, .int .i64 (i : Int), J21 6, J21 7, J21 8, J21 9, J21 10, J21 11, J21 12, J21 13, J21 14, J21 15, J21 16, J21 17, J21 18, J21 19, J21 20, J21 21, J21 22, J21 23, J21 24, J21 25, J21 26, J21 27, J21 28, J21 29, J21 30, J21 31, J21 32, J21 33, J21 34, J21 35, J21 36, J21 37, J21 38, J21 39, J21 40, J21 41, J21 42, J21 43, J21 44, J21 45, J21 46, J21 47, J21 48, J21 49, J21 50, J21 51, J21 52, J21 53, J21 54, J21 55, J21 56, J21 57, J21 58, J21 59, J21 60, J21 61, J21 62, J21 63, J21 64, J21 65, J21 66, J21 67, J21 68, J21 69, J21 70, J21 71, J21 72, J21 73, J21 74, J21 75, J21 76, J21 77, J21 78, J21 79, J21 80, J21 81, J21 82, J21 83, J21 84, J21 85, J21 86, J21 87, J21 88, J21 89, J21 90, J21 91, J21 92, J21 93, J21 94, J21 95, J21 96], []⟩ ∧ Blk wr_ g1 #[.int .i64 ((opv 14 i : Nat) : Int), .int .i64 0, .int .i64 0, .int .i32 0] 35 ∧ OwnR wr_ w.heap.size 9 eTx (.slice (some ⟨b19, o20, none⟩) ([[101, 120, 105, 116], [114, 48]] : List (List UInt8)).length c13) ([[101, 120, 105, 116], [114, 48]] : List (List UInt8)) ∧ Reads wr_ (some ⟨b19, o20, none⟩) (Enc.all eTx ([[101, 120, 105, 116], [114, 48]] : List (List UInt8))) ∧ Off (.slice (some ⟨b19, o20, none⟩) ([[101, 120, 105, 116], [114, 48]] : List (List UInt8)).length c13) g1 ∧ Below w.heap.size w wr_ ∧ (1 ≤ i ∧ i ≤ 15)) (jk a_)) (15 - 1) ⟨1, rfl, rfl, B3, O8, R18, n11, bel, (by omega)⟩ ?_
  clear B3
  clear O8
  clear R18
  clear n11
  clear bel
  intro n_ a_ w23 h_
  revert h_
  generalize jk a_ = J21
  rintro ⟨i, hms, rfl, B3, O8, R18, n22, bel, hi⟩
  refine wp_seq ?_
  refine wp_seq ?_
  refine wp_region_lit ?_
  refine st_mv (.int .i64 (i : Int)) ?_
  simp only [nf0, nf1, nf2, nf3, nf4]
  refine st_value (v := (.bool (decide ((i : Int) ≤ 14)))) (by rfl) (run_leq (.tmp 17) (.const (.int .i64 14)) rfl rfl rfl w23) ?_
  simp only [nf0, nf1, nf2, nf3, nf4]
  refine wpList_nil ?_
  show Code.wp _ _ _ _ _
  cases hg24 : decide ((i : Int) ≤ 14)
  rotate_left
  · have hp62 := of_decide_eq_true hg24
    refine wp_cond_true rfl ?_
    refine wp_skip ?_
    show Code.wp _ _ _ _ _
    refine wp_seq ?_
    refine wp_block ?_
    refine wp_seq ?_
    refine wp_region_facts2_lit (C := Abv w23) 5 [.val (.int .i64 (i : Int)), .val (.string (str (nmP (i : Int)))), .val (.slice (some ⟨b19, o20, none⟩) ([[101, 120, 105, 116], [114, 48]] : List (List UInt8)).length c13), .val (.pointer (some ⟨b19, o20 + 0 * 1, none⟩)), .val (.string (str (tx ([[101, 120, 105, 116], [114, 48]] : List (List UInt8)) 0)))] w23.heap.size (by kernel_rfl) (by simp) (by kernel_rfl) (by kernel_rfl) (fun _ h => h.size) (Abv.start _) ?_
    simp only [List.take_succ_cons, List.take_zero, List.drop_succ_cons, List.drop_zero]
    refine fst2_val (fun W hC hh => ok2_value (v := (.int .i64 (i : Int))) (by rfl) (by rfl) rfl hC (G0.refl _)) ?_
    simp only [nf0, nf1, nf2, nf3, nf4]
    refine fst2_val (fun W hC hh => ok2_call (by rfl) (h_run_call_8_1 (.tmp 21) rfl rfl W) ((pname_calls (i : Int) W).mono fun e W' ⟨h1, h2⟩ => ⟨h1, hC.step h2, h2⟩)) ?_
    simp only [nf0, nf1, nf2, nf3, nf4]
    refine fst2_val (fun W hC hh => ok2_value (v := (.slice (some ⟨b19, o20, none⟩) ([[101, 120, 105, 116], [114, 48]] : List (List UInt8)).length c13)) (by rfl) (by rfl) rfl hC (G0.refl _)) ?_
    simp only [nf0, nf1, nf2, nf3, nf4]
    refine fst2_val (fun W hC hh => ok2_value (v := (.pointer (some ⟨b19, o20 + 0 * 1, none⟩))) (by rfl) (run_indexAddrN (.tmp 23) (.const (.int .i64 0)) rfl Tryd.underlying39 slTx.sz (i := 0) rfl (by exact (congrArg (Value.int .i64) (show 0 = ((0 : Nat) : Int) by omega))) (by omega) W) rfl hC (G0.refl _)) ?_
    simp only [nf0, nf1, nf2, nf3, nf4]
    refine fst2_val (fun W hC hh => ok2_value (v := (.string (str (tx ([[101, 120, 105, 116], [114, 48]] : List (List UInt8)) 0)))) (by rfl) (run_load1 (.tmp 24) rfl Tryd.underlying9 rfl slTx.sz rfl (Reads.txAt (R18.same hC) 0 (by omega))) rfl hC (G0.refl _)) ?_
    simp only [nf0, nf1, nf2, nf3, nf4]
    refine fst2_nil fun w63 hC hh hnd => ?_
    replace hC : Below w23.heap.size w23 w63 := hC
    clear hh hnd
    replace B3 := B3.below hC
    replace O8 := O8.same hC
    replace R18 := R18.same hC
    replace bel := bl_step bel hC
    clear hC
    refine st_value (v := (.bool (decide ((nmP (i : Int)) = (tx ([[101, 120, 105, 116], [114, 48]] : List (List UInt8)) 0))))) (by rfl) (run_eql_text (.tmp 22) (.tmp 25) (l := (nmP (i : Int))) (m := (tx ([[101, 120, 105, 116], [114, 48]] : List (List UInt8)) 0)) rfl rfl rfl w63) ?_
    simp only [nf0, nf1, nf2, nf3, nf4]
    refine wpList_nil ?_
    show Code.wp _ _ _ _ _
    cases hg64 : decide ((nmP (i : Int)) = (tx ([[101, 120, 105, 116], [114, 48]] : List (List UInt8)) 0))
    · have hp65 := of_decide_eq_false hg64
      refine wp_cond_false rfl ?_
      refine wp_skip ?_
      show Code.wp _ _ _ _ _
      refine wp_region_lit ?_
      refine st_mv (.int .i64 (i : Int)) ?_
      simp only [nf0, nf1, nf2, nf3, nf4]
      refine st_value (v := (.int .i64 ((i : Int) + 1))) (by rfl) (run_add_in (.tmp 19) (.const (.int .i64 1)) rfl rfl rfl (by omega) w63) ?_
      simp only [nf0, nf1, nf2, nf3, nf4]
      refine st_mv (.int .i64 ((i : Int) + 1)) ?_
      simp only [nf0, nf1, nf2, nf3, nf4]
      refine wpList_nil ?_
      show ∃ m, m < _ ∧ _
      exact ⟨_, (by omega), (i + 1), rfl, rfl, (by have h_ := B3; rw [opv_no (show ¬ nmP (i : Int) = nmP ((14 : Nat) : Int) from (by assumption : ¬ nmP (i : Int) = tx ([[101, 120, 105, 116], [114, 48]] : List (List UInt8)) 0))]; exact h_), O8, R18, n22, bel, (by omega)⟩
    have hp66 := of_decide_eq_true hg64
    refine wp_cond_true rfl ?_
    refine wp_region_lit ?_
    refine st_mv (.int .i64 (i : Int)) ?_
    simp only [nf0, nf1, nf2, nf3, nf4]
    refine st_value (v := (.pointer (some ⟨g1, 0, none⟩))) (by rfl) (run_fieldA (.tmp 2) rfl h_fld_35_0 rfl rfl w63) ?_
    simp only [nf0, nf1, nf2, nf3, nf4]
    refine st_cell (v := (.int .i64 (i : Int))) (by rfl) (run_storeB (.tmp 28) (.tmp 27) rfl h_one_3 B3 (show 0 < 4 by decide) rfl rfl rfl rfl) B3 ?_
    intro w67 B69 hg68
    simp only [nf0, nf1, nf2, nf3, nf4]
    replace O8 := O8.keptB hg68 n22
    replace bel := bl_kept0 bel hg68 lo5
    replace R18 := OwnR.rdE O8
    clear hg68
    clear B3
    replace B69 : Blk w67 g1 #[.int .i64 (i : Int), .int .i64 0, .int .i64 0, .int .i32 0] 35 := B69
    refine wpList_nil ?_
    show Code.wp _ _ _ _ _
    refine wp_region_lit ?_
    refine st_mv (.int .i64 (i : Int)) ?_
    simp only [nf0, nf1, nf2, nf3, nf4]
    refine st_value (v := (.int .i64 ((i : Int) + 1))) (by rfl) (run_add_in (.tmp 19) (.const (.int .i64 1)) rfl rfl rfl (by omega) w67) ?_
    simp only [nf0, nf1, nf2, nf3, nf4]
    refine st_mv (.int .i64 ((i : Int) + 1)) ?_
    simp only [nf0, nf1, nf2, nf3, nf4]
    refine wpList_nil ?_
    show ∃ m, m < _ ∧ _
    exact ⟨_, (by omega), (i + 1), rfl, rfl, (by have h_ := B69; rw [opv_yes (by omega) (by omega) (show nmP (i : Int) = nmP ((14 : Nat) : Int) from (by assumption : nmP (i : Int) = tx ([[101, 120, 105, 116], [114, 48]] : List (List UInt8)) 0))]; exact h_), O8, R18, n22, bel, (by omega)⟩
  have hp25 := of_decide_eq_false hg24
  refine wp_cond_false rfl ?_
  refine wp_exit ?_
  show Code.wp _ _ _ _ _
  refine wp_seq ?_
  refine wp_seq ?_
  obtain rfl : i = 15 := by omega
  have B26 : Blk w23 g1 #[.int .i64 14, .int .i64 0, .int .i64 0, .int .i32 0] 35 := B3
  clear B3
  refine wp_region_lit ?_
  refine st_value (v := (.pointer (some ⟨g1, 0, none⟩))) (by rfl) (run_fieldA (.tmp 2) rfl h_fld_35_0 rfl rfl w23) ?_
  simp only [nf0, nf1, nf2, nf3, nf4]
  refine st_value (v := (.int .i64 14)) (by rfl) (run_loadB (.tmp 29) rfl h_one_3 rfl B26 rfl) ?_
  simp only [nf0, nf1, nf2, nf3, nf4]
  refine st_value (v := (.bool false)) (by rfl) (run_eql_int_f (.tmp 30) (.const (.int .i64 0)) rfl rfl rfl (by decide) w23) ?_
  simp only [nf0, nf1, nf2, nf3, nf4]
  refine wpList_nil ?_
  show Code.wp _ _ _ _ _
  refine wp_cond_false rfl ?_
  refine wp_skip ?_
  show Code.wp _ _ _ _ _
  refine wp_seq ?_
  refine wp_region_lit ?_
  refine st_value (v := (.pointer (some ⟨g1, 0, none⟩))) (by rfl) (run_fieldA (.tmp 2) rfl h_fld_35_0 rfl rfl w23) ?_
  simp only [nf0, nf1, nf2, nf3, nf4]
  refine st_value (v := (.int .i64 14)) (by rfl) (run_loadB (.tmp 33) rfl h_one_3 rfl B26 rfl) ?_
  simp only [nf0, nf1, nf2, nf3, nf4]
  refine st_call1 (v := (.agg #[.bool true, .bool false, .bool false])) (by rfl) (h_run_call_28_1 (.tmp 34) rfl rfl _) (show Calls _ _ _ _ fun e w' => e = .returned (.agg #[.bool true, .bool false, .bool false]) ∧ Below w23.heap.size w23 w' from of_calls 14 w23) ?_
  intro w27 hb28
  simp only [nf0, nf1, nf2, nf3, nf4]
  replace B26 := B26.below hb28
  replace O8 := O8.same hb28
  replace R18 := R18.same hb28
  replace bel := bl_step bel hb28
  clear hb28
  refine st_new (cs := #[.bool false, .bool false, .bool false]) (t := 56) (by rfl) (run_allocV rfl h_zero_56 _) ?_
  intro g29 w30 B31 hb32 lo33
  simp only [nf0, nf1, nf2, nf3, nf4]
  have n34 := B26.ne lo33
  have n35 := O8.off lo33
  replace lo33 := low_le bel lo33
  replace B26 := B26.below hb32
  replace O8 := O8.same hb32
  replace R18 := R18.same hb32
  replace bel := bl_step bel hb32
  clear hb32
  refine st_row (by rfl) (run_storeW (.tmp 6) (.tmp 35) rfl (cs := #[.bool true, .bool false, .bool false]) aggShp rfl rfl B31 rfl (by simp [Value.oneCell'])) B31 ?_
  intro w36 B38 hg37
  simp only [nf0, nf1, nf2, nf3, nf4]
  replace B26 := B26.kept hg37 n34
  replace O8 := O8.keptB hg37 n35
  replace bel := bl_kept0 bel hg37 lo33
  replace R18 := OwnR.rdE O8
  clear hg37
  clear B31
  refine wpList_nil ?_
  show Code.wp _ _ _ _ _
  refine wp_seq ?_
  refine wp_region_lit ?_
  refine st_mv (.slice (some ⟨b19, o20, none⟩) ([[101, 120, 105, 116], [114, 48]] : List (List UInt8)).length c13) ?_
  simp only [nf0, nf1, nf2, nf3, nf4]
  have R39 := Reads.cutA (p := 1) R18 h15
  refine st_value (v := (.slice (cutA (some ⟨b19, o20, none⟩) c13 1) (([[101, 120, 105, 116], [114, 48]] : List (List UInt8)).drop 1).length (c13 - 1))) (by rfl) (run_cutlo (.tmp 36) (.const (.int .i64 1)) rfl Tryd.underlying39 slTx.sz rfl rfl (p := 1) (by omega) (by omega) h15 w36) ?_
  simp only [nf0, nf1, nf2, nf3, nf4]
  refine st_new (cs := #[.slice none 0 0]) (t := 39) (by rfl) (run_allocV rfl h_zero_39 _) ?_
  intro g40 w41 B42 hb43 lo44
  simp only [nf0, nf1, nf2, nf3, nf4]
  have n45 := B26.ne lo44
  have n46 := O8.off lo44
  have n47 := B38.ne lo44
  replace lo44 := low_le bel lo44
  replace B26 := B26.below hb43
  replace O8 := O8.same hb43
  replace R18 := R18.same hb43
  replace B38 := B38.below hb43
  replace bel := bl_step bel hb43
  clear hb43
  refine st_cell (v := (.slice (cutA (some ⟨b19, o20, none⟩) c13 1) (([[101, 120, 105, 116], [114, 48]] : List (List UInt8)).drop 1).length (c13 - 1))) (by rfl) (run_storeB (.tmp 7) (.tmp 37) rfl h_one_39 B42 (show 0 < 1 by decide) rfl rfl rfl rfl) B42 ?_
  intro w48 B50 hg49
  simp only [nf0, nf1, nf2, nf3, nf4]
  replace B26 := B26.kept hg49 n45
  replace O8 := O8.keptB hg49 n46
  replace B38 := B38.kept hg49 n47
  replace bel := bl_kept0 bel hg49 lo44
  replace R18 := OwnR.rdE O8
  clear hg49
  clear B42
  replace B50 : Blk w48 g40 #[.slice (cutA (some ⟨b19, o20, none⟩) c13 1) (([[101, 120, 105, 116], [114, 48]] : List (List UInt8)).drop 1).length (c13 - 1)] 39 := B50
  refine wpList_nil ?_
  show Code.wp _ _ _ _ _
  refine wp_seq ?_
  have hcu := cutA_one (b := b19) (o := o20) (c := c13) (by omega)
  have R51 : Reads w48 (some ⟨b19, o20 + 1, none⟩) (eTx.all [[114, 48]]) := rd_cut O8
  have hc1 : ([[114, 48]] : List (List UInt8)).length ≤ c13 - 1 := by show 1 ≤ c13 - 1; omega
  have B52 : Blk w48 g40 #[.slice (some ⟨b19, o20 + 1, none⟩) ([[114, 48]] : List (List UInt8)).length (c13 - 1)] 39 := by have h_ := B50; rw [hcu] at h_; exact h_
  clear B50
  rw [hcu]
  refine wp_region_lit ?_
  refine st_value (v := (.func (.func 43) #[] #[.pointer (some ⟨g40, 0, none⟩)])) (by rfl) (run_func (f := .func 43) (c := #[.tmp 7]) (v := (.func (.func 43) #[] #[.pointer (some ⟨g40, 0, none⟩)])) (by rfl) (by rw [List.map_toArray]; rfl) w48) ?_
  simp only [nf0, nf1, nf2, nf3, nf4]
  refine st_mv (.func (.func 43) #[] #[.pointer (some ⟨g40, 0, none⟩)]) ?_
  simp only [nf0, nf1, nf2, nf3, nf4]
  refine wpList_nil ?_
  show Code.wp _ _ _ _ _
  refine wp_seq_join2 (fun a_ wr_ => ∃ (A_ : Option Addr) (c_ : Nat), a_ = ⟨#[.string (str [101, 120, 105, 116, 32, 114, 48]), J21 1, .pointer (some ⟨g1, 0, none⟩), .bool false, .slice (some ⟨b19, o20, none⟩) ([[101, 120, 105, 116], [114, 48]] : List (List UInt8)).length c13, .int .i64 15, .pointer (some ⟨g29, 0, none⟩), .pointer (some ⟨g40, 0, none⟩), .func (.func 43) #[] #[.pointer (some ⟨g40, 0, none⟩)], .string (str [114, 48]), .string (str []), .string (str []), J21 12, J21 13, J21 14, J21 15, J21 16, .int .i64 15, .bool false, J21 19, J21 20, J21 21, J21 22, J21 23, J21 24, J21 25, J21 26, J21 27, J21 28, .pointer (some ⟨g1, 0, none⟩), .int .i64 14, .bool false, J21 32, .pointer (some ⟨g1, 0, none⟩), .int .i64 14, .agg #[.bool true, .bool false, .bool false], .slice (some ⟨b19, o20, none⟩) ([[101, 120, 105, 116], [114, 48]] : List (List UInt8)).length c13, .slice (some ⟨b19, o20 + 1, none⟩) ([[114, 48]] : List (List UInt8)).length (c13 - 1), .func (.func 43) #[] #[.pointer (some ⟨g40, 0, none⟩)], .func (.func 43) #[] #[.pointer (some ⟨g40, 0, none⟩)], .pointer (some ⟨g29, 0, none⟩), .bool true, .string (str [114, 48]), .func (.func 43) #[] #[.pointer (some ⟨g40, 0, none⟩)], .pointer (some ⟨g29, 1, none⟩), .bool false, .string (str []), .func (.func 43) #[] #[.pointer (some ⟨g40, 0, none⟩)], .pointer (some ⟨g29, 2, none⟩), .bool false, .string (str []), J21 51, J21 52, J21 53, J21 54, J21 55, J21 56, J21 57, J21 58, J21 59, J21 60, J21 61, J21 62, J21 63, J21 64, J21 65, J21 66, J21 67, J21 68, J21 69, J21 70, J21 71, J21 72, J21 73, J21 74, J21 75, J21 76, J21 77, J21 78, J21 79, J21 80, J21 81, J21 82, J21 83, J21 84, J21 85, J21 86, J21 87, J21 88, J21 89, J21 90, J21 91, J21 92, J21 93, J21 94, J21 95, J21 96], []⟩ ∧ Blk wr_ g40 #[.slice A_ 0 c_] 39 ∧ Fr [g40] w48 wr_) ?_ ?_
  · intro Q_ hQ_
    have KK : ∀ (I : Nat → Prop) W, Ph 3 (fun W => Below w48.heap.size w48 W) (fun W => Fr [g40] w48 W ∧ ∃ (A_ : Option Addr) (c_ : Nat), Blk W g40 #[.slice A_ 0 c_] 39) I W → Fr [g40] w48 W := fun I W h => h.both Fr.of_below (fun h => h.1)
    have K6 : ∀ {I : Nat → Prop} W, Ph 3 (fun W => Below w48.heap.size w48 W) (fun W => Fr [g40] w48 W ∧ ∃ (A_ : Option Addr) (c_ : Nat), Blk W g40 #[.slice A_ 0 c_] 39) I W → Blk W g29 #[.bool true, .bool false, .bool false] 56 := fun W h => B38.fr (KK _ W h) (ni1 n47)
    refine wp_region_facts8_lit (C := Ph 3 (fun W => Below w48.heap.size w48 W) (fun W => Fr [g40] w48 W ∧ ∃ (A_ : Option Addr) (c_ : Nat), Blk W g40 #[.slice A_ 0 c_] 39)) 15 ([.func (.func 43) #[] #[.pointer (some ⟨g40, 0, none⟩)], .pointer (some ⟨g29, 0, none⟩), .bool true, .string (str [114, 48]), .func (.func 43) #[] #[.pointer (some ⟨g40, 0, none⟩)], .pointer (some ⟨g29, 1, none⟩), .bool false, .string (str []), .func (.func 43) #[] #[.pointer (some ⟨g40, 0, none⟩)], .pointer (some ⟨g29, 2, none⟩), .bool false, .string (str []), .string (str [114, 48]), .string (str []), .string (str [])].map Fct.val) w48.heap.size (by kernel_rfl) (by simp) (by kernel_rfl) (by kernel_rfl) (fun _ _ h => (KK _ _ h).size) ⟨fun _ => bl_drew (Below.refl _ _), fun h => h.elim⟩ (vals_all _) ?_
    simp only [List.take_succ_cons, List.take_zero, List.drop_succ_cons, List.drop_zero, List.map_cons, List.map_nil]
    refine fst8_val (fun I W hC hn hp => ok8_value (v := (.func (.func 43) #[] #[.pointer (some ⟨g40, 0, none⟩)])) (by rfl) (by rfl) rfl (hC.other (by decide))) ?_
    simp only [nf0, nf1, nf2, nf3, nf4]
    refine fst8_val (fun I W hC hn hp => ok8_value (v := (.pointer (some ⟨g29, 0, none⟩))) (by rfl) (run_fieldA (.tmp 6) rfl h_fld_56_0 rfl rfl W) rfl (hC.other (by decide))) ?_
    simp only [nf0, nf1, nf2, nf3, nf4]
    refine fst8_val (fun I W hC hn hp => ok8_value (v := (.bool true)) (by rfl) (run_loadB (.tmp 40) rfl h_one_4 rfl (K6 W hC) rfl) rfl (hC.other (by decide))) ?_
    simp only [nf0, nf1, nf2, nf3, nf4]
    refine fst8_val (fun I W hC hn hp => ok8_call (by rfl) (h_run_callc_43_1_1 (.tmp 39) (.tmp 41) rfl rfl rfl W) ((take_yes (B52.below (hC.1 hn)) hc1 (R51.same (hC.1 hn))).mono fun e W' ⟨u_, h1_, h2_, A_, c_, h3_, h4_⟩ => ⟨h1_.trans (by rw [h2_]), Ph.now ⟨fr_call (Fr.of_below (hC.1 hn)) h4_ (fun j hj => .inl hj), A_, c_, h3_⟩⟩)) ?_
    simp only [nf0, nf1, nf2, nf3, nf4]
    refine fst8_val (fun I W hC hn hp => ok8_value (v := (.func (.func 43) #[] #[.pointer (some ⟨g40, 0, none⟩)])) (by rfl) (by rfl) rfl (hC.other (by decide))) ?_
    simp only [nf0, nf1, nf2, nf3, nf4]
    refine fst8_val (fun I W hC hn hp => ok8_value (v := (.pointer (some ⟨g29, 1, none⟩))) (by rfl) (run_fieldA (.tmp 6) rfl h_fld_56_1 rfl rfl W) rfl (hC.other (by decide))) ?_
    simp only [nf0, nf1, nf2, nf3, nf4]
    refine fst8_val (fun I W hC hn hp => ok8_value (v := (.bool false)) (by rfl) (run_loadB (.tmp 44) rfl h_one_4 rfl (K6 W hC) rfl) rfl (hC.other (by decide))) ?_
    simp only [nf0, nf1, nf2, nf3, nf4]
    refine fst8_val (fun I W hC hn hp => ok8_call (by rfl) (h_run_callc_43_1_1 (.tmp 43) (.tmp 45) rfl rfl rfl W) ((take_no_same _ W).mono fun e W' ⟨h1_, h2_⟩ => ⟨h1_, h2_ ▸ hC.other (by decide)⟩)) ?_
    simp only [nf0, nf1, nf2, nf3, nf4]
    refine fst8_val (fun I W hC hn hp => ok8_value (v := (.func (.func 43) #[] #[.pointer (some ⟨g40, 0, none⟩)])) (by rfl) (by rfl) rfl (hC.other (by decide))) ?_
    simp only [nf0, nf1, nf2, nf3, nf4]
    refine fst8_val (fun I W hC hn hp => ok8_value (v := (.pointer (some ⟨g29, 2, none⟩))) (by rfl) (run_fieldA (.tmp 6) rfl h_fld_56_2 rfl rfl W) rfl (hC.other (by decide))) ?_
    simp only [nf0, nf1, nf2, nf3, nf4]
    refine fst8_val (fun I W hC hn hp => ok8_value (v := (.bool false)) (by rfl) (run_loadB (.tmp 48) rfl h_one_4 rfl (K6 W hC) rfl) rfl (hC.other (by decide))) ?_
    simp only [nf0, nf1, nf2, nf3, nf4]
    refine fst8_val (fun I W hC hn hp => ok8_call (by rfl) (h_run_callc_43_1_1 (.tmp 47) (.tmp 49) rfl rfl rfl W) ((take_no_same _ W).mono fun e W' ⟨h1_, h2_⟩ => ⟨h1_, h2_ ▸ hC.other (by decide)⟩)) ?_
    simp only [nf0, nf1, nf2, nf3, nf4]
    refine fst8_val (fun I W hC hn hp => ok8_value (v := (.string (str [114, 48]))) (by rfl) (by rfl) rfl (hC.other (by decide))) ?_
    simp only [nf0, nf1, nf2, nf3, nf4]
    refine fst8_val (fun I W hC hn hp => ok8_value (v := (.string (str []))) (by rfl) (by rfl) rfl (hC.other (by decide))) ?_
    simp only [nf0, nf1, nf2, nf3, nf4]
    refine fst8_val (fun I W hC hn hp => ok8_value (v := (.string (str []))) (by rfl) (by rfl) rfl (hC.other (by decide))) ?_
    simp only [nf0, nf1, nf2, nf3, nf4]
    refine fst8_nil fun I W hI hC => ?_
    obtain ⟨hf54, A_, c_, B_⟩ := hC.2 (hI 3 (by decide))
    exact wpList_nil (hQ_ _ _ ⟨_, _, rfl, B_, hf54⟩)
  rintro a_ w53 ⟨A_, c_, rfl, B_, hf54⟩
  replace B26 := B26.fr hf54 (ni1 n45)
  replace O8 := O8.fr hf54 (of1 n46)
  replace B38 := B38.fr hf54 (ni1 n47)
  clear B52
  replace bel := bl_call bel hf54 (lo1 lo44)
  clear hf54
  replace R18 := OwnR.rdE O8
  replace R51 := rd_cut O8
  refine wp_seq ?_
  refine wp_region_facts2_lit (C := Abv w53) 11 [.val (.pointer (some ⟨g29, 0, none⟩)), .val (.bool true), .val (.bool false), .val (.pointer (some ⟨g29, 1, none⟩)), .val (.bool false), .val (.bool true), .val (.pointer (some ⟨g29, 2, none⟩)), .val (.bool false), .val (.bool true), .val (.bool false), .val (.bool true)] w53.heap.size (by kernel_rfl) (by simp) (by kernel_rfl) (by kernel_rfl) (fun _ h => h.size) (Abv.start _) ?_
  simp only [List.take_succ_cons, List.take_zero, List.drop_succ_cons, List.drop_zero]
  refine fst2_val (fun W hC hh => ok2_value (v := (.pointer (some ⟨g29, 0, none⟩))) (by rfl) (run_fieldA (.tmp 6) rfl h_fld_56_0 rfl rfl W) rfl hC (G0.refl _)) ?_
  simp only [nf0, nf1, nf2, nf3, nf4]
  refine fst2_val (fun W hC hh => ok2_value (v := (.bool true)) (by rfl) (run_loadB (.tmp 51) rfl h_one_4 rfl (B38.below hC) rfl) rfl hC (G0.refl _)) ?_
  simp only [nf0, nf1, nf2, nf3, nf4]
  refine fst2_val (fun W hC hh => ok2_value (v := (.bool false)) (by rfl) (run_not (.tmp 52) rfl (b := true) rfl W) rfl hC (G0.refl _)) ?_
  simp only [nf0, nf1, nf2, nf3, nf4]
  refine fst2_val (fun W hC hh => ok2_value (v := (.pointer (some ⟨g29, 1, none⟩))) (by rfl) (run_fieldA (.tmp 6) rfl h_fld_56_1 rfl rfl W) rfl hC (G0.refl _)) ?_
  simp only [nf0, nf1, nf2, nf3, nf4]
  refine fst2_val (fun W hC hh => ok2_value (v := (.bool false)) (by rfl) (run_loadB (.tmp 54) rfl h_one_4 rfl (B38.below hC) rfl) rfl hC (G0.refl _)) ?_
  simp only [nf0, nf1, nf2, nf3, nf4]
  refine fst2_val (fun W hC hh => ok2_value (v := (.bool true)) (by rfl) (run_not (.tmp 55) rfl (b := false) rfl W) rfl hC (G0.refl _)) ?_
  simp only [nf0, nf1, nf2, nf3, nf4]
  refine fst2_val (fun W hC hh => ok2_value (v := (.pointer (some ⟨g29, 2, none⟩))) (by rfl) (run_fieldA (.tmp 6) rfl h_fld_56_2 rfl rfl W) rfl hC (G0.refl _)) ?_
  simp only [nf0, nf1, nf2, nf3, nf4]
  refine fst2_val (fun W hC hh => ok2_value (v := (.bool false)) (by rfl) (run_loadB (.tmp 57) rfl h_one_4 rfl (B38.below hC) rfl) rfl hC (G0.refl _)) ?_
  simp only [nf0, nf1, nf2, nf3, nf4]
  refine fst2_val (fun W hC hh => ok2_value (v := (.bool true)) (by rfl) (run_not (.tmp 58) rfl (b := false) rfl W) rfl hC (G0.refl _)) ?_
  simp only [nf0, nf1, nf2, nf3, nf4]
  refine fst2_val (fun W hC hh => ok2_value (v := (.bool false)) (by rfl) (by rfl) rfl hC (G0.refl _)) ?_
  simp only [nf0, nf1, nf2, nf3, nf4]
  refine fst2_val (fun W hC hh => ok2_value (v := (.bool true)) (by rfl) (by rfl) rfl hC (G0.refl _)) ?_
  simp only [nf0, nf1, nf2, nf3, nf4]
  refine fst2_nil fun w55 hC hh hnd => ?_
  replace hC : Below w53.heap.size w53 w55 := hC
  clear hh hnd
  replace B26 := B26.below hC
  replace O8 := O8.same hC
  replace R18 := R18.same hC
  replace B38 := B38.below hC
  replace B_ := B_.below hC
  replace R51 := R51.same hC
  replace bel := bl_step bel hC
  clear hC
  refine st_mv (.bool true) ?_
  simp only [nf0, nf1, nf2, nf3, nf4]
  refine wpList_nil ?_
  show Code.wp _ _ _ _ _
  refine wp_seq ?_
  refine wp_seq ?_
  refine wp_region_lit ?_
  refine st_value (v := (.pointer (some ⟨g29, 0, none⟩))) (by rfl) (run_fieldA (.tmp 6) rfl h_fld_56_0 rfl rfl w55) ?_
  simp only [nf0, nf1, nf2, nf3, nf4]
  refine st_value (v := (.bool true)) (by rfl) (run_loadB (.tmp 60) rfl h_one_4 rfl B38 rfl) ?_
  simp only [nf0, nf1, nf2, nf3, nf4]
  refine wpList_nil ?_
  show Code.wp _ _ _ _ _
  refine wp_cond_true rfl ?_
  refine wp_region_lit ?_
  refine st_mv (.string (str [114, 48])) ?_
  simp only [nf0, nf1, nf2, nf3, nf4]
  refine st_call1 (v := (.tuple #[.int .i64 (((48 : UInt8).toNat : Int) - 48), .bool true])) (by rfl) (h_run_call_44_1 (.tmp 63) rfl rfl _) (parseReg_one (c := 48) (by decide) w55) ?_
  intro w56 hb57
  simp only [nf0, nf1, nf2, nf3, nf4]
  replace B26 := B26.below hb57
  replace O8 := O8.same hb57
  replace R18 := R18.same hb57
  replace B38 := B38.below hb57
  replace B_ := B_.below hb57
  replace R51 := R51.same hb57
  replace bel := bl_step bel hb57
  clear hb57
  refine st_mv (.tuple #[.int .i64 (((48 : UInt8).toNat : Int) - 48), .bool true]) ?_
  simp only [nf0, nf1, nf2, nf3, nf4]
  refine st_mv (.int .i64 (((48 : UInt8).toNat : Int) - 48)) ?_
  simp only [nf0, nf1, nf2, nf3, nf4]
  refine st_mv (.bool true) ?_
  simp only [nf0, nf1, nf2, nf3, nf4]
  refine st_value (v := (.pointer (some ⟨g1, 1, none⟩))) (by rfl) (run_fieldA (.tmp 2) rfl h_fld_35_1 rfl rfl w56) ?_
  simp only [nf0, nf1, nf2, nf3, nf4]
  refine st_cell (v := (.int .i64 (((48 : UInt8).toNat : Int) - 48))) (by rfl) (run_storeB (.tmp 67) (.tmp 65) rfl h_one_3 B26 (show 1 < 4 by decide) rfl rfl rfl rfl) B26 ?_
  intro w58 B60 hg59
  simp only [nf0, nf1, nf2, nf3, nf4]
  replace O8 := O8.keptB hg59 n22
  replace B38 := B38.kept hg59 n34.symm
  replace B_ := B_.kept hg59 n45.symm
  replace bel := bl_kept0 bel hg59 lo5
  replace R18 := OwnR.rdE O8
  replace R51 := rd_cut O8
  clear hg59
  clear B26
  replace B60 : Blk w58 g1 #[.int .i64 14, .int .i64 (((48 : UInt8).toNat : Int) - 48), .int .i64 0, .int .i32 0] 35 := B60
  refine st_mv (.bool true) ?_
  simp only [nf0, nf1, nf2, nf3, nf4]
  refine wpList_nil ?_
  show Code.wp _ _ _ _ _
  refine wp_seq ?_
  refine wp_seq ?_
  refine wp_region_lit ?_
  refine st_value (v := (.pointer (some ⟨g29, 1, none⟩))) (by rfl) (run_fieldA (.tmp 6) rfl h_fld_56_1 rfl rfl w58) ?_
  simp only [nf0, nf1, nf2, nf3, nf4]
  refine st_value (v := (.bool false)) (by rfl) (run_loadB (.tmp 68) rfl h_one_4 rfl B38 rfl) ?_
  simp only [nf0, nf1, nf2, nf3, nf4]
  refine wpList_nil ?_
  show Code.wp _ _ _ _ _
  refine wp_cond_false rfl ?_
  refine wp_skip ?_
  show Code.wp _ _ _ _ _
  refine wp_seq ?_
  refine wp_seq ?_
  refine wp_region_lit ?_
  refine st_value (v := (.pointer (some ⟨g29, 2, none⟩))) (by rfl) (run_fieldA (.tmp 6) rfl h_fld_56_2 rfl rfl w58) ?_
  simp only [nf0, nf1, nf2, nf3, nf4]
  refine st_value (v := (.bool false)) (by rfl) (run_loadB (.tmp 76) rfl h_one_4 rfl B38 rfl) ?_
  simp only [nf0, nf1, nf2, nf3, nf4]
  refine wpList_nil ?_
  show Code.wp _ _ _ _ _
  refine wp_cond_false rfl ?_
  refine wp_skip ?_
  show Code.wp _ _ _ _ _
  refine wp_seq ?_
  refine wp_region_facts2_lit (C := Abv w58) 14 [.val (.agg #[.int .i64 14, .int .i64 (((48 : UInt8).toNat : Int) - 48), .int .i64 0, .int .i32 0]), .val (.bool true), .val (.bool true), .val (.bool true), .val (.bool true), .val (.bool true), .val (.bool true), .val (.bool true), .val (.bool true), .val (.slice A_ 0 c_), .val (.int .i64 0), .val (.bool true), .val (.bool true), .val undef] w58.heap.size (by kernel_rfl) (by simp) (by kernel_rfl) (by kernel_rfl) (fun _ h => h.size) (Abv.start _) ?_
  simp only [List.take_succ_cons, List.take_zero, List.drop_succ_cons, List.drop_zero]
  refine fst2_val (fun W hC hh => ok2_value (v := (.agg #[.int .i64 14, .int .i64 (((48 : UInt8).toNat : Int) - 48), .int .i64 0, .int .i32 0])) (by rfl) (run_loadW (.tmp 2) rfl (cs := #[.int .i64 14, .int .i64 (((48 : UInt8).toNat : Int) - 48), .int .i64 0, .int .i32 0]) aggIns rfl (B60.below hC)) rfl hC (G0.refl _)) ?_
  simp only [nf0, nf1, nf2, nf3, nf4]
  refine fst2_val (fun W hC hh => ok2_value (v := (.bool true)) (by rfl) (by rfl) rfl hC (G0.refl _)) ?_
  simp only [nf0, nf1, nf2, nf3, nf4]
  refine fst2_val (fun W hC hh => ok2_value (v := (.bool true)) (by rfl) (by rfl) rfl hC (G0.refl _)) ?_
  simp only [nf0, nf1, nf2, nf3, nf4]
  refine fst2_val (fun W hC hh => ok2_value (v := (.bool true)) (by rfl) (by rfl) rfl hC (G0.refl _)) ?_
  simp only [nf0, nf1, nf2, nf3, nf4]
  refine fst2_val (fun W hC hh => ok2_value (v := (.bool true)) (by rfl) (by rfl) rfl hC (G0.refl _)) ?_
  simp only [nf0, nf1, nf2, nf3, nf4]
  refine fst2_val (fun W hC hh => ok2_value (v := (.bool true)) (by rfl) (by rfl) rfl hC (G0.refl _)) ?_
  simp only [nf0, nf1, nf2, nf3, nf4]
  refine fst2_val (fun W hC hh => ok2_value (v := (.bool true)) (by rfl) (by rfl) rfl hC (G0.refl _)) ?_
  simp only [nf0, nf1, nf2, nf3, nf4]
  refine fst2_val (fun W hC hh => ok2_value (v := (.bool true)) (by rfl) (by rfl) rfl hC (G0.refl _)) ?_
  simp only [nf0, nf1, nf2, nf3, nf4]
  refine fst2_val (fun W hC hh => ok2_value (v := (.bool true)) (by rfl) (by rfl) rfl hC (G0.refl _)) ?_
  simp only [nf0, nf1, nf2, nf3, nf4]
  refine fst2_val (fun W hC hh => ok2_value (v := (.slice A_ 0 c_)) (by rfl) (run_loadB (.tmp 7) rfl h_one_39 rfl (B_.below hC) rfl) rfl hC (G0.refl _)) ?_
  simp only [nf0, nf1, nf2, nf3, nf4]
  refine fst2_val (fun W hC hh => ok2_value (v := (.int .i64 0)) (by rfl) (run_len (.tmp 93) rfl ⟨_, Tryd.underlying39⟩ rfl W) rfl hC (G0.refl _)) ?_
  simp only [nf0, nf1, nf2, nf3, nf4]
  refine fst2_val (fun W hC hh => ok2_value (v := (.bool true)) (by rfl) (run_eql_int_t (.tmp 94) (.const (.int .i64 0)) rfl rfl rfl rfl W) rfl hC (G0.refl _)) ?_
  simp only [nf0, nf1, nf2, nf3, nf4]
  refine fst2_val (fun W hC hh => ok2_value (v := (.bool true)) (by rfl) (by rfl) rfl hC (G0.refl _)) ?_
  simp only [nf0, nf1, nf2, nf3, nf4]
  refine fst2_val (fun W hC hh => ok2_skip (by rfl) ((run_storeW (.tmp 2) (.tmp 84) rfl (cs := #[.int .i64 14, .int .i64 (((48 : UInt8).toNat : Int) - 48), .int .i64 0, .int .i32 0]) aggIns rfl rfl (B60.below hC) rfl (by simp [Value.oneCell'])).trans (by rw [setRow_self _ _ _ _ _ (B60.below hC)])) hC) ?_
  simp only [nf0, nf1, nf2, nf3, nf4]
  refine fst2_nil fun w61 hC hh hnd => ?_
  replace hC : Below w58.heap.size w58 w61 := hC
  clear hh hnd
  replace B60 := B60.below hC
  replace O8 := O8.same hC
  replace R18 := R18.same hC
  replace B38 := B38.below hC
  replace B_ := B_.below hC
  replace R51 := R51.same hC
  replace bel := bl_step bel hC
  clear hC
  refine st_mv (.bool true) ?_
  simp only [nf0, nf1, nf2, nf3, nf4]
  refine wpList_nil ?_
  show Code.wp _ _ _ _ _
  refine wp_ret ?_
  first | show bodyPost _ _ _ _ _ _ | (simp only [Exit.then, Exit.inBlock]; show bodyPost _ _ _ _ _ _)
  exact bodyPost_ret (results_agg1t rfl (cs := #[.int .i64 14, .int .i64 (((48 : UInt8).toNat : Int) - 48), .int .i64 0, .int .i32 0]) aggIns (by rfl) B60) rfl ⟨rfl, bel⟩
end Go.Proofs.YtjbmahjfmffnoaaDoor

/- The document's example, read. -/
namespace Go.Proofs.YtjbmahjfmffnoaaDoor
open Go.RowKit Go.WideShapes Go.ChangeShapes
set_option linter.unusedSimpArgs false
set_option linter.unusedVariables false

theorem k_zero_24 : ZeroOf Tryd.prog 24 #[.int .i64 0, .slice none 0 0] := zeroOf (z := .agg #[.int .i64 0, .slice none 0 0]) (by kernel_rfl) rfl
theorem k_fld_24_0 : FieldAt Tryd.prog 24 0 0 := fieldAt_of (s := 0) Tryd.underlying24 (by kernel_rfl)
theorem k_one_3 : One Tryd.prog 3 := one_of Tryd.underlying3 rfl (by kernel_rfl)
theorem k_zero_35 : ZeroOf Tryd.prog 35 #[.int .i64 0, .int .i64 0, .int .i64 0, .int .i32 0] := zeroOf (z := .agg #[.int .i64 0, .int .i64 0, .int .i64 0, .int .i32 0]) (by kernel_rfl) rfl
theorem k_fld_24_1 : FieldAt Tryd.prog 24 1 1 := fieldAt_of (s := 0) Tryd.underlying24 (by kernel_rfl)
theorem k_one_22 : One Tryd.prog 22 := one_of Tryd.underlying22 rfl (by kernel_rfl)
theorem k_run_call_6_1 {o : Oper} {a : Act} (x0 : Operand) {ts : Array TypeId} (ho : o.op = .call { callee := .value (.func 6), args := #[x0], argTypes := ts }) {v0 : Value} (h0 : a.eval x0 = v0) (W : World) : (execOp a.eval o).run Tryd.prog W = .ok (.enter 6 #[v0]) W := by
  unfold execOp
  simp only [ho]
  subst h0
  go_simp
theorem k_run_call_31_2 {o : Oper} {a : Act} (x0 : Operand) (x1 : Operand) {ts : Array TypeId} (ho : o.op = .call { callee := .value (.func 31), args := #[x0, x1], argTypes := ts }) {v0 : Value} (h0 : a.eval x0 = v0) {v1 : Value} (h1 : a.eval x1 = v1) (W : World) : (execOp a.eval o).run Tryd.prog W = .ok (.enter 31 #[v0, v1]) W := by
  unfold execOp
  simp only [ho]
  subst h0 h1
  go_simp
theorem k_run_call_32_2 {o : Oper} {a : Act} (x0 : Operand) (x1 : Operand) {ts : Array TypeId} (ho : o.op = .call { callee := .value (.func 32), args := #[x0, x1], argTypes := ts }) {v0 : Value} (h0 : a.eval x0 = v0) {v1 : Value} (h1 : a.eval x1 = v1) (W : World) : (execOp a.eval o).run Tryd.prog W = .ok (.enter 32 #[v0, v1]) W := by
  unfold execOp
  simp only [ho]
  subst h0 h1
  go_simp
theorem k_run_call_33_1 {o : Oper} {a : Act} (x0 : Operand) {ts : Array TypeId} (ho : o.op = .call { callee := .value (.func 33), args := #[x0], argTypes := ts }) {v0 : Value} (h0 : a.eval x0 = v0) (W : World) : (execOp a.eval o).run Tryd.prog W = .ok (.enter 33 #[v0]) W := by
  unfold execOp
  simp only [ho]
  subst h0
  go_simp
theorem k_run_call_34_2 {o : Oper} {a : Act} (x0 : Operand) (x1 : Operand) {ts : Array TypeId} (ho : o.op = .call { callee := .value (.func 34), args := #[x0, x1], argTypes := ts }) {v0 : Value} (h0 : a.eval x0 = v0) {v1 : Value} (h1 : a.eval x1 = v1) (W : World) : (execOp a.eval o).run Tryd.prog W = .ok (.enter 34 #[v0, v1]) W := by
  unfold execOp
  simp only [ho]
  subst h0 h1
  go_simp
theorem k_run_call_35_1 {o : Oper} {a : Act} (x0 : Operand) {ts : Array TypeId} (ho : o.op = .call { callee := .value (.func 35), args := #[x0], argTypes := ts }) {v0 : Value} (h0 : a.eval x0 = v0) (W : World) : (execOp a.eval o).run Tryd.prog W = .ok (.enter 35 #[v0]) W := by
  unfold execOp
  simp only [ho]
  subst h0
  go_simp
theorem k_run_lit_22_1 {o : Oper} {a : Act} (x0 : Operand) (ho : o.op = .buildSlice 22 1 #[(0, x0)]) {m0 : TIns} (h0 : a.eval x0 = .agg #[.int .i64 m0.1, .int .i64 m0.2.1, .int .i64 m0.2.2.1, .int .i32 m0.2.2.2]) (W : World) : (execOp a.eval o).run Tryd.prog W = .ok (.value (.slice (some ⟨W.heap.size, 0, none⟩) 1 1)) (W.alloc (.cells #[.int .i64 m0.1, .int .i64 m0.2.1, .int .i64 m0.2.2.1, .int .i32 m0.2.2.2] 35)) := by
  unfold execOp
  simp only [ho, List.map_toArray, List.map_cons, List.map_nil, h0]
  go_simp
theorem cutS_yes (r p : List UInt8) (hl : (r ++ p).length ≤ 9223372036854775807) (w : World) : Calls Tryd.prog 31 #[.string (str (r ++ p)), .string (str p)] w fun e w' => e = .returned (.tuple #[.string (str r), .bool true]) ∧ Below w.heap.size w w' := by
  refine (Tryd.strings_CutSuffix (str (r ++ p)) (str p) w (by rw [Lib.size_eq, str_data]; exact hl)).mono ?_
  rintro e w' ⟨rfl, rfl⟩
  refine ⟨?_, Below.refl _ _⟩
  have h1 : Lib.hasSuffix (r ++ p) p = true := by unfold Lib.hasSuffix; rw [List.isSuffixOf_iff_suffix]; exact List.suffix_append r p
  rw [str_data, str_data]
  unfold Lib.trimSuffix
  rw [h1, if_pos rfl, List.length_append, Nat.add_sub_cancel, List.take_left]
  rfl
theorem okex : ∀ x ∈ ([((13 : Int), (0 : Int), (0 : Int), (0 : Int)), (14, 0, 0, 0)] : List TIns), okIns x := by unfold okIns; decide
theorem results_agg1tt {P : Program} {fn : Func} {p u v : Tmp} {ty t : TypeId} (h : fn.results = #[.cell p ty, .tmp u, .tmp v]) {tmps : Array Value} {w : World} {g : Nat} {cs : Array Value} (T : AggT P ty cs.size) (hp : tmps.getD p undef = .pointer (some ⟨g, 0, none⟩)) (hB : Blk w g cs t) : (results fn tmps).run P w = .ok (.tuple #[.agg cs, tmps.getD u undef, tmps.getD v undef]) w := by
  have hp' : tmps[p]?.getD undef = .pointer (some ⟨g, 0, none⟩) := by simpa using hp
  simp only [results, h]
  simp [Sem.run_bind, hp', asAddr, loadVar_agg T hB]

attribute [local irreducible] Go.wpList Go.Code.wp
set_option maxRecDepth 100000 in
set_option maxHeartbeats 4000000 in
theorem parse_ex (w : World) : Calls Tryd.prog 19 #[.string (str [112, 114, 111, 103, 32, 49, 10, 9, 111, 117, 116, 32, 114, 48, 10, 9, 101, 120, 105, 116, 32, 114, 48, 10])] w fun e w' => ∃ v, e = .returned (.tuple #[.agg #[.int .i64 1, v], .int .i64 0, .int .i64 0]) ∧ OwnR w' w.heap.size 35 eIns v ([((13 : Int), (0 : Int), (0 : Int), (0 : Int)), (14, 0, 0, 0)] : List TIns) ∧ Below w.heap.size w w' := by
  have bel : Below w.heap.size w w := Below.refl _ _
  have hpc : pieces 10 [112, 114, 111, 103, 32, 49, 10, 9, 111, 117, 116, 32, 114, 48, 10, 9, 101, 120, 105, 116, 32, 114, 48] = ([[112, 114, 111, 103, 32, 49], [9, 111, 117, 116, 32, 114, 48], [9, 101, 120, 105, 116, 32, 114, 48]] : List (List UInt8)) := by decide
  have hl3 : ([[112, 114, 111, 103, 32, 49], [9, 111, 117, 116, 32, 114, 48], [9, 101, 120, 105, 116, 32, 114, 48]] : List (List UInt8)).length = 3 := rfl
  go_enter Tryd.func19, Tryd.ntmps19
  refine wp_seq ?_
  refine wp_region_lit ?_
  refine st_new (cs := #[.int .i64 0, .slice none 0 0]) (t := 24) (by rfl) (run_allocV rfl k_zero_24 _) ?_
  intro g1 w2 B3 hb4 lo5
  simp only [nf0, nf1, nf2, nf3, nf4]
  replace lo5 := low_le bel lo5
  replace bel := bl_step bel hb4
  clear hb4
  refine st_mv (.int .i64 0) ?_
  simp only [nf0, nf1, nf2, nf3, nf4]
  refine st_mv (.int .i64 0) ?_
  simp only [nf0, nf1, nf2, nf3, nf4]
  refine wpList_nil ?_
  show Code.wp _ _ _ _ _
  refine wp_seq ?_
  refine wp_region_lit ?_
  refine st_mv (.string (str [112, 114, 111, 103, 32, 49, 10, 9, 111, 117, 116, 32, 114, 48, 10, 9, 101, 120, 105, 116, 32, 114, 48, 10])) ?_
  simp only [nf0, nf1, nf2, nf3, nf4]
  refine st_call1 (v := (.tuple #[.string (str [112, 114, 111, 103, 32, 49, 10, 9, 111, 117, 116, 32, 114, 48, 10, 9, 101, 120, 105, 116, 32, 114, 48]), .bool true])) (by rfl) (k_run_call_31_2 (.tmp 17) (.const (.string ⟨#[10]⟩)) rfl rfl rfl _) (cutS_yes [112, 114, 111, 103, 32, 49, 10, 9, 111, 117, 116, 32, 114, 48, 10, 9, 101, 120, 105, 116, 32, 114, 48] [10] (by decide) w2) ?_
  intro w6 hb7
  simp only [nf0, nf1, nf2, nf3, nf4]
  replace B3 := B3.below hb7
  replace bel := bl_step bel hb7
  clear hb7
  refine st_mv (.tuple #[.string (str [112, 114, 111, 103, 32, 49, 10, 9, 111, 117, 116, 32, 114, 48, 10, 9, 101, 120, 105, 116, 32, 114, 48]), .bool true]) ?_
  simp only [nf0, nf1, nf2, nf3, nf4]
  refine st_mv (.string (str [112, 114, 111, 103, 32, 49, 10, 9, 111, 117, 116, 32, 114, 48, 10, 9, 101, 120, 105, 116, 32, 114, 48])) ?_
  simp only [nf0, nf1, nf2, nf3, nf4]
  refine st_mv (.bool true) ?_
  simp only [nf0, nf1, nf2, nf3, nf4]
  refine st_mv (.string (str [112, 114, 111, 103, 32, 49, 10, 9, 111, 117, 116, 32, 114, 48, 10, 9, 101, 120, 105, 116, 32, 114, 48])) ?_
  simp only [nf0, nf1, nf2, nf3, nf4]
  refine st_mv (.bool true) ?_
  simp only [nf0, nf1, nf2, nf3, nf4]
  refine wpList_nil ?_
  show Code.wp _ _ _ _ _
  refine wp_seq ?_
  refine wp_seq ?_
  refine wp_region_lit ?_
  refine st_mv (.bool true) ?_
  simp only [nf0, nf1, nf2, nf3, nf4]
  refine st_value (v := (.bool false)) (by rfl) (run_not (.tmp 21) rfl (b := true) rfl w6) ?_
  simp only [nf0, nf1, nf2, nf3, nf4]
  refine wpList_nil ?_
  show Code.wp _ _ _ _ _
  refine wp_cond_false rfl ?_
  refine wp_skip ?_
  show Code.wp _ _ _ _ _
  refine wp_seq ?_
  refine wp_region_lit ?_
  refine st_new (cs := #[.int .i64 0, .slice none 0 0]) (t := 24) (by rfl) (run_allocV rfl k_zero_24 _) ?_
  intro g8 w9 B10 hb11 lo12
  simp only [nf0, nf1, nf2, nf3, nf4]
  have n13 := B3.ne lo12
  replace lo12 := low_le bel lo12
  replace B3 := B3.below hb11
  replace bel := bl_step bel hb11
  clear hb11
  refine wpList_nil ?_
  show Code.wp _ _ _ _ _
  refine wp_seq ?_
  refine wp_seq ?_
  have O14 : OwnR w9 w.heap.size 35 eIns (.slice none 0 0) [] := OwnR.nil _ _ _ _
  have n16 := Off.nil g1
  have n17 := Off.nil g8
  refine wp_region_lit ?_
  refine st_mv (.string (str [112, 114, 111, 103, 32, 49, 10, 9, 111, 117, 116, 32, 114, 48, 10, 9, 101, 120, 105, 116, 32, 114, 48])) ?_
  simp only [nf0, nf1, nf2, nf3, nf4]
  have hc18 := splits_calls [112, 114, 111, 103, 32, 49, 10, 9, 111, 117, 116, 32, 114, 48, 10, 9, 101, 120, 105, 116, 32, 114, 48] 10 (by decide) w9
  rw [hpc] at hc18
  refine st_call (by rfl) (k_run_call_32_2 (.tmp 24) (.const (.string ⟨#[10]⟩)) rfl rfl rfl _) hc18 ?_
  rintro v19 w21 ⟨O20, hf22⟩
  simp only [nf0, nf1, nf2, nf3, nf4]
  have n23 := O20.offLow B3
  have n24 := O20.offLow B10
  have n25 := O20.offLow2 O14
  have O20_ := fun k hk => (O20.lt k hk).1
  replace O20 := O20.lower bel.size
  replace B3 := B3.below hf22
  replace B10 := B10.below hf22
  replace O14 := O14.same hf22
  replace bel := bl_step bel hf22
  clear hf22
  obtain ⟨A26, c27, hv28, h29, h30, h31, R32⟩ := O20.reads
  refine st_value (v := (.int .i64 (([[112, 114, 111, 103, 32, 49], [9, 111, 117, 116, 32, 114, 48], [9, 101, 120, 105, 116, 32, 114, 48]] : List (List UInt8)).length : Int))) (by rfl) (run_len (.tmp 25) rfl ⟨_, Tryd.underlying39⟩ (by exact hv28) w21) ?_
  simp only [nf0, nf1, nf2, nf3, nf4]
  refine st_mv (.int .i64 0) ?_
  simp only [nf0, nf1, nf2, nf3, nf4]
  refine wpList_nil ?_
  show Code.wp _ _ _ _ _
  refine wp_block ?_
  refine wp_loop_rnds 3 ?_
  show Code.wp _ _ _ _ _
  refine wp_seq ?_
  obtain ⟨A33, c34, hv35, h36, h37, h38, R39⟩ := O20.reads
  subst hv35
  refine wp_region_lit ?_
  refine st_value (v := (.bool true)) (by rfl) ((run_lss (.tmp 27) (.tmp 26) rfl rfl rfl w21).trans (by rw [decide_eq_true (by omega)])) ?_
  simp only [nf0, nf1, nf2, nf3, nf4]
  refine wpList_nil ?_
  show Code.wp _ _ _ _ _
  refine wp_seq ?_
  refine wp_cond_true rfl ?_
  refine wp_skip ?_
  show Code.wp _ _ _ _ _
  refine wp_seq ?_
  refine wp_block ?_
  refine wp_seq ?_
  obtain ⟨b40, o41, rfl, _⟩ := R39.at_ (by rw [Enc.all_length]; exact Nat.mul_pos (by omega) (by decide))
  refine wp_region_lit ?_
  refine st_mv (.int .i64 0) ?_
  simp only [nf0, nf1, nf2, nf3, nf4]
  refine st_value (v := (.pointer (some ⟨b40, o41 + 0 * 1, none⟩))) (by rfl) (run_indexAddrN (.tmp 25) (.tmp 27) rfl Tryd.underlying39 slTx.sz (i := 0) rfl (by exact (congrArg (Value.int .i64) (show 0 = ((0 : Nat) : Int) by omega))) (by omega) w21) ?_
  simp only [nf0, nf1, nf2, nf3, nf4]
  refine st_value (v := (.string (str (tx ([[112, 114, 111, 103, 32, 49], [9, 111, 117, 116, 32, 114, 48], [9, 101, 120, 105, 116, 32, 114, 48]] : List (List UInt8)) 0)))) (by rfl) (run_load1 (.tmp 30) rfl Tryd.underlying9 rfl slTx.sz rfl (Reads.txAt R39 0 (by omega))) ?_
  simp only [nf0, nf1, nf2, nf3, nf4]
  refine st_mv (.int .i64 0) ?_
  simp only [nf0, nf1, nf2, nf3, nf4]
  refine st_mv (.string (str (tx ([[112, 114, 111, 103, 32, 49], [9, 111, 117, 116, 32, 114, 48], [9, 101, 120, 105, 116, 32, 114, 48]] : List (List UInt8)) 0))) ?_
  simp only [nf0, nf1, nf2, nf3, nf4]
  refine wpList_nil ?_
  show Code.wp _ _ _ _ _
  refine wp_seq ?_
  refine wp_seq ?_
  refine wp_region_lit ?_
  refine st_mv (.int .i64 0) ?_
  simp only [nf0, nf1, nf2, nf3, nf4]
  refine st_value (v := (.bool true)) (by rfl) ((run_eql_int (.tmp 32) (.const (.int .i64 0)) rfl rfl rfl w21).trans (by rw [decide_eq_true (by omega)])) ?_
  simp only [nf0, nf1, nf2, nf3, nf4]
  refine wpList_nil ?_
  show Code.wp _ _ _ _ _
  refine wp_cond_true rfl ?_
  refine wp_seq ?_
  refine wp_seq ?_
  refine wp_region_lit ?_
  refine st_mv (.string (str [112, 114, 111, 103, 32, 49])) ?_
  simp only [nf0, nf1, nf2, nf3, nf4]
  refine st_call1 (v := (.tuple #[.int .i64 1, .bool true])) (by rfl) (k_run_call_33_1 (.tmp 35) rfl rfl _) (show Calls _ _ _ _ fun e w' => e = .returned (.tuple #[.int .i64 1, .bool true]) ∧ Below w21.heap.size w21 w' from parseHead_one (c := 49) (by decide) w21) ?_
  intro w42 hb43
  simp only [nf0, nf1, nf2, nf3, nf4]
  replace B3 := B3.below hb43
  replace B10 := B10.below hb43
  replace O14 := O14.same hb43
  replace O20 := O20.same hb43
  replace R39 := R39.same hb43
  replace bel := bl_step bel hb43
  clear hb43
  refine st_mv (.tuple #[.int .i64 1, .bool true]) ?_
  simp only [nf0, nf1, nf2, nf3, nf4]
  refine st_mv (.int .i64 1) ?_
  simp only [nf0, nf1, nf2, nf3, nf4]
  refine st_mv (.bool true) ?_
  simp only [nf0, nf1, nf2, nf3, nf4]
  refine st_value (v := (.pointer (some ⟨g8, 0, none⟩))) (by rfl) (run_fieldA (.tmp 7) rfl k_fld_24_0 rfl rfl w42) ?_
  simp only [nf0, nf1, nf2, nf3, nf4]
  refine st_cell (v := (.int .i64 1)) (by rfl) (run_storeB (.tmp 39) (.tmp 37) rfl k_one_3 B10 (show 0 < 2 by decide) rfl rfl rfl rfl) B10 ?_
  intro w44 B46 hg45
  simp only [nf0, nf1, nf2, nf3, nf4]
  replace B3 := B3.kept hg45 n13
  replace O14 := O14.keptB hg45 n17
  replace O20 := O20.keptB hg45 n24
  replace bel := bl_kept0 bel hg45 lo12
  replace R39 := OwnR.rdE O20
  clear hg45
  clear B10
  replace B46 : Blk w44 g8 #[.int .i64 1, .slice none 0 0] 24 := B46
  refine st_mv (.bool true) ?_
  simp only [nf0, nf1, nf2, nf3, nf4]
  refine wpList_nil ?_
  show Code.wp _ _ _ _ _
  refine wp_seq ?_
  refine wp_region_lit ?_
  refine st_mv (.bool true) ?_
  simp only [nf0, nf1, nf2, nf3, nf4]
  refine st_value (v := (.bool false)) (by rfl) (run_not (.tmp 40) rfl (b := true) rfl w44) ?_
  simp only [nf0, nf1, nf2, nf3, nf4]
  refine wpList_nil ?_
  show Code.wp _ _ _ _ _
  refine wp_cond_false rfl ?_
  refine wp_skip ?_
  show Code.wp _ _ _ _ _
  refine wp_exit ?_
  show Code.wp _ _ _ _ _
  refine wp_region_lit ?_
  refine st_value (v := (.int .i64 1)) (by rfl) ((run_add_in (.tmp 27) (.const (.int .i64 1)) rfl rfl rfl (by omega) w44).trans (by rw [show ((0 : Int) + 1) = 1 by omega])) ?_
  simp only [nf0, nf1, nf2, nf3, nf4]
  refine st_mv (.int .i64 1) ?_
  simp only [nf0, nf1, nf2, nf3, nf4]
  refine wpList_nil ?_
  show Code.wp _ _ _ _ _
  refine wp_seq ?_
  refine wp_region_lit ?_
  refine st_value (v := (.bool true)) (by rfl) ((run_lss (.tmp 27) (.tmp 26) rfl rfl rfl w44).trans (by rw [decide_eq_true (by omega)])) ?_
  simp only [nf0, nf1, nf2, nf3, nf4]
  refine wpList_nil ?_
  show Code.wp _ _ _ _ _
  refine wp_seq ?_
  refine wp_cond_true rfl ?_
  refine wp_skip ?_
  show Code.wp _ _ _ _ _
  refine wp_seq ?_
  refine wp_block ?_
  refine wp_seq ?_
  refine wp_region_lit ?_
  refine st_mv (.int .i64 1) ?_
  simp only [nf0, nf1, nf2, nf3, nf4]
  refine st_value (v := (.pointer (some ⟨b40, o41 + 1 * 1, none⟩))) (by rfl) (run_indexAddrN (.tmp 25) (.tmp 27) rfl Tryd.underlying39 slTx.sz (i := 1) rfl (by exact (congrArg (Value.int .i64) (show 1 = ((1 : Nat) : Int) by omega))) (by omega) w44) ?_
  simp only [nf0, nf1, nf2, nf3, nf4]
  refine st_value (v := (.string (str (tx ([[112, 114, 111, 103, 32, 49], [9, 111, 117, 116, 32, 114, 48], [9, 101, 120, 105, 116, 32, 114, 48]] : List (List UInt8)) 1)))) (by rfl) (run_load1 (.tmp 30) rfl Tryd.underlying9 rfl slTx.sz rfl (Reads.txAt R39 1 (by omega))) ?_
  simp only [nf0, nf1, nf2, nf3, nf4]
  refine st_mv (.int .i64 1) ?_
  simp only [nf0, nf1, nf2, nf3, nf4]
  refine st_mv (.string (str (tx ([[112, 114, 111, 103, 32, 49], [9, 111, 117, 116, 32, 114, 48], [9, 101, 120, 105, 116, 32, 114, 48]] : List (List UInt8)) 1))) ?_
  simp only [nf0, nf1, nf2, nf3, nf4]
  refine wpList_nil ?_
  show Code.wp _ _ _ _ _
  refine wp_seq ?_
  refine wp_seq ?_
  refine wp_region_lit ?_
  refine st_mv (.int .i64 1) ?_
  simp only [nf0, nf1, nf2, nf3, nf4]
  refine st_value (v := (.bool false)) (by rfl) ((run_eql_int (.tmp 32) (.const (.int .i64 0)) rfl rfl rfl w44).trans (by rw [decide_eq_false (by omega)])) ?_
  simp only [nf0, nf1, nf2, nf3, nf4]
  refine wpList_nil ?_
  show Code.wp _ _ _ _ _
  refine wp_cond_false rfl ?_
  refine wp_skip ?_
  show Code.wp _ _ _ _ _
  refine wp_seq ?_
  refine wp_region_lit ?_
  refine st_mv (.string (str [9, 111, 117, 116, 32, 114, 48])) ?_
  simp only [nf0, nf1, nf2, nf3, nf4]
  refine st_call1 (v := (.tuple #[.string (str [111, 117, 116, 32, 114, 48]), .bool true])) (by rfl) (k_run_call_34_2 (.tmp 44) (.const (.string ⟨#[9]⟩)) rfl rfl rfl _) (cutP_yes [9] ([111, 117, 116, 32, 114, 48] : List UInt8) w44) ?_
  intro w47 hb48
  simp only [nf0, nf1, nf2, nf3, nf4]
  replace B3 := B3.below hb48
  replace B46 := B46.below hb48
  replace O14 := O14.same hb48
  replace O20 := O20.same hb48
  replace R39 := R39.same hb48
  replace bel := bl_step bel hb48
  clear hb48
  refine st_mv (.tuple #[.string (str [111, 117, 116, 32, 114, 48]), .bool true]) ?_
  simp only [nf0, nf1, nf2, nf3, nf4]
  refine st_mv (.string (str [111, 117, 116, 32, 114, 48])) ?_
  simp only [nf0, nf1, nf2, nf3, nf4]
  refine st_mv (.bool true) ?_
  simp only [nf0, nf1, nf2, nf3, nf4]
  refine st_mv (.string (str [111, 117, 116, 32, 114, 48])) ?_
  simp only [nf0, nf1, nf2, nf3, nf4]
  refine st_mv (.bool true) ?_
  simp only [nf0, nf1, nf2, nf3, nf4]
  refine wpList_nil ?_
  show Code.wp _ _ _ _ _
  refine wp_seq ?_
  refine wp_region_lit ?_
  refine st_mv (.string (str [111, 117, 116, 32, 114, 48])) ?_
  simp only [nf0, nf1, nf2, nf3, nf4]
  refine st_call1 (v := (.tuple #[.agg #[.int .i64 13, .int .i64 0, .int .i64 0, .int .i32 0], .bool true])) (by rfl) (k_run_call_35_1 (.tmp 49) rfl rfl _) (parseIns_out w47) ?_
  intro w49 hb50
  simp only [nf0, nf1, nf2, nf3, nf4]
  replace B3 := B3.below hb50
  replace B46 := B46.below hb50
  replace O14 := O14.same hb50
  replace O20 := O20.same hb50
  replace R39 := R39.same hb50
  replace bel := bl_step bel hb50
  clear hb50
  refine st_mv (.tuple #[.agg #[.int .i64 13, .int .i64 0, .int .i64 0, .int .i32 0], .bool true]) ?_
  simp only [nf0, nf1, nf2, nf3, nf4]
  refine st_mv (.agg #[.int .i64 13, .int .i64 0, .int .i64 0, .int .i32 0]) ?_
  simp only [nf0, nf1, nf2, nf3, nf4]
  refine st_mv (.bool true) ?_
  simp only [nf0, nf1, nf2, nf3, nf4]
  refine st_new (cs := #[.int .i64 0, .int .i64 0, .int .i64 0, .int .i32 0]) (t := 35) (by rfl) (run_allocV rfl k_zero_35 _) ?_
  intro g51 w52 B53 hb54 lo55
  simp only [nf0, nf1, nf2, nf3, nf4]
  have n56 := B3.ne lo55
  have n57 := B46.ne lo55
  have n58 := O14.off lo55
  have n59 := O20.off lo55
  replace lo55 := low_le bel lo55
  replace B3 := B3.below hb54
  replace B46 := B46.below hb54
  replace O14 := O14.same hb54
  replace O20 := O20.same hb54
  replace R39 := R39.same hb54
  replace bel := bl_step bel hb54
  clear hb54
  refine st_row (by rfl) (run_storeW (.tmp 12) (.tmp 51) rfl (cs := #[.int .i64 13, .int .i64 0, .int .i64 0, .int .i32 0]) aggIns rfl rfl B53 rfl (by simp [Value.oneCell'])) B53 ?_
  intro w60 B62 hg61
  simp only [nf0, nf1, nf2, nf3, nf4]
  replace B3 := B3.kept hg61 n56
  replace B46 := B46.kept hg61 n57
  replace O14 := O14.keptB hg61 n58
  replace O20 := O20.keptB hg61 n59
  replace bel := bl_kept0 bel hg61 lo55
  replace R39 := OwnR.rdE O20
  clear hg61
  clear B53
  refine st_mv (.bool true) ?_
  simp only [nf0, nf1, nf2, nf3, nf4]
  refine wpList_nil ?_
  show Code.wp _ _ _ _ _
  refine wp_seq ?_
  refine wp_seq ?_
  refine wp_region_lit ?_
  refine st_mv (.bool true) ?_
  simp only [nf0, nf1, nf2, nf3, nf4]
  refine st_value (v := (.bool false)) (by rfl) (run_not (.tmp 53) rfl (b := true) rfl w60) ?_
  simp only [nf0, nf1, nf2, nf3, nf4]
  refine st_mv (.bool false) ?_
  simp only [nf0, nf1, nf2, nf3, nf4]
  refine st_mv (.bool true) ?_
  simp only [nf0, nf1, nf2, nf3, nf4]
  refine st_value (v := (.bool false)) (by rfl) (run_not (.tmp 56) rfl (b := true) rfl w60) ?_
  simp only [nf0, nf1, nf2, nf3, nf4]
  refine st_mv (.bool false) ?_
  simp only [nf0, nf1, nf2, nf3, nf4]
  refine wpList_nil ?_
  show Code.wp _ _ _ _ _
  refine wp_cond_false rfl ?_
  refine wp_skip ?_
  show Code.wp _ _ _ _ _
  refine wp_region_lit ?_
  refine st_value (v := (.pointer (some ⟨g8, 1, none⟩))) (by rfl) (run_fieldA (.tmp 7) rfl k_fld_24_1 rfl rfl w60) ?_
  simp only [nf0, nf1, nf2, nf3, nf4]
  refine st_value (v := (.slice none 0 0)) (by rfl) (run_loadB (.tmp 62) rfl k_one_22 rfl B46 rfl) ?_
  simp only [nf0, nf1, nf2, nf3, nf4]
  refine st_value (v := (.agg #[.int .i64 13, .int .i64 0, .int .i64 0, .int .i32 0])) (by rfl) (run_loadW (.tmp 12) rfl (cs := #[.int .i64 13, .int .i64 0, .int .i64 0, .int .i32 0]) aggIns rfl B62) ?_
  simp only [nf0, nf1, nf2, nf3, nf4]
  refine st_lit (by rfl) (k_run_lit_22_1 (.tmp 64) rfl (m0 := (13, 0, 0, 0)) rfl _) ?_
  intro g63 w64 B65 hb66 lo67
  simp only [nf0, nf1, nf2, nf3, nf4]
  have n68 := B3.ne lo67
  have n69 := B46.ne lo67
  have n70 := O14.off lo67
  have n71 := O20.off lo67
  have n72 := B62.ne lo67
  replace lo67 := low_le bel lo67
  replace B3 := B3.below hb66
  replace B46 := B46.below hb66
  replace O14 := O14.same hb66
  replace O20 := O20.same hb66
  replace R39 := R39.same hb66
  replace B62 := B62.below hb66
  replace bel := bl_step bel hb66
  clear hb66
  refine st_append slIns rfl (.tmp 63) (.tmp 65) rfl rfl O14 ([(13, 0, 0, 0)] : List TIns) rfl rfl B65 (by simp [Enc.all, eIns]) (by simp only [List.length_append, List.length_cons, List.length_nil]; omega) bel.size ?_
  intro v73 w74 O75 hg76 hat77
  simp only [nf0, nf1, nf2, nf3, nf4]
  have n78 := (n16 : Off _ _).app B3 hat77
  replace B3 := B3.keptR hg76 n16
  have n79 := (n17 : Off _ _).app B46 hat77
  replace B46 := B46.keptR hg76 n17
  have n80 := Off2.app n25.symm O20 hat77
  replace O20 := O20.keptR hg76 n25
  have n81 := (n58 : Off _ _).app B62 hat77
  replace B62 := B62.keptR hg76 n58
  replace bel := bl_app bel O14 hg76
  clear O14 hg76 hat77
  replace R39 := OwnR.rdE O20
  replace O75 : OwnR w74 w.heap.size 35 eIns v73 ([(13, 0, 0, 0)] : List TIns) := by rw [List.nil_append] at O75; exact O75
  refine st_value (v := (.pointer (some ⟨g8, 1, none⟩))) (by rfl) (run_fieldA (.tmp 7) rfl k_fld_24_1 rfl rfl w74) ?_
  simp only [nf0, nf1, nf2, nf3, nf4]
  refine st_cell (v := v73) (by rfl) (run_storeB (.tmp 67) (.tmp 66) rfl k_one_22 B46 (show 1 < 2 by decide) rfl rfl (OwnR.cell1 O75).1 (OwnR.cell1 O75).2) B46 ?_
  intro w82 B84 hg83
  simp only [nf0, nf1, nf2, nf3, nf4]
  replace B3 := B3.kept hg83 n13
  replace O20 := O20.keptB hg83 n24
  replace B62 := B62.kept hg83 n57.symm
  replace O75 := O75.keptB hg83 n79
  replace bel := bl_kept0 bel hg83 lo12
  replace R39 := OwnR.rdE O20
  clear hg83
  clear B46
  replace B84 : Blk w82 g8 #[.int .i64 1, v73] 24 := B84
  refine wpList_nil ?_
  show Code.wp _ _ _ _ _
  refine wp_region_lit ?_
  refine st_value (v := (.int .i64 2)) (by rfl) ((run_add_in (.tmp 27) (.const (.int .i64 1)) rfl rfl rfl (by omega) w82).trans (by rw [show ((1 : Int) + 1) = 2 by omega])) ?_
  simp only [nf0, nf1, nf2, nf3, nf4]
  refine st_mv (.int .i64 2) ?_
  simp only [nf0, nf1, nf2, nf3, nf4]
  refine wpList_nil ?_
  show Code.wp _ _ _ _ _
  refine wp_seq ?_
  refine wp_region_lit ?_
  refine st_value (v := (.bool true)) (by rfl) ((run_lss (.tmp 27) (.tmp 26) rfl rfl rfl w82).trans (by rw [decide_eq_true (by omega)])) ?_
  simp only [nf0, nf1, nf2, nf3, nf4]
  refine wpList_nil ?_
  show Code.wp _ _ _ _ _
  refine wp_seq ?_
  refine wp_cond_true rfl ?_
  refine wp_skip ?_
  show Code.wp _ _ _ _ _
  refine wp_seq ?_
  refine wp_block ?_
  refine wp_seq ?_
  refine wp_region_lit ?_
  refine st_mv (.int .i64 2) ?_
  simp only [nf0, nf1, nf2, nf3, nf4]
  refine st_value (v := (.pointer (some ⟨b40, o41 + 2 * 1, none⟩))) (by rfl) (run_indexAddrN (.tmp 25) (.tmp 27) rfl Tryd.underlying39 slTx.sz (i := 2) rfl (by exact (congrArg (Value.int .i64) (show 2 = ((2 : Nat) : Int) by omega))) (by omega) w82) ?_
  simp only [nf0, nf1, nf2, nf3, nf4]
  refine st_value (v := (.string (str (tx ([[112, 114, 111, 103, 32, 49], [9, 111, 117, 116, 32, 114, 48], [9, 101, 120, 105, 116, 32, 114, 48]] : List (List UInt8)) 2)))) (by rfl) (run_load1 (.tmp 30) rfl Tryd.underlying9 rfl slTx.sz rfl (Reads.txAt R39 2 (by omega))) ?_
  simp only [nf0, nf1, nf2, nf3, nf4]
  refine st_mv (.int .i64 2) ?_
  simp only [nf0, nf1, nf2, nf3, nf4]
  refine st_mv (.string (str (tx ([[112, 114, 111, 103, 32, 49], [9, 111, 117, 116, 32, 114, 48], [9, 101, 120, 105, 116, 32, 114, 48]] : List (List UInt8)) 2))) ?_
  simp only [nf0, nf1, nf2, nf3, nf4]
  refine wpList_nil ?_
  show Code.wp _ _ _ _ _
  refine wp_seq ?_
  refine wp_seq ?_
  refine wp_region_lit ?_
  refine st_mv (.int .i64 2) ?_
  simp only [nf0, nf1, nf2, nf3, nf4]
  refine st_value (v := (.bool false)) (by rfl) ((run_eql_int (.tmp 32) (.const (.int .i64 0)) rfl rfl rfl w82).trans (by rw [decide_eq_false (by omega)])) ?_
  simp only [nf0, nf1, nf2, nf3, nf4]
  refine wpList_nil ?_
  show Code.wp _ _ _ _ _
  refine wp_cond_false rfl ?_
  refine wp_skip ?_
  show Code.wp _ _ _ _ _
  refine wp_seq ?_
  refine wp_region_lit ?_
  refine st_mv (.string (str [9, 101, 120, 105, 116, 32, 114, 48])) ?_
  simp only [nf0, nf1, nf2, nf3, nf4]
  refine st_call1 (v := (.tuple #[.string (str [101, 120, 105, 116, 32, 114, 48]), .bool true])) (by rfl) (k_run_call_34_2 (.tmp 44) (.const (.string ⟨#[9]⟩)) rfl rfl rfl _) (cutP_yes [9] ([101, 120, 105, 116, 32, 114, 48] : List UInt8) w82) ?_
  intro w85 hb86
  simp only [nf0, nf1, nf2, nf3, nf4]
  replace B3 := B3.below hb86
  replace B84 := B84.below hb86
  replace O20 := O20.same hb86
  replace R39 := R39.same hb86
  replace B62 := B62.below hb86
  replace O75 := O75.same hb86
  replace bel := bl_step bel hb86
  clear hb86
  refine st_mv (.tuple #[.string (str [101, 120, 105, 116, 32, 114, 48]), .bool true]) ?_
  simp only [nf0, nf1, nf2, nf3, nf4]
  refine st_mv (.string (str [101, 120, 105, 116, 32, 114, 48])) ?_
  simp only [nf0, nf1, nf2, nf3, nf4]
  refine st_mv (.bool true) ?_
  simp only [nf0, nf1, nf2, nf3, nf4]
  refine st_mv (.string (str [101, 120, 105, 116, 32, 114, 48])) ?_
  simp only [nf0, nf1, nf2, nf3, nf4]
  refine st_mv (.bool true) ?_
  simp only [nf0, nf1, nf2, nf3, nf4]
  refine wpList_nil ?_
  show Code.wp _ _ _ _ _
  refine wp_seq ?_
  refine wp_region_lit ?_
  refine st_mv (.string (str [101, 120, 105, 116, 32, 114, 48])) ?_
  simp only [nf0, nf1, nf2, nf3, nf4]
  refine st_call1 (v := (.tuple #[.agg #[.int .i64 14, .int .i64 0, .int .i64 0, .int .i32 0], .bool true])) (by rfl) (k_run_call_35_1 (.tmp 49) rfl rfl _) (parseIns_exit w85) ?_
  intro w87 hb88
  simp only [nf0, nf1, nf2, nf3, nf4]
  replace B3 := B3.below hb88
  replace B84 := B84.below hb88
  replace O20 := O20.same hb88
  replace R39 := R39.same hb88
  replace B62 := B62.below hb88
  replace O75 := O75.same hb88
  replace bel := bl_step bel hb88
  clear hb88
  refine st_mv (.tuple #[.agg #[.int .i64 14, .int .i64 0, .int .i64 0, .int .i32 0], .bool true]) ?_
  simp only [nf0, nf1, nf2, nf3, nf4]
  refine st_mv (.agg #[.int .i64 14, .int .i64 0, .int .i64 0, .int .i32 0]) ?_
  simp only [nf0, nf1, nf2, nf3, nf4]
  refine st_mv (.bool true) ?_
  simp only [nf0, nf1, nf2, nf3, nf4]
  refine st_new (cs := #[.int .i64 0, .int .i64 0, .int .i64 0, .int .i32 0]) (t := 35) (by rfl) (run_allocV rfl k_zero_35 _) ?_
  intro g89 w90 B91 hb92 lo93
  simp only [nf0, nf1, nf2, nf3, nf4]
  have n94 := B3.ne lo93
  have n95 := B84.ne lo93
  have n96 := O20.off lo93
  have n97 := B62.ne lo93
  have n98 := O75.off lo93
  replace lo93 := low_le bel lo93
  replace B3 := B3.below hb92
  replace B84 := B84.below hb92
  replace O20 := O20.same hb92
  replace R39 := R39.same hb92
  replace B62 := B62.below hb92
  replace O75 := O75.same hb92
  replace bel := bl_step bel hb92
  clear hb92
  refine st_row (by rfl) (run_storeW (.tmp 12) (.tmp 51) rfl (cs := #[.int .i64 14, .int .i64 0, .int .i64 0, .int .i32 0]) aggIns rfl rfl B91 rfl (by simp [Value.oneCell'])) B91 ?_
  intro w99 B101 hg100
  simp only [nf0, nf1, nf2, nf3, nf4]
  replace B3 := B3.kept hg100 n94
  replace B84 := B84.kept hg100 n95
  replace O20 := O20.keptB hg100 n96
  replace B62 := B62.kept hg100 n97
  replace O75 := O75.keptB hg100 n98
  replace bel := bl_kept0 bel hg100 lo93
  replace R39 := OwnR.rdE O20
  clear hg100
  clear B91
  refine st_mv (.bool true) ?_
  simp only [nf0, nf1, nf2, nf3, nf4]
  refine wpList_nil ?_
  show Code.wp _ _ _ _ _
  refine wp_seq ?_
  refine wp_seq ?_
  refine wp_region_lit ?_
  refine st_mv (.bool true) ?_
  simp only [nf0, nf1, nf2, nf3, nf4]
  refine st_value (v := (.bool false)) (by rfl) (run_not (.tmp 53) rfl (b := true) rfl w99) ?_
  simp only [nf0, nf1, nf2, nf3, nf4]
  refine st_mv (.bool false) ?_
  simp only [nf0, nf1, nf2, nf3, nf4]
  refine st_mv (.bool true) ?_
  simp only [nf0, nf1, nf2, nf3, nf4]
  refine st_value (v := (.bool false)) (by rfl) (run_not (.tmp 56) rfl (b := true) rfl w99) ?_
  simp only [nf0, nf1, nf2, nf3, nf4]
  refine st_mv (.bool false) ?_
  simp only [nf0, nf1, nf2, nf3, nf4]
  refine wpList_nil ?_
  show Code.wp _ _ _ _ _
  refine wp_cond_false rfl ?_
  refine wp_skip ?_
  show Code.wp _ _ _ _ _
  refine wp_region_lit ?_
  refine st_value (v := (.pointer (some ⟨g8, 1, none⟩))) (by rfl) (run_fieldA (.tmp 7) rfl k_fld_24_1 rfl rfl w99) ?_
  simp only [nf0, nf1, nf2, nf3, nf4]
  refine st_value (v := v73) (by rfl) (run_loadB (.tmp 62) rfl k_one_22 rfl B84 rfl) ?_
  simp only [nf0, nf1, nf2, nf3, nf4]
  refine st_value (v := (.agg #[.int .i64 14, .int .i64 0, .int .i64 0, .int .i32 0])) (by rfl) (run_loadW (.tmp 12) rfl (cs := #[.int .i64 14, .int .i64 0, .int .i64 0, .int .i32 0]) aggIns rfl B101) ?_
  simp only [nf0, nf1, nf2, nf3, nf4]
  refine st_lit (by rfl) (k_run_lit_22_1 (.tmp 64) rfl (m0 := (14, 0, 0, 0)) rfl _) ?_
  intro g102 w103 B104 hb105 lo106
  simp only [nf0, nf1, nf2, nf3, nf4]
  have n107 := B3.ne lo106
  have n108 := B84.ne lo106
  have n109 := O20.off lo106
  have n110 := B62.ne lo106
  have n111 := O75.off lo106
  have n112 := B101.ne lo106
  replace lo106 := low_le bel lo106
  replace B3 := B3.below hb105
  replace B84 := B84.below hb105
  replace O20 := O20.same hb105
  replace R39 := R39.same hb105
  replace B62 := B62.below hb105
  replace O75 := O75.same hb105
  replace B101 := B101.below hb105
  replace bel := bl_step bel hb105
  clear hb105
  refine st_append slIns rfl (.tmp 63) (.tmp 65) rfl rfl O75 ([(14, 0, 0, 0)] : List TIns) rfl rfl B104 (by simp [Enc.all, eIns]) (by simp only [List.length_append, List.length_cons, List.length_nil]; omega) bel.size ?_
  intro v113 w114 O115 hg116 hat117
  simp only [nf0, nf1, nf2, nf3, nf4]
  have n118 := (n78 : Off _ _).app B3 hat117
  replace B3 := B3.keptR hg116 n78
  have n119 := (n79 : Off _ _).app B84 hat117
  replace B84 := B84.keptR hg116 n79
  have n120 := Off2.app n80 O20 hat117
  replace O20 := O20.keptR hg116 n80.symm
  have n121 := (n81 : Off _ _).app B62 hat117
  replace B62 := B62.keptR hg116 n81
  have n122 := (n98 : Off _ _).app B101 hat117
  replace B101 := B101.keptR hg116 n98
  replace bel := bl_app bel O75 hg116
  clear O75 hg116 hat117
  replace R39 := OwnR.rdE O20
  refine st_value (v := (.pointer (some ⟨g8, 1, none⟩))) (by rfl) (run_fieldA (.tmp 7) rfl k_fld_24_1 rfl rfl w114) ?_
  simp only [nf0, nf1, nf2, nf3, nf4]
  refine st_cell (v := v113) (by rfl) (run_storeB (.tmp 67) (.tmp 66) rfl k_one_22 B84 (show 1 < 2 by decide) rfl rfl (OwnR.cell1 O115).1 (OwnR.cell1 O115).2) B84 ?_
  intro w123 B125 hg124
  simp only [nf0, nf1, nf2, nf3, nf4]
  replace B3 := B3.kept hg124 n13
  replace O20 := O20.keptB hg124 n24
  replace B62 := B62.kept hg124 n57.symm
  replace B101 := B101.kept hg124 n95.symm
  replace O115 := O115.keptB hg124 n119
  replace bel := bl_kept0 bel hg124 lo12
  replace R39 := OwnR.rdE O20
  clear hg124
  clear B84
  replace B125 : Blk w123 g8 #[.int .i64 1, v113] 24 := B125
  refine wpList_nil ?_
  show Code.wp _ _ _ _ _
  refine wp_region_lit ?_
  refine st_value (v := (.int .i64 3)) (by rfl) ((run_add_in (.tmp 27) (.const (.int .i64 1)) rfl rfl rfl (by omega) w123).trans (by rw [show ((2 : Int) + 1) = 3 by omega])) ?_
  simp only [nf0, nf1, nf2, nf3, nf4]
  refine st_mv (.int .i64 3) ?_
  simp only [nf0, nf1, nf2, nf3, nf4]
  refine wpList_nil ?_
  show Code.wp _ _ _ _ _
  refine wp_seq ?_
  refine wp_region_lit ?_
  refine st_value (v := (.bool false)) (by rfl) ((run_lss (.tmp 27) (.tmp 26) rfl rfl rfl w123).trans (by rw [decide_eq_false (by omega)])) ?_
  simp only [nf0, nf1, nf2, nf3, nf4]
  refine wpList_nil ?_
  show Code.wp _ _ _ _ _
  refine wp_seq ?_
  refine wp_cond_false rfl ?_
  refine wp_exit ?_
  show Code.wp _ _ _ _ _
  refine wp_seq ?_
  refine wp_seq ?_
  obtain ⟨A126, c127, hv128, h129, h130, h131, R132⟩ := O115.reads
  subst hv128
  refine wp_region_lit ?_
  refine st_value (v := (.agg #[.int .i64 1, .slice A126 (([(13, 0, 0, 0)] : List TIns) ++ ([(14, 0, 0, 0)] : List TIns)).length c127])) (by rfl) (run_loadW (.tmp 7) rfl (cs := #[.int .i64 1, .slice A126 (([(13, 0, 0, 0)] : List TIns) ++ ([(14, 0, 0, 0)] : List TIns)).length c127]) aggPrg rfl B125) ?_
  simp only [nf0, nf1, nf2, nf3, nf4]
  refine st_call1 (v := (.tuple #[.int .i64 0, .int .i64 0])) (by rfl) (k_run_call_6_1 (.tmp 70) rfl rfl _) (show Calls _ _ _ _ fun e w' => e = .returned (.tuple #[.int .i64 0, .int .i64 0]) ∧ Below w123.heap.size w123 w' from by have h_ := check_calls A126 1 (([(13, 0, 0, 0)] : List TIns) ++ ([(14, 0, 0, 0)] : List TIns)) c127 h129 (by decide) okex w123 R132; rw [show chk 1 (([(13, 0, 0, 0)] : List TIns) ++ ([(14, 0, 0, 0)] : List TIns)) = (0, 0) from by decide] at h_; exact h_) ?_
  intro w133 hb134
  simp only [nf0, nf1, nf2, nf3, nf4]
  replace B3 := B3.below hb134
  replace B125 := B125.below hb134
  replace O20 := O20.same hb134
  replace R39 := R39.same hb134
  replace B62 := B62.below hb134
  replace B101 := B101.below hb134
  replace O115 := O115.same hb134
  replace R132 := R132.same hb134
  replace bel := bl_step bel hb134
  clear hb134
  refine st_mv (.tuple #[.int .i64 0, .int .i64 0]) ?_
  simp only [nf0, nf1, nf2, nf3, nf4]
  refine st_mv (.int .i64 0) ?_
  simp only [nf0, nf1, nf2, nf3, nf4]
  refine st_mv (.int .i64 0) ?_
  simp only [nf0, nf1, nf2, nf3, nf4]
  refine st_mv (.int .i64 0) ?_
  simp only [nf0, nf1, nf2, nf3, nf4]
  refine st_mv (.int .i64 0) ?_
  simp only [nf0, nf1, nf2, nf3, nf4]
  refine wpList_nil ?_
  show Code.wp _ _ _ _ _
  refine wp_seq ?_
  refine wp_region_lit ?_
  refine st_mv (.int .i64 0) ?_
  simp only [nf0, nf1, nf2, nf3, nf4]
  refine st_value (v := (.bool false)) (by rfl) (run_neq_int_t (.tmp 74) (.const (.int .i64 0)) rfl rfl rfl rfl w133) ?_
  simp only [nf0, nf1, nf2, nf3, nf4]
  refine wpList_nil ?_
  show Code.wp _ _ _ _ _
  refine wp_cond_false rfl ?_
  refine wp_skip ?_
  show Code.wp _ _ _ _ _
  refine wp_seq ?_
  refine wp_region_lit ?_
  refine st_value (v := (.agg #[.int .i64 1, .slice A126 (([(13, 0, 0, 0)] : List TIns) ++ ([(14, 0, 0, 0)] : List TIns)).length c127])) (by rfl) (run_loadW (.tmp 7) rfl (cs := #[.int .i64 1, .slice A126 (([(13, 0, 0, 0)] : List TIns) ++ ([(14, 0, 0, 0)] : List TIns)).length c127]) aggPrg rfl B125) ?_
  simp only [nf0, nf1, nf2, nf3, nf4]
  refine st_row (by rfl) (run_storeW (.tmp 2) (.tmp 80) rfl (cs := #[.int .i64 1, .slice A126 (([(13, 0, 0, 0)] : List TIns) ++ ([(14, 0, 0, 0)] : List TIns)).length c127]) aggPrg rfl rfl B3 rfl (by simp [Value.oneCell'])) B3 ?_
  intro w135 B137 hg136
  simp only [nf0, nf1, nf2, nf3, nf4]
  replace B125 := B125.kept hg136 n13.symm
  replace O20 := O20.keptB hg136 n23
  replace B62 := B62.kept hg136 n56.symm
  replace B101 := B101.kept hg136 n94.symm
  replace O115 := O115.keptB hg136 n118
  replace bel := bl_kept0 bel hg136 lo5
  replace R39 := OwnR.rdE O20
  replace R132 := OwnR.rdE O115
  clear hg136
  clear B3
  refine st_mv (.int .i64 0) ?_
  simp only [nf0, nf1, nf2, nf3, nf4]
  refine st_mv (.int .i64 0) ?_
  simp only [nf0, nf1, nf2, nf3, nf4]
  refine wpList_nil ?_
  show Code.wp _ _ _ _ _
  refine wp_ret ?_
  first | show bodyPost _ _ _ _ _ _ | (simp only [Exit.then, Exit.inBlock]; show bodyPost _ _ _ _ _ _)
  exact bodyPost_ret (results_agg1tt rfl (cs := #[.int .i64 1, .slice A126 (([(13, 0, 0, 0)] : List TIns) ++ ([(14, 0, 0, 0)] : List TIns)).length c127]) aggPrg (by rfl) B137) rfl ⟨_, rfl, O115, bel⟩
end Go.Proofs.YtjbmahjfmffnoaaDoor

/- The document's example. -/
namespace Go.Proofs.YtjbmahjfmffnoaaDoor
open Go.RowKit Go.WideShapes Go.ChangeShapes
set_option linter.unusedSimpArgs false
set_option linter.unusedVariables false

theorem l_zero_24 : ZeroOf Tryd.prog 24 #[.int .i64 0, .slice none 0 0] := zeroOf (z := .agg #[.int .i64 0, .slice none 0 0]) (by kernel_rfl) rfl
theorem l_run_call_11_1 {o : Oper} {a : Act} (x0 : Operand) {ts : Array TypeId} (ho : o.op = .call { callee := .value (.func 11), args := #[x0], argTypes := ts }) {v0 : Value} (h0 : a.eval x0 = v0) (W : World) : (execOp a.eval o).run Tryd.prog W = .ok (.enter 11 #[v0]) W := by
  unfold execOp
  simp only [ho]
  subst h0
  go_simp
theorem l_run_call_14_2 {o : Oper} {a : Act} (x0 : Operand) (x1 : Operand) {ts : Array TypeId} (ho : o.op = .call { callee := .value (.func 14), args := #[x0, x1], argTypes := ts }) {v0 : Value} (h0 : a.eval x0 = v0) {v1 : Value} (h1 : a.eval x1 = v1) (W : World) : (execOp a.eval o).run Tryd.prog W = .ok (.enter 14 #[v0, v1]) W := by
  unfold execOp
  simp only [ho]
  subst h0 h1
  go_simp
theorem l_run_call_19_1 {o : Oper} {a : Act} (x0 : Operand) {ts : Array TypeId} (ho : o.op = .call { callee := .value (.func 19), args := #[x0], argTypes := ts }) {v0 : Value} (h0 : a.eval x0 = v0) (W : World) : (execOp a.eval o).run Tryd.prog W = .ok (.enter 19 #[v0]) W := by
  unfold execOp
  simp only [ho]
  subst h0
  go_simp
theorem l_run_lit_22_2 {o : Oper} {a : Act} (x0 : Operand) (x1 : Operand) (ho : o.op = .buildSlice 22 2 #[(0, x0), (1, x1)]) {m0 : TIns} (h0 : a.eval x0 = .agg #[.int .i64 m0.1, .int .i64 m0.2.1, .int .i64 m0.2.2.1, .int .i32 m0.2.2.2]) {m1 : TIns} (h1 : a.eval x1 = .agg #[.int .i64 m1.1, .int .i64 m1.2.1, .int .i64 m1.2.2.1, .int .i32 m1.2.2.2]) (W : World) : (execOp a.eval o).run Tryd.prog W = .ok (.value (.slice (some ⟨W.heap.size, 0, none⟩) 2 2)) (W.alloc (.cells #[.int .i64 m0.1, .int .i64 m0.2.1, .int .i64 m0.2.2.1, .int .i32 m0.2.2.2, .int .i64 m1.1, .int .i64 m1.2.1, .int .i64 m1.2.2.1, .int .i32 m1.2.2.2] 35)) := by
  unfold execOp
  simp only [ho, List.map_toArray, List.map_cons, List.map_nil, h0, h1]
  go_simp
theorem ex_prP : prP 1 ([((13 : Int), (0 : Int), (0 : Int), (0 : Int)), (14, 0, 0, 0)] : List TIns) = [112, 114, 111, 103, 32, 49, 10, 9, 111, 117, 116, 32, 114, 48, 10, 9, 101, 120, 105, 116, 32, 114, 48, 10] := by
  simp [prP, hdP, prI, tdecI, tdec_small, tdg, nmP, nmPL, shA, shB, shN]
theorem parse_ex' (w : World) : Calls Tryd.prog 19 #[.string (str [112, 114, 111, 103, 32, 49, 10, 9, 111, 117, 116, 32, 114, 48, 10, 9, 101, 120, 105, 116, 32, 114, 48, 10])] w fun e w' => ∃ t, e = .returned t ∧ ∃ v, t = .tuple #[.agg #[.int .i64 1, v], .int .i64 0, .int .i64 0] ∧ OwnR w' w.heap.size 35 eIns v ([((13 : Int), (0 : Int), (0 : Int), (0 : Int)), (14, 0, 0, 0)] : List TIns) ∧ Below w.heap.size w w' :=
  (parse_ex w).mono fun _ _ ⟨v, h1, h2⟩ => ⟨_, h1, v, rfl, h2⟩

attribute [local irreducible] Go.wpList Go.Code.wp
set_option maxRecDepth 100000 in
set_option maxHeartbeats 4000000 in
theorem pgLives_calls (w : World) : Calls Tryd.prog 10 #[] w fun e w' => e = .returned (.bool true) ∧ Below w.heap.size w w' := by
  have bel : Below w.heap.size w w := Below.refl _ _
  go_enter Tryd.func10, Tryd.ntmps10
  refine wp_seq ?_
  refine wp_region_lit ?_
  refine st_mv (.bool false) ?_
  simp only [nf0, nf1, nf2, nf3, nf4]
  refine wpList_nil ?_
  show Code.wp _ _ _ _ _
  refine wp_seq ?_
  refine wp_region_lit ?_
  refine st_value (v := (.agg #[.int .i64 13, .int .i64 0, .int .i64 0, .int .i32 0])) (by rfl) (run_buildV rfl (by kernel_rfl) w) ?_
  simp only [nf0, nf1, nf2, nf3, nf4]
  refine st_value (v := (.agg #[.int .i64 14, .int .i64 0, .int .i64 0, .int .i32 0])) (by rfl) (run_buildV rfl (by kernel_rfl) w) ?_
  simp only [nf0, nf1, nf2, nf3, nf4]
  refine st_lit (by rfl) (l_run_lit_22_2 (.tmp 6) (.tmp 7) rfl (m0 := (13, 0, 0, 0)) (m1 := (14, 0, 0, 0)) rfl rfl _) ?_
  intro g1 w2 B3 hb4 lo5
  simp only [nf0, nf1, nf2, nf3, nf4]
  replace lo5 := low_le bel lo5
  replace bel := bl_step bel hb4
  clear hb4
  refine st_value (v := (.agg #[.int .i64 1, .slice (some ⟨g1, 0, none⟩) 2 2])) (by rfl) (run_buildV rfl (by kernel_rfl) w2) ?_
  simp only [nf0, nf1, nf2, nf3, nf4]
  refine st_new (cs := #[.int .i64 0, .slice none 0 0]) (t := 24) (by rfl) (run_allocV rfl l_zero_24 _) ?_
  intro g6 w7 B8 hb9 lo10
  simp only [nf0, nf1, nf2, nf3, nf4]
  have n11 := B3.ne lo10
  replace lo10 := low_le bel lo10
  replace B3 := B3.below hb9
  replace bel := bl_step bel hb9
  clear hb9
  refine st_row (by rfl) (run_storeW (.tmp 1) (.tmp 9) rfl (cs := #[.int .i64 1, .slice (some ⟨g1, 0, none⟩) 2 2]) aggPrg rfl rfl B8 rfl (by simp [Value.oneCell'])) B8 ?_
  intro w12 B14 hg13
  simp only [nf0, nf1, nf2, nf3, nf4]
  replace B3 := B3.kept hg13 n11
  replace bel := bl_kept0 bel hg13 lo10
  clear hg13
  clear B8
  refine wpList_nil ?_
  show Code.wp _ _ _ _ _
  refine wp_seq ?_
  have n16 : Off (.slice (some ⟨g1, 0, none⟩) 2 2) g6 := fun e => n11 (Option.some.inj e)
  have O15 : OwnR w12 w.heap.size 35 eIns (.slice (some ⟨g1, 0, none⟩) 2 2) ([(13, 0, 0, 0), (14, 0, 0, 0)] : List TIns) := OwnR.built (xs := ([(13, 0, 0, 0), (14, 0, 0, 0)] : List TIns)) B3 (by rfl) lo5 (by simp) rfl
  clear B3
  obtain ⟨A17, c18, hv19, h20, h21, h22, R23⟩ := O15.reads
  injection hv19 with e1_ e2_ e3_
  clear e2_
  subst e1_
  subst e3_
  refine wp_region_lit ?_
  refine st_value (v := (.agg #[.int .i64 1, .slice (some ⟨g1, 0, none⟩) ([(13, 0, 0, 0), (14, 0, 0, 0)] : List TIns).length 2])) (by rfl) (run_loadW (.tmp 1) rfl (cs := #[.int .i64 1, .slice (some ⟨g1, 0, none⟩) ([(13, 0, 0, 0), (14, 0, 0, 0)] : List TIns).length 2]) aggPrg rfl B14) ?_
  simp only [nf0, nf1, nf2, nf3, nf4]
  refine st_call1 (v := (.string (str [112, 114, 111, 103, 32, 49, 10, 9, 111, 117, 116, 32, 114, 48, 10, 9, 101, 120, 105, 116, 32, 114, 48, 10]))) (by rfl) (l_run_call_11_1 (.tmp 10) rfl rfl _) (show Calls _ _ _ _ fun e w' => e = .returned (.string (str [112, 114, 111, 103, 32, 49, 10, 9, 111, 117, 116, 32, 114, 48, 10, 9, 101, 120, 105, 116, 32, 114, 48, 10])) ∧ Below w12.heap.size w12 w' from by have h_ := print_calls (some ⟨g1, 0, none⟩) 1 ([(13, 0, 0, 0), (14, 0, 0, 0)] : List TIns) 2 h20 (by decide) (by decide) okex w12 R23; rw [ex_prP] at h_; exact h_) ?_
  intro w24 hb25
  simp only [nf0, nf1, nf2, nf3, nf4]
  replace O15 := O15.same hb25
  replace B14 := B14.below hb25
  replace R23 := R23.same hb25
  replace bel := bl_step bel hb25
  clear hb25
  refine st_mv (.string (str [112, 114, 111, 103, 32, 49, 10, 9, 111, 117, 116, 32, 114, 48, 10, 9, 101, 120, 105, 116, 32, 114, 48, 10])) ?_
  simp only [nf0, nf1, nf2, nf3, nf4]
  refine wpList_nil ?_
  show Code.wp _ _ _ _ _
  refine wp_seq ?_
  refine wp_region_lit ?_
  refine st_mv (.string (str [112, 114, 111, 103, 32, 49, 10, 9, 111, 117, 116, 32, 114, 48, 10, 9, 101, 120, 105, 116, 32, 114, 48, 10])) ?_
  simp only [nf0, nf1, nf2, nf3, nf4]
  refine st_call (by rfl) (l_run_call_19_1 (.tmp 13) rfl rfl _) (parse_ex' w24) ?_
  rintro _ w28 ⟨v26, rfl, O27, hf29⟩
  simp only [nf0, nf1, nf2, nf3, nf4]
  have n30 := O27.offLow2 O15
  have n31 := O27.offLow B14
  replace O27 := O27.lower bel.size
  replace O15 := O15.same hf29
  replace B14 := B14.below hf29
  replace R23 := R23.same hf29
  replace bel := bl_step bel hf29
  clear hf29
  obtain ⟨A32, c33, hv34, h35, h36, h37, R38⟩ := O27.reads
  subst hv34
  refine st_mv (.tuple #[.agg #[.int .i64 1, .slice A32 ([((13 : Int), (0 : Int), (0 : Int), (0 : Int)), (14, 0, 0, 0)] : List TIns).length c33], .int .i64 0, .int .i64 0]) ?_
  simp only [nf0, nf1, nf2, nf3, nf4]
  refine st_mv (.agg #[.int .i64 1, .slice A32 ([((13 : Int), (0 : Int), (0 : Int), (0 : Int)), (14, 0, 0, 0)] : List TIns).length c33]) ?_
  simp only [nf0, nf1, nf2, nf3, nf4]
  refine st_mv (.int .i64 0) ?_
  simp only [nf0, nf1, nf2, nf3, nf4]
  refine st_mv (.int .i64 0) ?_
  simp only [nf0, nf1, nf2, nf3, nf4]
  refine st_new (cs := #[.int .i64 0, .slice none 0 0]) (t := 24) (by rfl) (run_allocV rfl l_zero_24 _) ?_
  intro g39 w40 B41 hb42 lo43
  simp only [nf0, nf1, nf2, nf3, nf4]
  have n44 := O15.off lo43
  have n45 := B14.ne lo43
  have n46 := O27.off lo43
  replace lo43 := low_le bel lo43
  replace O15 := O15.same hb42
  replace B14 := B14.below hb42
  replace R23 := R23.same hb42
  replace O27 := O27.same hb42
  replace R38 := R38.same hb42
  replace bel := bl_step bel hb42
  clear hb42
  refine st_row (by rfl) (run_storeW (.tmp 3) (.tmp 15) rfl (cs := #[.int .i64 1, .slice A32 ([((13 : Int), (0 : Int), (0 : Int), (0 : Int)), (14, 0, 0, 0)] : List TIns).length c33]) aggPrg rfl rfl B41 rfl (by simp [Value.oneCell'])) B41 ?_
  intro w47 B49 hg48
  simp only [nf0, nf1, nf2, nf3, nf4]
  replace O15 := O15.keptB hg48 n44
  replace B14 := B14.kept hg48 n45
  replace O27 := O27.keptB hg48 n46
  replace bel := bl_kept0 bel hg48 lo43
  replace R23 := OwnR.rdE O15
  replace R38 := OwnR.rdE O27
  clear hg48
  clear B41
  refine st_mv (.int .i64 0) ?_
  simp only [nf0, nf1, nf2, nf3, nf4]
  refine st_mv (.int .i64 0) ?_
  simp only [nf0, nf1, nf2, nf3, nf4]
  refine wpList_nil ?_
  show Code.wp _ _ _ _ _
  refine wp_seq ?_
  refine wp_region_lit ?_
  refine st_mv (.string (str [112, 114, 111, 103, 32, 49, 10, 9, 111, 117, 116, 32, 114, 48, 10, 9, 101, 120, 105, 116, 32, 114, 48, 10])) ?_
  simp only [nf0, nf1, nf2, nf3, nf4]
  refine st_value (v := (.bool true)) (by rfl) (run_eql_text_t (.tmp 18) (.const (.string ⟨#[112, 114, 111, 103, 32, 49, 10, 9, 111, 117, 116, 32, 114, 48, 10, 9, 101, 120, 105, 116, 32, 114, 48, 10]⟩)) rfl (l := [112, 114, 111, 103, 32, 49, 10, 9, 111, 117, 116, 32, 114, 48, 10, 9, 101, 120, 105, 116, 32, 114, 48, 10]) (m := [112, 114, 111, 103, 32, 49, 10, 9, 111, 117, 116, 32, 114, 48, 10, 9, 101, 120, 105, 116, 32, 114, 48, 10]) rfl rfl rfl w47) ?_
  simp only [nf0, nf1, nf2, nf3, nf4]
  refine st_mv (.bool true) ?_
  simp only [nf0, nf1, nf2, nf3, nf4]
  refine st_mv (.int .i64 0) ?_
  simp only [nf0, nf1, nf2, nf3, nf4]
  refine st_value (v := (.bool true)) (by rfl) (run_eql_int_t (.tmp 21) (.const (.int .i64 0)) rfl rfl rfl rfl w47) ?_
  simp only [nf0, nf1, nf2, nf3, nf4]
  refine st_mv (.bool true) ?_
  simp only [nf0, nf1, nf2, nf3, nf4]
  refine st_mv (.bool true) ?_
  simp only [nf0, nf1, nf2, nf3, nf4]
  refine st_value (v := (.agg #[.int .i64 1, .slice (some ⟨g1, 0, none⟩) ([(13, 0, 0, 0), (14, 0, 0, 0)] : List TIns).length 2])) (by rfl) (run_loadW (.tmp 1) rfl (cs := #[.int .i64 1, .slice (some ⟨g1, 0, none⟩) ([(13, 0, 0, 0), (14, 0, 0, 0)] : List TIns).length 2]) aggPrg rfl B14) ?_
  simp only [nf0, nf1, nf2, nf3, nf4]
  refine st_value (v := (.agg #[.int .i64 1, .slice A32 ([((13 : Int), (0 : Int), (0 : Int), (0 : Int)), (14, 0, 0, 0)] : List TIns).length c33])) (by rfl) (run_loadW (.tmp 3) rfl (cs := #[.int .i64 1, .slice A32 ([((13 : Int), (0 : Int), (0 : Int), (0 : Int)), (14, 0, 0, 0)] : List TIns).length c33]) aggPrg rfl B49) ?_
  simp only [nf0, nf1, nf2, nf3, nf4]
  refine st_call1 (v := (.bool true)) (by rfl) (l_run_call_14_2 (.tmp 25) (.tmp 26) rfl rfl rfl _) (show Calls _ _ _ _ fun e w' => e = .returned (.bool true) ∧ Below w47.heap.size w47 w' from by have h_ := refSame_calls (some ⟨g1, 0, none⟩) A32 1 1 ([(13, 0, 0, 0), (14, 0, 0, 0)] : List TIns) ([((13 : Int), (0 : Int), (0 : Int), (0 : Int)), (14, 0, 0, 0)] : List TIns) 2 c33 h20 h35 (by decide) (by decide) w47 R23 R38; rw [decide_eq_true ⟨rfl, rfl⟩] at h_; exact h_) ?_
  intro w50 hb51
  simp only [nf0, nf1, nf2, nf3, nf4]
  replace O15 := O15.same hb51
  replace B14 := B14.below hb51
  replace R23 := R23.same hb51
  replace O27 := O27.same hb51
  replace R38 := R38.same hb51
  replace B49 := B49.below hb51
  replace bel := bl_step bel hb51
  clear hb51
  refine st_mv (.bool true) ?_
  simp only [nf0, nf1, nf2, nf3, nf4]
  refine st_mv (.bool true) ?_
  simp only [nf0, nf1, nf2, nf3, nf4]
  refine wpList_nil ?_
  show Code.wp _ _ _ _ _
  refine wp_ret ?_
  first | show bodyPost _ _ _ _ _ _ | (simp only [Exit.then, Exit.inBlock]; show bodyPost _ _ _ _ _ _)
  exact bodyPost_ret (results_tmp rfl _ _ _) rfl ⟨rfl, bel⟩
end Go.Proofs.YtjbmahjfmffnoaaDoor

/- What the law ProgPrints does. -/
namespace Go.Proofs.YtjbmahjfmffnoaaDoor
open Go.RowKit Go.WideShapes Go.ChangeShapes
set_option linter.unusedSimpArgs false
set_option linter.unusedVariables false

theorem m_run_call_5_1 {o : Oper} {a : Act} (x0 : Operand) {ts : Array TypeId} (ho : o.op = .call { callee := .value (.func 5), args := #[x0], argTypes := ts }) {v0 : Value} (h0 : a.eval x0 = v0) (W : World) : (execOp a.eval o).run Tryd.prog W = .ok (.enter 5 #[v0]) W := by
  unfold execOp
  simp only [ho]
  subst h0
  go_simp
theorem m_run_call_10_0 {o : Oper} {a : Act}  {ts : Array TypeId} (ho : o.op = .call { callee := .value (.func 10), args := #[], argTypes := ts })  (W : World) : (execOp a.eval o).run Tryd.prog W = .ok (.enter 10 #[]) W := by
  unfold execOp
  simp only [ho]
  go_simp
theorem m_run_call_11_1 {o : Oper} {a : Act} (x0 : Operand) {ts : Array TypeId} (ho : o.op = .call { callee := .value (.func 11), args := #[x0], argTypes := ts }) {v0 : Value} (h0 : a.eval x0 = v0) (W : World) : (execOp a.eval o).run Tryd.prog W = .ok (.enter 11 #[v0]) W := by
  unfold execOp
  simp only [ho]
  subst h0
  go_simp
theorem m_run_call_12_1 {o : Oper} {a : Act} (x0 : Operand) {ts : Array TypeId} (ho : o.op = .call { callee := .value (.func 12), args := #[x0], argTypes := ts }) {v0 : Value} (h0 : a.eval x0 = v0) (W : World) : (execOp a.eval o).run Tryd.prog W = .ok (.enter 12 #[v0]) W := by
  unfold execOp
  simp only [ho]
  subst h0
  go_simp
theorem m_run_call_13_2 {o : Oper} {a : Act} (x0 : Operand) (x1 : Operand) {ts : Array TypeId} (ho : o.op = .call { callee := .value (.func 13), args := #[x0, x1], argTypes := ts }) {v0 : Value} (h0 : a.eval x0 = v0) {v1 : Value} (h1 : a.eval x1 = v1) (W : World) : (execOp a.eval o).run Tryd.prog W = .ok (.enter 13 #[v0, v1]) W := by
  unfold execOp
  simp only [ho]
  subst h0 h1
  go_simp
theorem m_run_call_14_2 {o : Oper} {a : Act} (x0 : Operand) (x1 : Operand) {ts : Array TypeId} (ho : o.op = .call { callee := .value (.func 14), args := #[x0, x1], argTypes := ts }) {v0 : Value} (h0 : a.eval x0 = v0) {v1 : Value} (h1 : a.eval x1 = v1) (W : World) : (execOp a.eval o).run Tryd.prog W = .ok (.enter 14 #[v0, v1]) W := by
  unfold execOp
  simp only [ho]
  subst h0 h1
  go_simp

attribute [local irreducible] Go.wpList Go.Code.wp
set_option maxRecDepth 100000 in
set_option maxHeartbeats 4000000 in
theorem printsLaw_calls {A : Option Addr} {pr : Int} {xs : List TIns} {cap : Nat} (hpr : -9223372036854775808 ≤ pr ∧ pr ≤ 9223372036854775807) (hok : ∀ x ∈ xs, okIns x) (hcap : xs.length ≤ cap) (hl : xs.length ≤ 9223372036854775807) {B : Option Addr} {qr : Int} {ys : List TIns} {cap' : Nat} (hqr : -9223372036854775808 ≤ qr ∧ qr ≤ 9223372036854775807) (hok' : ∀ x ∈ ys, okIns x) (hcap' : ys.length ≤ cap') (hl' : ys.length ≤ 9223372036854775807) (w : World) (hr : Reads w A (eIns.all xs)) (hr' : Reads w B (eIns.all ys)) : Calls Tryd.prog 4 #[.agg #[.int .i64 pr, .slice A xs.length cap], .agg #[.int .i64 qr, .slice B ys.length cap']] w fun e w' => e = .returned (.bool true) ∧ Below w.heap.size w w' := by
  have bel : Below w.heap.size w w := Below.refl _ _
  have hrz := hr.takeE 80
  have hlz : (xs.take 80).length ≤ 80 := by rw [List.length_take]; omega
  have hcz : (xs.take 80).length ≤ cap := Nat.le_trans (by rw [List.length_take]; omega) hcap
  have hoz : ∀ x ∈ xs.take 80, okIns x := fun x hx => hok x (List.mem_of_mem_take hx)
  have hry := hr'.takeE 80
  have hly : (ys.take 80).length ≤ 80 := by rw [List.length_take]; omega
  have hcy : (ys.take 80).length ≤ cap' := Nat.le_trans (by rw [List.length_take]; omega) hcap'
  have hoy : ∀ x ∈ ys.take 80, okIns x := fun x hx => hok' x (List.mem_of_mem_take hx)
  go_enter Tryd.func4, Tryd.ntmps4
  refine wp_seq ?_
  refine wp_region_lit ?_
  refine st_new (cs := #[.int .i64 pr, .slice A xs.length cap]) (t := 24) (by rfl) (run_boxV (.tmp 0) rfl (v := (.agg #[.int .i64 pr, .slice A xs.length cap])) rfl rfl _) ?_
  intro g1 w2 B3 hb4 lo5
  simp only [nf0, nf1, nf2, nf3, nf4]
  replace lo5 := low_le bel lo5
  replace bel := bl_step bel hb4
  clear hb4
  refine st_new (cs := #[.int .i64 qr, .slice B ys.length cap']) (t := 24) (by rfl) (run_boxV (.tmp 1) rfl (v := (.agg #[.int .i64 qr, .slice B ys.length cap'])) rfl rfl _) ?_
  intro g6 w7 B8 hb9 lo10
  simp only [nf0, nf1, nf2, nf3, nf4]
  have n11 := B3.ne lo10
  replace lo10 := low_le bel lo10
  replace B3 := B3.below hb9
  replace bel := bl_step bel hb9
  clear hb9
  refine st_mv (.bool false) ?_
  simp only [nf0, nf1, nf2, nf3, nf4]
  refine wpList_nil ?_
  show Code.wp _ _ _ _ _
  refine wp_seq ?_
  refine wp_region_facts2_lit (C := Abv w7) 3 [.val (.agg #[.int .i64 pr, .slice A xs.length cap]), .val (.agg #[.int .i64 pr, .slice A (xs.take 80).length cap]), .val (.agg #[.int .i64 qr, .slice B ys.length cap'])] w7.heap.size (by kernel_rfl) (by simp) (by kernel_rfl) (by kernel_rfl) (fun _ h => h.size) (Abv.start _) ?_
  simp only [List.take_succ_cons, List.take_zero, List.drop_succ_cons, List.drop_zero]
  refine fst2_val (fun W hC hh => ok2_value (v := (.agg #[.int .i64 pr, .slice A xs.length cap])) (by rfl) (run_loadW (.tmp 2) rfl (cs := #[.int .i64 pr, .slice A xs.length cap]) aggPrg rfl (B3.below hC)) rfl hC (G0.refl _)) ?_
  simp only [nf0, nf1, nf2, nf3, nf4]
  refine fst2_val (fun W hC hh => ok2_call (by rfl) (m_run_call_5_1 (.tmp 5) rfl rfl W) ((cutP_calls A pr xs cap hcap hl W (hr.same (bl_step bel hC))).mono fun e W' ⟨h1, h2⟩ => ⟨h1, hC.step h2, h2⟩)) ?_
  simp only [nf0, nf1, nf2, nf3, nf4]
  refine fst2_val (fun W hC hh => ok2_value (v := (.agg #[.int .i64 qr, .slice B ys.length cap'])) (by rfl) (run_loadW (.tmp 3) rfl (cs := #[.int .i64 qr, .slice B ys.length cap']) aggPrg rfl (B8.below hC)) rfl hC (G0.refl _)) ?_
  simp only [nf0, nf1, nf2, nf3, nf4]
  refine fst2_nil fun w12 hC hh hnd => ?_
  replace hC : Below w7.heap.size w7 w12 := hC
  clear hh hnd
  replace B3 := B3.below hC
  replace B8 := B8.below hC
  replace bel := bl_step bel hC
  clear hC
  refine st_call1 (v := (.agg #[.int .i64 qr, .slice B (ys.take 80).length cap'])) (by rfl) (m_run_call_5_1 (.tmp 7) rfl rfl _) (cutP_calls B qr ys cap' hcap' hl' w12 (hr'.same bel)) ?_
  intro w13 hb14
  simp only [nf0, nf1, nf2, nf3, nf4]
  replace B3 := B3.below hb14
  replace B8 := B8.below hb14
  replace bel := bl_step bel hb14
  clear hb14
  refine st_row (by rfl) (run_storeW (.tmp 2) (.tmp 6) rfl (cs := #[.int .i64 pr, .slice A (xs.take 80).length cap]) aggPrg rfl rfl B3 rfl (by simp [Value.oneCell'])) B3 ?_
  intro w15 B17 hg16
  simp only [nf0, nf1, nf2, nf3, nf4]
  replace B8 := B8.kept hg16 n11.symm
  replace bel := bl_kept0 bel hg16 lo5
  clear hg16
  clear B3
  refine st_row (by rfl) (run_storeW (.tmp 3) (.tmp 8) rfl (cs := #[.int .i64 qr, .slice B (ys.take 80).length cap']) aggPrg rfl rfl B8 rfl (by simp [Value.oneCell'])) B8 ?_
  intro w18 B20 hg19
  simp only [nf0, nf1, nf2, nf3, nf4]
  replace B17 := B17.kept hg19 n11
  replace bel := bl_kept0 bel hg19 lo10
  clear hg19
  clear B8
  refine wpList_nil ?_
  show Code.wp _ _ _ _ _
  refine wp_seq ?_
  refine wp_region_facts2_lit (C := Abv w18) 22 [.val (.agg #[.int .i64 pr, .slice A (xs.take 80).length cap]), .val (.string (str (prP pr (xs.take 80)))), .val (.agg #[.int .i64 pr, .slice A (xs.take 80).length cap]), .val (.string (str (prP pr (xs.take 80)))), .val (.bool true), .val (.bool true), .val (.agg #[.int .i64 pr, .slice A (xs.take 80).length cap]), .val (.agg #[.int .i64 qr, .slice B (ys.take 80).length cap']), .val (.bool (decide (pr = qr ∧ (xs.take 80) = (ys.take 80)))), .val (.agg #[.int .i64 pr, .slice A (xs.take 80).length cap]), .val (.agg #[.int .i64 qr, .slice B (ys.take 80).length cap']), .val (.bool (decide (pr = qr ∧ (xs.take 80) = (ys.take 80)))), .val (.bool true), .val (.bool true), .val (.bool true), .val (.agg #[.int .i64 pr, .slice A (xs.take 80).length cap]), .val (.agg #[.int .i64 pr, .slice A (xs.take 80).length cap]), .val (.bool true), .val (.bool true), .val (.bool true), .val (.bool true), .val (.bool true)] w18.heap.size (by kernel_rfl) (by simp) (by kernel_rfl) (by kernel_rfl) (fun _ h => h.size) (Abv.start _) ?_
  simp only [List.take_succ_cons, List.take_zero, List.drop_succ_cons, List.drop_zero]
  refine fst2_val (fun W hC hh => ok2_value (v := (.agg #[.int .i64 pr, .slice A (xs.take 80).length cap])) (by rfl) (run_loadW (.tmp 2) rfl (cs := #[.int .i64 pr, .slice A (xs.take 80).length cap]) aggPrg rfl (B17.below hC)) rfl hC (G0.refl _)) ?_
  simp only [nf0, nf1, nf2, nf3, nf4]
  refine fst2_val (fun W hC hh => ok2_call (by rfl) (m_run_call_11_1 (.tmp 9) rfl rfl W) ((print_calls A pr (xs.take 80) cap hcz (by omega) hpr hoz W (hrz.same (bl_step bel hC))).mono fun e W' ⟨h1, h2⟩ => ⟨h1, hC.step h2, h2⟩)) ?_
  simp only [nf0, nf1, nf2, nf3, nf4]
  refine fst2_val (fun W hC hh => ok2_value (v := (.agg #[.int .i64 pr, .slice A (xs.take 80).length cap])) (by rfl) (run_loadW (.tmp 2) rfl (cs := #[.int .i64 pr, .slice A (xs.take 80).length cap]) aggPrg rfl (B17.below hC)) rfl hC (G0.refl _)) ?_
  simp only [nf0, nf1, nf2, nf3, nf4]
  refine fst2_val (fun W hC hh => ok2_call (by rfl) (m_run_call_12_1 (.tmp 11) rfl rfl W) ((refPrint_calls A pr (xs.take 80) cap hcz (by omega) hpr hoz W (hrz.same (bl_step bel hC))).mono fun e W' ⟨h1, h2⟩ => ⟨h1, hC.step h2, h2⟩)) ?_
  simp only [nf0, nf1, nf2, nf3, nf4]
  refine fst2_val (fun W hC hh => ok2_value (v := (.bool true)) (by rfl) (run_eql_text_t (.tmp 10) (.tmp 12) (l := (prP pr (xs.take 80))) (m := (prP pr (xs.take 80))) rfl rfl rfl rfl W) rfl hC (G0.refl _)) ?_
  simp only [nf0, nf1, nf2, nf3, nf4]
  refine fst2_val (fun W hC hh => ok2_value (v := (.bool true)) (by rfl) (by rfl) rfl hC (G0.refl _)) ?_
  simp only [nf0, nf1, nf2, nf3, nf4]
  refine fst2_val (fun W hC hh => ok2_value (v := (.agg #[.int .i64 pr, .slice A (xs.take 80).length cap])) (by rfl) (run_loadW (.tmp 2) rfl (cs := #[.int .i64 pr, .slice A (xs.take 80).length cap]) aggPrg rfl (B17.below hC)) rfl hC (G0.refl _)) ?_
  simp only [nf0, nf1, nf2, nf3, nf4]
  refine fst2_val (fun W hC hh => ok2_value (v := (.agg #[.int .i64 qr, .slice B (ys.take 80).length cap'])) (by rfl) (run_loadW (.tmp 3) rfl (cs := #[.int .i64 qr, .slice B (ys.take 80).length cap']) aggPrg rfl (B20.below hC)) rfl hC (G0.refl _)) ?_
  simp only [nf0, nf1, nf2, nf3, nf4]
  refine fst2_val (fun W hC hh => ok2_call (by rfl) (m_run_call_13_2 (.tmp 15) (.tmp 16) rfl rfl rfl W) ((same_calls A B pr qr (xs.take 80) (ys.take 80) cap cap' hcz hcy (by omega) (by omega) W (hrz.same (bl_step bel hC)) (hry.same (bl_step bel hC))).mono fun e W' ⟨h1, h2⟩ => ⟨h1, hC.step h2, h2⟩)) ?_
  simp only [nf0, nf1, nf2, nf3, nf4]
  refine fst2_val (fun W hC hh => ok2_value (v := (.agg #[.int .i64 pr, .slice A (xs.take 80).length cap])) (by rfl) (run_loadW (.tmp 2) rfl (cs := #[.int .i64 pr, .slice A (xs.take 80).length cap]) aggPrg rfl (B17.below hC)) rfl hC (G0.refl _)) ?_
  simp only [nf0, nf1, nf2, nf3, nf4]
  refine fst2_val (fun W hC hh => ok2_value (v := (.agg #[.int .i64 qr, .slice B (ys.take 80).length cap'])) (by rfl) (run_loadW (.tmp 3) rfl (cs := #[.int .i64 qr, .slice B (ys.take 80).length cap']) aggPrg rfl (B20.below hC)) rfl hC (G0.refl _)) ?_
  simp only [nf0, nf1, nf2, nf3, nf4]
  refine fst2_val (fun W hC hh => ok2_call (by rfl) (m_run_call_14_2 (.tmp 18) (.tmp 19) rfl rfl rfl W) ((refSame_calls A B pr qr (xs.take 80) (ys.take 80) cap cap' hcz hcy (by omega) (by omega) W (hrz.same (bl_step bel hC)) (hry.same (bl_step bel hC))).mono fun e W' ⟨h1, h2⟩ => ⟨h1, hC.step h2, h2⟩)) ?_
  simp only [nf0, nf1, nf2, nf3, nf4]
  refine fst2_val (fun W hC hh => ok2_value (v := (.bool true)) (by rfl) ((runm_eql_bool (.tmp 17) (.tmp 20) rfl Tryd.underlying4 (b := decide (pr = qr ∧ (xs.take 80) = (ys.take 80))) (c := decide (pr = qr ∧ (xs.take 80) = (ys.take 80))) rfl rfl W).trans (by simp)) rfl hC (G0.refl _)) ?_
  simp only [nf0, nf1, nf2, nf3, nf4]
  refine fst2_val (fun W hC hh => ok2_value (v := (.bool true)) (by rfl) (by rfl) rfl hC (G0.refl _)) ?_
  simp only [nf0, nf1, nf2, nf3, nf4]
  refine fst2_val (fun W hC hh => ok2_value (v := (.bool true)) (by rfl) (by rfl) rfl hC (G0.refl _)) ?_
  simp only [nf0, nf1, nf2, nf3, nf4]
  refine fst2_val (fun W hC hh => ok2_value (v := (.agg #[.int .i64 pr, .slice A (xs.take 80).length cap])) (by rfl) (run_loadW (.tmp 2) rfl (cs := #[.int .i64 pr, .slice A (xs.take 80).length cap]) aggPrg rfl (B17.below hC)) rfl hC (G0.refl _)) ?_
  simp only [nf0, nf1, nf2, nf3, nf4]
  refine fst2_val (fun W hC hh => ok2_value (v := (.agg #[.int .i64 pr, .slice A (xs.take 80).length cap])) (by rfl) (run_loadW (.tmp 2) rfl (cs := #[.int .i64 pr, .slice A (xs.take 80).length cap]) aggPrg rfl (B17.below hC)) rfl hC (G0.refl _)) ?_
  simp only [nf0, nf1, nf2, nf3, nf4]
  refine fst2_val (fun W hC hh => ok2_call (by rfl) (m_run_call_13_2 (.tmp 24) (.tmp 25) rfl rfl rfl W) (((show Calls _ _ _ _ fun e w' => e = .returned (.bool true) ∧ Below W.heap.size W w' from by have h_ := same_calls A A pr pr (xs.take 80) (xs.take 80) cap cap hcz hcz (by omega) (by omega) W (hrz.same (bl_step bel hC)) (hrz.same (bl_step bel hC)); rw [decide_eq_true ⟨rfl, rfl⟩] at h_; exact h_)).mono fun e W' ⟨h1, h2⟩ => ⟨h1, hC.step h2, h2⟩)) ?_
  simp only [nf0, nf1, nf2, nf3, nf4]
  refine fst2_val (fun W hC hh => ok2_value (v := (.bool true)) (by rfl) (by rfl) rfl hC (G0.refl _)) ?_
  simp only [nf0, nf1, nf2, nf3, nf4]
  refine fst2_val (fun W hC hh => ok2_value (v := (.bool true)) (by rfl) (by rfl) rfl hC (G0.refl _)) ?_
  simp only [nf0, nf1, nf2, nf3, nf4]
  refine fst2_val (fun W hC hh => ok2_call (by rfl) (m_run_call_10_0  rfl  W) ((pgLives_calls W).mono fun e W' ⟨h1, h2⟩ => ⟨h1, hC.step h2, h2⟩)) ?_
  simp only [nf0, nf1, nf2, nf3, nf4]
  refine fst2_val (fun W hC hh => ok2_value (v := (.bool true)) (by rfl) (by rfl) rfl hC (G0.refl _)) ?_
  simp only [nf0, nf1, nf2, nf3, nf4]
  refine fst2_nil fun w21 hC hh hnd => ?_
  replace hC : Below w18.heap.size w18 w21 := hC
  clear hh hnd
  replace B17 := B17.below hC
  replace B20 := B20.below hC
  replace bel := bl_step bel hC
  clear hC
  refine st_mv (.bool true) ?_
  simp only [nf0, nf1, nf2, nf3, nf4]
  refine wpList_nil ?_
  show Code.wp _ _ _ _ _
  refine wp_ret ?_
  first | show bodyPost _ _ _ _ _ _ | (simp only [Exit.then, Exit.inBlock]; show bodyPost _ _ _ _ _ _)
  exact bodyPost_ret (results_tmp rfl _ _ _) rfl ⟨rfl, bel⟩
end Go.Proofs.YtjbmahjfmffnoaaDoor

/- How arguments of types with slices within are laid open: what the cells of such a value look like, in one world. -/
namespace Go.Proofs.YtjbmahjfmffnoaaDoor
open Go.RowKit Go.WideShapes Go.ChangeShapes

/-- What can be read as data of type t looks so, in this world. -/
def FlatW (P : Program) (w : World) (t : TypeId) (R : List Value → Prop) : Prop :=
  ∀ {H : Type} {enc : TypeId × Value → H} {base : Nat} {spare : Nat → Bool} {held : Bool} {fuel : Nat} {cs : List Value} {x : DataW H × List MemPlace},
    DataW.trod enc P w base spare held fuel t cs = some x → R cs
theorem Flat.here {P : Program} {w : World} {t : TypeId} {R : List Value → Prop} (h : Flat P t R) : FlatW P w t R := fun hx => h hx
theorem FlatW.imp {P : Program} {w : World} {t : TypeId} {R R' : List Value → Prop} (h : FlatW P w t R) (hr : ∀ cs, R cs → R' cs) : FlatW P w t R' := fun hx => hr _ (h hx)
/-- A struct: each field's cells look so. -/
theorem flatW_struct {P : Program} {w : World} {t : TypeId} {fs : Array Field} (R : Nat → List Value → Prop) (ht : P.underlying t = some (.struct fs)) (hf : ∀ i f, fs[i]? = some f → FlatW P w f.type (R i)) :
    FlatW P w t (fun cs => cs.length = P.cellsOf t ∧ ∀ i f, fs[i]? = some f → R i ((cs.drop f.offset).take (P.cellsOf f.type))) := by
  intro H enc base spare held fuel cs x h
  cases fuel with
  | zero => simp [DataW.trod] at h
  | succ m =>
    unfold DataW.trod at h
    rw [ht] at h
    split at h <;> simp_all
    obtain ⟨_, xs, hp, _⟩ := h
    intro i f hi
    obtain ⟨y, hy⟩ := mapM_each' hp f (by rw [Array.getElem?_eq_some_iff] at hi; obtain ⟨h1, h2⟩ := hi; simp [← h2])
    exact hf i f hi hy
/-- A slice: nil, or a row in memory. -/
theorem flatW_slice {P : Program} {w : World} {t e : TypeId} {R : List Value → Prop} (ht : P.underlying t = some (.slice e)) (he : FlatW P w e R) : FlatW P w t (fun cs => ∃ A len cap, cs = [.slice A len cap] ∧ SliceOf P w e R A len cap) := by
  intro H enc base spare held fuel cs x h
  cases fuel with
  | zero => simp [DataW.trod] at h
  | succ m =>
    unfold DataW.trod at h
    rw [ht] at h
    split at h
    case h_7 => exact ⟨none, 0, 0, rfl, Nat.le_refl _, Nat.zero_le _, fun _ => rfl, fun i hi => by omega⟩
    case h_8 e' ad len cap he' =>
      obtain rfl : e = e' := by injection he' with he'; injection he'
      by_cases hc0 : base ≤ ad.block ∧ len ≤ cap ∧ cap ≤ maxLen
      · simp only [hc0, and_self, if_true, Option.bind_eq_some_iff] at h
        obtain ⟨_, h1, h2⟩ := hc0
        obtain ⟨elems, hel, _⟩ := h
        refine ⟨some ad, len, cap, rfl, h1, h2, by simp, fun i hi => ?_⟩
        obtain ⟨y, hy⟩ := mapM_range hel i hi
        simp only [Option.bind_eq_some_iff] at hy
        obtain ⟨cs, hc, hx⟩ := hy
        obtain ⟨g1, g2⟩ := cells?_get hc
        exact ⟨ad, cs, rfl, g1, he hx, g2⟩
      · simp [hc0] at h
    all_goals first | (rename_i hk; injection hk with hk; injection hk; done) | (rename_i hk _; injection hk with hk; injection hk; done) | (cases h; done) | simp_all
/-- A value of such a type: its cells. -/
theorem openW_one {H : Type} {enc : TypeId × Value → H} {P : Program} {w : World} {base : Nat} {spare : Nat → Bool} {held : Bool} {t : TypeId} {v : Value} {d : DataW H} {ps : List MemPlace} {R : List Value → Prop}
    (hf : FlatW P w t R) (h : DataW.Trod enc P w base spare held t v d ps) : R v.cells.toList := by
  obtain ⟨fuel, hx⟩ := h
  exact hf hx
end Go.Proofs.YtjbmahjfmffnoaaDoor

/- A program that is handed in. -/
namespace Go.Proofs.YtjbmahjfmffnoaaDoor
open Go.RowKit Go.WideShapes Go.ChangeShapes

theorem openInt {H : Type} {enc : TypeId × Value → H} {w : World} {r : Reach} {b0 base : Nat} {spare : Nat → Bool} {held : Bool} {v : Value} {d : DataW H} {ps : List MemPlace}
    (hval : Value.okWide Tryd.prog w r b0 3 v) (h : DataW.Trod enc Tryd.prog w base spare held 3 v d ps) : ∃ n, v = .int .i64 n ∧ (Lit.int .i64 n).wf = true := by
  obtain ⟨n, hv, _, _, hw⟩ := open_int Tryd.underlying3 hval h
  exact ⟨n, hv, hw⟩
def rPrg (w : World) : Nat → List Value → Prop
  | 0, cs => ∃ n, cs = [.int .i64 n] ∧ (Lit.int .i64 n).wf = true
  | 1, cs => ∃ A len cap, cs = [.slice A len cap] ∧ SliceOf Tryd.prog w 35 (fun cs => ∃ p, cs = eIns.enc p ∧ okIns p) A len cap
  | _, _ => True
theorem openProg {H : Type} {enc : TypeId × Value → H} {w : World} {r : Reach} {b0 base : Nat} {spare : Nat → Bool} {held : Bool} {v : Value} {d : DataW H} {ps : List MemPlace}
    (hval : Value.okWide Tryd.prog w r b0 24 v) (h : DataW.Trod enc Tryd.prog w base spare held 24 v d ps) :
    ∃ (A : Option Addr) (pr : Int) (xs : List TIns) (cap : Nat), v = .agg #[.int .i64 pr, .slice A xs.length cap] ∧ (-9223372036854775808 ≤ pr ∧ pr ≤ 9223372036854775807) ∧ (∀ x ∈ xs, okIns x) ∧ xs.length ≤ cap ∧ xs.length ≤ 9223372036854775807 ∧ Reads w A (eIns.all xs) := by
  unfold Value.okWide at hval
  rw [Tryd.underlying24] at hval
  obtain ⟨cs, rfl, _⟩ := hval
  have h3 := openW_one (flatW_struct (P := Tryd.prog) (w := w) (t := 24) (rPrg w) Tryd.underlying24 (by
    intro i f hf
    match i, hf with
    | 0, hf => simp at hf; subst hf; show FlatW Tryd.prog w 3 (fun cs => ∃ n, cs = [.int .i64 n] ∧ (Lit.int .i64 n).wf = true); exact fun hx => flat_int Tryd.underlying3 hx
    | 1, hf => simp at hf; subst hf; show FlatW Tryd.prog w 22 (rPrg w 1); exact fun hx => flatW_slice Tryd.underlying22 (fun hx => flatIns hx) hx
    | k + 2, hf => simp at hf)) h
  obtain ⟨hl, hi⟩ := h3
  have hc : Tryd.prog.cellsOf 24 = 2 := by kernel_rfl
  rw [hc] at hl
  have hu0 : Tryd.prog.cellsOf 3 = 1 := by kernel_rfl
  have hu1 : Tryd.prog.cellsOf 22 = 1 := by kernel_rfl
  obtain ⟨n, h0, w0⟩ := hi 0 _ rfl
  change List.take (Tryd.prog.cellsOf 3) (List.drop 0 _) = _ at h0
  rw [hu0] at h0
  obtain ⟨A, len, cap, h1, hs⟩ := hi 1 _ rfl
  change List.take (Tryd.prog.cellsOf 22) (List.drop 1 _) = _ at h1
  rw [hu1] at h1
  obtain ⟨xs, rfl, ho, hr⟩ := slice_list eIns _ (by kernel_rfl) (by decide) hs
  obtain ⟨l⟩ := cs
  change l.length = 2 at hl
  change List.take 1 (List.drop 0 l) = _ at h0
  change List.take 1 (List.drop 1 l) = _ at h1
  match l, hl with
  | [c0, c1], _ =>
    simp only [List.drop_succ_cons, List.drop_zero, List.take_succ_cons, List.take_zero, List.cons.injEq, and_true] at h0 h1
    subst h0 h1
    exact ⟨A, n, xs, cap, rfl, I64_of' w0, ho, hs.1, Nat.le_trans hs.1 hs.2.1, hr⟩
end Go.Proofs.YtjbmahjfmffnoaaDoor

/- The law ProgPrints, at any arguments. -/
namespace Go.Proofs.YtjbmahjfmffnoaaDoor
open Go.RowKit Go.WideShapes Go.ChangeShapes

theorem progPrints_law {H : Type} {enc : TypeId × Value → H} {W : World} {v0 v1 : Value} {d0 d1 : DataW H} {p0 p1 : List MemPlace} {b0 b1 : Nat} (o0 : Value.okWide Tryd.prog W .any b0 24 v0) (o1 : Value.okWide Tryd.prog W .any b1 24 v1) (h0 : DataW.Trod enc Tryd.prog W 0 (fun _ => true) true 24 v0 d0 p0) (h1 : DataW.Trod enc Tryd.prog W 0 (fun _ => true) true 24 v1 d1 p1) :
    Calls Tryd.prog 4 #[v0, v1] W fun e W' => e = .returned (.bool true) ∧ Below W.heap.size W W' := by
  obtain ⟨A, pr, xs, cap, rfl, hpr, hok, hcap, hl, hr⟩ := openProg o0 h0
  obtain ⟨B, qr, ys, cap', rfl, hqr, hok', hcap', hl', hr'⟩ := openProg o1 h1
  exact printsLaw_calls hpr hok hcap hl hqr hok' hcap' hl' W hr hr'
end Go.Proofs.YtjbmahjfmffnoaaDoor

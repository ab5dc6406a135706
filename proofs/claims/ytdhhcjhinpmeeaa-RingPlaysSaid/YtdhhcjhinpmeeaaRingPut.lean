/- ring's Put: what it does to a row's list. -/
import Derived.Test.YtdhhcjhinpmeeaaRingOps
namespace Go.Proofs.Ytdhhcjhinpmeeaa
open Go.RowKit Go.WideShapes Go.ChangeShapes
set_option linter.unusedSimpArgs false
set_option linter.unusedVariables false

theorem c0_fld_48_2 : FieldAt Try.prog 48 2 2 := fieldAt_of (s := 0) Try.underlying48 (by kernel_rfl)
theorem c0_one_3 : One Try.prog 3 := one_of Try.underlying3 rfl (by kernel_rfl)
theorem c0_run_call_8_1 {o : Oper} {a : Act} (x0 : Operand) {ts : Array TypeId} (ho : o.op = .call { callee := .value (.func 8), args := #[x0], argTypes := ts }) {v0 : Value} (h0 : a.eval x0 = v0) (W : World) : (execOp a.eval o).run Try.prog W = .ok (.enter 8 #[v0]) W := by
  unfold execOp
  simp only [ho]
  subst h0
  go_simp
theorem c0_run_call_13_2 {o : Oper} {a : Act} (x0 : Operand) (x1 : Operand) {ts : Array TypeId} (ho : o.op = .call { callee := .value (.func 13), args := #[x0, x1], argTypes := ts }) {v0 : Value} (h0 : a.eval x0 = v0) {v1 : Value} (h1 : a.eval x1 = v1) (W : World) : (execOp a.eval o).run Try.prog W = .ok (.enter 13 #[v0, v1]) W := by
  unfold execOp
  simp only [ho]
  subst h0 h1
  go_simp
theorem c0_run_call_22_1 {o : Oper} {a : Act} (x0 : Operand) {ts : Array TypeId} (ho : o.op = .call { callee := .value (.func 22), args := #[x0], argTypes := ts }) {v0 : Value} (h0 : a.eval x0 = v0) (W : World) : (execOp a.eval o).run Try.prog W = .ok (.enter 22 #[v0]) W := by
  unfold execOp
  simp only [ho]
  subst h0
  go_simp
theorem c0_run_call_23_2 {o : Oper} {a : Act} (x0 : Operand) (x1 : Operand) {ts : Array TypeId} (ho : o.op = .call { callee := .value (.func 23), args := #[x0, x1], argTypes := ts }) {v0 : Value} (h0 : a.eval x0 = v0) {v1 : Value} (h1 : a.eval x1 = v1) (W : World) : (execOp a.eval o).run Try.prog W = .ok (.enter 23 #[v0, v1]) W := by
  unfold execOp
  simp only [ho]
  subst h0 h1
  go_simp
theorem c1_fld_48_2 : FieldAt Try.prog 48 2 2 := fieldAt_of (s := 0) Try.underlying48 (by kernel_rfl)
theorem c1_one_3 : One Try.prog 3 := one_of Try.underlying3 rfl (by kernel_rfl)
theorem c1_run_call_8_1 {o : Oper} {a : Act} (x0 : Operand) {ts : Array TypeId} (ho : o.op = .call { callee := .value (.func 8), args := #[x0], argTypes := ts }) {v0 : Value} (h0 : a.eval x0 = v0) (W : World) : (execOp a.eval o).run Try.prog W = .ok (.enter 8 #[v0]) W := by
  unfold execOp
  simp only [ho]
  subst h0
  go_simp
theorem c1_run_call_10_2 {o : Oper} {a : Act} (x0 : Operand) (x1 : Operand) {ts : Array TypeId} (ho : o.op = .call { callee := .value (.func 10), args := #[x0, x1], argTypes := ts }) {v0 : Value} (h0 : a.eval x0 = v0) {v1 : Value} (h1 : a.eval x1 = v1) (W : World) : (execOp a.eval o).run Try.prog W = .ok (.enter 10 #[v0, v1]) W := by
  unfold execOp
  simp only [ho]
  subst h0 h1
  go_simp
theorem c1_run_call_22_1 {o : Oper} {a : Act} (x0 : Operand) {ts : Array TypeId} (ho : o.op = .call { callee := .value (.func 22), args := #[x0], argTypes := ts }) {v0 : Value} (h0 : a.eval x0 = v0) (W : World) : (execOp a.eval o).run Try.prog W = .ok (.enter 22 #[v0]) W := by
  unfold execOp
  simp only [ho]
  subst h0
  go_simp
theorem c1_run_call_23_2 {o : Oper} {a : Act} (x0 : Operand) (x1 : Operand) {ts : Array TypeId} (ho : o.op = .call { callee := .value (.func 23), args := #[x0, x1], argTypes := ts }) {v0 : Value} (h0 : a.eval x0 = v0) {v1 : Value} (h1 : a.eval x1 = v1) (W : World) : (execOp a.eval o).run Try.prog W = .ok (.enter 23 #[v0, v1]) W := by
  unfold execOp
  simp only [ho]
  subst h0 h1
  go_simp
theorem c2_run_call_8_1 {o : Oper} {a : Act} (x0 : Operand) {ts : Array TypeId} (ho : o.op = .call { callee := .value (.func 8), args := #[x0], argTypes := ts }) {v0 : Value} (h0 : a.eval x0 = v0) (W : World) : (execOp a.eval o).run Try.prog W = .ok (.enter 8 #[v0]) W := by
  unfold execOp
  simp only [ho]
  subst h0
  go_simp
theorem c2_run_call_22_1 {o : Oper} {a : Act} (x0 : Operand) {ts : Array TypeId} (ho : o.op = .call { callee := .value (.func 22), args := #[x0], argTypes := ts }) {v0 : Value} (h0 : a.eval x0 = v0) (W : World) : (execOp a.eval o).run Try.prog W = .ok (.enter 22 #[v0]) W := by
  unfold execOp
  simp only [ho]
  subst h0
  go_simp

attribute [local irreducible] Go.wpList Go.Code.wp
set_option maxRecDepth 100000 in
set_option maxHeartbeats 4000000 in
theorem put_low {w : World} {r b N : Nat} {xs : List Int} (h : Rg w r b N xs) (hl : xs.length < N) {p : Nat} (hp : p ≤ xs.length) (hw : p < xs.length / 2) (x : Int) : Calls Try.prog 14 #[.pointer (some ⟨r, 0, none⟩), .int .i64 (p : Int), .int .i64 x] w fun e w' => ∃ v, e = .returned v ∧ v = .bool true ∧ Rg w' r b N (ins xs p x) ∧ Fr [r, b] w w' := by
  obtain ⟨at_, cs, ⟨hr, hb, hne, hlen, h4, hat, hn⟩, hv⟩ := h
  have bel : Fr [r, b] w w := Fr.refl _ _
  obtain ⟨zs, hz⟩ : ∃ zs : List Int, zs = x :: xs := ⟨_, rfl⟩
  have hzl : zs.length = xs.length + 1 := by rw [hz]; simp
  go_enter Try.func14, Try.ntmps14
  refine wp_seq ?_
  refine wp_region_lit ?_
  refine st_mv (.bool false) ?_
  simp only [nf0, nf1, nf2, nf3, nf4]
  refine wpList_nil ?_
  show Code.wp _ _ _ _ _
  refine wp_seq ?_
  refine wp_seq ?_
  cases hg1 : decide ((p : Int) < 0)
  rotate_left
  · have hp39 := of_decide_eq_true hg1
    exfalso
    omega
  have hp2 := of_decide_eq_false hg1
  cases hg5 : decide (((xs.length : Nat) : Int) < (p : Int))
  rotate_left
  · have hp38 := of_decide_eq_true hg5
    exfalso
    omega
  have hp6 := of_decide_eq_false hg5
  refine wp_region_lit ?_
  refine st_mv (.int .i64 (p : Int)) ?_
  simp only [nf0, nf1, nf2, nf3, nf4]
  refine st_value (v := (.bool false)) (by rfl) ((run_lss (.tmp 9) (.const (.int .i64 0)) rfl rfl rfl w).trans (by rw [hg1])) ?_
  simp only [nf0, nf1, nf2, nf3, nf4]
  refine st_mv (.bool false) ?_
  simp only [nf0, nf1, nf2, nf3, nf4]
  refine st_mv (.int .i64 (p : Int)) ?_
  simp only [nf0, nf1, nf2, nf3, nf4]
  refine st_mv (.pointer (some ⟨r, 0, none⟩)) ?_
  simp only [nf0, nf1, nf2, nf3, nf4]
  refine st_call1 (v := (.int .i64 ((xs.length : Nat) : Int))) (by rfl) (c0_run_call_8_1 (.tmp 13) rfl rfl _) (len_raw hr) ?_
  intro w7 hb8
  simp only [nf0, nf1, nf2, nf3, nf4]
  replace hr := hr.below hb8
  replace hb := hb.below hb8
  replace bel := fr_step bel hb8
  clear hb8
  refine st_value (v := (.bool false)) (by rfl) ((run_gtr (.tmp 12) (.tmp 14) rfl rfl rfl w7).trans (by rw [hg5])) ?_
  simp only [nf0, nf1, nf2, nf3, nf4]
  refine st_mv (.bool false) ?_
  simp only [nf0, nf1, nf2, nf3, nf4]
  refine st_mv (.bool false) ?_
  simp only [nf0, nf1, nf2, nf3, nf4]
  refine st_mv (.pointer (some ⟨r, 0, none⟩)) ?_
  simp only [nf0, nf1, nf2, nf3, nf4]
  refine st_call1 (v := (.bool (decide (((xs.length : Nat) : Int) = (N : Int))))) (by rfl) (c0_run_call_22_1 (.tmp 18) rfl rfl _) (full_raw hr) ?_
  intro w9 hb10
  simp only [nf0, nf1, nf2, nf3, nf4]
  replace hr := hr.below hb10
  replace hb := hb.below hb10
  replace bel := fr_step bel hb10
  clear hb10
  refine st_mv (.bool (decide (((xs.length : Nat) : Int) = (N : Int)))) ?_
  simp only [nf0, nf1, nf2, nf3, nf4]
  refine wpList_nil ?_
  show Code.wp _ _ _ _ _
  cases hg11 : decide (((xs.length : Nat) : Int) = (N : Int))
  rotate_left
  · have hp37 := of_decide_eq_true hg11
    exfalso
    omega
  have hp12 := of_decide_eq_false hg11
  refine wp_cond_false rfl ?_
  refine wp_skip ?_
  show Code.wp _ _ _ _ _
  refine wp_seq ?_
  refine wp_seq ?_
  refine wp_region_lit ?_
  refine st_mv (.int .i64 (p : Int)) ?_
  simp only [nf0, nf1, nf2, nf3, nf4]
  refine st_mv (.pointer (some ⟨r, 0, none⟩)) ?_
  simp only [nf0, nf1, nf2, nf3, nf4]
  refine st_value (v := (.pointer (some ⟨r, 0, none⟩))) (by rfl) (run_check (.tmp 22) rfl rfl w9) ?_
  simp only [nf0, nf1, nf2, nf3, nf4]
  refine st_value (v := (.pointer (some ⟨r, 2, none⟩))) (by rfl) (run_fieldA (.tmp 23) rfl c0_fld_48_2 rfl rfl w9) ?_
  simp only [nf0, nf1, nf2, nf3, nf4]
  refine st_value (v := (.int .i64 ((xs.length : Nat) : Int))) (by rfl) (run_loadB (.tmp 24) rfl c0_one_3 rfl hr rfl) ?_
  simp only [nf0, nf1, nf2, nf3, nf4]
  refine st_value (v := (.int .i64 (((xs.length) / 2 : Nat) : Int))) (by rfl) (run_quoN (.tmp 25) (.const (.int .i64 2)) (m := (xs.length)) (n := 2) rfl rfl rfl (by omega) (by omega) (by omega) (by omega) w9) ?_
  simp only [nf0, nf1, nf2, nf3, nf4]
  refine st_value (v := (.bool (decide ((p : Int) < (((xs.length) / 2 : Nat) : Int))))) (by rfl) (run_lss (.tmp 21) (.tmp 26) rfl rfl rfl w9) ?_
  simp only [nf0, nf1, nf2, nf3, nf4]
  refine wpList_nil ?_
  show Code.wp _ _ _ _ _
  cases hg13 : decide ((p : Int) < (((xs.length) / 2 : Nat) : Int))
  · have hp14 := of_decide_eq_false hg13
    exfalso
    omega
  have hp15 := of_decide_eq_true hg13
  refine wp_cond_true rfl ?_
  refine wp_seq ?_
  refine wp_region_lit ?_
  refine st_mv (.pointer (some ⟨r, 0, none⟩)) ?_
  simp only [nf0, nf1, nf2, nf3, nf4]
  refine st_mv (.int .i64 x) ?_
  simp only [nf0, nf1, nf2, nf3, nf4]
  refine st_call (by rfl) (c0_run_call_13_2 (.tmp 28) (.tmp 29) rfl rfl rfl _) (front_yes (⟨at_, cs, ⟨hr, hb, hne, hlen, h4, hat, hn⟩, hv⟩ : Rg _ r b N xs) hl x) ?_
  rintro _ w16 ⟨rfl, ⟨at2, cs2, ⟨hr2, hb2, _, hlen2, _, hat2, hn2⟩, hv2⟩, hf17⟩
  simp only [nf0, nf1, nf2, nf3, nf4]
  replace bel := fr_call bel hf17 (by simp)
  clear hf17
  clear hr
  clear hb
  rw [← hz] at hr2 hn2 hv2
  have hat3 : at2 < N := hat2 (by omega)
  refine wpList_nil ?_
  show Code.wp _ _ _ _ _
  refine wp_seq ?_
  refine wp_region_lit ?_
  refine st_mv (.int .i64 (p : Int)) ?_
  simp only [nf0, nf1, nf2, nf3, nf4]
  refine st_mv (.int .i64 0) ?_
  simp only [nf0, nf1, nf2, nf3, nf4]
  refine wpList_nil ?_
  show Code.wp _ _ _ _ _
  refine wp_block ?_
  refine wp_loop_left (fun n_ a_ wr_ => (fun J18 => ∃ (k : Nat) (c : List Int), n_ = p - k ∧ a_ = ⟨#[.pointer (some ⟨r, 0, none⟩), .int .i64 (p : Int), .int .i64 x, J18 3, J18 4, J18 5, .bool false, J18 7, J18 8, J18 9, J18 10, J18 11, J18 12, J18 13, J18 14, J18 15, J18 16, J18 17, J18 18, J18 19, J18 20, J18 21, J18 22, J18 23, J18 24, J18 25, J18 26, J18 27, J18 28, J18 29, J18 30, .int .i64 (p : Int), .int .i64 (k : Int), J18 33, J18 34, J18 35, J18 36, J18 37, J18 38, J18 39, J18 40, J18 41, J18 42, J18 43, J18 44, J18 45, J18 46, J18 47, J18 48, J18 49, J18 50, J18 51, J18 52, J18 53, J18 54, J18 55, J18 56, J18 57, J18 58, J18 59, J18 60, J18 61, J18 62, J18 63, J18 64, J18 65, J18 66, J18 67, J18 68, J18 69, J18 70, J18 71, J18 72, J18 73], []⟩ ∧ Blk wr_ r #[.slice (some ⟨b, 0, none⟩) N N, .int .i64 (at2 : Int), .int .i64 ((zs.length : Nat) : Int)] 48 ∧ Blk wr_ b (ints c) 3 ∧ Fr [r, b] w wr_ ∧ (k ≤ p) ∧ (c.length = N) ∧ (Vw at2 N c zs.length (shl zs k))) (jk a_)) (p - 0) ⟨0, cs2, rfl, rfl, hr2, hb2, bel, Nat.zero_le _, hlen2, (by rw [shl_zero]; exact hv2)⟩ ?_
  clear hr2
  clear hb2
  clear bel
  intro n_ a_ w19 h_
  revert h_
  generalize jk a_ = J18
  rintro ⟨k, c, hms, rfl, hr2, hb2, bel, hk, hc, hvc⟩
  refine wp_seq ?_
  refine wp_region_lit ?_
  refine st_value (v := (.bool (decide ((k : Int) < (p : Int))))) (by rfl) (run_lss (.tmp 32) (.tmp 31) rfl rfl rfl w19) ?_
  simp only [nf0, nf1, nf2, nf3, nf4]
  refine wpList_nil ?_
  show Code.wp _ _ _ _ _
  refine wp_seq ?_
  cases hg20 : decide ((k : Int) < (p : Int))
  · have hp21 := of_decide_eq_false hg20
    refine wp_cond_false rfl ?_
    refine wp_exit ?_
    show Code.wp _ _ _ _ _
    refine wp_seq ?_
    refine wp_region_lit ?_
    refine st_mv (.pointer (some ⟨r, 0, none⟩)) ?_
    simp only [nf0, nf1, nf2, nf3, nf4]
    refine st_mv (.int .i64 (p : Int)) ?_
    simp only [nf0, nf1, nf2, nf3, nf4]
    refine st_call1 (v := (.pointer (some ⟨b, ((at2 + p) % N), none⟩))) (by rfl) (c0_run_call_23_2 (.tmp 69) (.tmp 70) rfl rfl rfl _) (slot_raw (at_ := at2) (i := p) hr2 (by omega) (by omega) (by omega) (by omega) (by omega)) ?_
    intro w22 hb23
    simp only [nf0, nf1, nf2, nf3, nf4]
    replace hr2 := hr2.below hb23
    replace hb2 := hb2.below hb23
    replace bel := fr_step bel hb23
    clear hb23
    refine st_mv (.int .i64 x) ?_
    simp only [nf0, nf1, nf2, nf3, nf4]
    refine st_value (v := (.pointer (some ⟨b, ((at2 + p) % N), none⟩))) (by rfl) (run_check (.tmp 71) rfl rfl w22) ?_
    simp only [nf0, nf1, nf2, nf3, nf4]
    refine st_cell (v := (.int .i64 x)) (by rfl) (run_storeB (.tmp 73) (.tmp 72) rfl c0_one_3 hb2 (ints_lt (by rw [hc]; exact (Nat.mod_lt _ (by omega)))) rfl rfl rfl rfl) hb2 ?_
    intro w24 B26 hg25
    simp only [nf0, nf1, nf2, nf3, nf4]
    replace hr2 := hr2.kept hg25 hne
    replace bel := fr_in bel hg25 (by simp)
    clear hg25
    clear hb2
    rw [ints_set] at B26
    have hl27 : (c.set ((at2 + p) % N) x).length = N := by rw [List.length_set]; exact hc
    refine wpList_nil ?_
    show Code.wp _ _ _ _ _
    refine wp_seq ?_
    refine wp_region_lit ?_
    refine st_mv (.bool true) ?_
    simp only [nf0, nf1, nf2, nf3, nf4]
    refine wpList_nil ?_
    show Code.wp _ _ _ _ _
    refine wp_ret ?_
    first | show bodyPost _ _ _ _ _ _ | (simp only [Exit.then, Exit.inBlock]; show bodyPost _ _ _ _ _ _)
    obtain rfl : p = k := by omega
    have hil := ins_length x hp
    have hvf : Vw at2 N (c.set ((at2 + p) % N) x) zs.length (nth (ins xs p x)) := vw_last hc hvc (by omega) (by omega) (fun j hj => by subst hz; exact shl_ins xs x hp j)
    rw [show zs.length = (ins xs p x).length by omega] at hvf
    exact bodyPost_ret (results_tmp rfl _ _ _) rfl ⟨_, rfl, rfl, Rg.mk' (at_ := at2) hr2 B26 rfl (by omega) hne hl27 h4 (fun _ => hat3) (by omega) hvf, bel⟩
  have hp28 := of_decide_eq_true hg20
  refine wp_cond_true rfl ?_
  refine wp_skip ?_
  show Code.wp _ _ _ _ _
  refine wp_seq ?_
  refine wp_block ?_
  refine wp_seq ?_
  refine wp_region_lit ?_
  refine st_mv (.int .i64 (k : Int)) ?_
  simp only [nf0, nf1, nf2, nf3, nf4]
  refine st_mv (.int .i64 (k : Int)) ?_
  simp only [nf0, nf1, nf2, nf3, nf4]
  refine wpList_nil ?_
  show Code.wp _ _ _ _ _
  refine wp_region_lit ?_
  refine st_mv (.pointer (some ⟨r, 0, none⟩)) ?_
  simp only [nf0, nf1, nf2, nf3, nf4]
  refine st_mv (.int .i64 (k : Int)) ?_
  simp only [nf0, nf1, nf2, nf3, nf4]
  refine st_call1 (v := (.pointer (some ⟨b, ((at2 + k) % N), none⟩))) (by rfl) (c0_run_call_23_2 (.tmp 35) (.tmp 36) rfl rfl rfl _) (slot_raw (at_ := at2) (i := k) hr2 (by omega) (by omega) (by omega) (by omega) (by omega)) ?_
  intro w29 hb30
  simp only [nf0, nf1, nf2, nf3, nf4]
  replace hr2 := hr2.below hb30
  replace hb2 := hb2.below hb30
  replace bel := fr_step bel hb30
  clear hb30
  refine st_mv (.pointer (some ⟨r, 0, none⟩)) ?_
  simp only [nf0, nf1, nf2, nf3, nf4]
  refine st_mv (.int .i64 (k : Int)) ?_
  simp only [nf0, nf1, nf2, nf3, nf4]
  refine st_value (v := (.int .i64 ((k : Int) + 1))) (by rfl) (run_add_in (.tmp 39) (.const (.int .i64 1)) rfl rfl rfl (by omega) w29) ?_
  simp only [nf0, nf1, nf2, nf3, nf4]
  refine st_call1 (v := (.pointer (some ⟨b, ((at2 + (k + 1)) % N), none⟩))) (by rfl) (c0_run_call_23_2 (.tmp 38) (.tmp 40) rfl rfl rfl _) (slot_raw (at_ := at2) (i := (k + 1)) hr2 (by omega) (by omega) (by omega) (by omega) (by omega)) ?_
  intro w31 hb32
  simp only [nf0, nf1, nf2, nf3, nf4]
  replace hr2 := hr2.below hb32
  replace hb2 := hb2.below hb32
  replace bel := fr_step bel hb32
  clear hb32
  refine st_value (v := (.pointer (some ⟨b, ((at2 + (k + 1)) % N), none⟩))) (by rfl) (run_check (.tmp 41) rfl rfl w31) ?_
  simp only [nf0, nf1, nf2, nf3, nf4]
  refine st_value (v := (.int .i64 (nth c ((at2 + (k + 1)) % N)))) (by rfl) (run_loadB (.tmp 42) rfl c0_one_3 rfl hb2 (ints_get _ _ (by rw [hc]; exact (Nat.mod_lt _ (by omega))))) ?_
  simp only [nf0, nf1, nf2, nf3, nf4]
  refine st_value (v := (.pointer (some ⟨b, ((at2 + k) % N), none⟩))) (by rfl) (run_check (.tmp 37) rfl rfl w31) ?_
  simp only [nf0, nf1, nf2, nf3, nf4]
  refine st_cell (v := (.int .i64 (nth c ((at2 + (k + 1)) % N)))) (by rfl) (run_storeB (.tmp 44) (.tmp 43) rfl c0_one_3 hb2 (ints_lt (by rw [hc]; exact (Nat.mod_lt _ (by omega)))) rfl rfl rfl rfl) hb2 ?_
  intro w33 B35 hg34
  simp only [nf0, nf1, nf2, nf3, nf4]
  replace hr2 := hr2.kept hg34 hne
  replace bel := fr_in bel hg34 (by simp)
  clear hg34
  clear hb2
  rw [ints_set] at B35
  have hl36 : (c.set ((at2 + k) % N) (nth c ((at2 + (k + 1)) % N))).length = N := by rw [List.length_set]; exact hc
  refine wpList_nil ?_
  show Code.wp _ _ _ _ _
  refine wp_region_lit ?_
  refine st_value (v := (.int .i64 ((k : Int) + 1))) (by rfl) (run_add_in (.tmp 32) (.const (.int .i64 1)) rfl rfl rfl (by omega) w33) ?_
  simp only [nf0, nf1, nf2, nf3, nf4]
  refine st_mv (.int .i64 ((k : Int) + 1)) ?_
  simp only [nf0, nf1, nf2, nf3, nf4]
  refine wpList_nil ?_
  show ∃ m, m < _ ∧ _
  exact ⟨_, (by omega), (k + 1), (c.set ((at2 + k) % N) (nth c ((at2 + (k + 1)) % N))), rfl, rfl, hr2, B35, bel, (by omega), hl36, (vw_step hc hvc (by omega) (by omega) (by omega) (fun j _ => shl_step zs k j))⟩
set_option maxRecDepth 100000 in
set_option maxHeartbeats 4000000 in
theorem put_high {w : World} {r b N : Nat} {xs : List Int} (h : Rg w r b N xs) (hl : xs.length < N) {p : Nat} (hp : p ≤ xs.length) (hw : ¬ p < xs.length / 2) (x : Int) : Calls Try.prog 14 #[.pointer (some ⟨r, 0, none⟩), .int .i64 (p : Int), .int .i64 x] w fun e w' => ∃ v, e = .returned v ∧ v = .bool true ∧ Rg w' r b N (ins xs p x) ∧ Fr [r, b] w w' := by
  obtain ⟨at_, cs, ⟨hr, hb, hne, hlen, h4, hat, hn⟩, hv⟩ := h
  have bel : Fr [r, b] w w := Fr.refl _ _
  obtain ⟨zs, hz⟩ : ∃ zs : List Int, zs = xs ++ [x] := ⟨_, rfl⟩
  have hzl : zs.length = xs.length + 1 := by rw [hz]; simp
  go_enter Try.func14, Try.ntmps14
  refine wp_seq ?_
  refine wp_region_lit ?_
  refine st_mv (.bool false) ?_
  simp only [nf0, nf1, nf2, nf3, nf4]
  refine wpList_nil ?_
  show Code.wp _ _ _ _ _
  refine wp_seq ?_
  refine wp_seq ?_
  cases hg1 : decide ((p : Int) < 0)
  rotate_left
  · have hp39 := of_decide_eq_true hg1
    exfalso
    omega
  have hp2 := of_decide_eq_false hg1
  cases hg5 : decide (((xs.length : Nat) : Int) < (p : Int))
  rotate_left
  · have hp38 := of_decide_eq_true hg5
    exfalso
    omega
  have hp6 := of_decide_eq_false hg5
  refine wp_region_lit ?_
  refine st_mv (.int .i64 (p : Int)) ?_
  simp only [nf0, nf1, nf2, nf3, nf4]
  refine st_value (v := (.bool false)) (by rfl) ((run_lss (.tmp 9) (.const (.int .i64 0)) rfl rfl rfl w).trans (by rw [hg1])) ?_
  simp only [nf0, nf1, nf2, nf3, nf4]
  refine st_mv (.bool false) ?_
  simp only [nf0, nf1, nf2, nf3, nf4]
  refine st_mv (.int .i64 (p : Int)) ?_
  simp only [nf0, nf1, nf2, nf3, nf4]
  refine st_mv (.pointer (some ⟨r, 0, none⟩)) ?_
  simp only [nf0, nf1, nf2, nf3, nf4]
  refine st_call1 (v := (.int .i64 ((xs.length : Nat) : Int))) (by rfl) (c1_run_call_8_1 (.tmp 13) rfl rfl _) (len_raw hr) ?_
  intro w7 hb8
  simp only [nf0, nf1, nf2, nf3, nf4]
  replace hr := hr.below hb8
  replace hb := hb.below hb8
  replace bel := fr_step bel hb8
  clear hb8
  refine st_value (v := (.bool false)) (by rfl) ((run_gtr (.tmp 12) (.tmp 14) rfl rfl rfl w7).trans (by rw [hg5])) ?_
  simp only [nf0, nf1, nf2, nf3, nf4]
  refine st_mv (.bool false) ?_
  simp only [nf0, nf1, nf2, nf3, nf4]
  refine st_mv (.bool false) ?_
  simp only [nf0, nf1, nf2, nf3, nf4]
  refine st_mv (.pointer (some ⟨r, 0, none⟩)) ?_
  simp only [nf0, nf1, nf2, nf3, nf4]
  refine st_call1 (v := (.bool (decide (((xs.length : Nat) : Int) = (N : Int))))) (by rfl) (c1_run_call_22_1 (.tmp 18) rfl rfl _) (full_raw hr) ?_
  intro w9 hb10
  simp only [nf0, nf1, nf2, nf3, nf4]
  replace hr := hr.below hb10
  replace hb := hb.below hb10
  replace bel := fr_step bel hb10
  clear hb10
  refine st_mv (.bool (decide (((xs.length : Nat) : Int) = (N : Int)))) ?_
  simp only [nf0, nf1, nf2, nf3, nf4]
  refine wpList_nil ?_
  show Code.wp _ _ _ _ _
  cases hg11 : decide (((xs.length : Nat) : Int) = (N : Int))
  rotate_left
  · have hp37 := of_decide_eq_true hg11
    exfalso
    omega
  have hp12 := of_decide_eq_false hg11
  refine wp_cond_false rfl ?_
  refine wp_skip ?_
  show Code.wp _ _ _ _ _
  refine wp_seq ?_
  refine wp_seq ?_
  refine wp_region_lit ?_
  refine st_mv (.int .i64 (p : Int)) ?_
  simp only [nf0, nf1, nf2, nf3, nf4]
  refine st_mv (.pointer (some ⟨r, 0, none⟩)) ?_
  simp only [nf0, nf1, nf2, nf3, nf4]
  refine st_value (v := (.pointer (some ⟨r, 0, none⟩))) (by rfl) (run_check (.tmp 22) rfl rfl w9) ?_
  simp only [nf0, nf1, nf2, nf3, nf4]
  refine st_value (v := (.pointer (some ⟨r, 2, none⟩))) (by rfl) (run_fieldA (.tmp 23) rfl c1_fld_48_2 rfl rfl w9) ?_
  simp only [nf0, nf1, nf2, nf3, nf4]
  refine st_value (v := (.int .i64 ((xs.length : Nat) : Int))) (by rfl) (run_loadB (.tmp 24) rfl c1_one_3 rfl hr rfl) ?_
  simp only [nf0, nf1, nf2, nf3, nf4]
  refine st_value (v := (.int .i64 (((xs.length) / 2 : Nat) : Int))) (by rfl) (run_quoN (.tmp 25) (.const (.int .i64 2)) (m := (xs.length)) (n := 2) rfl rfl rfl (by omega) (by omega) (by omega) (by omega) w9) ?_
  simp only [nf0, nf1, nf2, nf3, nf4]
  refine st_value (v := (.bool (decide ((p : Int) < (((xs.length) / 2 : Nat) : Int))))) (by rfl) (run_lss (.tmp 21) (.tmp 26) rfl rfl rfl w9) ?_
  simp only [nf0, nf1, nf2, nf3, nf4]
  refine wpList_nil ?_
  show Code.wp _ _ _ _ _
  cases hg13 : decide ((p : Int) < (((xs.length) / 2 : Nat) : Int))
  rotate_left
  · have hp36 := of_decide_eq_true hg13
    exfalso
    omega
  have hp14 := of_decide_eq_false hg13
  refine wp_cond_false rfl ?_
  refine wp_seq ?_
  refine wp_region_lit ?_
  refine st_mv (.pointer (some ⟨r, 0, none⟩)) ?_
  simp only [nf0, nf1, nf2, nf3, nf4]
  refine st_mv (.int .i64 x) ?_
  simp only [nf0, nf1, nf2, nf3, nf4]
  refine st_call (by rfl) (c1_run_call_10_2 (.tmp 46) (.tmp 47) rfl rfl rfl _) (back_yes (⟨at_, cs, ⟨hr, hb, hne, hlen, h4, hat, hn⟩, hv⟩ : Rg _ r b N xs) hl x) ?_
  rintro _ w15 ⟨rfl, ⟨at2, cs2, ⟨hr2, hb2, _, hlen2, _, hat2, hn2⟩, hv2⟩, hf16⟩
  simp only [nf0, nf1, nf2, nf3, nf4]
  replace bel := fr_call bel hf16 (by simp)
  clear hf16
  clear hr
  clear hb
  rw [← hz] at hr2 hn2 hv2
  have hat3 : at2 < N := hat2 (by omega)
  refine wpList_nil ?_
  show Code.wp _ _ _ _ _
  refine wp_seq ?_
  refine wp_region_lit ?_
  refine st_mv (.pointer (some ⟨r, 0, none⟩)) ?_
  simp only [nf0, nf1, nf2, nf3, nf4]
  refine st_value (v := (.pointer (some ⟨r, 0, none⟩))) (by rfl) (run_check (.tmp 49) rfl rfl w15) ?_
  simp only [nf0, nf1, nf2, nf3, nf4]
  refine st_value (v := (.pointer (some ⟨r, 2, none⟩))) (by rfl) (run_fieldA (.tmp 50) rfl c1_fld_48_2 rfl rfl w15) ?_
  simp only [nf0, nf1, nf2, nf3, nf4]
  refine st_value (v := (.int .i64 ((zs.length : Nat) : Int))) (by rfl) (run_loadB (.tmp 51) rfl c1_one_3 rfl hr2 rfl) ?_
  simp only [nf0, nf1, nf2, nf3, nf4]
  refine st_value (v := (.int .i64 (((zs.length : Nat) : Int) - 1))) (by rfl) (run_sub_in (.tmp 52) (.const (.int .i64 1)) rfl rfl rfl (by omega) w15) ?_
  simp only [nf0, nf1, nf2, nf3, nf4]
  refine st_mv (.int .i64 (((zs.length : Nat) : Int) - 1)) ?_
  simp only [nf0, nf1, nf2, nf3, nf4]
  refine wpList_nil ?_
  show Code.wp _ _ _ _ _
  refine wp_block ?_
  refine wp_loop_left (fun n_ a_ wr_ => (fun J17 => ∃ (k : Nat) (K : Int) (c : List Int), n_ = k - p ∧ a_ = ⟨#[.pointer (some ⟨r, 0, none⟩), .int .i64 (p : Int), .int .i64 x, J17 3, J17 4, J17 5, .bool false, J17 7, .int .i64 K, J17 9, J17 10, J17 11, J17 12, J17 13, J17 14, J17 15, J17 16, J17 17, J17 18, J17 19, J17 20, J17 21, J17 22, J17 23, J17 24, J17 25, J17 26, J17 27, J17 28, J17 29, J17 30, J17 31, J17 32, J17 33, J17 34, J17 35, J17 36, J17 37, J17 38, J17 39, J17 40, J17 41, J17 42, J17 43, J17 44, J17 45, J17 46, J17 47, J17 48, J17 49, J17 50, J17 51, J17 52, J17 53, J17 54, J17 55, J17 56, J17 57, J17 58, J17 59, J17 60, J17 61, J17 62, J17 63, J17 64, J17 65, J17 66, J17 67, J17 68, J17 69, J17 70, J17 71, J17 72, J17 73], []⟩ ∧ Blk wr_ r #[.slice (some ⟨b, 0, none⟩) N N, .int .i64 (at2 : Int), .int .i64 ((zs.length : Nat) : Int)] 48 ∧ Blk wr_ b (ints c) 3 ∧ Fr [r, b] w wr_ ∧ (K = (k : Int)) ∧ (p ≤ k ∧ k ≤ xs.length) ∧ (c.length = N) ∧ (Vw at2 N c zs.length (shr zs k))) (jk a_)) (xs.length - p) ⟨xs.length, _, cs2, rfl, rfl, hr2, hb2, bel, (by omega), (by omega), hlen2, (shr_top zs (by omega) hv2)⟩ ?_
  clear hr2
  clear hb2
  clear bel
  intro n_ a_ w18 h_
  revert h_
  generalize jk a_ = J17
  rintro ⟨k, K, c, hms, rfl, hr2, hb2, bel, hK, hk, hc, hvc⟩
  refine wp_seq ?_
  refine wp_seq ?_
  refine wp_region_lit ?_
  refine st_mv (.int .i64 K) ?_
  simp only [nf0, nf1, nf2, nf3, nf4]
  refine st_mv (.int .i64 (p : Int)) ?_
  simp only [nf0, nf1, nf2, nf3, nf4]
  refine st_value (v := (.bool (decide ((p : Int) < K)))) (by rfl) (run_gtr (.tmp 54) (.tmp 55) rfl rfl rfl w18) ?_
  simp only [nf0, nf1, nf2, nf3, nf4]
  refine wpList_nil ?_
  show Code.wp _ _ _ _ _
  cases hg19 : decide ((p : Int) < K)
  · have hp20 := of_decide_eq_false hg19
    refine wp_cond_false rfl ?_
    refine wp_exit ?_
    show Code.wp _ _ _ _ _
    refine wp_seq ?_
    refine wp_region_lit ?_
    refine st_mv (.pointer (some ⟨r, 0, none⟩)) ?_
    simp only [nf0, nf1, nf2, nf3, nf4]
    refine st_mv (.int .i64 (p : Int)) ?_
    simp only [nf0, nf1, nf2, nf3, nf4]
    refine st_call1 (v := (.pointer (some ⟨b, ((at2 + p) % N), none⟩))) (by rfl) (c1_run_call_23_2 (.tmp 69) (.tmp 70) rfl rfl rfl _) (slot_raw (at_ := at2) (i := p) hr2 (by omega) (by omega) (by omega) (by omega) (by omega)) ?_
    intro w21 hb22
    simp only [nf0, nf1, nf2, nf3, nf4]
    replace hr2 := hr2.below hb22
    replace hb2 := hb2.below hb22
    replace bel := fr_step bel hb22
    clear hb22
    refine st_mv (.int .i64 x) ?_
    simp only [nf0, nf1, nf2, nf3, nf4]
    refine st_value (v := (.pointer (some ⟨b, ((at2 + p) % N), none⟩))) (by rfl) (run_check (.tmp 71) rfl rfl w21) ?_
    simp only [nf0, nf1, nf2, nf3, nf4]
    refine st_cell (v := (.int .i64 x)) (by rfl) (run_storeB (.tmp 73) (.tmp 72) rfl c1_one_3 hb2 (ints_lt (by rw [hc]; exact (Nat.mod_lt _ (by omega)))) rfl rfl rfl rfl) hb2 ?_
    intro w23 B25 hg24
    simp only [nf0, nf1, nf2, nf3, nf4]
    replace hr2 := hr2.kept hg24 hne
    replace bel := fr_in bel hg24 (by simp)
    clear hg24
    clear hb2
    rw [ints_set] at B25
    have hl26 : (c.set ((at2 + p) % N) x).length = N := by rw [List.length_set]; exact hc
    refine wpList_nil ?_
    show Code.wp _ _ _ _ _
    refine wp_seq ?_
    refine wp_region_lit ?_
    refine st_mv (.bool true) ?_
    simp only [nf0, nf1, nf2, nf3, nf4]
    refine wpList_nil ?_
    show Code.wp _ _ _ _ _
    refine wp_ret ?_
    first | show bodyPost _ _ _ _ _ _ | (simp only [Exit.then, Exit.inBlock]; show bodyPost _ _ _ _ _ _)
    obtain rfl : p = k := by omega
    have hil := ins_length x hp
    have hvf : Vw at2 N (c.set ((at2 + p) % N) x) zs.length (nth (ins xs p x)) := vw_last hc hvc (by omega) (by omega) (fun j hj => by subst hz; exact shr_ins xs x hp j (by simpa using hj))
    rw [show zs.length = (ins xs p x).length by omega] at hvf
    exact bodyPost_ret (results_tmp rfl _ _ _) rfl ⟨_, rfl, rfl, Rg.mk' (at_ := at2) hr2 B25 rfl (by omega) hne hl26 h4 (fun _ => hat3) (by omega) hvf, bel⟩
  have hp27 := of_decide_eq_true hg19
  refine wp_cond_true rfl ?_
  refine wp_skip ?_
  show Code.wp _ _ _ _ _
  refine wp_seq ?_
  refine wp_block ?_
  refine wp_region_lit ?_
  refine st_mv (.pointer (some ⟨r, 0, none⟩)) ?_
  simp only [nf0, nf1, nf2, nf3, nf4]
  refine st_mv (.int .i64 K) ?_
  simp only [nf0, nf1, nf2, nf3, nf4]
  refine st_call1 (v := (.pointer (some ⟨b, ((at2 + k) % N), none⟩))) (by rfl) (c1_run_call_23_2 (.tmp 59) (.tmp 60) rfl rfl rfl _) (slot_raw (at_ := at2) (i := k) hr2 (by omega) (by omega) (by omega) (by omega) (by omega)) ?_
  intro w28 hb29
  simp only [nf0, nf1, nf2, nf3, nf4]
  replace hr2 := hr2.below hb29
  replace hb2 := hb2.below hb29
  replace bel := fr_step bel hb29
  clear hb29
  refine st_mv (.pointer (some ⟨r, 0, none⟩)) ?_
  simp only [nf0, nf1, nf2, nf3, nf4]
  refine st_mv (.int .i64 K) ?_
  simp only [nf0, nf1, nf2, nf3, nf4]
  refine st_value (v := (.int .i64 (K - 1))) (by rfl) (run_sub_in (.tmp 63) (.const (.int .i64 1)) rfl rfl rfl (by omega) w28) ?_
  simp only [nf0, nf1, nf2, nf3, nf4]
  refine st_call1 (v := (.pointer (some ⟨b, ((at2 + (k - 1)) % N), none⟩))) (by rfl) (c1_run_call_23_2 (.tmp 62) (.tmp 64) rfl rfl rfl _) (slot_raw (at_ := at2) (i := (k - 1)) hr2 (by omega) (by omega) (by omega) (by omega) (by omega)) ?_
  intro w30 hb31
  simp only [nf0, nf1, nf2, nf3, nf4]
  replace hr2 := hr2.below hb31
  replace hb2 := hb2.below hb31
  replace bel := fr_step bel hb31
  clear hb31
  refine st_value (v := (.pointer (some ⟨b, ((at2 + (k - 1)) % N), none⟩))) (by rfl) (run_check (.tmp 65) rfl rfl w30) ?_
  simp only [nf0, nf1, nf2, nf3, nf4]
  refine st_value (v := (.int .i64 (nth c ((at2 + (k - 1)) % N)))) (by rfl) (run_loadB (.tmp 66) rfl c1_one_3 rfl hb2 (ints_get _ _ (by rw [hc]; exact (Nat.mod_lt _ (by omega))))) ?_
  simp only [nf0, nf1, nf2, nf3, nf4]
  refine st_value (v := (.pointer (some ⟨b, ((at2 + k) % N), none⟩))) (by rfl) (run_check (.tmp 61) rfl rfl w30) ?_
  simp only [nf0, nf1, nf2, nf3, nf4]
  refine st_cell (v := (.int .i64 (nth c ((at2 + (k - 1)) % N)))) (by rfl) (run_storeB (.tmp 68) (.tmp 67) rfl c1_one_3 hb2 (ints_lt (by rw [hc]; exact (Nat.mod_lt _ (by omega)))) rfl rfl rfl rfl) hb2 ?_
  intro w32 B34 hg33
  simp only [nf0, nf1, nf2, nf3, nf4]
  replace hr2 := hr2.kept hg33 hne
  replace bel := fr_in bel hg33 (by simp)
  clear hg33
  clear hb2
  rw [ints_set] at B34
  have hl35 : (c.set ((at2 + k) % N) (nth c ((at2 + (k - 1)) % N))).length = N := by rw [List.length_set]; exact hc
  refine wpList_nil ?_
  show Code.wp _ _ _ _ _
  refine wp_region_lit ?_
  refine st_mv (.int .i64 K) ?_
  simp only [nf0, nf1, nf2, nf3, nf4]
  refine st_value (v := (.int .i64 (K - 1))) (by rfl) (run_sub_in (.tmp 57) (.const (.int .i64 1)) rfl rfl rfl (by omega) w32) ?_
  simp only [nf0, nf1, nf2, nf3, nf4]
  refine st_mv (.int .i64 (K - 1)) ?_
  simp only [nf0, nf1, nf2, nf3, nf4]
  refine wpList_nil ?_
  show ∃ m, m < _ ∧ _
  exact ⟨_, (by omega), (k - 1), _, (c.set ((at2 + k) % N) (nth c ((at2 + (k - 1)) % N))), rfl, rfl, hr2, B34, bel, (by omega), (by omega), hl35, (vw_step hc hvc (by omega) (by omega) (by omega) (fun j _ => shr_step zs (by omega) j))⟩
theorem put_yes {w : World} {r b N : Nat} {xs : List Int} (h : Rg w r b N xs) (hl : xs.length < N) {p : Nat} (hp : p ≤ xs.length) (x : Int) : Calls Try.prog 14 #[.pointer (some ⟨r, 0, none⟩), .int .i64 (p : Int), .int .i64 x] w fun e w' => ∃ v, e = .returned v ∧ v = .bool true ∧ Rg w' r b N (ins xs p x) ∧ Fr [r, b] w w' := by
  by_cases hw : p < xs.length / 2
  · exact put_low h hl hp hw x
  · exact put_high h hl hp hw x
set_option maxRecDepth 100000 in
set_option maxHeartbeats 4000000 in
theorem put_no {w : World} {r b N : Nat} {xs : List Int} (h : Rg w r b N xs) {i : Int} (hi : i < 0 ∨ (xs.length : Int) < i ∨ N ≤ xs.length) (x : Int) : Calls Try.prog 14 #[.pointer (some ⟨r, 0, none⟩), .int .i64 i, .int .i64 x] w fun e w' => ∃ v, e = .returned v ∧ v = .bool false ∧ Rg w' r b N xs ∧ Fr [r, b] w w' := by
  obtain ⟨at_, cs, ⟨hr, hb, hne, hlen, h4, hat, hn⟩, hv⟩ := h
  have bel : Fr [r, b] w w := Fr.refl _ _
  go_enter Try.func14, Try.ntmps14
  refine wp_seq ?_
  refine wp_region_lit ?_
  refine st_mv (.bool false) ?_
  simp only [nf0, nf1, nf2, nf3, nf4]
  refine wpList_nil ?_
  show Code.wp _ _ _ _ _
  refine wp_seq ?_
  refine wp_seq ?_
  cases hg1 : decide (i < 0)
  rotate_left
  · have hp17 := of_decide_eq_true hg1
    refine wp_region_lit ?_
    refine st_mv (.int .i64 i) ?_
    simp only [nf0, nf1, nf2, nf3, nf4]
    refine st_value (v := (.bool true)) (by rfl) ((run_lss (.tmp 9) (.const (.int .i64 0)) rfl rfl rfl w).trans (by rw [hg1])) ?_
    simp only [nf0, nf1, nf2, nf3, nf4]
    refine st_mv (.bool true) ?_
    simp only [nf0, nf1, nf2, nf3, nf4]
    refine st_nob (j := 2) (t := 11) (c := true) rfl rfl rfl rfl rfl ?_
    simp only [nf0, nf1, nf2, nf3, nf4]
    refine st_nob (j := 2) (t := 11) (c := true) rfl rfl rfl rfl rfl ?_
    simp only [nf0, nf1, nf2, nf3, nf4]
    refine st_nob (j := 2) (t := 11) (c := true) rfl rfl rfl rfl rfl ?_
    simp only [nf0, nf1, nf2, nf3, nf4]
    refine st_nob (j := 2) (t := 11) (c := true) rfl rfl rfl rfl rfl ?_
    simp only [nf0, nf1, nf2, nf3, nf4]
    refine st_mv (.bool true) ?_
    simp only [nf0, nf1, nf2, nf3, nf4]
    refine st_mv (.bool true) ?_
    simp only [nf0, nf1, nf2, nf3, nf4]
    refine st_nob (j := 8) (t := 17) (c := true) rfl rfl rfl rfl rfl ?_
    simp only [nf0, nf1, nf2, nf3, nf4]
    refine st_nob (j := 8) (t := 17) (c := true) rfl rfl rfl rfl rfl ?_
    simp only [nf0, nf1, nf2, nf3, nf4]
    refine st_mv (.bool true) ?_
    simp only [nf0, nf1, nf2, nf3, nf4]
    refine wpList_nil ?_
    show Code.wp _ _ _ _ _
    refine wp_cond_true rfl ?_
    refine wp_seq ?_
    refine wp_region_lit ?_
    refine st_mv (.bool false) ?_
    simp only [nf0, nf1, nf2, nf3, nf4]
    refine wpList_nil ?_
    show Code.wp _ _ _ _ _
    refine wp_ret ?_
    first | show bodyPost _ _ _ _ _ _ | (simp only [Exit.then, Exit.inBlock]; show bodyPost _ _ _ _ _ _)
    exact bodyPost_ret (results_tmp rfl _ _ _) rfl ⟨_, rfl, rfl, (⟨at_, cs, ⟨hr, hb, hne, hlen, h4, hat, hn⟩, hv⟩ : Rg _ r b N xs), bel⟩
  have hp2 := of_decide_eq_false hg1
  cases hg5 : decide (((xs.length : Nat) : Int) < i)
  rotate_left
  · have hp14 := of_decide_eq_true hg5
    refine wp_region_lit ?_
    refine st_mv (.int .i64 i) ?_
    simp only [nf0, nf1, nf2, nf3, nf4]
    refine st_value (v := (.bool false)) (by rfl) ((run_lss (.tmp 9) (.const (.int .i64 0)) rfl rfl rfl w).trans (by rw [hg1])) ?_
    simp only [nf0, nf1, nf2, nf3, nf4]
    refine st_mv (.bool false) ?_
    simp only [nf0, nf1, nf2, nf3, nf4]
    refine st_mv (.int .i64 i) ?_
    simp only [nf0, nf1, nf2, nf3, nf4]
    refine st_mv (.pointer (some ⟨r, 0, none⟩)) ?_
    simp only [nf0, nf1, nf2, nf3, nf4]
    refine st_call1 (v := (.int .i64 ((xs.length : Nat) : Int))) (by rfl) (c2_run_call_8_1 (.tmp 13) rfl rfl _) (len_raw hr) ?_
    intro w15 hb16
    simp only [nf0, nf1, nf2, nf3, nf4]
    replace hr := hr.below hb16
    replace hb := hb.below hb16
    replace bel := fr_step bel hb16
    clear hb16
    refine st_value (v := (.bool true)) (by rfl) ((run_gtr (.tmp 12) (.tmp 14) rfl rfl rfl w15).trans (by rw [hg5])) ?_
    simp only [nf0, nf1, nf2, nf3, nf4]
    refine st_mv (.bool true) ?_
    simp only [nf0, nf1, nf2, nf3, nf4]
    refine st_mv (.bool true) ?_
    simp only [nf0, nf1, nf2, nf3, nf4]
    refine st_nob (j := 8) (t := 17) (c := true) rfl rfl rfl rfl rfl ?_
    simp only [nf0, nf1, nf2, nf3, nf4]
    refine st_nob (j := 8) (t := 17) (c := true) rfl rfl rfl rfl rfl ?_
    simp only [nf0, nf1, nf2, nf3, nf4]
    refine st_mv (.bool true) ?_
    simp only [nf0, nf1, nf2, nf3, nf4]
    refine wpList_nil ?_
    show Code.wp _ _ _ _ _
    refine wp_cond_true rfl ?_
    refine wp_seq ?_
    refine wp_region_lit ?_
    refine st_mv (.bool false) ?_
    simp only [nf0, nf1, nf2, nf3, nf4]
    refine wpList_nil ?_
    show Code.wp _ _ _ _ _
    refine wp_ret ?_
    first | show bodyPost _ _ _ _ _ _ | (simp only [Exit.then, Exit.inBlock]; show bodyPost _ _ _ _ _ _)
    exact bodyPost_ret (results_tmp rfl _ _ _) rfl ⟨_, rfl, rfl, (⟨at_, cs, ⟨hr, hb, hne, hlen, h4, hat, hn⟩, hv⟩ : Rg _ r b N xs), bel⟩
  have hp6 := of_decide_eq_false hg5
  refine wp_region_lit ?_
  refine st_mv (.int .i64 i) ?_
  simp only [nf0, nf1, nf2, nf3, nf4]
  refine st_value (v := (.bool false)) (by rfl) ((run_lss (.tmp 9) (.const (.int .i64 0)) rfl rfl rfl w).trans (by rw [hg1])) ?_
  simp only [nf0, nf1, nf2, nf3, nf4]
  refine st_mv (.bool false) ?_
  simp only [nf0, nf1, nf2, nf3, nf4]
  refine st_mv (.int .i64 i) ?_
  simp only [nf0, nf1, nf2, nf3, nf4]
  refine st_mv (.pointer (some ⟨r, 0, none⟩)) ?_
  simp only [nf0, nf1, nf2, nf3, nf4]
  refine st_call1 (v := (.int .i64 ((xs.length : Nat) : Int))) (by rfl) (c2_run_call_8_1 (.tmp 13) rfl rfl _) (len_raw hr) ?_
  intro w7 hb8
  simp only [nf0, nf1, nf2, nf3, nf4]
  replace hr := hr.below hb8
  replace hb := hb.below hb8
  replace bel := fr_step bel hb8
  clear hb8
  refine st_value (v := (.bool false)) (by rfl) ((run_gtr (.tmp 12) (.tmp 14) rfl rfl rfl w7).trans (by rw [hg5])) ?_
  simp only [nf0, nf1, nf2, nf3, nf4]
  refine st_mv (.bool false) ?_
  simp only [nf0, nf1, nf2, nf3, nf4]
  refine st_mv (.bool false) ?_
  simp only [nf0, nf1, nf2, nf3, nf4]
  refine st_mv (.pointer (some ⟨r, 0, none⟩)) ?_
  simp only [nf0, nf1, nf2, nf3, nf4]
  refine st_call1 (v := (.bool (decide (((xs.length : Nat) : Int) = (N : Int))))) (by rfl) (c2_run_call_22_1 (.tmp 18) rfl rfl _) (full_raw hr) ?_
  intro w9 hb10
  simp only [nf0, nf1, nf2, nf3, nf4]
  replace hr := hr.below hb10
  replace hb := hb.below hb10
  replace bel := fr_step bel hb10
  clear hb10
  refine st_mv (.bool (decide (((xs.length : Nat) : Int) = (N : Int)))) ?_
  simp only [nf0, nf1, nf2, nf3, nf4]
  refine wpList_nil ?_
  show Code.wp _ _ _ _ _
  cases hg11 : decide (((xs.length : Nat) : Int) = (N : Int))
  · have hp12 := of_decide_eq_false hg11
    exfalso
    omega
  have hp13 := of_decide_eq_true hg11
  refine wp_cond_true rfl ?_
  refine wp_seq ?_
  refine wp_region_lit ?_
  refine st_mv (.bool false) ?_
  simp only [nf0, nf1, nf2, nf3, nf4]
  refine wpList_nil ?_
  show Code.wp _ _ _ _ _
  refine wp_ret ?_
  first | show bodyPost _ _ _ _ _ _ | (simp only [Exit.then, Exit.inBlock]; show bodyPost _ _ _ _ _ _)
  exact bodyPost_ret (results_tmp rfl _ _ _) rfl ⟨_, rfl, rfl, (⟨at_, cs, ⟨hr, hb, hne, hlen, h4, hat, hn⟩, hv⟩ : Rg _ r b N xs), bel⟩
end Go.Proofs.Ytdhhcjhinpmeeaa

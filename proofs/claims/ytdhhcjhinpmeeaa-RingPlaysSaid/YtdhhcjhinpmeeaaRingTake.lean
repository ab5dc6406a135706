/- ring's Take: what it does to a row's list. -/
import Derived.Test.YtdhhcjhinpmeeaaRingOps
namespace Go.Proofs.Ytdhhcjhinpmeeaa
open Go.RowKit Go.WideShapes Go.ChangeShapes
set_option linter.unusedSimpArgs false
set_option linter.unusedVariables false

theorem d0_one_3 : One Try.prog 3 := one_of Try.underlying3 rfl (by kernel_rfl)
theorem d0_fld_48_2 : FieldAt Try.prog 48 2 2 := fieldAt_of (s := 0) Try.underlying48 (by kernel_rfl)
theorem d0_fld_48_1 : FieldAt Try.prog 48 1 1 := fieldAt_of (s := 0) Try.underlying48 (by kernel_rfl)
theorem d0_fld_48_0 : FieldAt Try.prog 48 0 0 := fieldAt_of (s := 0) Try.underlying48 (by kernel_rfl)
theorem d0_one_22 : One Try.prog 22 := one_of Try.underlying22 rfl (by kernel_rfl)
theorem d0_run_call_8_1 {o : Oper} {a : Act} (x0 : Operand) {ts : Array TypeId} (ho : o.op = .call { callee := .value (.func 8), args := #[x0], argTypes := ts }) {v0 : Value} (h0 : a.eval x0 = v0) (W : World) : (execOp a.eval o).run Try.prog W = .ok (.enter 8 #[v0]) W := by
  unfold execOp
  simp only [ho]
  subst h0
  go_simp
theorem d0_run_call_23_2 {o : Oper} {a : Act} (x0 : Operand) (x1 : Operand) {ts : Array TypeId} (ho : o.op = .call { callee := .value (.func 23), args := #[x0, x1], argTypes := ts }) {v0 : Value} (h0 : a.eval x0 = v0) {v1 : Value} (h1 : a.eval x1 = v1) (W : World) : (execOp a.eval o).run Try.prog W = .ok (.enter 23 #[v0, v1]) W := by
  unfold execOp
  simp only [ho]
  subst h0 h1
  go_simp
theorem d1_one_3 : One Try.prog 3 := one_of Try.underlying3 rfl (by kernel_rfl)
theorem d1_fld_48_2 : FieldAt Try.prog 48 2 2 := fieldAt_of (s := 0) Try.underlying48 (by kernel_rfl)
theorem d1_run_call_8_1 {o : Oper} {a : Act} (x0 : Operand) {ts : Array TypeId} (ho : o.op = .call { callee := .value (.func 8), args := #[x0], argTypes := ts }) {v0 : Value} (h0 : a.eval x0 = v0) (W : World) : (execOp a.eval o).run Try.prog W = .ok (.enter 8 #[v0]) W := by
  unfold execOp
  simp only [ho]
  subst h0
  go_simp
theorem d1_run_call_23_2 {o : Oper} {a : Act} (x0 : Operand) (x1 : Operand) {ts : Array TypeId} (ho : o.op = .call { callee := .value (.func 23), args := #[x0, x1], argTypes := ts }) {v0 : Value} (h0 : a.eval x0 = v0) {v1 : Value} (h1 : a.eval x1 = v1) (W : World) : (execOp a.eval o).run Try.prog W = .ok (.enter 23 #[v0, v1]) W := by
  unfold execOp
  simp only [ho]
  subst h0 h1
  go_simp
theorem d2_run_call_8_1 {o : Oper} {a : Act} (x0 : Operand) {ts : Array TypeId} (ho : o.op = .call { callee := .value (.func 8), args := #[x0], argTypes := ts }) {v0 : Value} (h0 : a.eval x0 = v0) (W : World) : (execOp a.eval o).run Try.prog W = .ok (.enter 8 #[v0]) W := by
  unfold execOp
  simp only [ho]
  subst h0
  go_simp

attribute [local irreducible] Go.wpList Go.Code.wp
set_option maxRecDepth 100000 in
set_option maxHeartbeats 4000000 in
theorem take_low {w : World} {r b N : Nat} {xs : List Int} (h : Rg w r b N xs) {p : Nat} (hp : p < xs.length) (hw : p < xs.length / 2) : Calls Try.prog 21 #[.pointer (some ⟨r, 0, none⟩), .int .i64 (p : Int)] w fun e w' => ∃ v, e = .returned v ∧ v = .tuple #[.int .i64 (nth xs p), .bool true] ∧ Rg w' r b N (wo xs p) ∧ Fr [r, b] w w' := by
  obtain ⟨at_, cs, ⟨hr, hb, hne, hlen, h4, hat, hn⟩, hv⟩ := h
  have bel : Fr [r, b] w w := Fr.refl _ _
  have hat' : at_ < N := hat (by omega)
  have hat4 : (at_ + 1) % N < N := Nat.mod_lt _ (by omega)
  have hx := hv p (by omega)
  go_enter Try.func21, Try.ntmps21
  refine wp_seq ?_
  refine wp_region_lit ?_
  refine st_mv (.int .i64 0) ?_
  simp only [nf0, nf1, nf2, nf3, nf4]
  refine st_mv (.bool false) ?_
  simp only [nf0, nf1, nf2, nf3, nf4]
  refine wpList_nil ?_
  show Code.wp _ _ _ _ _
  refine wp_seq ?_
  refine wp_seq ?_
  cases hg1 : decide ((p : Int) < 0)
  rotate_left
  · have hp39 := of_decide_eq_true hg1
    exfalso
    omega
  have hp2 := of_decide_eq_false hg1
  refine wp_region_lit ?_
  refine st_mv (.int .i64 (p : Int)) ?_
  simp only [nf0, nf1, nf2, nf3, nf4]
  refine st_value (v := (.bool false)) (by rfl) ((run_lss (.tmp 9) (.const (.int .i64 0)) rfl rfl rfl w).trans (by rw [hg1])) ?_
  simp only [nf0, nf1, nf2, nf3, nf4]
  refine st_mv (.bool false) ?_
  simp only [nf0, nf1, nf2, nf3, nf4]
  refine st_mv (.int .i64 (p : Int)) ?_
  simp only [nf0, nf1, nf2, nf3, nf4]
  refine st_mv (.pointer (some ⟨r, 0, none⟩)) ?_
  simp only [nf0, nf1, nf2, nf3, nf4]
  refine st_call1 (v := (.int .i64 ((xs.length : Nat) : Int))) (by rfl) (d0_run_call_8_1 (.tmp 13) rfl rfl _) (len_raw hr) ?_
  intro w3 hb4
  simp only [nf0, nf1, nf2, nf3, nf4]
  replace hr := hr.below hb4
  replace hb := hb.below hb4
  replace bel := fr_step bel hb4
  clear hb4
  refine st_value (v := (.bool (decide (((xs.length : Nat) : Int) ≤ (p : Int))))) (by rfl) (run_geq (.tmp 12) (.tmp 14) rfl rfl rfl w3) ?_
  simp only [nf0, nf1, nf2, nf3, nf4]
  refine st_mv (.bool (decide (((xs.length : Nat) : Int) ≤ (p : Int)))) ?_
  simp only [nf0, nf1, nf2, nf3, nf4]
  refine wpList_nil ?_
  show Code.wp _ _ _ _ _
  cases hg5 : decide (((xs.length : Nat) : Int) ≤ (p : Int))
  rotate_left
  · have hp38 := of_decide_eq_true hg5
    exfalso
    omega
  have hp6 := of_decide_eq_false hg5
  refine wp_cond_false rfl ?_
  refine wp_skip ?_
  show Code.wp _ _ _ _ _
  refine wp_seq ?_
  refine wp_region_lit ?_
  refine st_mv (.pointer (some ⟨r, 0, none⟩)) ?_
  simp only [nf0, nf1, nf2, nf3, nf4]
  refine st_mv (.int .i64 (p : Int)) ?_
  simp only [nf0, nf1, nf2, nf3, nf4]
  refine st_call1 (v := (.pointer (some ⟨b, ((at_ + p) % N), none⟩))) (by rfl) (d0_run_call_23_2 (.tmp 18) (.tmp 19) rfl rfl rfl _) (slot_raw (at_ := at_) (i := p) hr (by omega) (by omega) (by omega) (by omega) (by omega)) ?_
  intro w7 hb8
  simp only [nf0, nf1, nf2, nf3, nf4]
  replace hr := hr.below hb8
  replace hb := hb.below hb8
  replace bel := fr_step bel hb8
  clear hb8
  refine st_value (v := (.pointer (some ⟨b, ((at_ + p) % N), none⟩))) (by rfl) (run_check (.tmp 20) rfl rfl w7) ?_
  simp only [nf0, nf1, nf2, nf3, nf4]
  refine st_value (v := (.int .i64 (nth cs ((at_ + p) % N)))) (by rfl) (run_loadB (.tmp 21) rfl d0_one_3 rfl hb (ints_get _ _ (by rw [hlen]; exact (Nat.mod_lt _ (by omega))))) ?_
  simp only [nf0, nf1, nf2, nf3, nf4]
  refine st_mv (.int .i64 (nth cs ((at_ + p) % N))) ?_
  simp only [nf0, nf1, nf2, nf3, nf4]
  refine wpList_nil ?_
  show Code.wp _ _ _ _ _
  refine wp_seq ?_
  refine wp_region_lit ?_
  refine st_mv (.int .i64 0) ?_
  simp only [nf0, nf1, nf2, nf3, nf4]
  refine wpList_nil ?_
  show Code.wp _ _ _ _ _
  refine wp_seq ?_
  refine wp_seq ?_
  refine wp_region_lit ?_
  refine st_mv (.int .i64 (p : Int)) ?_
  simp only [nf0, nf1, nf2, nf3, nf4]
  refine st_mv (.pointer (some ⟨r, 0, none⟩)) ?_
  simp only [nf0, nf1, nf2, nf3, nf4]
  refine st_value (v := (.pointer (some ⟨r, 0, none⟩))) (by rfl) (run_check (.tmp 24) rfl rfl w7) ?_
  simp only [nf0, nf1, nf2, nf3, nf4]
  refine st_value (v := (.pointer (some ⟨r, 2, none⟩))) (by rfl) (run_fieldA (.tmp 25) rfl d0_fld_48_2 rfl rfl w7) ?_
  simp only [nf0, nf1, nf2, nf3, nf4]
  refine st_value (v := (.int .i64 ((xs.length : Nat) : Int))) (by rfl) (run_loadB (.tmp 26) rfl d0_one_3 rfl hr rfl) ?_
  simp only [nf0, nf1, nf2, nf3, nf4]
  refine st_value (v := (.int .i64 (((xs.length) / 2 : Nat) : Int))) (by rfl) (run_quoN (.tmp 27) (.const (.int .i64 2)) (m := (xs.length)) (n := 2) rfl rfl rfl (by omega) (by omega) (by omega) (by omega) w7) ?_
  simp only [nf0, nf1, nf2, nf3, nf4]
  refine st_value (v := (.bool (decide ((p : Int) < (((xs.length) / 2 : Nat) : Int))))) (by rfl) (run_lss (.tmp 23) (.tmp 28) rfl rfl rfl w7) ?_
  simp only [nf0, nf1, nf2, nf3, nf4]
  refine wpList_nil ?_
  show Code.wp _ _ _ _ _
  cases hg9 : decide ((p : Int) < (((xs.length) / 2 : Nat) : Int))
  · have hp10 := of_decide_eq_false hg9
    exfalso
    omega
  have hp11 := of_decide_eq_true hg9
  refine wp_cond_true rfl ?_
  refine wp_seq ?_
  refine wp_seq ?_
  refine wp_region_lit ?_
  refine st_mv (.int .i64 (p : Int)) ?_
  simp only [nf0, nf1, nf2, nf3, nf4]
  refine st_mv (.int .i64 (p : Int)) ?_
  simp only [nf0, nf1, nf2, nf3, nf4]
  refine wpList_nil ?_
  show Code.wp _ _ _ _ _
  refine wp_block ?_
  refine wp_loop_left (fun n_ a_ wr_ => (fun J12 => ∃ (k : Nat) (c : List Int), n_ = k ∧ a_ = ⟨#[.pointer (some ⟨r, 0, none⟩), .int .i64 (p : Int), J12 2, J12 3, .int .i64 (nth cs ((at_ + p) % N)), .bool false, .int .i64 0, .int .i64 (k : Int), J12 8, J12 9, J12 10, J12 11, J12 12, J12 13, J12 14, J12 15, J12 16, J12 17, J12 18, J12 19, J12 20, J12 21, J12 22, J12 23, J12 24, J12 25, J12 26, J12 27, J12 28, J12 29, J12 30, J12 31, J12 32, J12 33, J12 34, J12 35, J12 36, J12 37, J12 38, J12 39, J12 40, J12 41, J12 42, J12 43, J12 44, J12 45, J12 46, J12 47, J12 48, J12 49, J12 50, J12 51, J12 52, J12 53, J12 54, J12 55, J12 56, J12 57, J12 58, J12 59, J12 60, J12 61, J12 62, J12 63, J12 64, J12 65, J12 66, J12 67, J12 68, J12 69, J12 70, J12 71, J12 72, J12 73, J12 74, J12 75, J12 76, J12 77, J12 78, J12 79, J12 80, J12 81, J12 82, J12 83, J12 84, J12 85, J12 86, J12 87, J12 88, J12 89, J12 90, J12 91, J12 92, J12 93, J12 94, J12 95, J12 96, J12 97, J12 98, J12 99], []⟩ ∧ Blk wr_ r #[.slice (some ⟨b, 0, none⟩) N N, .int .i64 (at_ : Int), .int .i64 ((xs.length : Nat) : Int)] 48 ∧ Blk wr_ b (ints c) 3 ∧ Fr [r, b] w wr_ ∧ (k ≤ p) ∧ (c.length = N) ∧ (Vw at_ N c xs.length (tkl xs p k))) (jk a_)) (p) ⟨p, cs, rfl, rfl, hr, hb, bel, Nat.le_refl _, hlen, (by rw [tkl_top]; exact hv)⟩ ?_
  clear hr
  clear hb
  clear bel
  intro n_ a_ w13 h_
  revert h_
  generalize jk a_ = J12
  rintro ⟨k, c, hms, rfl, hr, hb, bel, hk, hc, hvc⟩
  refine wp_seq ?_
  refine wp_seq ?_
  refine wp_region_lit ?_
  refine st_mv (.int .i64 (k : Int)) ?_
  simp only [nf0, nf1, nf2, nf3, nf4]
  refine st_value (v := (.bool (decide (0 < (k : Int))))) (by rfl) (run_gtr (.tmp 31) (.const (.int .i64 0)) rfl rfl rfl w13) ?_
  simp only [nf0, nf1, nf2, nf3, nf4]
  refine wpList_nil ?_
  show Code.wp _ _ _ _ _
  cases hg14 : decide (0 < (k : Int))
  rotate_left
  · have hp29 := of_decide_eq_true hg14
    refine wp_cond_true rfl ?_
    refine wp_skip ?_
    show Code.wp _ _ _ _ _
    refine wp_seq ?_
    refine wp_block ?_
    refine wp_region_lit ?_
    refine st_mv (.pointer (some ⟨r, 0, none⟩)) ?_
    simp only [nf0, nf1, nf2, nf3, nf4]
    refine st_mv (.int .i64 (k : Int)) ?_
    simp only [nf0, nf1, nf2, nf3, nf4]
    refine st_call1 (v := (.pointer (some ⟨b, ((at_ + k) % N), none⟩))) (by rfl) (d0_run_call_23_2 (.tmp 35) (.tmp 36) rfl rfl rfl _) (slot_raw (at_ := at_) (i := k) hr (by omega) (by omega) (by omega) (by omega) (by omega)) ?_
    intro w30 hb31
    simp only [nf0, nf1, nf2, nf3, nf4]
    replace hr := hr.below hb31
    replace hb := hb.below hb31
    replace bel := fr_step bel hb31
    clear hb31
    refine st_mv (.pointer (some ⟨r, 0, none⟩)) ?_
    simp only [nf0, nf1, nf2, nf3, nf4]
    refine st_mv (.int .i64 (k : Int)) ?_
    simp only [nf0, nf1, nf2, nf3, nf4]
    refine st_value (v := (.int .i64 ((k : Int) - 1))) (by rfl) (run_sub_in (.tmp 39) (.const (.int .i64 1)) rfl rfl rfl (by omega) w30) ?_
    simp only [nf0, nf1, nf2, nf3, nf4]
    refine st_call1 (v := (.pointer (some ⟨b, ((at_ + (k - 1)) % N), none⟩))) (by rfl) (d0_run_call_23_2 (.tmp 38) (.tmp 40) rfl rfl rfl _) (slot_raw (at_ := at_) (i := (k - 1)) hr (by omega) (by omega) (by omega) (by omega) (by omega)) ?_
    intro w32 hb33
    simp only [nf0, nf1, nf2, nf3, nf4]
    replace hr := hr.below hb33
    replace hb := hb.below hb33
    replace bel := fr_step bel hb33
    clear hb33
    refine st_value (v := (.pointer (some ⟨b, ((at_ + (k - 1)) % N), none⟩))) (by rfl) (run_check (.tmp 41) rfl rfl w32) ?_
    simp only [nf0, nf1, nf2, nf3, nf4]
    refine st_value (v := (.int .i64 (nth c ((at_ + (k - 1)) % N)))) (by rfl) (run_loadB (.tmp 42) rfl d0_one_3 rfl hb (ints_get _ _ (by rw [hc]; exact (Nat.mod_lt _ (by omega))))) ?_
    simp only [nf0, nf1, nf2, nf3, nf4]
    refine st_value (v := (.pointer (some ⟨b, ((at_ + k) % N), none⟩))) (by rfl) (run_check (.tmp 37) rfl rfl w32) ?_
    simp only [nf0, nf1, nf2, nf3, nf4]
    refine st_cell (v := (.int .i64 (nth c ((at_ + (k - 1)) % N)))) (by rfl) (run_storeB (.tmp 44) (.tmp 43) rfl d0_one_3 hb (ints_lt (by rw [hc]; exact (Nat.mod_lt _ (by omega)))) rfl rfl rfl rfl) hb ?_
    intro w34 B36 hg35
    simp only [nf0, nf1, nf2, nf3, nf4]
    replace hr := hr.kept hg35 hne
    replace bel := fr_in bel hg35 (by simp)
    clear hg35
    clear hb
    rw [ints_set] at B36
    have hl37 : (c.set ((at_ + k) % N) (nth c ((at_ + (k - 1)) % N))).length = N := by rw [List.length_set]; exact hc
    refine wpList_nil ?_
    show Code.wp _ _ _ _ _
    refine wp_region_lit ?_
    refine st_mv (.int .i64 (k : Int)) ?_
    simp only [nf0, nf1, nf2, nf3, nf4]
    refine st_value (v := (.int .i64 ((k : Int) - 1))) (by rfl) (run_sub_in (.tmp 33) (.const (.int .i64 1)) rfl rfl rfl (by omega) w34) ?_
    simp only [nf0, nf1, nf2, nf3, nf4]
    refine st_mv (.int .i64 ((k : Int) - 1)) ?_
    simp only [nf0, nf1, nf2, nf3, nf4]
    refine wpList_nil ?_
    show ∃ m, m < _ ∧ _
    exact ⟨_, (by omega), (k - 1), (c.set ((at_ + k) % N) (nth c ((at_ + (k - 1)) % N))), rfl, (by rw [show ((k - 1 : Nat) : Int) = (k : Int) - 1 by omega]; rfl), hr, B36, bel, (by omega), hl37, (vw_step hc hvc (by omega) (by omega) (by omega) (fun j _ => tkl_step xs (by omega) hk j))⟩
  have hp15 := of_decide_eq_false hg14
  refine wp_cond_false rfl ?_
  refine wp_exit ?_
  show Code.wp _ _ _ _ _
  refine wp_seq ?_
  refine wp_region_lit ?_
  refine st_mv (.pointer (some ⟨r, 0, none⟩)) ?_
  simp only [nf0, nf1, nf2, nf3, nf4]
  refine st_call1 (v := (.pointer (some ⟨b, ((at_ + 0) % N), none⟩))) (by rfl) (d0_run_call_23_2 (.tmp 45) (.const (.int .i64 0)) rfl rfl rfl _) (slot_raw (at_ := at_) (i := 0) hr (by omega) (by omega) (by omega) (by omega) (by omega)) ?_
  intro w16 hb17
  simp only [nf0, nf1, nf2, nf3, nf4]
  replace hr := hr.below hb17
  replace hb := hb.below hb17
  replace bel := fr_step bel hb17
  clear hb17
  refine st_mv (.int .i64 0) ?_
  simp only [nf0, nf1, nf2, nf3, nf4]
  refine st_value (v := (.pointer (some ⟨b, ((at_ + 0) % N), none⟩))) (by rfl) (run_check (.tmp 46) rfl rfl w16) ?_
  simp only [nf0, nf1, nf2, nf3, nf4]
  refine st_cell (v := (.int .i64 0)) (by rfl) (run_storeB (.tmp 48) (.tmp 47) rfl d0_one_3 hb (ints_lt (by rw [hc]; exact (Nat.mod_lt _ (by omega)))) rfl rfl rfl rfl) hb ?_
  intro w18 B20 hg19
  simp only [nf0, nf1, nf2, nf3, nf4]
  replace hr := hr.kept hg19 hne
  replace bel := fr_in bel hg19 (by simp)
  clear hg19
  clear hb
  rw [ints_set] at B20
  have hl21 : (c.set ((at_ + 0) % N) 0).length = N := by rw [List.length_set]; exact hc
  refine wpList_nil ?_
  show Code.wp _ _ _ _ _
  refine wp_region_facts2_lit (C := Abv w18) 12 [.val (.pointer (some ⟨r, 0, none⟩)), .val (.pointer (some ⟨r, 0, none⟩)), .val (.pointer (some ⟨r, 0, none⟩)), .val (.pointer (some ⟨r, 1, none⟩)), .val (.int .i64 (at_ : Int)), .val (.int .i64 ((at_ : Int) + 1)), .val (.pointer (some ⟨r, 0, none⟩)), .val (.pointer (some ⟨r, 0, none⟩)), .val (.pointer (some ⟨r, 0, none⟩)), .val (.slice (some ⟨b, 0, none⟩) N N), .val (.int .i64 (N : Int)), .val (.int .i64 (((at_ + 1) % N : Nat) : Int))] w18.heap.size (by kernel_rfl) (by simp) (by kernel_rfl) (by kernel_rfl) (fun _ h => h.size) (Abv.start _) ?_
  simp only [List.take_succ_cons, List.take_zero, List.drop_succ_cons, List.drop_zero]
  refine fst2_val (fun W hC _ => ok2_value (v := (.pointer (some ⟨r, 0, none⟩))) (by rfl) (by rfl) rfl hC (G0.refl _)) ?_
  simp only [nf0, nf1, nf2, nf3, nf4]
  refine fst2_val (fun W hC _ => ok2_value (v := (.pointer (some ⟨r, 0, none⟩))) (by rfl) (by rfl) rfl hC (G0.refl _)) ?_
  simp only [nf0, nf1, nf2, nf3, nf4]
  refine fst2_val (fun W hC _ => ok2_value (v := (.pointer (some ⟨r, 0, none⟩))) (by rfl) (run_check (.tmp 50) rfl rfl W) rfl hC (G0.refl _)) ?_
  simp only [nf0, nf1, nf2, nf3, nf4]
  refine fst2_val (fun W hC _ => ok2_value (v := (.pointer (some ⟨r, 1, none⟩))) (by rfl) (run_fieldA (.tmp 51) rfl d0_fld_48_1 rfl rfl W) rfl hC (G0.refl _)) ?_
  simp only [nf0, nf1, nf2, nf3, nf4]
  refine fst2_val (fun W hC _ => ok2_value (v := (.int .i64 (at_ : Int))) (by rfl) (run_loadB (.tmp 52) rfl d0_one_3 rfl (hr.below hC) rfl) rfl hC (G0.refl _)) ?_
  simp only [nf0, nf1, nf2, nf3, nf4]
  refine fst2_val (fun W hC _ => ok2_value (v := (.int .i64 ((at_ : Int) + 1))) (by rfl) (run_add_in (.tmp 53) (.const (.int .i64 1)) rfl rfl rfl (by omega) W) rfl hC (G0.refl _)) ?_
  simp only [nf0, nf1, nf2, nf3, nf4]
  refine fst2_val (fun W hC _ => ok2_value (v := (.pointer (some ⟨r, 0, none⟩))) (by rfl) (by rfl) rfl hC (G0.refl _)) ?_
  simp only [nf0, nf1, nf2, nf3, nf4]
  refine fst2_val (fun W hC _ => ok2_value (v := (.pointer (some ⟨r, 0, none⟩))) (by rfl) (run_check (.tmp 55) rfl rfl W) rfl hC (G0.refl _)) ?_
  simp only [nf0, nf1, nf2, nf3, nf4]
  refine fst2_val (fun W hC _ => ok2_value (v := (.pointer (some ⟨r, 0, none⟩))) (by rfl) (run_fieldA (.tmp 56) rfl d0_fld_48_0 rfl rfl W) rfl hC (G0.refl _)) ?_
  simp only [nf0, nf1, nf2, nf3, nf4]
  refine fst2_val (fun W hC _ => ok2_value (v := (.slice (some ⟨b, 0, none⟩) N N)) (by rfl) (run_loadB (.tmp 57) rfl d0_one_22 rfl (hr.below hC) rfl) rfl hC (G0.refl _)) ?_
  simp only [nf0, nf1, nf2, nf3, nf4]
  refine fst2_val (fun W hC _ => ok2_value (v := (.int .i64 (N : Int))) (by rfl) (run_len (.tmp 58) rfl ⟨_, Try.underlying22⟩ rfl W) rfl hC (G0.refl _)) ?_
  simp only [nf0, nf1, nf2, nf3, nf4]
  refine fst2_val (fun W hC _ => ok2_value (v := (.int .i64 (((at_ + 1) % N : Nat) : Int))) (by rfl) (run_remN (.tmp 54) (.tmp 59) (m := (at_ + 1)) (n := N) rfl rfl rfl (by omega) (by omega) W) rfl hC (G0.refl _)) ?_
  simp only [nf0, nf1, nf2, nf3, nf4]
  refine fst2_nil fun w22 hC hh hnd => ?_
  replace hC : Below w18.heap.size w18 w22 := hC
  clear hh hnd
  replace hr := hr.below hC
  replace B20 := B20.below hC
  replace bel := fr_step bel hC
  clear hC
  refine st_value (v := (.pointer (some ⟨r, 0, none⟩))) (by rfl) (run_check (.tmp 49) rfl rfl w22) ?_
  simp only [nf0, nf1, nf2, nf3, nf4]
  refine st_value (v := (.pointer (some ⟨r, 1, none⟩))) (by rfl) (run_fieldA (.tmp 61) rfl d0_fld_48_1 rfl rfl w22) ?_
  simp only [nf0, nf1, nf2, nf3, nf4]
  refine st_cell (v := (.int .i64 (((at_ + 1) % N : Nat) : Int))) (by rfl) (run_storeB (.tmp 62) (.tmp 60) rfl d0_one_3 hr (show 1 < 3 by decide) rfl rfl rfl rfl) hr ?_
  intro w23 B25 hg24
  simp only [nf0, nf1, nf2, nf3, nf4]
  replace B20 := B20.kept hg24 hne.symm
  replace bel := fr_in bel hg24 (by simp)
  clear hg24
  clear hr
  replace B25 : Blk w23 r #[.slice (some ⟨b, 0, none⟩) N N, .int .i64 (((at_ + 1) % N : Nat) : Int), .int .i64 ((xs.length : Nat) : Int)] 48 := B25
  refine wpList_nil ?_
  show Code.wp _ _ _ _ _
  refine wp_seq ?_
  refine wp_region_lit ?_
  refine st_mv (.pointer (some ⟨r, 0, none⟩)) ?_
  simp only [nf0, nf1, nf2, nf3, nf4]
  refine st_value (v := (.pointer (some ⟨r, 0, none⟩))) (by rfl) (run_check (.tmp 92) rfl rfl w23) ?_
  simp only [nf0, nf1, nf2, nf3, nf4]
  refine st_value (v := (.pointer (some ⟨r, 2, none⟩))) (by rfl) (run_fieldA (.tmp 93) rfl d0_fld_48_2 rfl rfl w23) ?_
  simp only [nf0, nf1, nf2, nf3, nf4]
  refine st_value (v := (.int .i64 ((xs.length : Nat) : Int))) (by rfl) (run_loadB (.tmp 94) rfl d0_one_3 rfl B25 rfl) ?_
  simp only [nf0, nf1, nf2, nf3, nf4]
  refine st_value (v := (.int .i64 (((xs.length : Nat) : Int) - 1))) (by rfl) (run_sub_in (.tmp 95) (.const (.int .i64 1)) rfl rfl rfl (by omega) w23) ?_
  simp only [nf0, nf1, nf2, nf3, nf4]
  refine st_value (v := (.pointer (some ⟨r, 0, none⟩))) (by rfl) (run_check (.tmp 92) rfl rfl w23) ?_
  simp only [nf0, nf1, nf2, nf3, nf4]
  refine st_value (v := (.pointer (some ⟨r, 2, none⟩))) (by rfl) (run_fieldA (.tmp 97) rfl d0_fld_48_2 rfl rfl w23) ?_
  simp only [nf0, nf1, nf2, nf3, nf4]
  refine st_cell (v := (.int .i64 (((xs.length : Nat) : Int) - 1))) (by rfl) (run_storeB (.tmp 98) (.tmp 96) rfl d0_one_3 B25 (show 2 < 3 by decide) rfl rfl rfl rfl) B25 ?_
  intro w26 B28 hg27
  simp only [nf0, nf1, nf2, nf3, nf4]
  replace B20 := B20.kept hg27 hne.symm
  replace bel := fr_in bel hg27 (by simp)
  clear hg27
  clear B25
  replace B28 : Blk w26 r #[.slice (some ⟨b, 0, none⟩) N N, .int .i64 (((at_ + 1) % N : Nat) : Int), .int .i64 (((xs.length : Nat) : Int) - 1)] 48 := B28
  refine wpList_nil ?_
  show Code.wp _ _ _ _ _
  refine wp_seq ?_
  refine wp_region_lit ?_
  refine st_mv (.int .i64 (nth cs ((at_ + p) % N))) ?_
  simp only [nf0, nf1, nf2, nf3, nf4]
  refine st_mv (.int .i64 (nth cs ((at_ + p) % N))) ?_
  simp only [nf0, nf1, nf2, nf3, nf4]
  refine st_mv (.bool true) ?_
  simp only [nf0, nf1, nf2, nf3, nf4]
  refine wpList_nil ?_
  show Code.wp _ _ _ _ _
  refine wp_ret ?_
  first | show bodyPost _ _ _ _ _ _ | (simp only [Exit.then, Exit.inBlock]; show bodyPost _ _ _ _ _ _)
  obtain rfl : k = 0 := by omega
  have hwl := wo_length hp
  refine bodyPost_ret (results_tmp2 rfl _ _ _) rfl ⟨_, rfl, ?_, Rg.mk' (at_ := ((at_ + 1) % N)) B28 B20 rfl (by omega) hne hl21 h4 (fun _ => by omega) (by omega) (vw_tkl hvc hc hn hp), bel⟩
  show Value.tuple #[.int .i64 (nth cs ((at_ + p) % N)), .bool true] = _
  rw [hx]
set_option maxRecDepth 100000 in
set_option maxHeartbeats 4000000 in
theorem take_high {w : World} {r b N : Nat} {xs : List Int} (h : Rg w r b N xs) {p : Nat} (hp : p < xs.length) (hw : ¬ p < xs.length / 2) : Calls Try.prog 21 #[.pointer (some ⟨r, 0, none⟩), .int .i64 (p : Int)] w fun e w' => ∃ v, e = .returned v ∧ v = .tuple #[.int .i64 (nth xs p), .bool true] ∧ Rg w' r b N (wo xs p) ∧ Fr [r, b] w w' := by
  obtain ⟨at_, cs, ⟨hr, hb, hne, hlen, h4, hat, hn⟩, hv⟩ := h
  have bel : Fr [r, b] w w := Fr.refl _ _
  have hat' : at_ < N := hat (by omega)
  have hat4 : (at_ + 1) % N < N := Nat.mod_lt _ (by omega)
  have hx := hv p (by omega)
  go_enter Try.func21, Try.ntmps21
  refine wp_seq ?_
  refine wp_region_lit ?_
  refine st_mv (.int .i64 0) ?_
  simp only [nf0, nf1, nf2, nf3, nf4]
  refine st_mv (.bool false) ?_
  simp only [nf0, nf1, nf2, nf3, nf4]
  refine wpList_nil ?_
  show Code.wp _ _ _ _ _
  refine wp_seq ?_
  refine wp_seq ?_
  cases hg1 : decide ((p : Int) < 0)
  rotate_left
  · have hp35 := of_decide_eq_true hg1
    exfalso
    omega
  have hp2 := of_decide_eq_false hg1
  refine wp_region_lit ?_
  refine st_mv (.int .i64 (p : Int)) ?_
  simp only [nf0, nf1, nf2, nf3, nf4]
  refine st_value (v := (.bool false)) (by rfl) ((run_lss (.tmp 9) (.const (.int .i64 0)) rfl rfl rfl w).trans (by rw [hg1])) ?_
  simp only [nf0, nf1, nf2, nf3, nf4]
  refine st_mv (.bool false) ?_
  simp only [nf0, nf1, nf2, nf3, nf4]
  refine st_mv (.int .i64 (p : Int)) ?_
  simp only [nf0, nf1, nf2, nf3, nf4]
  refine st_mv (.pointer (some ⟨r, 0, none⟩)) ?_
  simp only [nf0, nf1, nf2, nf3, nf4]
  refine st_call1 (v := (.int .i64 ((xs.length : Nat) : Int))) (by rfl) (d1_run_call_8_1 (.tmp 13) rfl rfl _) (len_raw hr) ?_
  intro w3 hb4
  simp only [nf0, nf1, nf2, nf3, nf4]
  replace hr := hr.below hb4
  replace hb := hb.below hb4
  replace bel := fr_step bel hb4
  clear hb4
  refine st_value (v := (.bool (decide (((xs.length : Nat) : Int) ≤ (p : Int))))) (by rfl) (run_geq (.tmp 12) (.tmp 14) rfl rfl rfl w3) ?_
  simp only [nf0, nf1, nf2, nf3, nf4]
  refine st_mv (.bool (decide (((xs.length : Nat) : Int) ≤ (p : Int)))) ?_
  simp only [nf0, nf1, nf2, nf3, nf4]
  refine wpList_nil ?_
  show Code.wp _ _ _ _ _
  cases hg5 : decide (((xs.length : Nat) : Int) ≤ (p : Int))
  rotate_left
  · have hp34 := of_decide_eq_true hg5
    exfalso
    omega
  have hp6 := of_decide_eq_false hg5
  refine wp_cond_false rfl ?_
  refine wp_skip ?_
  show Code.wp _ _ _ _ _
  refine wp_seq ?_
  refine wp_region_lit ?_
  refine st_mv (.pointer (some ⟨r, 0, none⟩)) ?_
  simp only [nf0, nf1, nf2, nf3, nf4]
  refine st_mv (.int .i64 (p : Int)) ?_
  simp only [nf0, nf1, nf2, nf3, nf4]
  refine st_call1 (v := (.pointer (some ⟨b, ((at_ + p) % N), none⟩))) (by rfl) (d1_run_call_23_2 (.tmp 18) (.tmp 19) rfl rfl rfl _) (slot_raw (at_ := at_) (i := p) hr (by omega) (by omega) (by omega) (by omega) (by omega)) ?_
  intro w7 hb8
  simp only [nf0, nf1, nf2, nf3, nf4]
  replace hr := hr.below hb8
  replace hb := hb.below hb8
  replace bel := fr_step bel hb8
  clear hb8
  refine st_value (v := (.pointer (some ⟨b, ((at_ + p) % N), none⟩))) (by rfl) (run_check (.tmp 20) rfl rfl w7) ?_
  simp only [nf0, nf1, nf2, nf3, nf4]
  refine st_value (v := (.int .i64 (nth cs ((at_ + p) % N)))) (by rfl) (run_loadB (.tmp 21) rfl d1_one_3 rfl hb (ints_get _ _ (by rw [hlen]; exact (Nat.mod_lt _ (by omega))))) ?_
  simp only [nf0, nf1, nf2, nf3, nf4]
  refine st_mv (.int .i64 (nth cs ((at_ + p) % N))) ?_
  simp only [nf0, nf1, nf2, nf3, nf4]
  refine wpList_nil ?_
  show Code.wp _ _ _ _ _
  refine wp_seq ?_
  refine wp_region_lit ?_
  refine st_mv (.int .i64 0) ?_
  simp only [nf0, nf1, nf2, nf3, nf4]
  refine wpList_nil ?_
  show Code.wp _ _ _ _ _
  refine wp_seq ?_
  refine wp_seq ?_
  refine wp_region_lit ?_
  refine st_mv (.int .i64 (p : Int)) ?_
  simp only [nf0, nf1, nf2, nf3, nf4]
  refine st_mv (.pointer (some ⟨r, 0, none⟩)) ?_
  simp only [nf0, nf1, nf2, nf3, nf4]
  refine st_value (v := (.pointer (some ⟨r, 0, none⟩))) (by rfl) (run_check (.tmp 24) rfl rfl w7) ?_
  simp only [nf0, nf1, nf2, nf3, nf4]
  refine st_value (v := (.pointer (some ⟨r, 2, none⟩))) (by rfl) (run_fieldA (.tmp 25) rfl d1_fld_48_2 rfl rfl w7) ?_
  simp only [nf0, nf1, nf2, nf3, nf4]
  refine st_value (v := (.int .i64 ((xs.length : Nat) : Int))) (by rfl) (run_loadB (.tmp 26) rfl d1_one_3 rfl hr rfl) ?_
  simp only [nf0, nf1, nf2, nf3, nf4]
  refine st_value (v := (.int .i64 (((xs.length) / 2 : Nat) : Int))) (by rfl) (run_quoN (.tmp 27) (.const (.int .i64 2)) (m := (xs.length)) (n := 2) rfl rfl rfl (by omega) (by omega) (by omega) (by omega) w7) ?_
  simp only [nf0, nf1, nf2, nf3, nf4]
  refine st_value (v := (.bool (decide ((p : Int) < (((xs.length) / 2 : Nat) : Int))))) (by rfl) (run_lss (.tmp 23) (.tmp 28) rfl rfl rfl w7) ?_
  simp only [nf0, nf1, nf2, nf3, nf4]
  refine wpList_nil ?_
  show Code.wp _ _ _ _ _
  cases hg9 : decide ((p : Int) < (((xs.length) / 2 : Nat) : Int))
  rotate_left
  · have hp33 := of_decide_eq_true hg9
    exfalso
    omega
  have hp10 := of_decide_eq_false hg9
  refine wp_cond_false rfl ?_
  refine wp_seq ?_
  refine wp_seq ?_
  refine wp_region_lit ?_
  refine st_mv (.int .i64 (p : Int)) ?_
  simp only [nf0, nf1, nf2, nf3, nf4]
  refine st_mv (.int .i64 (p : Int)) ?_
  simp only [nf0, nf1, nf2, nf3, nf4]
  refine wpList_nil ?_
  show Code.wp _ _ _ _ _
  refine wp_block ?_
  refine wp_loop_left (fun n_ a_ wr_ => (fun J11 => ∃ (k : Nat) (c : List Int), n_ = xs.length - 1 - k ∧ a_ = ⟨#[.pointer (some ⟨r, 0, none⟩), .int .i64 (p : Int), J11 2, J11 3, .int .i64 (nth cs ((at_ + p) % N)), .bool false, .int .i64 0, J11 7, .int .i64 (k : Int), J11 9, J11 10, J11 11, J11 12, J11 13, J11 14, J11 15, J11 16, J11 17, J11 18, J11 19, J11 20, J11 21, J11 22, J11 23, J11 24, J11 25, J11 26, J11 27, J11 28, J11 29, J11 30, J11 31, J11 32, J11 33, J11 34, J11 35, J11 36, J11 37, J11 38, J11 39, J11 40, J11 41, J11 42, J11 43, J11 44, J11 45, J11 46, J11 47, J11 48, J11 49, J11 50, J11 51, J11 52, J11 53, J11 54, J11 55, J11 56, J11 57, J11 58, J11 59, J11 60, J11 61, J11 62, J11 63, J11 64, J11 65, J11 66, J11 67, J11 68, J11 69, J11 70, J11 71, J11 72, J11 73, J11 74, J11 75, J11 76, J11 77, J11 78, J11 79, J11 80, J11 81, J11 82, J11 83, J11 84, J11 85, J11 86, J11 87, J11 88, J11 89, J11 90, J11 91, J11 92, J11 93, J11 94, J11 95, J11 96, J11 97, J11 98, J11 99], []⟩ ∧ Blk wr_ r #[.slice (some ⟨b, 0, none⟩) N N, .int .i64 (at_ : Int), .int .i64 ((xs.length : Nat) : Int)] 48 ∧ Blk wr_ b (ints c) 3 ∧ Fr [r, b] w wr_ ∧ (p ≤ k ∧ k + 1 ≤ xs.length) ∧ (c.length = N) ∧ (Vw at_ N c xs.length (tkr xs p k))) (jk a_)) (xs.length - 1 - p) ⟨p, cs, rfl, rfl, hr, hb, bel, (by omega), hlen, (by rw [tkr_low]; exact hv)⟩ ?_
  clear hr
  clear hb
  clear bel
  intro n_ a_ w12 h_
  revert h_
  generalize jk a_ = J11
  rintro ⟨k, c, hms, rfl, hr, hb, bel, hk, hc, hvc⟩
  refine wp_seq ?_
  refine wp_seq ?_
  refine wp_region_lit ?_
  refine st_mv (.int .i64 (k : Int)) ?_
  simp only [nf0, nf1, nf2, nf3, nf4]
  refine st_mv (.pointer (some ⟨r, 0, none⟩)) ?_
  simp only [nf0, nf1, nf2, nf3, nf4]
  refine st_value (v := (.pointer (some ⟨r, 0, none⟩))) (by rfl) (run_check (.tmp 65) rfl rfl w12) ?_
  simp only [nf0, nf1, nf2, nf3, nf4]
  refine st_value (v := (.pointer (some ⟨r, 2, none⟩))) (by rfl) (run_fieldA (.tmp 66) rfl d1_fld_48_2 rfl rfl w12) ?_
  simp only [nf0, nf1, nf2, nf3, nf4]
  refine st_value (v := (.int .i64 ((xs.length : Nat) : Int))) (by rfl) (run_loadB (.tmp 67) rfl d1_one_3 rfl hr rfl) ?_
  simp only [nf0, nf1, nf2, nf3, nf4]
  refine st_value (v := (.int .i64 (((xs.length : Nat) : Int) - 1))) (by rfl) (run_sub_in (.tmp 68) (.const (.int .i64 1)) rfl rfl rfl (by omega) w12) ?_
  simp only [nf0, nf1, nf2, nf3, nf4]
  refine st_value (v := (.bool (decide ((k : Int) < (((xs.length : Nat) : Int) - 1))))) (by rfl) (run_lss (.tmp 64) (.tmp 69) rfl rfl rfl w12) ?_
  simp only [nf0, nf1, nf2, nf3, nf4]
  refine wpList_nil ?_
  show Code.wp _ _ _ _ _
  cases hg13 : decide ((k : Int) < (((xs.length : Nat) : Int) - 1))
  rotate_left
  · have hp24 := of_decide_eq_true hg13
    refine wp_cond_true rfl ?_
    refine wp_skip ?_
    show Code.wp _ _ _ _ _
    refine wp_seq ?_
    refine wp_block ?_
    refine wp_region_lit ?_
    refine st_mv (.pointer (some ⟨r, 0, none⟩)) ?_
    simp only [nf0, nf1, nf2, nf3, nf4]
    refine st_mv (.int .i64 (k : Int)) ?_
    simp only [nf0, nf1, nf2, nf3, nf4]
    refine st_call1 (v := (.pointer (some ⟨b, ((at_ + k) % N), none⟩))) (by rfl) (d1_run_call_23_2 (.tmp 73) (.tmp 74) rfl rfl rfl _) (slot_raw (at_ := at_) (i := k) hr (by omega) (by omega) (by omega) (by omega) (by omega)) ?_
    intro w25 hb26
    simp only [nf0, nf1, nf2, nf3, nf4]
    replace hr := hr.below hb26
    replace hb := hb.below hb26
    replace bel := fr_step bel hb26
    clear hb26
    refine st_mv (.pointer (some ⟨r, 0, none⟩)) ?_
    simp only [nf0, nf1, nf2, nf3, nf4]
    refine st_mv (.int .i64 (k : Int)) ?_
    simp only [nf0, nf1, nf2, nf3, nf4]
    refine st_value (v := (.int .i64 ((k : Int) + 1))) (by rfl) (run_add_in (.tmp 77) (.const (.int .i64 1)) rfl rfl rfl (by omega) w25) ?_
    simp only [nf0, nf1, nf2, nf3, nf4]
    refine st_call1 (v := (.pointer (some ⟨b, ((at_ + (k + 1)) % N), none⟩))) (by rfl) (d1_run_call_23_2 (.tmp 76) (.tmp 78) rfl rfl rfl _) (slot_raw (at_ := at_) (i := (k + 1)) hr (by omega) (by omega) (by omega) (by omega) (by omega)) ?_
    intro w27 hb28
    simp only [nf0, nf1, nf2, nf3, nf4]
    replace hr := hr.below hb28
    replace hb := hb.below hb28
    replace bel := fr_step bel hb28
    clear hb28
    refine st_value (v := (.pointer (some ⟨b, ((at_ + (k + 1)) % N), none⟩))) (by rfl) (run_check (.tmp 79) rfl rfl w27) ?_
    simp only [nf0, nf1, nf2, nf3, nf4]
    refine st_value (v := (.int .i64 (nth c ((at_ + (k + 1)) % N)))) (by rfl) (run_loadB (.tmp 80) rfl d1_one_3 rfl hb (ints_get _ _ (by rw [hc]; exact (Nat.mod_lt _ (by omega))))) ?_
    simp only [nf0, nf1, nf2, nf3, nf4]
    refine st_value (v := (.pointer (some ⟨b, ((at_ + k) % N), none⟩))) (by rfl) (run_check (.tmp 75) rfl rfl w27) ?_
    simp only [nf0, nf1, nf2, nf3, nf4]
    refine st_cell (v := (.int .i64 (nth c ((at_ + (k + 1)) % N)))) (by rfl) (run_storeB (.tmp 82) (.tmp 81) rfl d1_one_3 hb (ints_lt (by rw [hc]; exact (Nat.mod_lt _ (by omega)))) rfl rfl rfl rfl) hb ?_
    intro w29 B31 hg30
    simp only [nf0, nf1, nf2, nf3, nf4]
    replace hr := hr.kept hg30 hne
    replace bel := fr_in bel hg30 (by simp)
    clear hg30
    clear hb
    rw [ints_set] at B31
    have hl32 : (c.set ((at_ + k) % N) (nth c ((at_ + (k + 1)) % N))).length = N := by rw [List.length_set]; exact hc
    refine wpList_nil ?_
    show Code.wp _ _ _ _ _
    refine wp_region_lit ?_
    refine st_mv (.int .i64 (k : Int)) ?_
    simp only [nf0, nf1, nf2, nf3, nf4]
    refine st_value (v := (.int .i64 ((k : Int) + 1))) (by rfl) (run_add_in (.tmp 71) (.const (.int .i64 1)) rfl rfl rfl (by omega) w29) ?_
    simp only [nf0, nf1, nf2, nf3, nf4]
    refine st_mv (.int .i64 ((k : Int) + 1)) ?_
    simp only [nf0, nf1, nf2, nf3, nf4]
    refine wpList_nil ?_
    show ∃ m, m < _ ∧ _
    exact ⟨_, (by omega), (k + 1), (c.set ((at_ + k) % N) (nth c ((at_ + (k + 1)) % N))), rfl, rfl, hr, B31, bel, (by omega), hl32, (vw_step hc hvc (by omega) (by omega) (by omega) (fun j _ => tkr_step xs hk.1 j))⟩
  have hp14 := of_decide_eq_false hg13
  refine wp_cond_false rfl ?_
  refine wp_exit ?_
  show Code.wp _ _ _ _ _
  refine wp_region_lit ?_
  refine st_mv (.pointer (some ⟨r, 0, none⟩)) ?_
  simp only [nf0, nf1, nf2, nf3, nf4]
  refine st_mv (.pointer (some ⟨r, 0, none⟩)) ?_
  simp only [nf0, nf1, nf2, nf3, nf4]
  refine st_value (v := (.pointer (some ⟨r, 0, none⟩))) (by rfl) (run_check (.tmp 84) rfl rfl w12) ?_
  simp only [nf0, nf1, nf2, nf3, nf4]
  refine st_value (v := (.pointer (some ⟨r, 2, none⟩))) (by rfl) (run_fieldA (.tmp 85) rfl d1_fld_48_2 rfl rfl w12) ?_
  simp only [nf0, nf1, nf2, nf3, nf4]
  refine st_value (v := (.int .i64 ((xs.length : Nat) : Int))) (by rfl) (run_loadB (.tmp 86) rfl d1_one_3 rfl hr rfl) ?_
  simp only [nf0, nf1, nf2, nf3, nf4]
  refine st_value (v := (.int .i64 (((xs.length : Nat) : Int) - 1))) (by rfl) (run_sub_in (.tmp 87) (.const (.int .i64 1)) rfl rfl rfl (by omega) w12) ?_
  simp only [nf0, nf1, nf2, nf3, nf4]
  refine st_call1 (v := (.pointer (some ⟨b, ((at_ + ((xs.length) - 1)) % N), none⟩))) (by rfl) (d1_run_call_23_2 (.tmp 83) (.tmp 88) rfl rfl rfl _) (slot_raw (at_ := at_) (i := ((xs.length) - 1)) hr (by omega) (by omega) (by omega) (by omega) (by omega)) ?_
  intro w15 hb16
  simp only [nf0, nf1, nf2, nf3, nf4]
  replace hr := hr.below hb16
  replace hb := hb.below hb16
  replace bel := fr_step bel hb16
  clear hb16
  refine st_mv (.int .i64 0) ?_
  simp only [nf0, nf1, nf2, nf3, nf4]
  refine st_value (v := (.pointer (some ⟨b, ((at_ + ((xs.length) - 1)) % N), none⟩))) (by rfl) (run_check (.tmp 89) rfl rfl w15) ?_
  simp only [nf0, nf1, nf2, nf3, nf4]
  refine st_cell (v := (.int .i64 0)) (by rfl) (run_storeB (.tmp 91) (.tmp 90) rfl d1_one_3 hb (ints_lt (by rw [hc]; exact (Nat.mod_lt _ (by omega)))) rfl rfl rfl rfl) hb ?_
  intro w17 B19 hg18
  simp only [nf0, nf1, nf2, nf3, nf4]
  replace hr := hr.kept hg18 hne
  replace bel := fr_in bel hg18 (by simp)
  clear hg18
  clear hb
  rw [ints_set] at B19
  have hl20 : (c.set ((at_ + ((xs.length) - 1)) % N) 0).length = N := by rw [List.length_set]; exact hc
  refine wpList_nil ?_
  show Code.wp _ _ _ _ _
  refine wp_seq ?_
  refine wp_region_lit ?_
  refine st_mv (.pointer (some ⟨r, 0, none⟩)) ?_
  simp only [nf0, nf1, nf2, nf3, nf4]
  refine st_value (v := (.pointer (some ⟨r, 0, none⟩))) (by rfl) (run_check (.tmp 92) rfl rfl w17) ?_
  simp only [nf0, nf1, nf2, nf3, nf4]
  refine st_value (v := (.pointer (some ⟨r, 2, none⟩))) (by rfl) (run_fieldA (.tmp 93) rfl d1_fld_48_2 rfl rfl w17) ?_
  simp only [nf0, nf1, nf2, nf3, nf4]
  refine st_value (v := (.int .i64 ((xs.length : Nat) : Int))) (by rfl) (run_loadB (.tmp 94) rfl d1_one_3 rfl hr rfl) ?_
  simp only [nf0, nf1, nf2, nf3, nf4]
  refine st_value (v := (.int .i64 (((xs.length : Nat) : Int) - 1))) (by rfl) (run_sub_in (.tmp 95) (.const (.int .i64 1)) rfl rfl rfl (by omega) w17) ?_
  simp only [nf0, nf1, nf2, nf3, nf4]
  refine st_value (v := (.pointer (some ⟨r, 0, none⟩))) (by rfl) (run_check (.tmp 92) rfl rfl w17) ?_
  simp only [nf0, nf1, nf2, nf3, nf4]
  refine st_value (v := (.pointer (some ⟨r, 2, none⟩))) (by rfl) (run_fieldA (.tmp 97) rfl d1_fld_48_2 rfl rfl w17) ?_
  simp only [nf0, nf1, nf2, nf3, nf4]
  refine st_cell (v := (.int .i64 (((xs.length : Nat) : Int) - 1))) (by rfl) (run_storeB (.tmp 98) (.tmp 96) rfl d1_one_3 hr (show 2 < 3 by decide) rfl rfl rfl rfl) hr ?_
  intro w21 B23 hg22
  simp only [nf0, nf1, nf2, nf3, nf4]
  replace B19 := B19.kept hg22 hne.symm
  replace bel := fr_in bel hg22 (by simp)
  clear hg22
  clear hr
  replace B23 : Blk w21 r #[.slice (some ⟨b, 0, none⟩) N N, .int .i64 (at_ : Int), .int .i64 (((xs.length : Nat) : Int) - 1)] 48 := B23
  refine wpList_nil ?_
  show Code.wp _ _ _ _ _
  refine wp_seq ?_
  refine wp_region_lit ?_
  refine st_mv (.int .i64 (nth cs ((at_ + p) % N))) ?_
  simp only [nf0, nf1, nf2, nf3, nf4]
  refine st_mv (.int .i64 (nth cs ((at_ + p) % N))) ?_
  simp only [nf0, nf1, nf2, nf3, nf4]
  refine st_mv (.bool true) ?_
  simp only [nf0, nf1, nf2, nf3, nf4]
  refine wpList_nil ?_
  show Code.wp _ _ _ _ _
  refine wp_ret ?_
  first | show bodyPost _ _ _ _ _ _ | (simp only [Exit.then, Exit.inBlock]; show bodyPost _ _ _ _ _ _)
  have hkm : k + 1 = xs.length := by omega
  have hwl := wo_length hp
  obtain rfl : k = xs.length - 1 := by omega
  refine bodyPost_ret (results_tmp2 rfl _ _ _) rfl ⟨_, rfl, ?_, Rg.mk' (at_ := at_) B23 B19 rfl (by omega) hne hl20 h4 (fun _ => by omega) (by omega) (vw_tkr hkm hvc hc hn hp), bel⟩
  show Value.tuple #[.int .i64 (nth cs ((at_ + p) % N)), .bool true] = _
  rw [hx]
theorem take_yes {w : World} {r b N : Nat} {xs : List Int} (h : Rg w r b N xs) {p : Nat} (hp : p < xs.length) : Calls Try.prog 21 #[.pointer (some ⟨r, 0, none⟩), .int .i64 (p : Int)] w fun e w' => ∃ v, e = .returned v ∧ v = .tuple #[.int .i64 (nth xs p), .bool true] ∧ Rg w' r b N (wo xs p) ∧ Fr [r, b] w w' := by
  by_cases hw : p < xs.length / 2
  · exact take_low h hp hw
  · exact take_high h hp hw
set_option maxRecDepth 100000 in
set_option maxHeartbeats 4000000 in
theorem take_no {w : World} {r b N : Nat} {xs : List Int} (h : Rg w r b N xs) {i : Int} (hi : i < 0 ∨ (xs.length : Int) ≤ i) : Calls Try.prog 21 #[.pointer (some ⟨r, 0, none⟩), .int .i64 i] w fun e w' => ∃ v, e = .returned v ∧ v = .tuple #[.int .i64 0, .bool false] ∧ Rg w' r b N xs ∧ Fr [r, b] w w' := by
  obtain ⟨at_, cs, ⟨hr, hb, hne, hlen, h4, hat, hn⟩, hv⟩ := h
  have bel : Fr [r, b] w w := Fr.refl _ _
  go_enter Try.func21, Try.ntmps21
  refine wp_seq ?_
  refine wp_region_lit ?_
  refine st_mv (.int .i64 0) ?_
  simp only [nf0, nf1, nf2, nf3, nf4]
  refine st_mv (.bool false) ?_
  simp only [nf0, nf1, nf2, nf3, nf4]
  refine wpList_nil ?_
  show Code.wp _ _ _ _ _
  refine wp_seq ?_
  refine wp_seq ?_
  cases hg1 : decide (i < 0)
  rotate_left
  · have hp8 := of_decide_eq_true hg1
    refine wp_region_lit ?_
    refine st_mv (.int .i64 i) ?_
    simp only [nf0, nf1, nf2, nf3, nf4]
    refine st_value (v := (.bool true)) (by rfl) ((run_lss (.tmp 9) (.const (.int .i64 0)) rfl rfl rfl w).trans (by rw [hg1])) ?_
    simp only [nf0, nf1, nf2, nf3, nf4]
    refine st_mv (.bool true) ?_
    simp only [nf0, nf1, nf2, nf3, nf4]
    refine st_nob (j := 2) (t := 11) (c := true) rfl rfl rfl rfl rfl ?_
    simp only [nf0, nf1, nf2, nf3, nf4]
    refine st_nob (j := 2) (t := 11) (c := true) rfl rfl rfl rfl rfl ?_
    simp only [nf0, nf1, nf2, nf3, nf4]
    refine st_nob (j := 2) (t := 11) (c := true) rfl rfl rfl rfl rfl ?_
    simp only [nf0, nf1, nf2, nf3, nf4]
    refine st_nob (j := 2) (t := 11) (c := true) rfl rfl rfl rfl rfl ?_
    simp only [nf0, nf1, nf2, nf3, nf4]
    refine st_mv (.bool true) ?_
    simp only [nf0, nf1, nf2, nf3, nf4]
    refine wpList_nil ?_
    show Code.wp _ _ _ _ _
    refine wp_cond_true rfl ?_
    refine wp_seq ?_
    refine wp_region_lit ?_
    refine st_mv (.int .i64 0) ?_
    simp only [nf0, nf1, nf2, nf3, nf4]
    refine st_mv (.int .i64 0) ?_
    simp only [nf0, nf1, nf2, nf3, nf4]
    refine st_mv (.bool false) ?_
    simp only [nf0, nf1, nf2, nf3, nf4]
    refine wpList_nil ?_
    show Code.wp _ _ _ _ _
    refine wp_ret ?_
    first | show bodyPost _ _ _ _ _ _ | (simp only [Exit.then, Exit.inBlock]; show bodyPost _ _ _ _ _ _)
    exact bodyPost_ret (results_tmp2 rfl _ _ _) rfl ⟨_, rfl, rfl, (⟨at_, cs, ⟨hr, hb, hne, hlen, h4, hat, hn⟩, hv⟩ : Rg _ r b N xs), bel⟩
  have hp2 := of_decide_eq_false hg1
  refine wp_region_lit ?_
  refine st_mv (.int .i64 i) ?_
  simp only [nf0, nf1, nf2, nf3, nf4]
  refine st_value (v := (.bool false)) (by rfl) ((run_lss (.tmp 9) (.const (.int .i64 0)) rfl rfl rfl w).trans (by rw [hg1])) ?_
  simp only [nf0, nf1, nf2, nf3, nf4]
  refine st_mv (.bool false) ?_
  simp only [nf0, nf1, nf2, nf3, nf4]
  refine st_mv (.int .i64 i) ?_
  simp only [nf0, nf1, nf2, nf3, nf4]
  refine st_mv (.pointer (some ⟨r, 0, none⟩)) ?_
  simp only [nf0, nf1, nf2, nf3, nf4]
  refine st_call1 (v := (.int .i64 ((xs.length : Nat) : Int))) (by rfl) (d2_run_call_8_1 (.tmp 13) rfl rfl _) (len_raw hr) ?_
  intro w3 hb4
  simp only [nf0, nf1, nf2, nf3, nf4]
  replace hr := hr.below hb4
  replace hb := hb.below hb4
  replace bel := fr_step bel hb4
  clear hb4
  refine st_value (v := (.bool (decide (((xs.length : Nat) : Int) ≤ i)))) (by rfl) (run_geq (.tmp 12) (.tmp 14) rfl rfl rfl w3) ?_
  simp only [nf0, nf1, nf2, nf3, nf4]
  refine st_mv (.bool (decide (((xs.length : Nat) : Int) ≤ i))) ?_
  simp only [nf0, nf1, nf2, nf3, nf4]
  refine wpList_nil ?_
  show Code.wp _ _ _ _ _
  cases hg5 : decide (((xs.length : Nat) : Int) ≤ i)
  · have hp6 := of_decide_eq_false hg5
    exfalso
    omega
  have hp7 := of_decide_eq_true hg5
  refine wp_cond_true rfl ?_
  refine wp_seq ?_
  refine wp_region_lit ?_
  refine st_mv (.int .i64 0) ?_
  simp only [nf0, nf1, nf2, nf3, nf4]
  refine st_mv (.int .i64 0) ?_
  simp only [nf0, nf1, nf2, nf3, nf4]
  refine st_mv (.bool false) ?_
  simp only [nf0, nf1, nf2, nf3, nf4]
  refine wpList_nil ?_
  show Code.wp _ _ _ _ _
  refine wp_ret ?_
  first | show bodyPost _ _ _ _ _ _ | (simp only [Exit.then, Exit.inBlock]; show bodyPost _ _ _ _ _ _)
  exact bodyPost_ret (results_tmp2 rfl _ _ _) rfl ⟨_, rfl, rfl, (⟨at_, cs, ⟨hr, hb, hne, hlen, h4, hat, hn⟩, hv⟩ : Rg _ r b N xs), bel⟩
end Go.Proofs.Ytdhhcjhinpmeeaa

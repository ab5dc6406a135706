/- ring's Back, Front, At: what they do to a row's list. -/
import Derived.Test.YtdhhcjhinpmeeaaRingLaw
namespace Go.Proofs.Ytdhhcjhinpmeeaa
open Go.RowKit Go.WideShapes Go.ChangeShapes
set_option linter.unusedSimpArgs false
set_option linter.unusedVariables false

theorem b0_fld_48_2 : FieldAt Try.prog 48 2 2 := fieldAt_of (s := 0) Try.underlying48 (by kernel_rfl)
theorem b0_one_3 : One Try.prog 3 := one_of Try.underlying3 rfl (by kernel_rfl)
theorem b0_run_call_22_1 {o : Oper} {a : Act} (x0 : Operand) {ts : Array TypeId} (ho : o.op = .call { callee := .value (.func 22), args := #[x0], argTypes := ts }) {v0 : Value} (h0 : a.eval x0 = v0) (W : World) : (execOp a.eval o).run Try.prog W = .ok (.enter 22 #[v0]) W := by
  unfold execOp
  simp only [ho]
  subst h0
  go_simp
theorem b0_run_call_23_2 {o : Oper} {a : Act} (x0 : Operand) (x1 : Operand) {ts : Array TypeId} (ho : o.op = .call { callee := .value (.func 23), args := #[x0, x1], argTypes := ts }) {v0 : Value} (h0 : a.eval x0 = v0) {v1 : Value} (h1 : a.eval x1 = v1) (W : World) : (execOp a.eval o).run Try.prog W = .ok (.enter 23 #[v0, v1]) W := by
  unfold execOp
  simp only [ho]
  subst h0 h1
  go_simp
theorem b1_run_call_22_1 {o : Oper} {a : Act} (x0 : Operand) {ts : Array TypeId} (ho : o.op = .call { callee := .value (.func 22), args := #[x0], argTypes := ts }) {v0 : Value} (h0 : a.eval x0 = v0) (W : World) : (execOp a.eval o).run Try.prog W = .ok (.enter 22 #[v0]) W := by
  unfold execOp
  simp only [ho]
  subst h0
  go_simp
theorem b2_fld_48_1 : FieldAt Try.prog 48 1 1 := fieldAt_of (s := 0) Try.underlying48 (by kernel_rfl)
theorem b2_one_3 : One Try.prog 3 := one_of Try.underlying3 rfl (by kernel_rfl)
theorem b2_fld_48_0 : FieldAt Try.prog 48 0 0 := fieldAt_of (s := 0) Try.underlying48 (by kernel_rfl)
theorem b2_one_22 : One Try.prog 22 := one_of Try.underlying22 rfl (by kernel_rfl)
theorem b2_fld_48_2 : FieldAt Try.prog 48 2 2 := fieldAt_of (s := 0) Try.underlying48 (by kernel_rfl)
theorem b2_run_call_22_1 {o : Oper} {a : Act} (x0 : Operand) {ts : Array TypeId} (ho : o.op = .call { callee := .value (.func 22), args := #[x0], argTypes := ts }) {v0 : Value} (h0 : a.eval x0 = v0) (W : World) : (execOp a.eval o).run Try.prog W = .ok (.enter 22 #[v0]) W := by
  unfold execOp
  simp only [ho]
  subst h0
  go_simp
theorem b2_run_call_23_2 {o : Oper} {a : Act} (x0 : Operand) (x1 : Operand) {ts : Array TypeId} (ho : o.op = .call { callee := .value (.func 23), args := #[x0, x1], argTypes := ts }) {v0 : Value} (h0 : a.eval x0 = v0) {v1 : Value} (h1 : a.eval x1 = v1) (W : World) : (execOp a.eval o).run Try.prog W = .ok (.enter 23 #[v0, v1]) W := by
  unfold execOp
  simp only [ho]
  subst h0 h1
  go_simp
theorem b3_run_call_22_1 {o : Oper} {a : Act} (x0 : Operand) {ts : Array TypeId} (ho : o.op = .call { callee := .value (.func 22), args := #[x0], argTypes := ts }) {v0 : Value} (h0 : a.eval x0 = v0) (W : World) : (execOp a.eval o).run Try.prog W = .ok (.enter 22 #[v0]) W := by
  unfold execOp
  simp only [ho]
  subst h0
  go_simp
theorem b4_one_3 : One Try.prog 3 := one_of Try.underlying3 rfl (by kernel_rfl)
theorem b4_run_call_8_1 {o : Oper} {a : Act} (x0 : Operand) {ts : Array TypeId} (ho : o.op = .call { callee := .value (.func 8), args := #[x0], argTypes := ts }) {v0 : Value} (h0 : a.eval x0 = v0) (W : World) : (execOp a.eval o).run Try.prog W = .ok (.enter 8 #[v0]) W := by
  unfold execOp
  simp only [ho]
  subst h0
  go_simp
theorem b4_run_call_23_2 {o : Oper} {a : Act} (x0 : Operand) (x1 : Operand) {ts : Array TypeId} (ho : o.op = .call { callee := .value (.func 23), args := #[x0, x1], argTypes := ts }) {v0 : Value} (h0 : a.eval x0 = v0) {v1 : Value} (h1 : a.eval x1 = v1) (W : World) : (execOp a.eval o).run Try.prog W = .ok (.enter 23 #[v0, v1]) W := by
  unfold execOp
  simp only [ho]
  subst h0 h1
  go_simp
theorem b5_run_call_8_1 {o : Oper} {a : Act} (x0 : Operand) {ts : Array TypeId} (ho : o.op = .call { callee := .value (.func 8), args := #[x0], argTypes := ts }) {v0 : Value} (h0 : a.eval x0 = v0) (W : World) : (execOp a.eval o).run Try.prog W = .ok (.enter 8 #[v0]) W := by
  unfold execOp
  simp only [ho]
  subst h0
  go_simp

attribute [local irreducible] Go.wpList Go.Code.wp
set_option maxRecDepth 100000 in
set_option maxHeartbeats 4000000 in
theorem back_yes {w : World} {r b N : Nat} {xs : List Int} (h : Rg w r b N xs) (hl : xs.length < N) (x : Int) : Calls Try.prog 10 #[.pointer (some ⟨r, 0, none⟩), .int .i64 x] w fun e w' => ∃ v, e = .returned v ∧ v = .bool true ∧ Rg w' r b N (xs ++ [x]) ∧ Fr [r, b] w w' := by
  obtain ⟨at_, cs, ⟨hr, hb, hne, hlen, h4, hat, hn⟩, hv⟩ := h
  have bel : Fr [r, b] w w := Fr.refl _ _
  have hat' : at_ < N := hat (by omega)
  go_enter Try.func10, Try.ntmps10
  refine wp_seq ?_
  refine wp_region_lit ?_
  refine st_mv (.bool false) ?_
  simp only [nf0, nf1, nf2, nf3, nf4]
  refine wpList_nil ?_
  show Code.wp _ _ _ _ _
  refine wp_seq ?_
  refine wp_seq ?_
  refine wp_region_lit ?_
  refine st_mv (.pointer (some ⟨r, 0, none⟩)) ?_
  simp only [nf0, nf1, nf2, nf3, nf4]
  refine st_call1 (v := (.bool (decide (((xs.length : Nat) : Int) = (N : Int))))) (by rfl) (b0_run_call_22_1 (.tmp 5) rfl rfl _) (full_raw hr) ?_
  intro w1 hb2
  simp only [nf0, nf1, nf2, nf3, nf4]
  replace hr := hr.below hb2
  replace hb := hb.below hb2
  replace bel := fr_step bel hb2
  clear hb2
  refine wpList_nil ?_
  show Code.wp _ _ _ _ _
  cases hg3 : decide (((xs.length : Nat) : Int) = (N : Int))
  rotate_left
  · have hp14 := of_decide_eq_true hg3
    exfalso
    omega
  have hp4 := of_decide_eq_false hg3
  refine wp_cond_false rfl ?_
  refine wp_skip ?_
  show Code.wp _ _ _ _ _
  refine wp_seq ?_
  refine wp_region_lit ?_
  refine st_mv (.pointer (some ⟨r, 0, none⟩)) ?_
  simp only [nf0, nf1, nf2, nf3, nf4]
  refine st_mv (.pointer (some ⟨r, 0, none⟩)) ?_
  simp only [nf0, nf1, nf2, nf3, nf4]
  refine st_value (v := (.pointer (some ⟨r, 0, none⟩))) (by rfl) (run_check (.tmp 8) rfl rfl w1) ?_
  simp only [nf0, nf1, nf2, nf3, nf4]
  refine st_value (v := (.pointer (some ⟨r, 2, none⟩))) (by rfl) (run_fieldA (.tmp 9) rfl b0_fld_48_2 rfl rfl w1) ?_
  simp only [nf0, nf1, nf2, nf3, nf4]
  refine st_value (v := (.int .i64 ((xs.length : Nat) : Int))) (by rfl) (run_loadB (.tmp 10) rfl b0_one_3 rfl hr rfl) ?_
  simp only [nf0, nf1, nf2, nf3, nf4]
  refine st_call1 (v := (.pointer (some ⟨b, ((at_ + (xs.length)) % N), none⟩))) (by rfl) (b0_run_call_23_2 (.tmp 7) (.tmp 11) rfl rfl rfl _) (slot_raw (at_ := at_) (i := (xs.length)) hr (by omega) (by omega) (by omega) (by omega) (by omega)) ?_
  intro w5 hb6
  simp only [nf0, nf1, nf2, nf3, nf4]
  replace hr := hr.below hb6
  replace hb := hb.below hb6
  replace bel := fr_step bel hb6
  clear hb6
  refine st_mv (.int .i64 x) ?_
  simp only [nf0, nf1, nf2, nf3, nf4]
  refine st_value (v := (.pointer (some ⟨b, ((at_ + (xs.length)) % N), none⟩))) (by rfl) (run_check (.tmp 12) rfl rfl w5) ?_
  simp only [nf0, nf1, nf2, nf3, nf4]
  refine st_cell (v := (.int .i64 x)) (by rfl) (run_storeB (.tmp 14) (.tmp 13) rfl b0_one_3 hb (ints_lt (by rw [hlen]; exact (Nat.mod_lt _ (by omega)))) rfl rfl rfl rfl) hb ?_
  intro w7 B9 hg8
  simp only [nf0, nf1, nf2, nf3, nf4]
  replace hr := hr.kept hg8 hne
  replace bel := fr_in bel hg8 (by simp)
  clear hg8
  clear hb
  rw [ints_set] at B9
  have hl10 : (cs.set ((at_ + (xs.length)) % N) x).length = N := by rw [List.length_set]; exact hlen
  refine wpList_nil ?_
  show Code.wp _ _ _ _ _
  refine wp_seq ?_
  refine wp_region_lit ?_
  refine st_mv (.pointer (some ⟨r, 0, none⟩)) ?_
  simp only [nf0, nf1, nf2, nf3, nf4]
  refine st_value (v := (.pointer (some ⟨r, 0, none⟩))) (by rfl) (run_check (.tmp 15) rfl rfl w7) ?_
  simp only [nf0, nf1, nf2, nf3, nf4]
  refine st_value (v := (.pointer (some ⟨r, 2, none⟩))) (by rfl) (run_fieldA (.tmp 16) rfl b0_fld_48_2 rfl rfl w7) ?_
  simp only [nf0, nf1, nf2, nf3, nf4]
  refine st_value (v := (.int .i64 ((xs.length : Nat) : Int))) (by rfl) (run_loadB (.tmp 17) rfl b0_one_3 rfl hr rfl) ?_
  simp only [nf0, nf1, nf2, nf3, nf4]
  refine st_value (v := (.int .i64 (((xs.length : Nat) : Int) + 1))) (by rfl) (run_add_in (.tmp 18) (.const (.int .i64 1)) rfl rfl rfl (by omega) w7) ?_
  simp only [nf0, nf1, nf2, nf3, nf4]
  refine st_value (v := (.pointer (some ⟨r, 0, none⟩))) (by rfl) (run_check (.tmp 15) rfl rfl w7) ?_
  simp only [nf0, nf1, nf2, nf3, nf4]
  refine st_value (v := (.pointer (some ⟨r, 2, none⟩))) (by rfl) (run_fieldA (.tmp 20) rfl b0_fld_48_2 rfl rfl w7) ?_
  simp only [nf0, nf1, nf2, nf3, nf4]
  refine st_cell (v := (.int .i64 (((xs.length : Nat) : Int) + 1))) (by rfl) (run_storeB (.tmp 21) (.tmp 19) rfl b0_one_3 hr (show 2 < 3 by decide) rfl rfl rfl rfl) hr ?_
  intro w11 B13 hg12
  simp only [nf0, nf1, nf2, nf3, nf4]
  replace B9 := B9.kept hg12 hne.symm
  replace bel := fr_in bel hg12 (by simp)
  clear hg12
  clear hr
  replace B13 : Blk w11 r #[.slice (some ⟨b, 0, none⟩) N N, .int .i64 (at_ : Int), .int .i64 (((xs.length : Nat) : Int) + 1)] 48 := B13
  refine wpList_nil ?_
  show Code.wp _ _ _ _ _
  refine wp_seq ?_
  refine wp_region_lit ?_
  refine st_mv (.bool true) ?_
  simp only [nf0, nf1, nf2, nf3, nf4]
  refine wpList_nil ?_
  show Code.wp _ _ _ _ _
  refine wp_ret ?_
  first | show bodyPost _ _ _ _ _ _ | (simp only [Exit.then, Exit.inBlock]; show bodyPost _ _ _ _ _ _)
  exact bodyPost_ret (results_tmp rfl _ _ _) rfl ⟨_, rfl, rfl, Rg.mk' (at_ := at_) B13 B9 (by omega) (by simp; try omega) hne hl10 h4 (by intro _; omega) (by simp; omega) (vw_snoc hv hlen hl), bel⟩
set_option maxRecDepth 100000 in
set_option maxHeartbeats 4000000 in
theorem back_no {w : World} {r b N : Nat} {xs : List Int} (h : Rg w r b N xs) (hl : N ≤ xs.length) (x : Int) : Calls Try.prog 10 #[.pointer (some ⟨r, 0, none⟩), .int .i64 x] w fun e w' => ∃ v, e = .returned v ∧ v = .bool false ∧ Rg w' r b N xs ∧ Fr [r, b] w w' := by
  obtain ⟨at_, cs, ⟨hr, hb, hne, hlen, h4, hat, hn⟩, hv⟩ := h
  have bel : Fr [r, b] w w := Fr.refl _ _
  go_enter Try.func10, Try.ntmps10
  refine wp_seq ?_
  refine wp_region_lit ?_
  refine st_mv (.bool false) ?_
  simp only [nf0, nf1, nf2, nf3, nf4]
  refine wpList_nil ?_
  show Code.wp _ _ _ _ _
  refine wp_seq ?_
  refine wp_seq ?_
  refine wp_region_lit ?_
  refine st_mv (.pointer (some ⟨r, 0, none⟩)) ?_
  simp only [nf0, nf1, nf2, nf3, nf4]
  refine st_call1 (v := (.bool (decide (((xs.length : Nat) : Int) = (N : Int))))) (by rfl) (b1_run_call_22_1 (.tmp 5) rfl rfl _) (full_raw hr) ?_
  intro w1 hb2
  simp only [nf0, nf1, nf2, nf3, nf4]
  replace hr := hr.below hb2
  replace hb := hb.below hb2
  replace bel := fr_step bel hb2
  clear hb2
  refine wpList_nil ?_
  show Code.wp _ _ _ _ _
  cases hg3 : decide (((xs.length : Nat) : Int) = (N : Int))
  · have hp4 := of_decide_eq_false hg3
    exfalso
    omega
  have hp5 := of_decide_eq_true hg3
  refine wp_cond_true rfl ?_
  refine wp_seq ?_
  refine wp_region_lit ?_
  refine st_mv (.bool false) ?_
  simp only [nf0, nf1, nf2, nf3, nf4]
  refine wpList_nil ?_
  show Code.wp _ _ _ _ _
  refine wp_ret ?_
  first | show bodyPost _ _ _ _ _ _ | (simp only [Exit.then, Exit.inBlock]; show bodyPost _ _ _ _ _ _)
  exact bodyPost_ret (results_tmp rfl _ _ _) rfl ⟨_, rfl, rfl, (⟨at_, cs, ⟨hr, hb, hne, hlen, h4, hat, hn⟩, hv⟩ : Rg _ r b N xs), bel⟩
set_option maxRecDepth 100000 in
set_option maxHeartbeats 4000000 in
theorem front_yes {w : World} {r b N : Nat} {xs : List Int} (h : Rg w r b N xs) (hl : xs.length < N) (x : Int) : Calls Try.prog 13 #[.pointer (some ⟨r, 0, none⟩), .int .i64 x] w fun e w' => ∃ v, e = .returned v ∧ v = .bool true ∧ Rg w' r b N (x :: xs) ∧ Fr [r, b] w w' := by
  obtain ⟨at_, cs, ⟨hr, hb, hne, hlen, h4, hat, hn⟩, hv⟩ := h
  have bel : Fr [r, b] w w := Fr.refl _ _
  have hat' : at_ < N := hat (by omega)
  have hat2 : (at_ + N - 1) % N < N := Nat.mod_lt _ (by omega)
  go_enter Try.func13, Try.ntmps13
  refine wp_seq ?_
  refine wp_region_lit ?_
  refine st_mv (.bool false) ?_
  simp only [nf0, nf1, nf2, nf3, nf4]
  refine wpList_nil ?_
  show Code.wp _ _ _ _ _
  refine wp_seq ?_
  refine wp_seq ?_
  refine wp_region_lit ?_
  refine st_mv (.pointer (some ⟨r, 0, none⟩)) ?_
  simp only [nf0, nf1, nf2, nf3, nf4]
  refine st_call1 (v := (.bool (decide (((xs.length : Nat) : Int) = (N : Int))))) (by rfl) (b2_run_call_22_1 (.tmp 5) rfl rfl _) (full_raw hr) ?_
  intro w1 hb2
  simp only [nf0, nf1, nf2, nf3, nf4]
  replace hr := hr.below hb2
  replace hb := hb.below hb2
  replace bel := fr_step bel hb2
  clear hb2
  refine wpList_nil ?_
  show Code.wp _ _ _ _ _
  cases hg3 : decide (((xs.length : Nat) : Int) = (N : Int))
  rotate_left
  · have hp18 := of_decide_eq_true hg3
    exfalso
    omega
  have hp4 := of_decide_eq_false hg3
  refine wp_cond_false rfl ?_
  refine wp_skip ?_
  show Code.wp _ _ _ _ _
  refine wp_seq ?_
  refine wp_region_facts2_lit (C := Abv w1) 18 [.val (.pointer (some ⟨r, 0, none⟩)), .val (.pointer (some ⟨r, 0, none⟩)), .val (.pointer (some ⟨r, 0, none⟩)), .val (.pointer (some ⟨r, 1, none⟩)), .val (.int .i64 (at_ : Int)), .val (.pointer (some ⟨r, 0, none⟩)), .val (.pointer (some ⟨r, 0, none⟩)), .val (.pointer (some ⟨r, 0, none⟩)), .val (.slice (some ⟨b, 0, none⟩) N N), .val (.int .i64 (N : Int)), .val (.int .i64 ((at_ : Int) + (N : Int))), .val (.int .i64 (((at_ : Int) + (N : Int)) - 1)), .val (.pointer (some ⟨r, 0, none⟩)), .val (.pointer (some ⟨r, 0, none⟩)), .val (.pointer (some ⟨r, 0, none⟩)), .val (.slice (some ⟨b, 0, none⟩) N N), .val (.int .i64 (N : Int)), .val (.int .i64 ((((at_ + N) - 1) % N : Nat) : Int))] w1.heap.size (by kernel_rfl) (by simp) (by kernel_rfl) (by kernel_rfl) (fun _ h => h.size) (Abv.start _) ?_
  simp only [List.take_succ_cons, List.take_zero, List.drop_succ_cons, List.drop_zero]
  refine fst2_val (fun W hC _ => ok2_value (v := (.pointer (some ⟨r, 0, none⟩))) (by rfl) (by rfl) rfl hC (G0.refl _)) ?_
  simp only [nf0, nf1, nf2, nf3, nf4]
  refine fst2_val (fun W hC _ => ok2_value (v := (.pointer (some ⟨r, 0, none⟩))) (by rfl) (by rfl) rfl hC (G0.refl _)) ?_
  simp only [nf0, nf1, nf2, nf3, nf4]
  refine fst2_val (fun W hC _ => ok2_value (v := (.pointer (some ⟨r, 0, none⟩))) (by rfl) (run_check (.tmp 8) rfl rfl W) rfl hC (G0.refl _)) ?_
  simp only [nf0, nf1, nf2, nf3, nf4]
  refine fst2_val (fun W hC _ => ok2_value (v := (.pointer (some ⟨r, 1, none⟩))) (by rfl) (run_fieldA (.tmp 9) rfl b2_fld_48_1 rfl rfl W) rfl hC (G0.refl _)) ?_
  simp only [nf0, nf1, nf2, nf3, nf4]
  refine fst2_val (fun W hC _ => ok2_value (v := (.int .i64 (at_ : Int))) (by rfl) (run_loadB (.tmp 10) rfl b2_one_3 rfl (hr.below hC) rfl) rfl hC (G0.refl _)) ?_
  simp only [nf0, nf1, nf2, nf3, nf4]
  refine fst2_val (fun W hC _ => ok2_value (v := (.pointer (some ⟨r, 0, none⟩))) (by rfl) (by rfl) rfl hC (G0.refl _)) ?_
  simp only [nf0, nf1, nf2, nf3, nf4]
  refine fst2_val (fun W hC _ => ok2_value (v := (.pointer (some ⟨r, 0, none⟩))) (by rfl) (run_check (.tmp 12) rfl rfl W) rfl hC (G0.refl _)) ?_
  simp only [nf0, nf1, nf2, nf3, nf4]
  refine fst2_val (fun W hC _ => ok2_value (v := (.pointer (some ⟨r, 0, none⟩))) (by rfl) (run_fieldA (.tmp 13) rfl b2_fld_48_0 rfl rfl W) rfl hC (G0.refl _)) ?_
  simp only [nf0, nf1, nf2, nf3, nf4]
  refine fst2_val (fun W hC _ => ok2_value (v := (.slice (some ⟨b, 0, none⟩) N N)) (by rfl) (run_loadB (.tmp 14) rfl b2_one_22 rfl (hr.below hC) rfl) rfl hC (G0.refl _)) ?_
  simp only [nf0, nf1, nf2, nf3, nf4]
  refine fst2_val (fun W hC _ => ok2_value (v := (.int .i64 (N : Int))) (by rfl) (run_len (.tmp 15) rfl ⟨_, Try.underlying22⟩ rfl W) rfl hC (G0.refl _)) ?_
  simp only [nf0, nf1, nf2, nf3, nf4]
  refine fst2_val (fun W hC _ => ok2_value (v := (.int .i64 ((at_ : Int) + (N : Int)))) (by rfl) (run_add_in (.tmp 11) (.tmp 16) rfl rfl rfl (by omega) W) rfl hC (G0.refl _)) ?_
  simp only [nf0, nf1, nf2, nf3, nf4]
  refine fst2_val (fun W hC _ => ok2_value (v := (.int .i64 (((at_ : Int) + (N : Int)) - 1))) (by rfl) (run_sub_in (.tmp 17) (.const (.int .i64 1)) rfl rfl rfl (by omega) W) rfl hC (G0.refl _)) ?_
  simp only [nf0, nf1, nf2, nf3, nf4]
  refine fst2_val (fun W hC _ => ok2_value (v := (.pointer (some ⟨r, 0, none⟩))) (by rfl) (by rfl) rfl hC (G0.refl _)) ?_
  simp only [nf0, nf1, nf2, nf3, nf4]
  refine fst2_val (fun W hC _ => ok2_value (v := (.pointer (some ⟨r, 0, none⟩))) (by rfl) (run_check (.tmp 19) rfl rfl W) rfl hC (G0.refl _)) ?_
  simp only [nf0, nf1, nf2, nf3, nf4]
  refine fst2_val (fun W hC _ => ok2_value (v := (.pointer (some ⟨r, 0, none⟩))) (by rfl) (run_fieldA (.tmp 20) rfl b2_fld_48_0 rfl rfl W) rfl hC (G0.refl _)) ?_
  simp only [nf0, nf1, nf2, nf3, nf4]
  refine fst2_val (fun W hC _ => ok2_value (v := (.slice (some ⟨b, 0, none⟩) N N)) (by rfl) (run_loadB (.tmp 21) rfl b2_one_22 rfl (hr.below hC) rfl) rfl hC (G0.refl _)) ?_
  simp only [nf0, nf1, nf2, nf3, nf4]
  refine fst2_val (fun W hC _ => ok2_value (v := (.int .i64 (N : Int))) (by rfl) (run_len (.tmp 22) rfl ⟨_, Try.underlying22⟩ rfl W) rfl hC (G0.refl _)) ?_
  simp only [nf0, nf1, nf2, nf3, nf4]
  refine fst2_val (fun W hC _ => ok2_value (v := (.int .i64 ((((at_ + N) - 1) % N : Nat) : Int))) (by rfl) (run_remN (.tmp 18) (.tmp 23) (m := ((at_ + N) - 1)) (n := N) rfl rfl rfl (by omega) (by omega) W) rfl hC (G0.refl _)) ?_
  simp only [nf0, nf1, nf2, nf3, nf4]
  refine fst2_nil fun w5 hC hh hnd => ?_
  replace hC : Below w1.heap.size w1 w5 := hC
  clear hh hnd
  replace hr := hr.below hC
  replace hb := hb.below hC
  replace bel := fr_step bel hC
  clear hC
  refine st_value (v := (.pointer (some ⟨r, 0, none⟩))) (by rfl) (run_check (.tmp 7) rfl rfl w5) ?_
  simp only [nf0, nf1, nf2, nf3, nf4]
  refine st_value (v := (.pointer (some ⟨r, 1, none⟩))) (by rfl) (run_fieldA (.tmp 25) rfl b2_fld_48_1 rfl rfl w5) ?_
  simp only [nf0, nf1, nf2, nf3, nf4]
  refine st_cell (v := (.int .i64 ((((at_ + N) - 1) % N : Nat) : Int))) (by rfl) (run_storeB (.tmp 26) (.tmp 24) rfl b2_one_3 hr (show 1 < 3 by decide) rfl rfl rfl rfl) hr ?_
  intro w6 B8 hg7
  simp only [nf0, nf1, nf2, nf3, nf4]
  replace hb := hb.kept hg7 hne.symm
  replace bel := fr_in bel hg7 (by simp)
  clear hg7
  clear hr
  replace B8 : Blk w6 r #[.slice (some ⟨b, 0, none⟩) N N, .int .i64 ((((at_ + N) - 1) % N : Nat) : Int), .int .i64 ((xs.length : Nat) : Int)] 48 := B8
  refine wpList_nil ?_
  show Code.wp _ _ _ _ _
  refine wp_seq ?_
  refine wp_region_lit ?_
  refine st_mv (.pointer (some ⟨r, 0, none⟩)) ?_
  simp only [nf0, nf1, nf2, nf3, nf4]
  refine st_value (v := (.pointer (some ⟨r, 0, none⟩))) (by rfl) (run_check (.tmp 27) rfl rfl w6) ?_
  simp only [nf0, nf1, nf2, nf3, nf4]
  refine st_value (v := (.pointer (some ⟨r, 2, none⟩))) (by rfl) (run_fieldA (.tmp 28) rfl b2_fld_48_2 rfl rfl w6) ?_
  simp only [nf0, nf1, nf2, nf3, nf4]
  refine st_value (v := (.int .i64 ((xs.length : Nat) : Int))) (by rfl) (run_loadB (.tmp 29) rfl b2_one_3 rfl B8 rfl) ?_
  simp only [nf0, nf1, nf2, nf3, nf4]
  refine st_value (v := (.int .i64 (((xs.length : Nat) : Int) + 1))) (by rfl) (run_add_in (.tmp 30) (.const (.int .i64 1)) rfl rfl rfl (by omega) w6) ?_
  simp only [nf0, nf1, nf2, nf3, nf4]
  refine st_value (v := (.pointer (some ⟨r, 0, none⟩))) (by rfl) (run_check (.tmp 27) rfl rfl w6) ?_
  simp only [nf0, nf1, nf2, nf3, nf4]
  refine st_value (v := (.pointer (some ⟨r, 2, none⟩))) (by rfl) (run_fieldA (.tmp 32) rfl b2_fld_48_2 rfl rfl w6) ?_
  simp only [nf0, nf1, nf2, nf3, nf4]
  refine st_cell (v := (.int .i64 (((xs.length : Nat) : Int) + 1))) (by rfl) (run_storeB (.tmp 33) (.tmp 31) rfl b2_one_3 B8 (show 2 < 3 by decide) rfl rfl rfl rfl) B8 ?_
  intro w9 B11 hg10
  simp only [nf0, nf1, nf2, nf3, nf4]
  replace hb := hb.kept hg10 hne.symm
  replace bel := fr_in bel hg10 (by simp)
  clear hg10
  clear B8
  replace B11 : Blk w9 r #[.slice (some ⟨b, 0, none⟩) N N, .int .i64 ((((at_ + N) - 1) % N : Nat) : Int), .int .i64 (((xs.length : Nat) : Int) + 1)] 48 := B11
  refine wpList_nil ?_
  show Code.wp _ _ _ _ _
  refine wp_seq ?_
  refine wp_region_lit ?_
  refine st_mv (.pointer (some ⟨r, 0, none⟩)) ?_
  simp only [nf0, nf1, nf2, nf3, nf4]
  refine st_call1 (v := (.pointer (some ⟨b, (((((at_ + N) - 1) % N) + 0) % N), none⟩))) (by rfl) (b2_run_call_23_2 (.tmp 34) (.const (.int .i64 0)) rfl rfl rfl _) (slot_raw (at_ := (((at_ + N) - 1) % N)) (i := 0) B11 (by omega) (by omega) (by omega) (by omega) (by omega)) ?_
  intro w12 hb13
  simp only [nf0, nf1, nf2, nf3, nf4]
  replace B11 := B11.below hb13
  replace hb := hb.below hb13
  replace bel := fr_step bel hb13
  clear hb13
  refine st_mv (.int .i64 x) ?_
  simp only [nf0, nf1, nf2, nf3, nf4]
  refine st_value (v := (.pointer (some ⟨b, (((((at_ + N) - 1) % N) + 0) % N), none⟩))) (by rfl) (run_check (.tmp 35) rfl rfl w12) ?_
  simp only [nf0, nf1, nf2, nf3, nf4]
  refine st_cell (v := (.int .i64 x)) (by rfl) (run_storeB (.tmp 37) (.tmp 36) rfl b2_one_3 hb (ints_lt (by rw [hlen]; exact (Nat.mod_lt _ (by omega)))) rfl rfl rfl rfl) hb ?_
  intro w14 B16 hg15
  simp only [nf0, nf1, nf2, nf3, nf4]
  replace B11 := B11.kept hg15 hne
  replace bel := fr_in bel hg15 (by simp)
  clear hg15
  clear hb
  rw [ints_set] at B16
  have hl17 : (cs.set (((((at_ + N) - 1) % N) + 0) % N) x).length = N := by rw [List.length_set]; exact hlen
  refine wpList_nil ?_
  show Code.wp _ _ _ _ _
  refine wp_seq ?_
  refine wp_region_lit ?_
  refine st_mv (.bool true) ?_
  simp only [nf0, nf1, nf2, nf3, nf4]
  refine wpList_nil ?_
  show Code.wp _ _ _ _ _
  refine wp_ret ?_
  first | show bodyPost _ _ _ _ _ _ | (simp only [Exit.then, Exit.inBlock]; show bodyPost _ _ _ _ _ _)
  exact bodyPost_ret (results_tmp rfl _ _ _) rfl ⟨_, rfl, rfl, Rg.mk' (at_ := ((at_ + N - 1) % N)) B11 B16 (by omega) (by simp; try omega) hne hl17 h4 (by intro _; omega) (by simp; omega) (vw_cons hv hlen hl hat'), bel⟩
set_option maxRecDepth 100000 in
set_option maxHeartbeats 4000000 in
theorem front_no {w : World} {r b N : Nat} {xs : List Int} (h : Rg w r b N xs) (hl : N ≤ xs.length) (x : Int) : Calls Try.prog 13 #[.pointer (some ⟨r, 0, none⟩), .int .i64 x] w fun e w' => ∃ v, e = .returned v ∧ v = .bool false ∧ Rg w' r b N xs ∧ Fr [r, b] w w' := by
  obtain ⟨at_, cs, ⟨hr, hb, hne, hlen, h4, hat, hn⟩, hv⟩ := h
  have bel : Fr [r, b] w w := Fr.refl _ _
  go_enter Try.func13, Try.ntmps13
  refine wp_seq ?_
  refine wp_region_lit ?_
  refine st_mv (.bool false) ?_
  simp only [nf0, nf1, nf2, nf3, nf4]
  refine wpList_nil ?_
  show Code.wp _ _ _ _ _
  refine wp_seq ?_
  refine wp_seq ?_
  refine wp_region_lit ?_
  refine st_mv (.pointer (some ⟨r, 0, none⟩)) ?_
  simp only [nf0, nf1, nf2, nf3, nf4]
  refine st_call1 (v := (.bool (decide (((xs.length : Nat) : Int) = (N : Int))))) (by rfl) (b3_run_call_22_1 (.tmp 5) rfl rfl _) (full_raw hr) ?_
  intro w1 hb2
  simp only [nf0, nf1, nf2, nf3, nf4]
  replace hr := hr.below hb2
  replace hb := hb.below hb2
  replace bel := fr_step bel hb2
  clear hb2
  refine wpList_nil ?_
  show Code.wp _ _ _ _ _
  cases hg3 : decide (((xs.length : Nat) : Int) = (N : Int))
  · have hp4 := of_decide_eq_false hg3
    exfalso
    omega
  have hp5 := of_decide_eq_true hg3
  refine wp_cond_true rfl ?_
  refine wp_seq ?_
  refine wp_region_lit ?_
  refine st_mv (.bool false) ?_
  simp only [nf0, nf1, nf2, nf3, nf4]
  refine wpList_nil ?_
  show Code.wp _ _ _ _ _
  refine wp_ret ?_
  first | show bodyPost _ _ _ _ _ _ | (simp only [Exit.then, Exit.inBlock]; show bodyPost _ _ _ _ _ _)
  exact bodyPost_ret (results_tmp rfl _ _ _) rfl ⟨_, rfl, rfl, (⟨at_, cs, ⟨hr, hb, hne, hlen, h4, hat, hn⟩, hv⟩ : Rg _ r b N xs), bel⟩
set_option maxRecDepth 100000 in
set_option maxHeartbeats 4000000 in
theorem at_yes {w : World} {r b N : Nat} {xs : List Int} (h : Rg w r b N xs) {p : Nat} (hp : p < xs.length) : Calls Try.prog 20 #[.pointer (some ⟨r, 0, none⟩), .int .i64 (p : Int)] w fun e w' => ∃ v, e = .returned v ∧ v = .tuple #[.int .i64 (nth xs p), .bool true] ∧ Below w.heap.size w w' := by
  obtain ⟨at_, cs, ⟨hr, hb, hne, hlen, h4, hat, hn⟩, hv⟩ := h
  have bel : Below w.heap.size w w := Below.refl _ _
  have hat' : at_ < N := hat (by omega)
  go_enter Try.func20, Try.ntmps20
  refine wp_seq ?_
  refine wp_region_lit ?_
  refine st_mv (.int .i64 0) ?_
  simp only [nf0, nf1, nf2, nf3, nf4]
  refine st_mv (.bool false) ?_
  simp only [nf0, nf1, nf2, nf3, nf4]
  refine wpList_nil ?_
  show Code.wp _ _ _ _ _
  refine wp_seq ?_
  refine wp_seq ?_
  cases hg1 : decide ((p : Int) < 0)
  rotate_left
  · have hp10 := of_decide_eq_true hg1
    exfalso
    omega
  have hp2 := of_decide_eq_false hg1
  refine wp_region_lit ?_
  refine st_mv (.int .i64 (p : Int)) ?_
  simp only [nf0, nf1, nf2, nf3, nf4]
  refine st_value (v := (.bool false)) (by rfl) ((run_lss (.tmp 6) (.const (.int .i64 0)) rfl rfl rfl w).trans (by rw [hg1])) ?_
  simp only [nf0, nf1, nf2, nf3, nf4]
  refine st_mv (.bool false) ?_
  simp only [nf0, nf1, nf2, nf3, nf4]
  refine st_mv (.int .i64 (p : Int)) ?_
  simp only [nf0, nf1, nf2, nf3, nf4]
  refine st_mv (.pointer (some ⟨r, 0, none⟩)) ?_
  simp only [nf0, nf1, nf2, nf3, nf4]
  refine st_call1 (v := (.int .i64 ((xs.length : Nat) : Int))) (by rfl) (b4_run_call_8_1 (.tmp 10) rfl rfl _) (len_raw hr) ?_
  intro w3 hb4
  simp only [nf0, nf1, nf2, nf3, nf4]
  replace hr := hr.below hb4
  replace hb := hb.below hb4
  replace bel := bl_step bel hb4
  clear hb4
  refine st_value (v := (.bool (decide (((xs.length : Nat) : Int) ≤ (p : Int))))) (by rfl) (run_geq (.tmp 9) (.tmp 11) rfl rfl rfl w3) ?_
  simp only [nf0, nf1, nf2, nf3, nf4]
  refine st_mv (.bool (decide (((xs.length : Nat) : Int) ≤ (p : Int)))) ?_
  simp only [nf0, nf1, nf2, nf3, nf4]
  refine wpList_nil ?_
  show Code.wp _ _ _ _ _
  cases hg5 : decide (((xs.length : Nat) : Int) ≤ (p : Int))
  rotate_left
  · have hp9 := of_decide_eq_true hg5
    exfalso
    omega
  have hp6 := of_decide_eq_false hg5
  refine wp_cond_false rfl ?_
  refine wp_skip ?_
  show Code.wp _ _ _ _ _
  refine wp_seq ?_
  refine wp_region_lit ?_
  refine st_mv (.pointer (some ⟨r, 0, none⟩)) ?_
  simp only [nf0, nf1, nf2, nf3, nf4]
  refine st_mv (.int .i64 (p : Int)) ?_
  simp only [nf0, nf1, nf2, nf3, nf4]
  refine st_call1 (v := (.pointer (some ⟨b, ((at_ + p) % N), none⟩))) (by rfl) (b4_run_call_23_2 (.tmp 15) (.tmp 16) rfl rfl rfl _) (slot_raw (at_ := at_) (i := p) hr (by omega) (by omega) (by omega) (by omega) (by omega)) ?_
  intro w7 hb8
  simp only [nf0, nf1, nf2, nf3, nf4]
  replace hr := hr.below hb8
  replace hb := hb.below hb8
  replace bel := bl_step bel hb8
  clear hb8
  refine st_value (v := (.pointer (some ⟨b, ((at_ + p) % N), none⟩))) (by rfl) (run_check (.tmp 17) rfl rfl w7) ?_
  simp only [nf0, nf1, nf2, nf3, nf4]
  refine st_value (v := (.int .i64 (nth cs ((at_ + p) % N)))) (by rfl) (run_loadB (.tmp 18) rfl b4_one_3 rfl hb (ints_get _ _ (by rw [hlen]; exact (Nat.mod_lt _ (by omega))))) ?_
  simp only [nf0, nf1, nf2, nf3, nf4]
  refine st_mv (.int .i64 (nth cs ((at_ + p) % N))) ?_
  simp only [nf0, nf1, nf2, nf3, nf4]
  refine st_mv (.bool true) ?_
  simp only [nf0, nf1, nf2, nf3, nf4]
  refine wpList_nil ?_
  show Code.wp _ _ _ _ _
  refine wp_ret ?_
  first | show bodyPost _ _ _ _ _ _ | (simp only [Exit.then, Exit.inBlock]; show bodyPost _ _ _ _ _ _)
  refine bodyPost_ret (results_tmp2 rfl _ _ _) rfl ⟨_, rfl, ?_, bel⟩
  show Value.tuple #[.int .i64 (nth cs ((at_ + p) % N)), .bool true] = _
  rw [hv p (by omega)]
set_option maxRecDepth 100000 in
set_option maxHeartbeats 4000000 in
theorem at_no {w : World} {r b N : Nat} {xs : List Int} (h : Rg w r b N xs) {i : Int} (hi : i < 0 ∨ (xs.length : Int) ≤ i) : Calls Try.prog 20 #[.pointer (some ⟨r, 0, none⟩), .int .i64 i] w fun e w' => ∃ v, e = .returned v ∧ v = .tuple #[.int .i64 0, .bool false] ∧ Below w.heap.size w w' := by
  obtain ⟨at_, cs, ⟨hr, hb, hne, hlen, h4, hat, hn⟩, hv⟩ := h
  have bel : Below w.heap.size w w := Below.refl _ _
  go_enter Try.func20, Try.ntmps20
  refine wp_seq ?_
  refine wp_region_lit ?_
  refine st_mv (.int .i64 0) ?_
  simp only [nf0, nf1, nf2, nf3, nf4]
  refine st_mv (.bool false) ?_
  simp only [nf0, nf1, nf2, nf3, nf4]
  refine wpList_nil ?_
  show Code.wp _ _ _ _ _
  refine wp_seq ?_
  refine wp_seq ?_
  cases hg1 : decide (i < 0)
  rotate_left
  · have hp8 := of_decide_eq_true hg1
    refine wp_region_lit ?_
    refine st_mv (.int .i64 i) ?_
    simp only [nf0, nf1, nf2, nf3, nf4]
    refine st_value (v := (.bool true)) (by rfl) ((run_lss (.tmp 6) (.const (.int .i64 0)) rfl rfl rfl w).trans (by rw [hg1])) ?_
    simp only [nf0, nf1, nf2, nf3, nf4]
    refine st_mv (.bool true) ?_
    simp only [nf0, nf1, nf2, nf3, nf4]
    refine st_nob (j := 2) (t := 8) (c := true) rfl rfl rfl rfl rfl ?_
    simp only [nf0, nf1, nf2, nf3, nf4]
    refine st_nob (j := 2) (t := 8) (c := true) rfl rfl rfl rfl rfl ?_
    simp only [nf0, nf1, nf2, nf3, nf4]
    refine st_nob (j := 2) (t := 8) (c := true) rfl rfl rfl rfl rfl ?_
    simp only [nf0, nf1, nf2, nf3, nf4]
    refine st_nob (j := 2) (t := 8) (c := true) rfl rfl rfl rfl rfl ?_
    simp only [nf0, nf1, nf2, nf3, nf4]
    refine st_mv (.bool true) ?_
    simp only [nf0, nf1, nf2, nf3, nf4]
    refine wpList_nil ?_
    show Code.wp _ _ _ _ _
    refine wp_cond_true rfl ?_
    refine wp_seq ?_
    refine wp_region_lit ?_
    refine st_mv (.int .i64 0) ?_
    simp only [nf0, nf1, nf2, nf3, nf4]
    refine st_mv (.int .i64 0) ?_
    simp only [nf0, nf1, nf2, nf3, nf4]
    refine st_mv (.bool false) ?_
    simp only [nf0, nf1, nf2, nf3, nf4]
    refine wpList_nil ?_
    show Code.wp _ _ _ _ _
    refine wp_ret ?_
    first | show bodyPost _ _ _ _ _ _ | (simp only [Exit.then, Exit.inBlock]; show bodyPost _ _ _ _ _ _)
    exact bodyPost_ret (results_tmp2 rfl _ _ _) rfl ⟨_, rfl, rfl, bel⟩
  have hp2 := of_decide_eq_false hg1
  refine wp_region_lit ?_
  refine st_mv (.int .i64 i) ?_
  simp only [nf0, nf1, nf2, nf3, nf4]
  refine st_value (v := (.bool false)) (by rfl) ((run_lss (.tmp 6) (.const (.int .i64 0)) rfl rfl rfl w).trans (by rw [hg1])) ?_
  simp only [nf0, nf1, nf2, nf3, nf4]
  refine st_mv (.bool false) ?_
  simp only [nf0, nf1, nf2, nf3, nf4]
  refine st_mv (.int .i64 i) ?_
  simp only [nf0, nf1, nf2, nf3, nf4]
  refine st_mv (.pointer (some ⟨r, 0, none⟩)) ?_
  simp only [nf0, nf1, nf2, nf3, nf4]
  refine st_call1 (v := (.int .i64 ((xs.length : Nat) : Int))) (by rfl) (b5_run_call_8_1 (.tmp 10) rfl rfl _) (len_raw hr) ?_
  intro w3 hb4
  simp only [nf0, nf1, nf2, nf3, nf4]
  replace hr := hr.below hb4
  replace hb := hb.below hb4
  replace bel := bl_step bel hb4
  clear hb4
  refine st_value (v := (.bool (decide (((xs.length : Nat) : Int) ≤ i)))) (by rfl) (run_geq (.tmp 9) (.tmp 11) rfl rfl rfl w3) ?_
  simp only [nf0, nf1, nf2, nf3, nf4]
  refine st_mv (.bool (decide (((xs.length : Nat) : Int) ≤ i))) ?_
  simp only [nf0, nf1, nf2, nf3, nf4]
  refine wpList_nil ?_
  show Code.wp _ _ _ _ _
  cases hg5 : decide (((xs.length : Nat) : Int) ≤ i)
  · have hp6 := of_decide_eq_false hg5
    exfalso
    omega
  have hp7 := of_decide_eq_true hg5
  refine wp_cond_true rfl ?_
  refine wp_seq ?_
  refine wp_region_lit ?_
  refine st_mv (.int .i64 0) ?_
  simp only [nf0, nf1, nf2, nf3, nf4]
  refine st_mv (.int .i64 0) ?_
  simp only [nf0, nf1, nf2, nf3, nf4]
  refine st_mv (.bool false) ?_
  simp only [nf0, nf1, nf2, nf3, nf4]
  refine wpList_nil ?_
  show Code.wp _ _ _ _ _
  refine wp_ret ?_
  first | show bodyPost _ _ _ _ _ _ | (simp only [Exit.then, Exit.inBlock]; show bodyPost _ _ _ _ _ _)
  exact bodyPost_ret (results_tmp2 rfl _ _ _) rfl ⟨_, rfl, rfl, bel⟩
end Go.Proofs.Ytdhhcjhinpmeeaa

/- What ring's small functions read: Len, Room, full, slot. -/
import Derived.Test.YtdhhcjhinpmeeaaRing
namespace Go.Proofs.Ytdhhcjhinpmeeaa
open Go.RowKit Go.WideShapes Go.ChangeShapes
set_option linter.unusedSimpArgs false
set_option linter.unusedVariables false

theorem a1_fld_48_2 : FieldAt Try.prog 48 2 2 := fieldAt_of (s := 0) Try.underlying48 (by kernel_rfl)
theorem a1_one_3 : One Try.prog 3 := one_of Try.underlying3 rfl (by kernel_rfl)
theorem a3_fld_48_0 : FieldAt Try.prog 48 0 0 := fieldAt_of (s := 0) Try.underlying48 (by kernel_rfl)
theorem a3_one_22 : One Try.prog 22 := one_of Try.underlying22 rfl (by kernel_rfl)
theorem a4_run_call_8_1 {o : Oper} {a : Act} (x0 : Operand) {ts : Array TypeId} (ho : o.op = .call { callee := .value (.func 8), args := #[x0], argTypes := ts }) {v0 : Value} (h0 : a.eval x0 = v0) (W : World) : (execOp a.eval o).run Try.prog W = .ok (.enter 8 #[v0]) W := by
  unfold execOp
  simp only [ho]
  subst h0
  go_simp
theorem a4_run_call_16_1 {o : Oper} {a : Act} (x0 : Operand) {ts : Array TypeId} (ho : o.op = .call { callee := .value (.func 16), args := #[x0], argTypes := ts }) {v0 : Value} (h0 : a.eval x0 = v0) (W : World) : (execOp a.eval o).run Try.prog W = .ok (.enter 16 #[v0]) W := by
  unfold execOp
  simp only [ho]
  subst h0
  go_simp
theorem a5_run_call_8_1 {o : Oper} {a : Act} (x0 : Operand) {ts : Array TypeId} (ho : o.op = .call { callee := .value (.func 8), args := #[x0], argTypes := ts }) {v0 : Value} (h0 : a.eval x0 = v0) (W : World) : (execOp a.eval o).run Try.prog W = .ok (.enter 8 #[v0]) W := by
  unfold execOp
  simp only [ho]
  subst h0
  go_simp
theorem a5_run_call_16_1 {o : Oper} {a : Act} (x0 : Operand) {ts : Array TypeId} (ho : o.op = .call { callee := .value (.func 16), args := #[x0], argTypes := ts }) {v0 : Value} (h0 : a.eval x0 = v0) (W : World) : (execOp a.eval o).run Try.prog W = .ok (.enter 16 #[v0]) W := by
  unfold execOp
  simp only [ho]
  subst h0
  go_simp
theorem a6_fld_48_0 : FieldAt Try.prog 48 0 0 := fieldAt_of (s := 0) Try.underlying48 (by kernel_rfl)
theorem a6_one_22 : One Try.prog 22 := one_of Try.underlying22 rfl (by kernel_rfl)
theorem a6_fld_48_1 : FieldAt Try.prog 48 1 1 := fieldAt_of (s := 0) Try.underlying48 (by kernel_rfl)
theorem a6_one_3 : One Try.prog 3 := one_of Try.underlying3 rfl (by kernel_rfl)

attribute [local irreducible] Go.wpList Go.Code.wp
set_option maxRecDepth 100000 in
set_option maxHeartbeats 4000000 in
theorem len_nil (w : World) : Calls Try.prog 8 #[.pointer none] w fun e w' => e = .returned (.int .i64 0) ∧ Below w.heap.size w w' := by
  have bel : Below w.heap.size w w := Below.refl _ _
  go_enter Try.func8, Try.ntmps8
  refine wp_seq ?_
  refine wp_region_lit ?_
  refine st_mv (.int .i64 0) ?_
  simp only [nf0, nf1, nf2, nf3, nf4]
  refine wpList_nil ?_
  show Code.wp _ _ _ _ _
  refine wp_seq ?_
  refine wp_seq ?_
  refine wp_region_lit ?_
  refine st_mv (.pointer none) ?_
  simp only [nf0, nf1, nf2, nf3, nf4]
  refine st_value (v := (.bool true)) (by rfl) (run_eqnil (.tmp 3) (.const (.pointer none)) rfl Try.underlying23 (p := none) (b := true) rfl rfl rfl w) ?_
  simp only [nf0, nf1, nf2, nf3, nf4]
  refine wpList_nil ?_
  show Code.wp _ _ _ _ _
  refine wp_cond_true rfl ?_
  refine wp_seq ?_
  refine wp_region_lit ?_
  refine st_mv (.int .i64 0) ?_
  simp only [nf0, nf1, nf2, nf3, nf4]
  refine wpList_nil ?_
  show Code.wp _ _ _ _ _
  refine wp_ret ?_
  first | show bodyPost _ _ _ _ _ _ | (simp only [Exit.then, Exit.inBlock]; show bodyPost _ _ _ _ _ _)
  exact bodyPost_ret (results_tmp rfl _ _ _) rfl ⟨rfl, bel⟩
set_option maxRecDepth 100000 in
set_option maxHeartbeats 4000000 in
theorem len_raw {w : World} {r b N at_ n : Nat} (hr : Blk w r #[.slice (some ⟨b, 0, none⟩) N N, .int .i64 (at_ : Int), .int .i64 (n : Int)] 48) : Calls Try.prog 8 #[.pointer (some ⟨r, 0, none⟩)] w fun e w' => e = .returned (.int .i64 (n : Int)) ∧ Below w.heap.size w w' := by
  have bel : Below w.heap.size w w := Below.refl _ _
  go_enter Try.func8, Try.ntmps8
  refine wp_seq ?_
  refine wp_region_lit ?_
  refine st_mv (.int .i64 0) ?_
  simp only [nf0, nf1, nf2, nf3, nf4]
  refine wpList_nil ?_
  show Code.wp _ _ _ _ _
  refine wp_seq ?_
  refine wp_seq ?_
  refine wp_region_lit ?_
  refine st_mv (.pointer (some ⟨r, 0, none⟩)) ?_
  simp only [nf0, nf1, nf2, nf3, nf4]
  refine st_value (v := (.bool false)) (by rfl) (run_eqnil (.tmp 3) (.const (.pointer none)) rfl Try.underlying23 (p := some ⟨r, 0, none⟩) (b := false) rfl rfl rfl w) ?_
  simp only [nf0, nf1, nf2, nf3, nf4]
  refine wpList_nil ?_
  show Code.wp _ _ _ _ _
  refine wp_cond_false rfl ?_
  refine wp_skip ?_
  show Code.wp _ _ _ _ _
  refine wp_seq ?_
  refine wp_region_lit ?_
  refine st_mv (.pointer (some ⟨r, 0, none⟩)) ?_
  simp only [nf0, nf1, nf2, nf3, nf4]
  refine st_value (v := (.pointer (some ⟨r, 0, none⟩))) (by rfl) (run_check (.tmp 5) rfl rfl w) ?_
  simp only [nf0, nf1, nf2, nf3, nf4]
  refine st_value (v := (.pointer (some ⟨r, 2, none⟩))) (by rfl) (run_fieldA (.tmp 6) rfl a1_fld_48_2 rfl rfl w) ?_
  simp only [nf0, nf1, nf2, nf3, nf4]
  refine st_value (v := (.int .i64 (n : Int))) (by rfl) (run_loadB (.tmp 7) rfl a1_one_3 rfl hr rfl) ?_
  simp only [nf0, nf1, nf2, nf3, nf4]
  refine st_mv (.int .i64 (n : Int)) ?_
  simp only [nf0, nf1, nf2, nf3, nf4]
  refine wpList_nil ?_
  show Code.wp _ _ _ _ _
  refine wp_ret ?_
  first | show bodyPost _ _ _ _ _ _ | (simp only [Exit.then, Exit.inBlock]; show bodyPost _ _ _ _ _ _)
  exact bodyPost_ret (results_tmp rfl _ _ _) rfl ⟨rfl, bel⟩
set_option maxRecDepth 100000 in
set_option maxHeartbeats 4000000 in
theorem room_nil (w : World) : Calls Try.prog 16 #[.pointer none] w fun e w' => e = .returned (.int .i64 0) ∧ Below w.heap.size w w' := by
  have bel : Below w.heap.size w w := Below.refl _ _
  go_enter Try.func16, Try.ntmps16
  refine wp_seq ?_
  refine wp_region_lit ?_
  refine st_mv (.int .i64 0) ?_
  simp only [nf0, nf1, nf2, nf3, nf4]
  refine wpList_nil ?_
  show Code.wp _ _ _ _ _
  refine wp_seq ?_
  refine wp_seq ?_
  refine wp_region_lit ?_
  refine st_mv (.pointer none) ?_
  simp only [nf0, nf1, nf2, nf3, nf4]
  refine st_value (v := (.bool true)) (by rfl) (run_eqnil (.tmp 3) (.const (.pointer none)) rfl Try.underlying23 (p := none) (b := true) rfl rfl rfl w) ?_
  simp only [nf0, nf1, nf2, nf3, nf4]
  refine wpList_nil ?_
  show Code.wp _ _ _ _ _
  refine wp_cond_true rfl ?_
  refine wp_seq ?_
  refine wp_region_lit ?_
  refine st_mv (.int .i64 0) ?_
  simp only [nf0, nf1, nf2, nf3, nf4]
  refine wpList_nil ?_
  show Code.wp _ _ _ _ _
  refine wp_ret ?_
  first | show bodyPost _ _ _ _ _ _ | (simp only [Exit.then, Exit.inBlock]; show bodyPost _ _ _ _ _ _)
  exact bodyPost_ret (results_tmp rfl _ _ _) rfl ⟨rfl, bel⟩
set_option maxRecDepth 100000 in
set_option maxHeartbeats 4000000 in
theorem room_raw {w : World} {r b N at_ n : Nat} (hr : Blk w r #[.slice (some ⟨b, 0, none⟩) N N, .int .i64 (at_ : Int), .int .i64 (n : Int)] 48) : Calls Try.prog 16 #[.pointer (some ⟨r, 0, none⟩)] w fun e w' => e = .returned (.int .i64 (N : Int)) ∧ Below w.heap.size w w' := by
  have bel : Below w.heap.size w w := Below.refl _ _
  go_enter Try.func16, Try.ntmps16
  refine wp_seq ?_
  refine wp_region_lit ?_
  refine st_mv (.int .i64 0) ?_
  simp only [nf0, nf1, nf2, nf3, nf4]
  refine wpList_nil ?_
  show Code.wp _ _ _ _ _
  refine wp_seq ?_
  refine wp_seq ?_
  refine wp_region_lit ?_
  refine st_mv (.pointer (some ⟨r, 0, none⟩)) ?_
  simp only [nf0, nf1, nf2, nf3, nf4]
  refine st_value (v := (.bool false)) (by rfl) (run_eqnil (.tmp 3) (.const (.pointer none)) rfl Try.underlying23 (p := some ⟨r, 0, none⟩) (b := false) rfl rfl rfl w) ?_
  simp only [nf0, nf1, nf2, nf3, nf4]
  refine wpList_nil ?_
  show Code.wp _ _ _ _ _
  refine wp_cond_false rfl ?_
  refine wp_skip ?_
  show Code.wp _ _ _ _ _
  refine wp_seq ?_
  refine wp_region_lit ?_
  refine st_mv (.pointer (some ⟨r, 0, none⟩)) ?_
  simp only [nf0, nf1, nf2, nf3, nf4]
  refine st_value (v := (.pointer (some ⟨r, 0, none⟩))) (by rfl) (run_check (.tmp 5) rfl rfl w) ?_
  simp only [nf0, nf1, nf2, nf3, nf4]
  refine st_value (v := (.pointer (some ⟨r, 0, none⟩))) (by rfl) (run_fieldA (.tmp 6) rfl a3_fld_48_0 rfl rfl w) ?_
  simp only [nf0, nf1, nf2, nf3, nf4]
  refine st_value (v := (.slice (some ⟨b, 0, none⟩) N N)) (by rfl) (run_loadB (.tmp 7) rfl a3_one_22 rfl hr rfl) ?_
  simp only [nf0, nf1, nf2, nf3, nf4]
  refine st_value (v := (.int .i64 (N : Int))) (by rfl) (run_len (.tmp 8) rfl ⟨_, Try.underlying22⟩ rfl w) ?_
  simp only [nf0, nf1, nf2, nf3, nf4]
  refine st_mv (.int .i64 (N : Int)) ?_
  simp only [nf0, nf1, nf2, nf3, nf4]
  refine wpList_nil ?_
  show Code.wp _ _ _ _ _
  refine wp_ret ?_
  first | show bodyPost _ _ _ _ _ _ | (simp only [Exit.then, Exit.inBlock]; show bodyPost _ _ _ _ _ _)
  exact bodyPost_ret (results_tmp rfl _ _ _) rfl ⟨rfl, bel⟩
set_option maxRecDepth 100000 in
set_option maxHeartbeats 4000000 in
theorem full_nil (w : World) : Calls Try.prog 22 #[.pointer none] w fun e w' => e = .returned (.bool true) ∧ Below w.heap.size w w' := by
  have bel : Below w.heap.size w w := Below.refl _ _
  go_enter Try.func22, Try.ntmps22
  refine wp_seq ?_
  refine wp_region_lit ?_
  refine st_mv (.bool false) ?_
  simp only [nf0, nf1, nf2, nf3, nf4]
  refine wpList_nil ?_
  show Code.wp _ _ _ _ _
  refine wp_seq ?_
  refine wp_region_lit ?_
  refine st_mv (.pointer none) ?_
  simp only [nf0, nf1, nf2, nf3, nf4]
  refine st_call1 (v := (.int .i64 0)) (by rfl) (a4_run_call_8_1 (.tmp 3) rfl rfl _) (len_nil w) ?_
  intro w1 hb2
  simp only [nf0, nf1, nf2, nf3, nf4]
  replace bel := bl_step bel hb2
  clear hb2
  refine st_mv (.pointer none) ?_
  simp only [nf0, nf1, nf2, nf3, nf4]
  refine st_call1 (v := (.int .i64 0)) (by rfl) (a4_run_call_16_1 (.tmp 5) rfl rfl _) (room_nil w1) ?_
  intro w3 hb4
  simp only [nf0, nf1, nf2, nf3, nf4]
  replace bel := bl_step bel hb4
  clear hb4
  refine st_value (v := (.bool true)) (by rfl) (run_eql_int_t (.tmp 4) (.tmp 6) rfl rfl rfl rfl w3) ?_
  simp only [nf0, nf1, nf2, nf3, nf4]
  refine st_mv (.bool true) ?_
  simp only [nf0, nf1, nf2, nf3, nf4]
  refine wpList_nil ?_
  show Code.wp _ _ _ _ _
  refine wp_ret ?_
  first | show bodyPost _ _ _ _ _ _ | (simp only [Exit.then, Exit.inBlock]; show bodyPost _ _ _ _ _ _)
  exact bodyPost_ret (results_tmp rfl _ _ _) rfl ⟨rfl, bel⟩
set_option maxRecDepth 100000 in
set_option maxHeartbeats 4000000 in
theorem full_raw {w : World} {r b N at_ n : Nat} (hr : Blk w r #[.slice (some ⟨b, 0, none⟩) N N, .int .i64 (at_ : Int), .int .i64 (n : Int)] 48) : Calls Try.prog 22 #[.pointer (some ⟨r, 0, none⟩)] w fun e w' => e = .returned (.bool (decide ((n : Int) = (N : Int)))) ∧ Below w.heap.size w w' := by
  have bel : Below w.heap.size w w := Below.refl _ _
  go_enter Try.func22, Try.ntmps22
  refine wp_seq ?_
  refine wp_region_lit ?_
  refine st_mv (.bool false) ?_
  simp only [nf0, nf1, nf2, nf3, nf4]
  refine wpList_nil ?_
  show Code.wp _ _ _ _ _
  refine wp_seq ?_
  refine wp_region_lit ?_
  refine st_mv (.pointer (some ⟨r, 0, none⟩)) ?_
  simp only [nf0, nf1, nf2, nf3, nf4]
  refine st_call1 (v := (.int .i64 (n : Int))) (by rfl) (a5_run_call_8_1 (.tmp 3) rfl rfl _) (len_raw hr) ?_
  intro w1 hb2
  simp only [nf0, nf1, nf2, nf3, nf4]
  replace hr := hr.below hb2
  replace bel := bl_step bel hb2
  clear hb2
  refine st_mv (.pointer (some ⟨r, 0, none⟩)) ?_
  simp only [nf0, nf1, nf2, nf3, nf4]
  refine st_call1 (v := (.int .i64 (N : Int))) (by rfl) (a5_run_call_16_1 (.tmp 5) rfl rfl _) (room_raw hr) ?_
  intro w3 hb4
  simp only [nf0, nf1, nf2, nf3, nf4]
  replace hr := hr.below hb4
  replace bel := bl_step bel hb4
  clear hb4
  refine st_value (v := (.bool (decide ((n : Int) = (N : Int))))) (by rfl) (run_eql_int (.tmp 4) (.tmp 6) rfl rfl rfl w3) ?_
  simp only [nf0, nf1, nf2, nf3, nf4]
  refine st_mv (.bool (decide ((n : Int) = (N : Int)))) ?_
  simp only [nf0, nf1, nf2, nf3, nf4]
  refine wpList_nil ?_
  show Code.wp _ _ _ _ _
  refine wp_ret ?_
  first | show bodyPost _ _ _ _ _ _ | (simp only [Exit.then, Exit.inBlock]; show bodyPost _ _ _ _ _ _)
  exact bodyPost_ret (results_tmp rfl _ _ _) rfl ⟨rfl, bel⟩
set_option maxRecDepth 100000 in
set_option maxHeartbeats 4000000 in
theorem slot_raw {w : World} {r b N at_ n i : Nat} (hr : Blk w r #[.slice (some ⟨b, 0, none⟩) N N, .int .i64 (at_ : Int), .int .i64 (n : Int)] 48) (hN : 0 < N) (h4 : N ≤ 4096) (hat : at_ < N) (hi : i ≤ 4096) {X : Int} (hX : X = (i : Int)) : Calls Try.prog 23 #[.pointer (some ⟨r, 0, none⟩), .int .i64 X] w fun e w' => e = .returned (.pointer (some ⟨b, (at_ + i) % N, none⟩)) ∧ Below w.heap.size w w' := by
  subst hX
  have bel : Below w.heap.size w w := Below.refl _ _
  go_enter Try.func23, Try.ntmps23
  refine wp_seq ?_
  refine wp_region_lit ?_
  refine st_mv (.pointer none) ?_
  simp only [nf0, nf1, nf2, nf3, nf4]
  refine wpList_nil ?_
  show Code.wp _ _ _ _ _
  refine wp_seq ?_
  refine wp_region_facts_lit (C := Abv w) (G := G0) [.val (.pointer (some ⟨r, 0, none⟩)), .val (.pointer (some ⟨r, 0, none⟩)), .val (.pointer (some ⟨r, 0, none⟩)), .val (.slice (some ⟨b, 0, none⟩) N N), .val (.pointer (some ⟨r, 0, none⟩)), .val (.pointer (some ⟨r, 0, none⟩)), .val (.pointer (some ⟨r, 1, none⟩)), .val (.int .i64 (at_ : Int)), .val (.int .i64 (i : Int)), .val (.int .i64 ((at_ : Int) + (i : Int))), .val (.pointer (some ⟨r, 0, none⟩)), .val (.pointer (some ⟨r, 0, none⟩)), .val (.pointer (some ⟨r, 0, none⟩)), .val (.slice (some ⟨b, 0, none⟩) N N), .val (.int .i64 (N : Int)), .val (.int .i64 (((at_ + i) % N : Nat) : Int)), .val (.pointer (some ⟨b, ((at_ + i) % N), none⟩)), .val (.pointer (some ⟨b, ((at_ + i) % N), none⟩))] (by kernel_rfl) (by kernel_rfl) (Abv.start _) ?_
  refine fsteps_val (fun W hC _ => opok_value (v := (.pointer (some ⟨r, 0, none⟩))) (by rfl) (by rfl) rfl hC (G0.refl _)) ?_
  simp only [nf0, nf1, nf2, nf3, nf4]
  refine fsteps_val (fun W hC _ => opok_value (v := (.pointer (some ⟨r, 0, none⟩))) (by rfl) (run_check (.tmp 5) rfl rfl W) rfl hC (G0.refl _)) ?_
  simp only [nf0, nf1, nf2, nf3, nf4]
  refine fsteps_val (fun W hC _ => opok_value (v := (.pointer (some ⟨r, 0, none⟩))) (by rfl) (run_fieldA (.tmp 6) rfl a6_fld_48_0 rfl rfl W) rfl hC (G0.refl _)) ?_
  simp only [nf0, nf1, nf2, nf3, nf4]
  refine fsteps_val (fun W hC _ => opok_value (v := (.slice (some ⟨b, 0, none⟩) N N)) (by rfl) (run_loadB (.tmp 7) rfl a6_one_22 rfl (hr.below hC) rfl) rfl hC (G0.refl _)) ?_
  simp only [nf0, nf1, nf2, nf3, nf4]
  refine fsteps_val (fun W hC _ => opok_value (v := (.pointer (some ⟨r, 0, none⟩))) (by rfl) (by rfl) rfl hC (G0.refl _)) ?_
  simp only [nf0, nf1, nf2, nf3, nf4]
  refine fsteps_val (fun W hC _ => opok_value (v := (.pointer (some ⟨r, 0, none⟩))) (by rfl) (run_check (.tmp 9) rfl rfl W) rfl hC (G0.refl _)) ?_
  simp only [nf0, nf1, nf2, nf3, nf4]
  refine fsteps_val (fun W hC _ => opok_value (v := (.pointer (some ⟨r, 1, none⟩))) (by rfl) (run_fieldA (.tmp 10) rfl a6_fld_48_1 rfl rfl W) rfl hC (G0.refl _)) ?_
  simp only [nf0, nf1, nf2, nf3, nf4]
  refine fsteps_val (fun W hC _ => opok_value (v := (.int .i64 (at_ : Int))) (by rfl) (run_loadB (.tmp 11) rfl a6_one_3 rfl (hr.below hC) rfl) rfl hC (G0.refl _)) ?_
  simp only [nf0, nf1, nf2, nf3, nf4]
  refine fsteps_val (fun W hC _ => opok_value (v := (.int .i64 (i : Int))) (by rfl) (by rfl) rfl hC (G0.refl _)) ?_
  simp only [nf0, nf1, nf2, nf3, nf4]
  refine fsteps_val (fun W hC _ => opok_value (v := (.int .i64 ((at_ : Int) + (i : Int)))) (by rfl) (run_add_in (.tmp 12) (.tmp 13) rfl rfl rfl (by omega) W) rfl hC (G0.refl _)) ?_
  simp only [nf0, nf1, nf2, nf3, nf4]
  refine fsteps_val (fun W hC _ => opok_value (v := (.pointer (some ⟨r, 0, none⟩))) (by rfl) (by rfl) rfl hC (G0.refl _)) ?_
  simp only [nf0, nf1, nf2, nf3, nf4]
  refine fsteps_val (fun W hC _ => opok_value (v := (.pointer (some ⟨r, 0, none⟩))) (by rfl) (run_check (.tmp 15) rfl rfl W) rfl hC (G0.refl _)) ?_
  simp only [nf0, nf1, nf2, nf3, nf4]
  refine fsteps_val (fun W hC _ => opok_value (v := (.pointer (some ⟨r, 0, none⟩))) (by rfl) (run_fieldA (.tmp 16) rfl a6_fld_48_0 rfl rfl W) rfl hC (G0.refl _)) ?_
  simp only [nf0, nf1, nf2, nf3, nf4]
  refine fsteps_val (fun W hC _ => opok_value (v := (.slice (some ⟨b, 0, none⟩) N N)) (by rfl) (run_loadB (.tmp 17) rfl a6_one_22 rfl (hr.below hC) rfl) rfl hC (G0.refl _)) ?_
  simp only [nf0, nf1, nf2, nf3, nf4]
  refine fsteps_val (fun W hC _ => opok_value (v := (.int .i64 (N : Int))) (by rfl) (run_len (.tmp 18) rfl ⟨_, Try.underlying22⟩ rfl W) rfl hC (G0.refl _)) ?_
  simp only [nf0, nf1, nf2, nf3, nf4]
  refine fsteps_val (fun W hC _ => opok_value (v := (.int .i64 (((at_ + i) % N : Nat) : Int))) (by rfl) (run_remN (.tmp 14) (.tmp 19) (m := (at_ + i)) (n := N) rfl rfl rfl (by omega) (by omega) W) rfl hC (G0.refl _)) ?_
  simp only [nf0, nf1, nf2, nf3, nf4]
  refine fsteps_val (fun W hC _ => opok_value (v := (.pointer (some ⟨b, ((at_ + i) % N), none⟩))) (by rfl) (run_index1 (.tmp 8) (.tmp 20) rfl Try.underlying22 (by kernel_rfl) rfl rfl (by omega) (Nat.mod_lt _ (by omega)) W) rfl hC (G0.refl _)) ?_
  simp only [nf0, nf1, nf2, nf3, nf4]
  refine fsteps_val (fun W hC _ => opok_value (v := (.pointer (some ⟨b, ((at_ + i) % N), none⟩))) (by rfl) (by rfl) rfl hC (G0.refl _)) ?_
  simp only [nf0, nf1, nf2, nf3, nf4]
  refine fsteps_nil fun w1 hC _ => ?_
  replace hC : Below w.heap.size w w1 := hC
  replace hr := hr.below hC
  replace bel := bl_step bel hC
  clear hC
  show Code.wp _ _ _ _ _
  refine wp_ret ?_
  first | show bodyPost _ _ _ _ _ _ | (simp only [Exit.then, Exit.inBlock]; show bodyPost _ _ _ _ _ _)
  exact bodyPost_ret (results_tmp rfl _ _ _) rfl ⟨rfl, bel⟩
end Go.Proofs.Ytdhhcjhinpmeeaa

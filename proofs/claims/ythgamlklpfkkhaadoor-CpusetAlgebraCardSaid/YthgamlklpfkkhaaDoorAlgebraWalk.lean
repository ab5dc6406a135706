/- What the law CpusetAlgebra does. -/
import Derived.Test.YthgamlklpfkkhaaDoorLives
import Derived.Test.YthgamlklpfkkhaaDoorThree
namespace Go.Proofs.YthgamlklpfkkhaaDoor
open Go.RowKit Go.WideShapes Go.ChangeShapes

theorem run_call_12_0 {o : Oper} {a : Act}  {ts : Array TypeId} (ho : o.op = .call { callee := .value (.func 12), args := #[], argTypes := ts })  (W : World) : (execOp a.eval o).run Tryd.prog W = .ok (.enter 12 #[]) W := by
  unfold execOp
  simp only [ho]
  go_simp
theorem run_call_15_2 {o : Oper} {a : Act} (x0 : Operand) (x1 : Operand) {ts : Array TypeId} (ho : o.op = .call { callee := .value (.func 15), args := #[x0, x1], argTypes := ts }) {v0 : Value} (h0 : a.eval x0 = v0) {v1 : Value} (h1 : a.eval x1 = v1) (W : World) : (execOp a.eval o).run Tryd.prog W = .ok (.enter 15 #[v0, v1]) W := by
  unfold execOp
  simp only [ho]
  subst h0 h1
  go_simp
theorem run_call_16_2 {o : Oper} {a : Act} (x0 : Operand) (x1 : Operand) {ts : Array TypeId} (ho : o.op = .call { callee := .value (.func 16), args := #[x0, x1], argTypes := ts }) {v0 : Value} (h0 : a.eval x0 = v0) {v1 : Value} (h1 : a.eval x1 = v1) (W : World) : (execOp a.eval o).run Tryd.prog W = .ok (.enter 16 #[v0, v1]) W := by
  unfold execOp
  simp only [ho]
  subst h0 h1
  go_simp
theorem run_call_17_2 {o : Oper} {a : Act} (x0 : Operand) (x1 : Operand) {ts : Array TypeId} (ho : o.op = .call { callee := .value (.func 17), args := #[x0, x1], argTypes := ts }) {v0 : Value} (h0 : a.eval x0 = v0) {v1 : Value} (h1 : a.eval x1 = v1) (W : World) : (execOp a.eval o).run Tryd.prog W = .ok (.enter 17 #[v0, v1]) W := by
  unfold execOp
  simp only [ho]
  subst h0 h1
  go_simp
theorem run_call_18_2 {o : Oper} {a : Act} (x0 : Operand) (x1 : Operand) {ts : Array TypeId} (ho : o.op = .call { callee := .value (.func 18), args := #[x0, x1], argTypes := ts }) {v0 : Value} (h0 : a.eval x0 = v0) {v1 : Value} (h1 : a.eval x1 = v1) (W : World) : (execOp a.eval o).run Tryd.prog W = .ok (.enter 18 #[v0, v1]) W := by
  unfold execOp
  simp only [ho]
  subst h0 h1
  go_simp
theorem run_call_19_2 {o : Oper} {a : Act} (x0 : Operand) (x1 : Operand) {ts : Array TypeId} (ho : o.op = .call { callee := .value (.func 19), args := #[x0, x1], argTypes := ts }) {v0 : Value} (h0 : a.eval x0 = v0) {v1 : Value} (h1 : a.eval x1 = v1) (W : World) : (execOp a.eval o).run Tryd.prog W = .ok (.enter 19 #[v0, v1]) W := by
  unfold execOp
  simp only [ho]
  subst h0 h1
  go_simp
theorem run_call_20_2 {o : Oper} {a : Act} (x0 : Operand) (x1 : Operand) {ts : Array TypeId} (ho : o.op = .call { callee := .value (.func 20), args := #[x0, x1], argTypes := ts }) {v0 : Value} (h0 : a.eval x0 = v0) {v1 : Value} (h1 : a.eval x1 = v1) (W : World) : (execOp a.eval o).run Tryd.prog W = .ok (.enter 20 #[v0, v1]) W := by
  unfold execOp
  simp only [ho]
  subst h0 h1
  go_simp
set_option linter.unusedSimpArgs false in
set_option linter.unusedVariables false in
set_option maxRecDepth 100000 in
set_option maxHeartbeats 4000000 in
theorem algebra_calls (S T : Nat) (hS : Sm S) (hT : Sm T) (w : World) (hB : Tab w) :
    Calls Tryd.prog 5 #[.agg (setA S), .agg (setA T)] w fun e w' => e = .returned (.bool true) ∧ Below w.heap.size w w' := by
  have bel : Below w.heap.size w w := Below.refl _ _
  go_enter Tryd.func5, Tryd.ntmps5
  refine wp_seq ?_
  refine wp_region_lit ?_
  refine st_new (by rfl) (run_box_set (.tmp 0) rfl (S := S) rfl _) ?_
  intro g1 w2 B3 hb4 lo5
  simp only [Act.put, List.setIfInBounds_toArray, List.set_cons_zero, List.set_cons_succ]
  replace lo5 := low_le bel lo5
  replace bel := bl_step bel hb4
  clear hb4
  refine st_new (by rfl) (run_box_set (.tmp 1) rfl (S := T) rfl _) ?_
  intro g6 w7 B8 hb9 lo10
  simp only [Act.put, List.setIfInBounds_toArray, List.set_cons_zero, List.set_cons_succ]
  have n_g1_g6 := B3.ne lo10
  replace lo10 := low_le bel lo10
  replace B3 := B3.below hb9
  replace bel := bl_step bel hb9
  clear hb9
  refine st_value (v := (.bool false)) (by rfl) (by rfl) ?_
  simp only [Act.put, List.setIfInBounds_toArray, List.set_cons_zero, List.set_cons_succ]
  refine wpList_nil ?_
  show Code.wp _ _ _ _ _
  refine wp_seq ?_
  refine wp_region_lit ?_
  refine st_value (v := (.agg (setA S))) (by rfl) (run_load_set (.tmp 2) rfl _ rfl S B3) ?_
  simp only [Act.put, List.setIfInBounds_toArray, List.set_cons_zero, List.set_cons_succ]
  refine st_value (v := (.agg (setA T))) (by rfl) (run_load_set (.tmp 3) rfl _ rfl T B8) ?_
  simp only [Act.put, List.setIfInBounds_toArray, List.set_cons_zero, List.set_cons_succ]
  refine st_call1 (v := (.tuple #[.agg (setA (S &&& T)), .agg (setA (S ||| T)), .agg (setA (minus S T))])) (by rfl) (run_call_15_2 (.tmp 9) (.tmp 10) rfl rfl rfl _) (three_calls S T hS hT w7) ?_
  intro w11 hb12
  simp only [Act.put, List.setIfInBounds_toArray, List.set_cons_zero, List.set_cons_succ]
  replace B3 := B3.below hb12
  replace B8 := B8.below hb12
  replace bel := bl_step bel hb12
  clear hb12
  refine st_value (v := (.tuple #[.agg (setA (S &&& T)), .agg (setA (S ||| T)), .agg (setA (minus S T))])) (by rfl) (by rfl) ?_
  simp only [Act.put, List.setIfInBounds_toArray, List.set_cons_zero, List.set_cons_succ]
  refine st_value (v := (.agg (setA (S &&& T)))) (by rfl) (by rfl) ?_
  simp only [Act.put, List.setIfInBounds_toArray, List.set_cons_zero, List.set_cons_succ]
  refine st_value (v := (.agg (setA (S ||| T)))) (by rfl) (by rfl) ?_
  simp only [Act.put, List.setIfInBounds_toArray, List.set_cons_zero, List.set_cons_succ]
  refine st_value (v := (.agg (setA (minus S T)))) (by rfl) (by rfl) ?_
  simp only [Act.put, List.setIfInBounds_toArray, List.set_cons_zero, List.set_cons_succ]
  refine st_new (by rfl) (run_alloc_set rfl _) ?_
  intro g13 w14 B15 hb16 lo17
  simp only [Act.put, List.setIfInBounds_toArray, List.set_cons_zero, List.set_cons_succ]
  have n_g1_g13 := B3.ne lo17
  have n_g6_g13 := B8.ne lo17
  replace lo17 := low_le bel lo17
  replace B3 := B3.below hb16
  replace B8 := B8.below hb16
  replace bel := bl_step bel hb16
  clear hb16
  refine st_new (by rfl) (run_alloc_set rfl _) ?_
  intro g18 w19 B20 hb21 lo22
  simp only [Act.put, List.setIfInBounds_toArray, List.set_cons_zero, List.set_cons_succ]
  have n_g1_g18 := B3.ne lo22
  have n_g6_g18 := B8.ne lo22
  have n_g13_g18 := B15.ne lo22
  replace lo22 := low_le bel lo22
  replace B3 := B3.below hb21
  replace B8 := B8.below hb21
  replace B15 := B15.below hb21
  replace bel := bl_step bel hb21
  clear hb21
  refine st_new (by rfl) (run_alloc_set rfl _) ?_
  intro g23 w24 B25 hb26 lo27
  simp only [Act.put, List.setIfInBounds_toArray, List.set_cons_zero, List.set_cons_succ]
  have n_g1_g23 := B3.ne lo27
  have n_g6_g23 := B8.ne lo27
  have n_g13_g23 := B15.ne lo27
  have n_g18_g23 := B20.ne lo27
  replace lo27 := low_le bel lo27
  replace B3 := B3.below hb26
  replace B8 := B8.below hb26
  replace B15 := B15.below hb26
  replace B20 := B20.below hb26
  replace bel := bl_step bel hb26
  clear hb26
  refine st_row (by rfl) (run_store_set (.tmp 5) (.tmp 12) rfl rfl (S := (S &&& T)) rfl B15) B15 ?_
  intro w28 B30 hg29
  simp only [Act.put, List.setIfInBounds_toArray, List.set_cons_zero, List.set_cons_succ]
  replace B3 := B3.kept hg29 n_g1_g13
  replace B8 := B8.kept hg29 n_g6_g13
  replace B20 := B20.kept hg29 n_g13_g18.symm
  replace B25 := B25.kept hg29 n_g13_g23.symm
  clear B15
  replace bel := bl_kept0 bel hg29 lo17
  clear hg29
  refine st_row (by rfl) (run_store_set (.tmp 6) (.tmp 13) rfl rfl (S := (S ||| T)) rfl B20) B20 ?_
  intro w31 B33 hg32
  simp only [Act.put, List.setIfInBounds_toArray, List.set_cons_zero, List.set_cons_succ]
  replace B3 := B3.kept hg32 n_g1_g18
  replace B8 := B8.kept hg32 n_g6_g18
  replace B30 := B30.kept hg32 n_g13_g18
  replace B25 := B25.kept hg32 n_g18_g23.symm
  clear B20
  replace bel := bl_kept0 bel hg32 lo22
  clear hg32
  refine st_row (by rfl) (run_store_set (.tmp 7) (.tmp 14) rfl rfl (S := (minus S T)) rfl B25) B25 ?_
  intro w34 B36 hg35
  simp only [Act.put, List.setIfInBounds_toArray, List.set_cons_zero, List.set_cons_succ]
  replace B3 := B3.kept hg35 n_g1_g23
  replace B8 := B8.kept hg35 n_g6_g23
  replace B30 := B30.kept hg35 n_g13_g23
  replace B33 := B33.kept hg35 n_g18_g23
  clear B25
  replace bel := bl_kept0 bel hg35 lo27
  clear hg35
  refine wpList_nil ?_
  show Code.wp _ _ _ _ _
  refine wp_seq ?_
  refine wp_region_facts_lit (C := Abv w34) (G := G0) [.val (.agg (setA S)), .val (.agg (setA T)), .val (.agg (setA (S &&& T))), .val (.agg (setA (S &&& T))), .val (.bool true), .val (.bool true), .val (.agg (setA S)), .val (.agg (setA T)), .val (.agg (setA (S ||| T))), .val (.agg (setA (S ||| T))), .val (.bool true), .val (.bool true), .val (.bool true), .val (.agg (setA S)), .val (.agg (setA T)), .val (.agg (setA (minus S T))), .val (.agg (setA (minus S T))), .val (.bool true), .val (.bool true), .val (.bool true), .val (.agg (setA S)), .val (.agg (setA T)), .val (.bool (decide ((minus S T) = 0))), .val (.agg (setA (minus S T))), .val (.agg (setA 0)), .val (.bool (decide ((minus S T) = 0))), .val (.bool true), .val (.bool true), .val (.bool true), .val (.agg (setA S)), .val (.agg (setA T)), .val (.bool (!decide ((S &&& T) = 0))), .val (.agg (setA (S &&& T))), .val (.agg (setA 0)), .val (.bool (!decide ((S &&& T) = 0))), .val (.bool true), .val (.bool true), .val (.bool true), .val (.bool true), .val (.bool true), .val (.bool true)] (by kernel_rfl) (by kernel_rfl) (Abv.start _) ?_
  refine fsteps_val (fun W hC _ => opok_value (v := (.agg (setA S))) (by rfl) (run_load_set (.tmp 2) rfl _ rfl S (B3.below hC)) rfl hC (G0.refl _)) ?_
  simp only [Act.put, List.setIfInBounds_toArray, List.set_cons_zero, List.set_cons_succ]
  refine fsteps_val (fun W hC _ => opok_value (v := (.agg (setA T))) (by rfl) (run_load_set (.tmp 3) rfl _ rfl T (B8.below hC)) rfl hC (G0.refl _)) ?_
  simp only [Act.put, List.setIfInBounds_toArray, List.set_cons_zero, List.set_cons_succ]
  refine fsteps_val (fun W hC _ => opok_call (by rfl) (run_call_16_2 (.tmp 15) (.tmp 16) rfl rfl rfl W) ((and_calls S T W).mono fun e W' ⟨h1, h2⟩ => ⟨_, h1, rfl, hC.step h2, h2⟩)) ?_
  simp only [Act.put, List.setIfInBounds_toArray, List.set_cons_zero, List.set_cons_succ]
  refine fsteps_val (fun W hC _ => opok_value (v := (.agg (setA (S &&& T)))) (by rfl) (run_load_set (.tmp 5) rfl _ rfl (S &&& T) (B30.below hC)) rfl hC (G0.refl _)) ?_
  simp only [Act.put, List.setIfInBounds_toArray, List.set_cons_zero, List.set_cons_succ]
  refine fsteps_val (fun W hC _ => opok_value (v := (.bool true)) (by rfl) (run_eql_set_t (.tmp 17) (.tmp 18) rfl rfl rfl (and_sm T hS) (and_sm T hS) rfl W) rfl hC (G0.refl _)) ?_
  simp only [Act.put, List.setIfInBounds_toArray, List.set_cons_zero, List.set_cons_succ]
  refine fsteps_val (fun W hC _ => opok_value (v := (.bool true)) (by rfl) (by rfl) rfl hC (G0.refl _)) ?_
  simp only [Act.put, List.setIfInBounds_toArray, List.set_cons_zero, List.set_cons_succ]
  refine fsteps_val (fun W hC _ => opok_value (v := (.agg (setA S))) (by rfl) (run_load_set (.tmp 2) rfl _ rfl S (B3.below hC)) rfl hC (G0.refl _)) ?_
  simp only [Act.put, List.setIfInBounds_toArray, List.set_cons_zero, List.set_cons_succ]
  refine fsteps_val (fun W hC _ => opok_value (v := (.agg (setA T))) (by rfl) (run_load_set (.tmp 3) rfl _ rfl T (B8.below hC)) rfl hC (G0.refl _)) ?_
  simp only [Act.put, List.setIfInBounds_toArray, List.set_cons_zero, List.set_cons_succ]
  refine fsteps_val (fun W hC _ => opok_call (by rfl) (run_call_17_2 (.tmp 21) (.tmp 22) rfl rfl rfl W) ((or_calls S T W).mono fun e W' ⟨h1, h2⟩ => ⟨_, h1, rfl, hC.step h2, h2⟩)) ?_
  simp only [Act.put, List.setIfInBounds_toArray, List.set_cons_zero, List.set_cons_succ]
  refine fsteps_val (fun W hC _ => opok_value (v := (.agg (setA (S ||| T)))) (by rfl) (run_load_set (.tmp 6) rfl _ rfl (S ||| T) (B33.below hC)) rfl hC (G0.refl _)) ?_
  simp only [Act.put, List.setIfInBounds_toArray, List.set_cons_zero, List.set_cons_succ]
  refine fsteps_val (fun W hC _ => opok_value (v := (.bool true)) (by rfl) (run_eql_set_t (.tmp 23) (.tmp 24) rfl rfl rfl (or_sm hS hT) (or_sm hS hT) rfl W) rfl hC (G0.refl _)) ?_
  simp only [Act.put, List.setIfInBounds_toArray, List.set_cons_zero, List.set_cons_succ]
  refine fsteps_val (fun W hC _ => opok_value (v := (.bool true)) (by rfl) (by rfl) rfl hC (G0.refl _)) ?_
  simp only [Act.put, List.setIfInBounds_toArray, List.set_cons_zero, List.set_cons_succ]
  refine fsteps_val (fun W hC _ => opok_value (v := (.bool true)) (by rfl) (by rfl) rfl hC (G0.refl _)) ?_
  simp only [Act.put, List.setIfInBounds_toArray, List.set_cons_zero, List.set_cons_succ]
  refine fsteps_val (fun W hC _ => opok_value (v := (.agg (setA S))) (by rfl) (run_load_set (.tmp 2) rfl _ rfl S (B3.below hC)) rfl hC (G0.refl _)) ?_
  simp only [Act.put, List.setIfInBounds_toArray, List.set_cons_zero, List.set_cons_succ]
  refine fsteps_val (fun W hC _ => opok_value (v := (.agg (setA T))) (by rfl) (run_load_set (.tmp 3) rfl _ rfl T (B8.below hC)) rfl hC (G0.refl _)) ?_
  simp only [Act.put, List.setIfInBounds_toArray, List.set_cons_zero, List.set_cons_succ]
  refine fsteps_val (fun W hC _ => opok_call (by rfl) (run_call_18_2 (.tmp 28) (.tmp 29) rfl rfl rfl W) ((minus_calls S T W).mono fun e W' ⟨h1, h2⟩ => ⟨_, h1, rfl, hC.step h2, h2⟩)) ?_
  simp only [Act.put, List.setIfInBounds_toArray, List.set_cons_zero, List.set_cons_succ]
  refine fsteps_val (fun W hC _ => opok_value (v := (.agg (setA (minus S T)))) (by rfl) (run_load_set (.tmp 7) rfl _ rfl (minus S T) (B36.below hC)) rfl hC (G0.refl _)) ?_
  simp only [Act.put, List.setIfInBounds_toArray, List.set_cons_zero, List.set_cons_succ]
  refine fsteps_val (fun W hC _ => opok_value (v := (.bool true)) (by rfl) (run_eql_set_t (.tmp 30) (.tmp 31) rfl rfl rfl (minus_sm T hS) (minus_sm T hS) rfl W) rfl hC (G0.refl _)) ?_
  simp only [Act.put, List.setIfInBounds_toArray, List.set_cons_zero, List.set_cons_succ]
  refine fsteps_val (fun W hC _ => opok_value (v := (.bool true)) (by rfl) (by rfl) rfl hC (G0.refl _)) ?_
  simp only [Act.put, List.setIfInBounds_toArray, List.set_cons_zero, List.set_cons_succ]
  refine fsteps_val (fun W hC _ => opok_value (v := (.bool true)) (by rfl) (by rfl) rfl hC (G0.refl _)) ?_
  simp only [Act.put, List.setIfInBounds_toArray, List.set_cons_zero, List.set_cons_succ]
  refine fsteps_val (fun W hC _ => opok_value (v := (.agg (setA S))) (by rfl) (run_load_set (.tmp 2) rfl _ rfl S (B3.below hC)) rfl hC (G0.refl _)) ?_
  simp only [Act.put, List.setIfInBounds_toArray, List.set_cons_zero, List.set_cons_succ]
  refine fsteps_val (fun W hC _ => opok_value (v := (.agg (setA T))) (by rfl) (run_load_set (.tmp 3) rfl _ rfl T (B8.below hC)) rfl hC (G0.refl _)) ?_
  simp only [Act.put, List.setIfInBounds_toArray, List.set_cons_zero, List.set_cons_succ]
  refine fsteps_val (fun W hC _ => opok_call (by rfl) (run_call_19_2 (.tmp 35) (.tmp 36) rfl rfl rfl W) ((within_calls S T hS W).mono fun e W' ⟨h1, h2⟩ => ⟨_, h1, rfl, hC.step h2, h2⟩)) ?_
  simp only [Act.put, List.setIfInBounds_toArray, List.set_cons_zero, List.set_cons_succ]
  refine fsteps_val (fun W hC _ => opok_value (v := (.agg (setA (minus S T)))) (by rfl) (run_load_set (.tmp 7) rfl _ rfl (minus S T) (B36.below hC)) rfl hC (G0.refl _)) ?_
  simp only [Act.put, List.setIfInBounds_toArray, List.set_cons_zero, List.set_cons_succ]
  refine fsteps_val (fun W hC _ => opok_value (v := (.agg (setA 0))) (by rfl) (run_build_set rfl W) rfl hC (G0.refl _)) ?_
  simp only [Act.put, List.setIfInBounds_toArray, List.set_cons_zero, List.set_cons_succ]
  refine fsteps_val (fun W hC _ => opok_value (v := (.bool (decide ((minus S T) = 0)))) (by rfl) (run_eql_set (.tmp 38) (.tmp 39) rfl rfl rfl (minus_sm T hS) sm_zero W) rfl hC (G0.refl _)) ?_
  simp only [Act.put, List.setIfInBounds_toArray, List.set_cons_zero, List.set_cons_succ]
  refine fsteps_val (fun W hC _ => opok_value (v := (.bool true)) (by rfl) (run_eql_bool_t (.tmp 37) (.tmp 40) rfl rfl rfl W) rfl hC (G0.refl _)) ?_
  simp only [Act.put, List.setIfInBounds_toArray, List.set_cons_zero, List.set_cons_succ]
  refine fsteps_val (fun W hC _ => opok_value (v := (.bool true)) (by rfl) (by rfl) rfl hC (G0.refl _)) ?_
  simp only [Act.put, List.setIfInBounds_toArray, List.set_cons_zero, List.set_cons_succ]
  refine fsteps_val (fun W hC _ => opok_value (v := (.bool true)) (by rfl) (by rfl) rfl hC (G0.refl _)) ?_
  simp only [Act.put, List.setIfInBounds_toArray, List.set_cons_zero, List.set_cons_succ]
  refine fsteps_val (fun W hC _ => opok_value (v := (.agg (setA S))) (by rfl) (run_load_set (.tmp 2) rfl _ rfl S (B3.below hC)) rfl hC (G0.refl _)) ?_
  simp only [Act.put, List.setIfInBounds_toArray, List.set_cons_zero, List.set_cons_succ]
  refine fsteps_val (fun W hC _ => opok_value (v := (.agg (setA T))) (by rfl) (run_load_set (.tmp 3) rfl _ rfl T (B8.below hC)) rfl hC (G0.refl _)) ?_
  simp only [Act.put, List.setIfInBounds_toArray, List.set_cons_zero, List.set_cons_succ]
  refine fsteps_val (fun W hC _ => opok_call (by rfl) (run_call_20_2 (.tmp 44) (.tmp 45) rfl rfl rfl W) ((meets_calls S T hS W).mono fun e W' ⟨h1, h2⟩ => ⟨_, h1, rfl, hC.step h2, h2⟩)) ?_
  simp only [Act.put, List.setIfInBounds_toArray, List.set_cons_zero, List.set_cons_succ]
  refine fsteps_val (fun W hC _ => opok_value (v := (.agg (setA (S &&& T)))) (by rfl) (run_load_set (.tmp 5) rfl _ rfl (S &&& T) (B30.below hC)) rfl hC (G0.refl _)) ?_
  simp only [Act.put, List.setIfInBounds_toArray, List.set_cons_zero, List.set_cons_succ]
  refine fsteps_val (fun W hC _ => opok_value (v := (.agg (setA 0))) (by rfl) (run_build_set rfl W) rfl hC (G0.refl _)) ?_
  simp only [Act.put, List.setIfInBounds_toArray, List.set_cons_zero, List.set_cons_succ]
  refine fsteps_val (fun W hC _ => opok_value (v := (.bool (!decide ((S &&& T) = 0)))) (by rfl) (run_neq_set (.tmp 47) (.tmp 48) rfl rfl rfl (and_sm T hS) sm_zero W) rfl hC (G0.refl _)) ?_
  simp only [Act.put, List.setIfInBounds_toArray, List.set_cons_zero, List.set_cons_succ]
  refine fsteps_val (fun W hC _ => opok_value (v := (.bool true)) (by rfl) (run_eql_bool_t (.tmp 46) (.tmp 49) rfl rfl rfl W) rfl hC (G0.refl _)) ?_
  simp only [Act.put, List.setIfInBounds_toArray, List.set_cons_zero, List.set_cons_succ]
  refine fsteps_val (fun W hC _ => opok_value (v := (.bool true)) (by rfl) (by rfl) rfl hC (G0.refl _)) ?_
  simp only [Act.put, List.setIfInBounds_toArray, List.set_cons_zero, List.set_cons_succ]
  refine fsteps_val (fun W hC _ => opok_value (v := (.bool true)) (by rfl) (by rfl) rfl hC (G0.refl _)) ?_
  simp only [Act.put, List.setIfInBounds_toArray, List.set_cons_zero, List.set_cons_succ]
  refine fsteps_val (fun W hC _ => opok_call (by rfl) (run_call_12_0  rfl  W) ((lives_calls W (hB.same (bl_step bel hC))).mono fun e W' ⟨h1, h2⟩ => ⟨_, h1, rfl, hC.step h2, h2⟩)) ?_
  simp only [Act.put, List.setIfInBounds_toArray, List.set_cons_zero, List.set_cons_succ]
  refine fsteps_val (fun W hC _ => opok_value (v := (.bool true)) (by rfl) (by rfl) rfl hC (G0.refl _)) ?_
  simp only [Act.put, List.setIfInBounds_toArray, List.set_cons_zero, List.set_cons_succ]
  refine fsteps_val (fun W hC _ => opok_value (v := (.bool true)) (by rfl) (by rfl) rfl hC (G0.refl _)) ?_
  simp only [Act.put, List.setIfInBounds_toArray, List.set_cons_zero, List.set_cons_succ]
  refine fsteps_nil fun w37 hC _ => ?_
  replace hC : Below w34.heap.size w34 w37 := hC
  replace B3 := B3.below hC
  replace B8 := B8.below hC
  replace B30 := B30.below hC
  replace B33 := B33.below hC
  replace B36 := B36.below hC
  replace bel := bl_step bel hC
  clear hC
  show Code.wp _ _ _ _ _
  refine wp_ret ?_
  show bodyPost _ _ _ _ _ _
  exact bodyPost_ret (results_tmp rfl _ _ _) rfl ⟨rfl, bel⟩
end Go.Proofs.YthgamlklpfkkhaaDoor

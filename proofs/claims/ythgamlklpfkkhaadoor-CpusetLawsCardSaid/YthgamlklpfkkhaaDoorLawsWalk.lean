/- What the law CpusetLaws does. -/
import Derived.Test.YthgamlklpfkkhaaDoorLives
import Derived.Test.YthgamlklpfkkhaaDoorMore
import Derived.Test.YthgamlklpfkkhaaDoorLen
import Derived.Test.YthgamlklpfkkhaaDoorFacts2
namespace Go.Proofs.YthgamlklpfkkhaaDoor
open Go.RowKit Go.WideShapes Go.ChangeShapes
set_option linter.unusedSimpArgs false
set_option linter.unusedVariables false

theorem run_call_12_0 {o : Oper} {a : Act}  {ts : Array TypeId} (ho : o.op = .call { callee := .value (.func 12), args := #[], argTypes := ts })  (W : World) : (execOp a.eval o).run Tryd.prog W = .ok (.enter 12 #[]) W := by
  unfold execOp
  simp only [ho]
  go_simp
theorem run_call_16_2 {o : Oper} {a : Act} (x0 : Operand) (x1 : Operand) {ts : Array TypeId} (ho : o.op = .call { callee := .value (.func 16), args := #[x0, x1], argTypes := ts }) {v0 : Value} (h0 : a.eval x0 = v0) {v1 : Value} (h1 : a.eval x1 = v1) (W : World) : (execOp a.eval o).run Tryd.prog W = .ok (.enter 16 #[v0, v1]) W := by
  unfold execOp
  simp only [ho]
  subst h0 h1
  go_simp
theorem run_call_17_2 {o : Oper} {a : Act} (x0 : Operand) (x1 : Operand) {ts : Array TypeId} (ho : o.op = .call { callee := .value (.func 17), args := #[x0, x1], argTypes := ts }) {v0 : Value} (h0 : a.eval x0 = v0) {v1 : Value} (h1 : a.eval x1 = v1) (W : World) : (execOp a.eval o).run Tryd.prog W = .ok (.enter 17 #[v0, v1]) W := by
  unfold execOp
  simp only [ho]
  subst h0 h1
  go_simp
theorem run_call_18_2 {o : Oper} {a : Act} (x0 : Operand) (x1 : Operand) {ts : Array TypeId} (ho : o.op = .call { callee := .value (.func 18), args := #[x0, x1], argTypes := ts }) {v0 : Value} (h0 : a.eval x0 = v0) {v1 : Value} (h1 : a.eval x1 = v1) (W : World) : (execOp a.eval o).run Tryd.prog W = .ok (.enter 18 #[v0, v1]) W := by
  unfold execOp
  simp only [ho]
  subst h0 h1
  go_simp
theorem run_call_19_2 {o : Oper} {a : Act} (x0 : Operand) (x1 : Operand) {ts : Array TypeId} (ho : o.op = .call { callee := .value (.func 19), args := #[x0, x1], argTypes := ts }) {v0 : Value} (h0 : a.eval x0 = v0) {v1 : Value} (h1 : a.eval x1 = v1) (W : World) : (execOp a.eval o).run Tryd.prog W = .ok (.enter 19 #[v0, v1]) W := by
  unfold execOp
  simp only [ho]
  subst h0 h1
  go_simp
theorem run_call_28_1 {o : Oper} {a : Act} (x0 : Operand) {ts : Array TypeId} (ho : o.op = .call { callee := .value (.func 28), args := #[x0], argTypes := ts }) {v0 : Value} (h0 : a.eval x0 = v0) (W : World) : (execOp a.eval o).run Tryd.prog W = .ok (.enter 28 #[v0]) W := by
  unfold execOp
  simp only [ho]
  subst h0
  go_simp

theorem minus_or (A B : Nat) : minus A B ||| (A &&& B) = A := by
  refine Nat.eq_of_testBit_eq fun i => ?_
  rw [Nat.testBit_or, testBit_minus, Nat.testBit_and]
  cases A.testBit i <;> cases B.testBit i <;> rfl
theorem minus_minus (A B D : Nat) : minus A (B ||| D) = minus (minus A B) D := by
  refine Nat.eq_of_testBit_eq fun i => ?_
  rw [testBit_minus, testBit_minus, testBit_minus, Nat.testBit_or]
  cases A.testBit i <;> cases B.testBit i <;> cases D.testBit i <;> rfl
theorem card_le (S : Nat) : card S ≤ 1024 := cards_le S 16
theorem card_int (A B : Nat) : ((card (A &&& B) : Nat) : Int) + ((card (A ||| B) : Nat) : Int) = ((card A : Nat) : Int) + ((card B : Nat) : Int) := by have := card_and_or A B; omega
theorem within_and_or (A B : Nat) (hA : Sm A) (w : World) : Calls Tryd.prog 19 #[.agg (setA (A &&& B)), .agg (setA (A ||| B))] w fun e w' => e = .returned (.bool true) ∧ Below w.heap.size w w' := by
  have h := within_calls (A &&& B) (A ||| B) (and_sm B hA) w
  rwa [show decide (minus (A &&& B) (A ||| B) = 0) = true from decide_eq_true (by
    refine Nat.eq_of_testBit_eq fun i => ?_
    rw [testBit_minus, Nat.testBit_and, Nat.testBit_or, Nat.zero_testBit]
    cases A.testBit i <;> cases B.testBit i <;> rfl)] at h
set_option maxRecDepth 100000 in
set_option maxHeartbeats 8000000 in
theorem laws_calls (A B D : Nat) (hA : Sm A) (hB' : Sm B) (hD : Sm D) (w : World) (hB : Tab w) :
    Calls Tryd.prog 9 #[.agg (setA A), .agg (setA B), .agg (setA D)] w fun e w' => e = .returned (.bool true) ∧ Below w.heap.size w w' := by
  have bel : Below w.heap.size w w := Below.refl _ _
  have c1 := card_le A
  have c2 := card_le B
  have c3 := card_le (A &&& B)
  have c4 := card_le (A ||| B)
  go_enter Tryd.func9, Tryd.ntmps9
  refine wp_seq ?_
  refine wp_region_lit ?_
  refine st_new (by rfl) (run_box_set (.tmp 0) rfl (S := A) rfl _) ?_
  intro g1 w2 B3 hb4 lo5
  simp only [Act.put, List.setIfInBounds_toArray, List.set_cons_zero, List.set_cons_succ]
  replace lo5 := low_le bel lo5
  replace bel := bl_step bel hb4
  clear hb4
  refine st_new (by rfl) (run_box_set (.tmp 1) rfl (S := B) rfl _) ?_
  intro g6 w7 B8 hb9 lo10
  simp only [Act.put, List.setIfInBounds_toArray, List.set_cons_zero, List.set_cons_succ]
  have n11 := B3.ne lo10
  replace lo10 := low_le bel lo10
  replace B3 := B3.below hb9
  replace bel := bl_step bel hb9
  clear hb9
  refine st_new (by rfl) (run_box_set (.tmp 2) rfl (S := D) rfl _) ?_
  intro g12 w13 B14 hb15 lo16
  simp only [Act.put, List.setIfInBounds_toArray, List.set_cons_zero, List.set_cons_succ]
  have n17 := B3.ne lo16
  have n18 := B8.ne lo16
  replace lo16 := low_le bel lo16
  replace B3 := B3.below hb15
  replace B8 := B8.below hb15
  replace bel := bl_step bel hb15
  clear hb15
  refine st_value (v := (.bool false)) (by rfl) (by rfl) ?_
  simp only [Act.put, List.setIfInBounds_toArray, List.set_cons_zero, List.set_cons_succ]
  refine wpList_nil ?_
  show Code.wp _ _ _ _ _
  refine wp_seq ?_
  refine wp_region_facts2_lit (C := Abv w13) 8 [.val (.agg (setA A)), .val (.agg (setA B)), .val (.agg (setA (A &&& B))), .val (.agg (setA A)), .val (.agg (setA B)), .val (.agg (setA (A ||| B))), .new (setA 0) 24, .new (setA 0) 24] w13.heap.size (by kernel_rfl) (by simp) (by kernel_rfl) (by kernel_rfl) (fun _ h => h.size) (Abv.start _) ?_
  simp only [List.take_succ_cons, List.take_zero, List.drop_succ_cons, List.drop_zero]
  refine fst2_val (fun W hC _ => ok2_value (v := (.agg (setA A))) (by rfl) (run_load_set (.tmp 3) rfl _ rfl A (B3.below hC)) rfl hC (G0.refl _)) ?_
  simp only [Act.put, List.setIfInBounds_toArray, List.set_cons_zero, List.set_cons_succ]
  refine fst2_val (fun W hC _ => ok2_value (v := (.agg (setA B))) (by rfl) (run_load_set (.tmp 4) rfl _ rfl B (B8.below hC)) rfl hC (G0.refl _)) ?_
  simp only [Act.put, List.setIfInBounds_toArray, List.set_cons_zero, List.set_cons_succ]
  refine fst2_val (fun W hC _ => ok2_call (by rfl) (run_call_16_2 (.tmp 9) (.tmp 10) rfl rfl rfl W) ((and_calls A B W).mono fun e W' ⟨h1, h2⟩ => ⟨h1, hC.step h2, h2⟩)) ?_
  simp only [Act.put, List.setIfInBounds_toArray, List.set_cons_zero, List.set_cons_succ]
  refine fst2_val (fun W hC _ => ok2_value (v := (.agg (setA A))) (by rfl) (run_load_set (.tmp 3) rfl _ rfl A (B3.below hC)) rfl hC (G0.refl _)) ?_
  simp only [Act.put, List.setIfInBounds_toArray, List.set_cons_zero, List.set_cons_succ]
  refine fst2_val (fun W hC _ => ok2_value (v := (.agg (setA B))) (by rfl) (run_load_set (.tmp 4) rfl _ rfl B (B8.below hC)) rfl hC (G0.refl _)) ?_
  simp only [Act.put, List.setIfInBounds_toArray, List.set_cons_zero, List.set_cons_succ]
  refine fst2_val (fun W hC _ => ok2_call (by rfl) (run_call_17_2 (.tmp 12) (.tmp 13) rfl rfl rfl W) ((or_calls A B W).mono fun e W' ⟨h1, h2⟩ => ⟨h1, hC.step h2, h2⟩)) ?_
  simp only [Act.put, List.setIfInBounds_toArray, List.set_cons_zero, List.set_cons_succ]
  refine fst2_new (fun W hC hh => ok2_new (by rfl) (run_alloc_set rfl W) (hC.step (bl_alloc (Below.refl _ _) _))) fun g19 lo20 => ?_
  simp only [Act.put, List.setIfInBounds_toArray, List.set_cons_zero, List.set_cons_succ]
  refine fst2_new (fun W hC hh => ok2_new (by rfl) (run_alloc_set rfl W) (hC.step (bl_alloc (Below.refl _ _) _))) fun g22 lo23 => ?_
  simp only [Act.put, List.setIfInBounds_toArray, List.set_cons_zero, List.set_cons_succ]
  refine fst2_nil fun w25 hC hh hnd => ?_
  replace hC : Below w13.heap.size w13 w25 := hC
  have B24 : Blk w25 g22 (setA 0) 24 := (List.forall_mem_cons.1 hh).1
  replace hh := (List.forall_mem_cons.1 hh).2
  have B21 : Blk w25 g19 (setA 0) 24 := (List.forall_mem_cons.1 hh).1
  replace hh := (List.forall_mem_cons.1 hh).2
  have n26 := B3.ne lo20
  have n27 := B8.ne lo20
  have n28 := B14.ne lo20
  have n29 : g22 ≠ g19 := by rintro rfl; simp at hnd
  have n30 := B3.ne lo23
  have n31 := B8.ne lo23
  have n32 := B14.ne lo23
  replace lo20 := low_le bel lo20
  replace lo23 := low_le bel lo23
  clear hh hnd
  replace B3 := B3.below hC
  replace B8 := B8.below hC
  replace B14 := B14.below hC
  replace bel := bl_step bel hC
  clear hC
  refine st_row (by rfl) (run_store_set (.tmp 7) (.tmp 11) rfl rfl (S := (A &&& B)) rfl B21) B21 ?_
  intro w33 B35 hg34
  simp only [Act.put, List.setIfInBounds_toArray, List.set_cons_zero, List.set_cons_succ]
  replace B3 := B3.kept hg34 n26
  replace B8 := B8.kept hg34 n27
  replace B14 := B14.kept hg34 n28
  replace B24 := B24.kept hg34 n29
  clear B21
  replace bel := bl_kept0 bel hg34 lo20
  clear hg34
  refine st_row (by rfl) (run_store_set (.tmp 8) (.tmp 14) rfl rfl (S := (A ||| B)) rfl B24) B24 ?_
  intro w36 B38 hg37
  simp only [Act.put, List.setIfInBounds_toArray, List.set_cons_zero, List.set_cons_succ]
  replace B3 := B3.kept hg37 n30
  replace B8 := B8.kept hg37 n31
  replace B14 := B14.kept hg37 n32
  replace B35 := B35.kept hg37 n29.symm
  clear B24
  replace bel := bl_kept0 bel hg37 lo23
  clear hg37
  refine wpList_nil ?_
  show Code.wp _ _ _ _ _
  refine wp_seq ?_
  refine wp_seq ?_
  refine wp_region_facts_lit (C := Abv w36) (G := G0) [.val (.agg (setA (A &&& B))), .val (.agg (setA B)), .val (.agg (setA A)), .val (.agg (setA (B &&& A))), .val (.bool false), .val (.bool false), .val (.agg (setA (A ||| B))), .val (.agg (setA B)), .val (.agg (setA A)), .val (.agg (setA (B ||| A))), .val (.bool false), .val (.bool false), .val (.bool false), .val (.agg (setA (A &&& B))), .val (.agg (setA D)), .val (.agg (setA ((A &&& B) &&& D))), .val (.agg (setA A)), .val (.agg (setA B)), .val (.agg (setA D)), .val (.agg (setA (B &&& D))), .val (.agg (setA (A &&& (B &&& D)))), .val (.bool false), .val (.bool false), .val (.bool false), .val (.agg (setA (A ||| B))), .val (.agg (setA D)), .val (.agg (setA ((A ||| B) ||| D))), .val (.agg (setA A)), .val (.agg (setA B)), .val (.agg (setA D)), .val (.agg (setA (B ||| D))), .val (.agg (setA (A ||| (B ||| D)))), .val (.bool false), .val (.bool false)] (by kernel_rfl) (by kernel_rfl) (Abv.start _) ?_
  refine fsteps_val (fun W hC _ => opok_value (v := (.agg (setA (A &&& B)))) (by rfl) (run_load_set (.tmp 7) rfl _ rfl (A &&& B) (B35.below hC)) rfl hC (G0.refl _)) ?_
  simp only [Act.put, List.setIfInBounds_toArray, List.set_cons_zero, List.set_cons_succ]
  refine fsteps_val (fun W hC _ => opok_value (v := (.agg (setA B))) (by rfl) (run_load_set (.tmp 4) rfl _ rfl B (B8.below hC)) rfl hC (G0.refl _)) ?_
  simp only [Act.put, List.setIfInBounds_toArray, List.set_cons_zero, List.set_cons_succ]
  refine fsteps_val (fun W hC _ => opok_value (v := (.agg (setA A))) (by rfl) (run_load_set (.tmp 3) rfl _ rfl A (B3.below hC)) rfl hC (G0.refl _)) ?_
  simp only [Act.put, List.setIfInBounds_toArray, List.set_cons_zero, List.set_cons_succ]
  refine fsteps_val (fun W hC _ => opok_call (by rfl) (run_call_16_2 (.tmp 16) (.tmp 17) rfl rfl rfl W) ((and_calls B A W).mono fun e W' ⟨h1, h2⟩ => ⟨_, h1, rfl, hC.step h2, h2⟩)) ?_
  simp only [Act.put, List.setIfInBounds_toArray, List.set_cons_zero, List.set_cons_succ]
  refine fsteps_val (fun W hC _ => opok_value (v := (.bool false)) (by rfl) (run_neq_set_t (.tmp 15) (.tmp 18) rfl rfl rfl (and_sm B hA) (and_sm A hB') (Nat.and_comm _ _) W) rfl hC (G0.refl _)) ?_
  simp only [Act.put, List.setIfInBounds_toArray, List.set_cons_zero, List.set_cons_succ]
  refine fsteps_val (fun W hC _ => opok_value (v := (.bool false)) (by rfl) (by rfl) rfl hC (G0.refl _)) ?_
  simp only [Act.put, List.setIfInBounds_toArray, List.set_cons_zero, List.set_cons_succ]
  refine fsteps_val (fun W hC _ => opok_value (v := (.agg (setA (A ||| B)))) (by rfl) (run_load_set (.tmp 8) rfl _ rfl (A ||| B) (B38.below hC)) rfl hC (G0.refl _)) ?_
  simp only [Act.put, List.setIfInBounds_toArray, List.set_cons_zero, List.set_cons_succ]
  refine fsteps_val (fun W hC _ => opok_value (v := (.agg (setA B))) (by rfl) (run_load_set (.tmp 4) rfl _ rfl B (B8.below hC)) rfl hC (G0.refl _)) ?_
  simp only [Act.put, List.setIfInBounds_toArray, List.set_cons_zero, List.set_cons_succ]
  refine fsteps_val (fun W hC _ => opok_value (v := (.agg (setA A))) (by rfl) (run_load_set (.tmp 3) rfl _ rfl A (B3.below hC)) rfl hC (G0.refl _)) ?_
  simp only [Act.put, List.setIfInBounds_toArray, List.set_cons_zero, List.set_cons_succ]
  refine fsteps_val (fun W hC _ => opok_call (by rfl) (run_call_17_2 (.tmp 22) (.tmp 23) rfl rfl rfl W) ((or_calls B A W).mono fun e W' ⟨h1, h2⟩ => ⟨_, h1, rfl, hC.step h2, h2⟩)) ?_
  simp only [Act.put, List.setIfInBounds_toArray, List.set_cons_zero, List.set_cons_succ]
  refine fsteps_val (fun W hC _ => opok_value (v := (.bool false)) (by rfl) (run_neq_set_t (.tmp 21) (.tmp 24) rfl rfl rfl (or_sm hA hB') (or_sm hB' hA) (Nat.or_comm _ _) W) rfl hC (G0.refl _)) ?_
  simp only [Act.put, List.setIfInBounds_toArray, List.set_cons_zero, List.set_cons_succ]
  refine fsteps_val (fun W hC _ => opok_value (v := (.bool false)) (by rfl) (by rfl) rfl hC (G0.refl _)) ?_
  simp only [Act.put, List.setIfInBounds_toArray, List.set_cons_zero, List.set_cons_succ]
  refine fsteps_val (fun W hC _ => opok_value (v := (.bool false)) (by rfl) (by rfl) rfl hC (G0.refl _)) ?_
  simp only [Act.put, List.setIfInBounds_toArray, List.set_cons_zero, List.set_cons_succ]
  refine fsteps_val (fun W hC _ => opok_value (v := (.agg (setA (A &&& B)))) (by rfl) (run_load_set (.tmp 7) rfl _ rfl (A &&& B) (B35.below hC)) rfl hC (G0.refl _)) ?_
  simp only [Act.put, List.setIfInBounds_toArray, List.set_cons_zero, List.set_cons_succ]
  refine fsteps_val (fun W hC _ => opok_value (v := (.agg (setA D))) (by rfl) (run_load_set (.tmp 5) rfl _ rfl D (B14.below hC)) rfl hC (G0.refl _)) ?_
  simp only [Act.put, List.setIfInBounds_toArray, List.set_cons_zero, List.set_cons_succ]
  refine fsteps_val (fun W hC _ => opok_call (by rfl) (run_call_16_2 (.tmp 28) (.tmp 29) rfl rfl rfl W) ((and_calls (A &&& B) D W).mono fun e W' ⟨h1, h2⟩ => ⟨_, h1, rfl, hC.step h2, h2⟩)) ?_
  simp only [Act.put, List.setIfInBounds_toArray, List.set_cons_zero, List.set_cons_succ]
  refine fsteps_val (fun W hC _ => opok_value (v := (.agg (setA A))) (by rfl) (run_load_set (.tmp 3) rfl _ rfl A (B3.below hC)) rfl hC (G0.refl _)) ?_
  simp only [Act.put, List.setIfInBounds_toArray, List.set_cons_zero, List.set_cons_succ]
  refine fsteps_val (fun W hC _ => opok_value (v := (.agg (setA B))) (by rfl) (run_load_set (.tmp 4) rfl _ rfl B (B8.below hC)) rfl hC (G0.refl _)) ?_
  simp only [Act.put, List.setIfInBounds_toArray, List.set_cons_zero, List.set_cons_succ]
  refine fsteps_val (fun W hC _ => opok_value (v := (.agg (setA D))) (by rfl) (run_load_set (.tmp 5) rfl _ rfl D (B14.below hC)) rfl hC (G0.refl _)) ?_
  simp only [Act.put, List.setIfInBounds_toArray, List.set_cons_zero, List.set_cons_succ]
  refine fsteps_val (fun W hC _ => opok_call (by rfl) (run_call_16_2 (.tmp 32) (.tmp 33) rfl rfl rfl W) ((and_calls B D W).mono fun e W' ⟨h1, h2⟩ => ⟨_, h1, rfl, hC.step h2, h2⟩)) ?_
  simp only [Act.put, List.setIfInBounds_toArray, List.set_cons_zero, List.set_cons_succ]
  refine fsteps_val (fun W hC _ => opok_call (by rfl) (run_call_16_2 (.tmp 31) (.tmp 34) rfl rfl rfl W) ((and_calls A (B &&& D) W).mono fun e W' ⟨h1, h2⟩ => ⟨_, h1, rfl, hC.step h2, h2⟩)) ?_
  simp only [Act.put, List.setIfInBounds_toArray, List.set_cons_zero, List.set_cons_succ]
  refine fsteps_val (fun W hC _ => opok_value (v := (.bool false)) (by rfl) (run_neq_set_t (.tmp 30) (.tmp 35) rfl rfl rfl (and_sm D (and_sm B hA)) (and_sm (B &&& D) hA) (Nat.and_assoc _ _ _) W) rfl hC (G0.refl _)) ?_
  simp only [Act.put, List.setIfInBounds_toArray, List.set_cons_zero, List.set_cons_succ]
  refine fsteps_val (fun W hC _ => opok_value (v := (.bool false)) (by rfl) (by rfl) rfl hC (G0.refl _)) ?_
  simp only [Act.put, List.setIfInBounds_toArray, List.set_cons_zero, List.set_cons_succ]
  refine fsteps_val (fun W hC _ => opok_value (v := (.bool false)) (by rfl) (by rfl) rfl hC (G0.refl _)) ?_
  simp only [Act.put, List.setIfInBounds_toArray, List.set_cons_zero, List.set_cons_succ]
  refine fsteps_val (fun W hC _ => opok_value (v := (.agg (setA (A ||| B)))) (by rfl) (run_load_set (.tmp 8) rfl _ rfl (A ||| B) (B38.below hC)) rfl hC (G0.refl _)) ?_
  simp only [Act.put, List.setIfInBounds_toArray, List.set_cons_zero, List.set_cons_succ]
  refine fsteps_val (fun W hC _ => opok_value (v := (.agg (setA D))) (by rfl) (run_load_set (.tmp 5) rfl _ rfl D (B14.below hC)) rfl hC (G0.refl _)) ?_
  simp only [Act.put, List.setIfInBounds_toArray, List.set_cons_zero, List.set_cons_succ]
  refine fsteps_val (fun W hC _ => opok_call (by rfl) (run_call_17_2 (.tmp 39) (.tmp 40) rfl rfl rfl W) ((or_calls (A ||| B) D W).mono fun e W' ⟨h1, h2⟩ => ⟨_, h1, rfl, hC.step h2, h2⟩)) ?_
  simp only [Act.put, List.setIfInBounds_toArray, List.set_cons_zero, List.set_cons_succ]
  refine fsteps_val (fun W hC _ => opok_value (v := (.agg (setA A))) (by rfl) (run_load_set (.tmp 3) rfl _ rfl A (B3.below hC)) rfl hC (G0.refl _)) ?_
  simp only [Act.put, List.setIfInBounds_toArray, List.set_cons_zero, List.set_cons_succ]
  refine fsteps_val (fun W hC _ => opok_value (v := (.agg (setA B))) (by rfl) (run_load_set (.tmp 4) rfl _ rfl B (B8.below hC)) rfl hC (G0.refl _)) ?_
  simp only [Act.put, List.setIfInBounds_toArray, List.set_cons_zero, List.set_cons_succ]
  refine fsteps_val (fun W hC _ => opok_value (v := (.agg (setA D))) (by rfl) (run_load_set (.tmp 5) rfl _ rfl D (B14.below hC)) rfl hC (G0.refl _)) ?_
  simp only [Act.put, List.setIfInBounds_toArray, List.set_cons_zero, List.set_cons_succ]
  refine fsteps_val (fun W hC _ => opok_call (by rfl) (run_call_17_2 (.tmp 43) (.tmp 44) rfl rfl rfl W) ((or_calls B D W).mono fun e W' ⟨h1, h2⟩ => ⟨_, h1, rfl, hC.step h2, h2⟩)) ?_
  simp only [Act.put, List.setIfInBounds_toArray, List.set_cons_zero, List.set_cons_succ]
  refine fsteps_val (fun W hC _ => opok_call (by rfl) (run_call_17_2 (.tmp 42) (.tmp 45) rfl rfl rfl W) ((or_calls A (B ||| D) W).mono fun e W' ⟨h1, h2⟩ => ⟨_, h1, rfl, hC.step h2, h2⟩)) ?_
  simp only [Act.put, List.setIfInBounds_toArray, List.set_cons_zero, List.set_cons_succ]
  refine fsteps_val (fun W hC _ => opok_value (v := (.bool false)) (by rfl) (run_neq_set_t (.tmp 41) (.tmp 46) rfl rfl rfl (or_sm (or_sm hA hB') hD) (or_sm hA (or_sm hB' hD)) (Nat.or_assoc _ _ _) W) rfl hC (G0.refl _)) ?_
  simp only [Act.put, List.setIfInBounds_toArray, List.set_cons_zero, List.set_cons_succ]
  refine fsteps_val (fun W hC _ => opok_value (v := (.bool false)) (by rfl) (by rfl) rfl hC (G0.refl _)) ?_
  simp only [Act.put, List.setIfInBounds_toArray, List.set_cons_zero, List.set_cons_succ]
  refine fsteps_nil fun w39 hC _ => ?_
  replace hC : Below w36.heap.size w36 w39 := hC
  replace B3 := B3.below hC
  replace B8 := B8.below hC
  replace B14 := B14.below hC
  replace B35 := B35.below hC
  replace B38 := B38.below hC
  replace bel := bl_step bel hC
  clear hC
  show Code.wp _ _ _ _ _
  refine wp_cond_false rfl ?_
  refine wp_skip ?_
  show Code.wp _ _ _ _ _
  refine wp_seq ?_
  refine wp_seq ?_
  refine wp_region_facts_lit (C := Abv w39) (G := G0) [.val (.agg (setA A)), .val (.agg (setA B)), .val (.agg (setA D)), .val (.agg (setA (B ||| D))), .val (.agg (setA (A &&& (B ||| D)))), .val (.agg (setA (A &&& B))), .val (.agg (setA A)), .val (.agg (setA D)), .val (.agg (setA (A &&& D))), .val (.agg (setA ((A &&& B) ||| (A &&& D)))), .val (.bool false), .val (.bool false), .val (.agg (setA A)), .val (.agg (setA B)), .val (.agg (setA (minus A B))), .val (.agg (setA (A &&& B))), .val (.agg (setA ((minus A B) ||| (A &&& B)))), .val (.agg (setA A)), .val (.bool false), .val (.bool false), .val (.bool false), .val (.agg (setA A)), .val (.agg (setA B)), .val (.agg (setA D)), .val (.agg (setA (B ||| D))), .val (.agg (setA (minus A (B ||| D)))), .val (.agg (setA A)), .val (.agg (setA B)), .val (.agg (setA (minus A B))), .val (.agg (setA D)), .val (.agg (setA (minus (minus A B) D))), .val (.bool false), .val (.bool false)] (by kernel_rfl) (by kernel_rfl) (Abv.start _) ?_
  refine fsteps_val (fun W hC _ => opok_value (v := (.agg (setA A))) (by rfl) (run_load_set (.tmp 3) rfl _ rfl A (B3.below hC)) rfl hC (G0.refl _)) ?_
  simp only [Act.put, List.setIfInBounds_toArray, List.set_cons_zero, List.set_cons_succ]
  refine fsteps_val (fun W hC _ => opok_value (v := (.agg (setA B))) (by rfl) (run_load_set (.tmp 4) rfl _ rfl B (B8.below hC)) rfl hC (G0.refl _)) ?_
  simp only [Act.put, List.setIfInBounds_toArray, List.set_cons_zero, List.set_cons_succ]
  refine fsteps_val (fun W hC _ => opok_value (v := (.agg (setA D))) (by rfl) (run_load_set (.tmp 5) rfl _ rfl D (B14.below hC)) rfl hC (G0.refl _)) ?_
  simp only [Act.put, List.setIfInBounds_toArray, List.set_cons_zero, List.set_cons_succ]
  refine fsteps_val (fun W hC _ => opok_call (by rfl) (run_call_17_2 (.tmp 50) (.tmp 51) rfl rfl rfl W) ((or_calls B D W).mono fun e W' ⟨h1, h2⟩ => ⟨_, h1, rfl, hC.step h2, h2⟩)) ?_
  simp only [Act.put, List.setIfInBounds_toArray, List.set_cons_zero, List.set_cons_succ]
  refine fsteps_val (fun W hC _ => opok_call (by rfl) (run_call_16_2 (.tmp 49) (.tmp 52) rfl rfl rfl W) ((and_calls A (B ||| D) W).mono fun e W' ⟨h1, h2⟩ => ⟨_, h1, rfl, hC.step h2, h2⟩)) ?_
  simp only [Act.put, List.setIfInBounds_toArray, List.set_cons_zero, List.set_cons_succ]
  refine fsteps_val (fun W hC _ => opok_value (v := (.agg (setA (A &&& B)))) (by rfl) (run_load_set (.tmp 7) rfl _ rfl (A &&& B) (B35.below hC)) rfl hC (G0.refl _)) ?_
  simp only [Act.put, List.setIfInBounds_toArray, List.set_cons_zero, List.set_cons_succ]
  refine fsteps_val (fun W hC _ => opok_value (v := (.agg (setA A))) (by rfl) (run_load_set (.tmp 3) rfl _ rfl A (B3.below hC)) rfl hC (G0.refl _)) ?_
  simp only [Act.put, List.setIfInBounds_toArray, List.set_cons_zero, List.set_cons_succ]
  refine fsteps_val (fun W hC _ => opok_value (v := (.agg (setA D))) (by rfl) (run_load_set (.tmp 5) rfl _ rfl D (B14.below hC)) rfl hC (G0.refl _)) ?_
  simp only [Act.put, List.setIfInBounds_toArray, List.set_cons_zero, List.set_cons_succ]
  refine fsteps_val (fun W hC _ => opok_call (by rfl) (run_call_16_2 (.tmp 55) (.tmp 56) rfl rfl rfl W) ((and_calls A D W).mono fun e W' ⟨h1, h2⟩ => ⟨_, h1, rfl, hC.step h2, h2⟩)) ?_
  simp only [Act.put, List.setIfInBounds_toArray, List.set_cons_zero, List.set_cons_succ]
  refine fsteps_val (fun W hC _ => opok_call (by rfl) (run_call_17_2 (.tmp 54) (.tmp 57) rfl rfl rfl W) ((or_calls (A &&& B) (A &&& D) W).mono fun e W' ⟨h1, h2⟩ => ⟨_, h1, rfl, hC.step h2, h2⟩)) ?_
  simp only [Act.put, List.setIfInBounds_toArray, List.set_cons_zero, List.set_cons_succ]
  refine fsteps_val (fun W hC _ => opok_value (v := (.bool false)) (by rfl) (run_neq_set_t (.tmp 53) (.tmp 58) rfl rfl rfl (and_sm (B ||| D) hA) (or_sm (and_sm B hA) (and_sm D hA)) (Nat.and_or_distrib_left _ _ _) W) rfl hC (G0.refl _)) ?_
  simp only [Act.put, List.setIfInBounds_toArray, List.set_cons_zero, List.set_cons_succ]
  refine fsteps_val (fun W hC _ => opok_value (v := (.bool false)) (by rfl) (by rfl) rfl hC (G0.refl _)) ?_
  simp only [Act.put, List.setIfInBounds_toArray, List.set_cons_zero, List.set_cons_succ]
  refine fsteps_val (fun W hC _ => opok_value (v := (.agg (setA A))) (by rfl) (run_load_set (.tmp 3) rfl _ rfl A (B3.below hC)) rfl hC (G0.refl _)) ?_
  simp only [Act.put, List.setIfInBounds_toArray, List.set_cons_zero, List.set_cons_succ]
  refine fsteps_val (fun W hC _ => opok_value (v := (.agg (setA B))) (by rfl) (run_load_set (.tmp 4) rfl _ rfl B (B8.below hC)) rfl hC (G0.refl _)) ?_
  simp only [Act.put, List.setIfInBounds_toArray, List.set_cons_zero, List.set_cons_succ]
  refine fsteps_val (fun W hC _ => opok_call (by rfl) (run_call_18_2 (.tmp 61) (.tmp 62) rfl rfl rfl W) ((minus_calls A B W).mono fun e W' ⟨h1, h2⟩ => ⟨_, h1, rfl, hC.step h2, h2⟩)) ?_
  simp only [Act.put, List.setIfInBounds_toArray, List.set_cons_zero, List.set_cons_succ]
  refine fsteps_val (fun W hC _ => opok_value (v := (.agg (setA (A &&& B)))) (by rfl) (run_load_set (.tmp 7) rfl _ rfl (A &&& B) (B35.below hC)) rfl hC (G0.refl _)) ?_
  simp only [Act.put, List.setIfInBounds_toArray, List.set_cons_zero, List.set_cons_succ]
  refine fsteps_val (fun W hC _ => opok_call (by rfl) (run_call_17_2 (.tmp 63) (.tmp 64) rfl rfl rfl W) ((or_calls (minus A B) (A &&& B) W).mono fun e W' ⟨h1, h2⟩ => ⟨_, h1, rfl, hC.step h2, h2⟩)) ?_
  simp only [Act.put, List.setIfInBounds_toArray, List.set_cons_zero, List.set_cons_succ]
  refine fsteps_val (fun W hC _ => opok_value (v := (.agg (setA A))) (by rfl) (run_load_set (.tmp 3) rfl _ rfl A (B3.below hC)) rfl hC (G0.refl _)) ?_
  simp only [Act.put, List.setIfInBounds_toArray, List.set_cons_zero, List.set_cons_succ]
  refine fsteps_val (fun W hC _ => opok_value (v := (.bool false)) (by rfl) (run_neq_set_t (.tmp 65) (.tmp 66) rfl rfl rfl (or_sm (minus_sm B hA) (and_sm B hA)) hA (minus_or A B) W) rfl hC (G0.refl _)) ?_
  simp only [Act.put, List.setIfInBounds_toArray, List.set_cons_zero, List.set_cons_succ]
  refine fsteps_val (fun W hC _ => opok_value (v := (.bool false)) (by rfl) (by rfl) rfl hC (G0.refl _)) ?_
  simp only [Act.put, List.setIfInBounds_toArray, List.set_cons_zero, List.set_cons_succ]
  refine fsteps_val (fun W hC _ => opok_value (v := (.bool false)) (by rfl) (by rfl) rfl hC (G0.refl _)) ?_
  simp only [Act.put, List.setIfInBounds_toArray, List.set_cons_zero, List.set_cons_succ]
  refine fsteps_val (fun W hC _ => opok_value (v := (.agg (setA A))) (by rfl) (run_load_set (.tmp 3) rfl _ rfl A (B3.below hC)) rfl hC (G0.refl _)) ?_
  simp only [Act.put, List.setIfInBounds_toArray, List.set_cons_zero, List.set_cons_succ]
  refine fsteps_val (fun W hC _ => opok_value (v := (.agg (setA B))) (by rfl) (run_load_set (.tmp 4) rfl _ rfl B (B8.below hC)) rfl hC (G0.refl _)) ?_
  simp only [Act.put, List.setIfInBounds_toArray, List.set_cons_zero, List.set_cons_succ]
  refine fsteps_val (fun W hC _ => opok_value (v := (.agg (setA D))) (by rfl) (run_load_set (.tmp 5) rfl _ rfl D (B14.below hC)) rfl hC (G0.refl _)) ?_
  simp only [Act.put, List.setIfInBounds_toArray, List.set_cons_zero, List.set_cons_succ]
  refine fsteps_val (fun W hC _ => opok_call (by rfl) (run_call_17_2 (.tmp 71) (.tmp 72) rfl rfl rfl W) ((or_calls B D W).mono fun e W' ⟨h1, h2⟩ => ⟨_, h1, rfl, hC.step h2, h2⟩)) ?_
  simp only [Act.put, List.setIfInBounds_toArray, List.set_cons_zero, List.set_cons_succ]
  refine fsteps_val (fun W hC _ => opok_call (by rfl) (run_call_18_2 (.tmp 70) (.tmp 73) rfl rfl rfl W) ((minus_calls A (B ||| D) W).mono fun e W' ⟨h1, h2⟩ => ⟨_, h1, rfl, hC.step h2, h2⟩)) ?_
  simp only [Act.put, List.setIfInBounds_toArray, List.set_cons_zero, List.set_cons_succ]
  refine fsteps_val (fun W hC _ => opok_value (v := (.agg (setA A))) (by rfl) (run_load_set (.tmp 3) rfl _ rfl A (B3.below hC)) rfl hC (G0.refl _)) ?_
  simp only [Act.put, List.setIfInBounds_toArray, List.set_cons_zero, List.set_cons_succ]
  refine fsteps_val (fun W hC _ => opok_value (v := (.agg (setA B))) (by rfl) (run_load_set (.tmp 4) rfl _ rfl B (B8.below hC)) rfl hC (G0.refl _)) ?_
  simp only [Act.put, List.setIfInBounds_toArray, List.set_cons_zero, List.set_cons_succ]
  refine fsteps_val (fun W hC _ => opok_call (by rfl) (run_call_18_2 (.tmp 75) (.tmp 76) rfl rfl rfl W) ((minus_calls A B W).mono fun e W' ⟨h1, h2⟩ => ⟨_, h1, rfl, hC.step h2, h2⟩)) ?_
  simp only [Act.put, List.setIfInBounds_toArray, List.set_cons_zero, List.set_cons_succ]
  refine fsteps_val (fun W hC _ => opok_value (v := (.agg (setA D))) (by rfl) (run_load_set (.tmp 5) rfl _ rfl D (B14.below hC)) rfl hC (G0.refl _)) ?_
  simp only [Act.put, List.setIfInBounds_toArray, List.set_cons_zero, List.set_cons_succ]
  refine fsteps_val (fun W hC _ => opok_call (by rfl) (run_call_18_2 (.tmp 77) (.tmp 78) rfl rfl rfl W) ((minus_calls (minus A B) D W).mono fun e W' ⟨h1, h2⟩ => ⟨_, h1, rfl, hC.step h2, h2⟩)) ?_
  simp only [Act.put, List.setIfInBounds_toArray, List.set_cons_zero, List.set_cons_succ]
  refine fsteps_val (fun W hC _ => opok_value (v := (.bool false)) (by rfl) (run_neq_set_t (.tmp 74) (.tmp 79) rfl rfl rfl (minus_sm (B ||| D) hA) (minus_sm D (minus_sm B hA)) (minus_minus A B D) W) rfl hC (G0.refl _)) ?_
  simp only [Act.put, List.setIfInBounds_toArray, List.set_cons_zero, List.set_cons_succ]
  refine fsteps_val (fun W hC _ => opok_value (v := (.bool false)) (by rfl) (by rfl) rfl hC (G0.refl _)) ?_
  simp only [Act.put, List.setIfInBounds_toArray, List.set_cons_zero, List.set_cons_succ]
  refine fsteps_nil fun w40 hC _ => ?_
  replace hC : Below w39.heap.size w39 w40 := hC
  replace B3 := B3.below hC
  replace B8 := B8.below hC
  replace B14 := B14.below hC
  replace B35 := B35.below hC
  replace B38 := B38.below hC
  replace bel := bl_step bel hC
  clear hC
  show Code.wp _ _ _ _ _
  refine wp_cond_false rfl ?_
  refine wp_skip ?_
  show Code.wp _ _ _ _ _
  refine wp_seq ?_
  refine wp_region_facts_lit (C := Abv w40) (G := G0) [.val (.agg (setA (A &&& B))), .val (.int .i64 ((card (A &&& B) : Nat) : Int)), .val (.agg (setA (A ||| B))), .val (.int .i64 ((card (A ||| B) : Nat) : Int)), .val (.int .i64 (((card (A &&& B) : Nat) : Int) + ((card (A ||| B) : Nat) : Int))), .val (.agg (setA A)), .val (.int .i64 ((card A : Nat) : Int)), .val (.agg (setA B)), .val (.int .i64 ((card B : Nat) : Int)), .val (.int .i64 (((card A : Nat) : Int) + ((card B : Nat) : Int))), .val (.bool true), .val (.bool true), .val (.agg (setA (A &&& B))), .val (.agg (setA (A ||| B))), .val (.bool true), .val (.bool true), .val (.bool true), .val (.agg (setA A)), .val (.agg (setA A)), .val (.agg (setA (A &&& A))), .val (.agg (setA A)), .val (.bool true), .val (.bool true), .val (.bool true), .val (.bool true), .val (.bool true), .val (.bool true)] (by kernel_rfl) (by kernel_rfl) (Abv.start _) ?_
  refine fsteps_val (fun W hC _ => opok_value (v := (.agg (setA (A &&& B)))) (by rfl) (run_load_set (.tmp 7) rfl _ rfl (A &&& B) (B35.below hC)) rfl hC (G0.refl _)) ?_
  simp only [Act.put, List.setIfInBounds_toArray, List.set_cons_zero, List.set_cons_succ]
  refine fsteps_val (fun W hC _ => opok_call (by rfl) (run_call_28_1 (.tmp 82) rfl rfl W) ((len_calls (A &&& B) W).mono fun e W' ⟨h1, h2⟩ => ⟨_, h1, rfl, hC.step h2, h2⟩)) ?_
  simp only [Act.put, List.setIfInBounds_toArray, List.set_cons_zero, List.set_cons_succ]
  refine fsteps_val (fun W hC _ => opok_value (v := (.agg (setA (A ||| B)))) (by rfl) (run_load_set (.tmp 8) rfl _ rfl (A ||| B) (B38.below hC)) rfl hC (G0.refl _)) ?_
  simp only [Act.put, List.setIfInBounds_toArray, List.set_cons_zero, List.set_cons_succ]
  refine fsteps_val (fun W hC _ => opok_call (by rfl) (run_call_28_1 (.tmp 84) rfl rfl W) ((len_calls (A ||| B) W).mono fun e W' ⟨h1, h2⟩ => ⟨_, h1, rfl, hC.step h2, h2⟩)) ?_
  simp only [Act.put, List.setIfInBounds_toArray, List.set_cons_zero, List.set_cons_succ]
  refine fsteps_val (fun W hC _ => opok_value (v := (.int .i64 (((card (A &&& B) : Nat) : Int) + ((card (A ||| B) : Nat) : Int)))) (by rfl) (run_add_in (.tmp 83) (.tmp 85) rfl rfl rfl (by omega) W) rfl hC (G0.refl _)) ?_
  simp only [Act.put, List.setIfInBounds_toArray, List.set_cons_zero, List.set_cons_succ]
  refine fsteps_val (fun W hC _ => opok_value (v := (.agg (setA A))) (by rfl) (run_load_set (.tmp 3) rfl _ rfl A (B3.below hC)) rfl hC (G0.refl _)) ?_
  simp only [Act.put, List.setIfInBounds_toArray, List.set_cons_zero, List.set_cons_succ]
  refine fsteps_val (fun W hC _ => opok_call (by rfl) (run_call_28_1 (.tmp 87) rfl rfl W) ((len_calls A W).mono fun e W' ⟨h1, h2⟩ => ⟨_, h1, rfl, hC.step h2, h2⟩)) ?_
  simp only [Act.put, List.setIfInBounds_toArray, List.set_cons_zero, List.set_cons_succ]
  refine fsteps_val (fun W hC _ => opok_value (v := (.agg (setA B))) (by rfl) (run_load_set (.tmp 4) rfl _ rfl B (B8.below hC)) rfl hC (G0.refl _)) ?_
  simp only [Act.put, List.setIfInBounds_toArray, List.set_cons_zero, List.set_cons_succ]
  refine fsteps_val (fun W hC _ => opok_call (by rfl) (run_call_28_1 (.tmp 89) rfl rfl W) ((len_calls B W).mono fun e W' ⟨h1, h2⟩ => ⟨_, h1, rfl, hC.step h2, h2⟩)) ?_
  simp only [Act.put, List.setIfInBounds_toArray, List.set_cons_zero, List.set_cons_succ]
  refine fsteps_val (fun W hC _ => opok_value (v := (.int .i64 (((card A : Nat) : Int) + ((card B : Nat) : Int)))) (by rfl) (run_add_in (.tmp 88) (.tmp 90) rfl rfl rfl (by omega) W) rfl hC (G0.refl _)) ?_
  simp only [Act.put, List.setIfInBounds_toArray, List.set_cons_zero, List.set_cons_succ]
  refine fsteps_val (fun W hC _ => opok_value (v := (.bool true)) (by rfl) (run_eql_int_t (.tmp 86) (.tmp 91) rfl rfl rfl (card_int A B) W) rfl hC (G0.refl _)) ?_
  simp only [Act.put, List.setIfInBounds_toArray, List.set_cons_zero, List.set_cons_succ]
  refine fsteps_val (fun W hC _ => opok_value (v := (.bool true)) (by rfl) (by rfl) rfl hC (G0.refl _)) ?_
  simp only [Act.put, List.setIfInBounds_toArray, List.set_cons_zero, List.set_cons_succ]
  refine fsteps_val (fun W hC _ => opok_value (v := (.agg (setA (A &&& B)))) (by rfl) (run_load_set (.tmp 7) rfl _ rfl (A &&& B) (B35.below hC)) rfl hC (G0.refl _)) ?_
  simp only [Act.put, List.setIfInBounds_toArray, List.set_cons_zero, List.set_cons_succ]
  refine fsteps_val (fun W hC _ => opok_value (v := (.agg (setA (A ||| B)))) (by rfl) (run_load_set (.tmp 8) rfl _ rfl (A ||| B) (B38.below hC)) rfl hC (G0.refl _)) ?_
  simp only [Act.put, List.setIfInBounds_toArray, List.set_cons_zero, List.set_cons_succ]
  refine fsteps_val (fun W hC _ => opok_call (by rfl) (run_call_19_2 (.tmp 94) (.tmp 95) rfl rfl rfl W) ((within_and_or A B hA W).mono fun e W' ⟨h1, h2⟩ => ⟨_, h1, rfl, hC.step h2, h2⟩)) ?_
  simp only [Act.put, List.setIfInBounds_toArray, List.set_cons_zero, List.set_cons_succ]
  refine fsteps_val (fun W hC _ => opok_value (v := (.bool true)) (by rfl) (by rfl) rfl hC (G0.refl _)) ?_
  simp only [Act.put, List.setIfInBounds_toArray, List.set_cons_zero, List.set_cons_succ]
  refine fsteps_val (fun W hC _ => opok_value (v := (.bool true)) (by rfl) (by rfl) rfl hC (G0.refl _)) ?_
  simp only [Act.put, List.setIfInBounds_toArray, List.set_cons_zero, List.set_cons_succ]
  refine fsteps_val (fun W hC _ => opok_value (v := (.agg (setA A))) (by rfl) (run_load_set (.tmp 3) rfl _ rfl A (B3.below hC)) rfl hC (G0.refl _)) ?_
  simp only [Act.put, List.setIfInBounds_toArray, List.set_cons_zero, List.set_cons_succ]
  refine fsteps_val (fun W hC _ => opok_value (v := (.agg (setA A))) (by rfl) (run_load_set (.tmp 3) rfl _ rfl A (B3.below hC)) rfl hC (G0.refl _)) ?_
  simp only [Act.put, List.setIfInBounds_toArray, List.set_cons_zero, List.set_cons_succ]
  refine fsteps_val (fun W hC _ => opok_call (by rfl) (run_call_16_2 (.tmp 99) (.tmp 100) rfl rfl rfl W) ((and_calls A A W).mono fun e W' ⟨h1, h2⟩ => ⟨_, h1, rfl, hC.step h2, h2⟩)) ?_
  simp only [Act.put, List.setIfInBounds_toArray, List.set_cons_zero, List.set_cons_succ]
  refine fsteps_val (fun W hC _ => opok_value (v := (.agg (setA A))) (by rfl) (run_load_set (.tmp 3) rfl _ rfl A (B3.below hC)) rfl hC (G0.refl _)) ?_
  simp only [Act.put, List.setIfInBounds_toArray, List.set_cons_zero, List.set_cons_succ]
  refine fsteps_val (fun W hC _ => opok_value (v := (.bool true)) (by rfl) (run_eql_set_t (.tmp 101) (.tmp 102) rfl rfl rfl (and_sm A hA) hA (Nat.and_self _) W) rfl hC (G0.refl _)) ?_
  simp only [Act.put, List.setIfInBounds_toArray, List.set_cons_zero, List.set_cons_succ]
  refine fsteps_val (fun W hC _ => opok_value (v := (.bool true)) (by rfl) (by rfl) rfl hC (G0.refl _)) ?_
  simp only [Act.put, List.setIfInBounds_toArray, List.set_cons_zero, List.set_cons_succ]
  refine fsteps_val (fun W hC _ => opok_value (v := (.bool true)) (by rfl) (by rfl) rfl hC (G0.refl _)) ?_
  simp only [Act.put, List.setIfInBounds_toArray, List.set_cons_zero, List.set_cons_succ]
  refine fsteps_val (fun W hC _ => opok_call (by rfl) (run_call_12_0  rfl  W) ((lives_calls W (hB.same (bl_step bel hC))).mono fun e W' ⟨h1, h2⟩ => ⟨_, h1, rfl, hC.step h2, h2⟩)) ?_
  simp only [Act.put, List.setIfInBounds_toArray, List.set_cons_zero, List.set_cons_succ]
  refine fsteps_val (fun W hC _ => opok_value (v := (.bool true)) (by rfl) (by rfl) rfl hC (G0.refl _)) ?_
  simp only [Act.put, List.setIfInBounds_toArray, List.set_cons_zero, List.set_cons_succ]
  refine fsteps_val (fun W hC _ => opok_value (v := (.bool true)) (by rfl) (by rfl) rfl hC (G0.refl _)) ?_
  simp only [Act.put, List.setIfInBounds_toArray, List.set_cons_zero, List.set_cons_succ]
  refine fsteps_nil fun w41 hC _ => ?_
  replace hC : Below w40.heap.size w40 w41 := hC
  replace B3 := B3.below hC
  replace B8 := B8.below hC
  replace B14 := B14.below hC
  replace B35 := B35.below hC
  replace B38 := B38.below hC
  replace bel := bl_step bel hC
  clear hC
  show Code.wp _ _ _ _ _
  refine wp_ret ?_
  show bodyPost _ _ _ _ _ _
  exact bodyPost_ret (results_tmp rfl _ _ _) rfl ⟨rfl, bel⟩
end Go.Proofs.YthgamlklpfkkhaaDoor

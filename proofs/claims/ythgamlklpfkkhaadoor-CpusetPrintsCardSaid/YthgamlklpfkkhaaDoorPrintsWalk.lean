/- What the law CpusetPrints does. -/
import Derived.Test.YthgamlklpfkkhaaDoorLives
import Derived.Test.YthgamlklpfkkhaaDoorRefPrint
import Derived.Test.YthgamlklpfkkhaaDoorFacts2
namespace Go.Proofs.YthgamlklpfkkhaaDoor
open Go.RowKit Go.WideShapes Go.ChangeShapes
set_option linter.unusedSimpArgs false
set_option linter.unusedVariables false

theorem run_call_10_1 {o : Oper} {a : Act} (x0 : Operand) {ts : Array TypeId} (ho : o.op = .call { callee := .value (.func 10), args := #[x0], argTypes := ts }) {v0 : Value} (h0 : a.eval x0 = v0) (W : World) : (execOp a.eval o).run Tryd.prog W = .ok (.enter 10 #[v0]) W := by
  unfold execOp
  simp only [ho]
  subst h0
  go_simp
theorem run_call_12_0 {o : Oper} {a : Act}  {ts : Array TypeId} (ho : o.op = .call { callee := .value (.func 12), args := #[], argTypes := ts })  (W : World) : (execOp a.eval o).run Tryd.prog W = .ok (.enter 12 #[]) W := by
  unfold execOp
  simp only [ho]
  go_simp
theorem run_call_13_1 {o : Oper} {a : Act} (x0 : Operand) {ts : Array TypeId} (ho : o.op = .call { callee := .value (.func 13), args := #[x0], argTypes := ts }) {v0 : Value} (h0 : a.eval x0 = v0) (W : World) : (execOp a.eval o).run Tryd.prog W = .ok (.enter 13 #[v0]) W := by
  unfold execOp
  simp only [ho]
  subst h0
  go_simp
theorem run_call_14_1 {o : Oper} {a : Act} (x0 : Operand) {ts : Array TypeId} (ho : o.op = .call { callee := .value (.func 14), args := #[x0], argTypes := ts }) {v0 : Value} (h0 : a.eval x0 = v0) (W : World) : (execOp a.eval o).run Tryd.prog W = .ok (.enter 14 #[v0]) W := by
  unfold execOp
  simp only [ho]
  subst h0
  go_simp
set_option maxRecDepth 100000 in
set_option maxHeartbeats 4000000 in
theorem cpusetPrints_calls (S T : Nat) (hS : Sm S) (hT : Sm T) (l : List UInt8) (w : World) (hB : Tab w) :
    Calls Tryd.prog 4 #[.agg (setA S), .agg (setA T), .string (str l)] w fun e w' => e = .returned (.bool true) ∧ Below w.heap.size w w' := by
  have bel : Below w.heap.size w w := Below.refl _ _
  go_enter Tryd.func4, Tryd.ntmps4
  refine wp_seq ?_
  refine wp_region_lit ?_
  refine st_new (by rfl) (run_box_set (.tmp 0) rfl (S := S) rfl _) ?_
  intro g1 w2 B3 hb4 lo5
  simp only [Act.put, List.setIfInBounds_toArray, List.set_cons_zero, List.set_cons_succ]
  replace lo5 := low_le bel lo5
  replace bel := bl_step bel hb4
  clear hb4
  refine st_new (by rfl) (run_box_set (.tmp 1) rfl (S := T) rfl _) ?_
  intro g6 w7 B8 hb9 lo10
  simp only [Act.put, List.setIfInBounds_toArray, List.set_cons_zero, List.set_cons_succ]
  have n11 := B3.ne lo10
  replace lo10 := low_le bel lo10
  replace B3 := B3.below hb9
  replace bel := bl_step bel hb9
  clear hb9
  refine st_value (v := (.bool false)) (by rfl) (by rfl) ?_
  simp only [Act.put, List.setIfInBounds_toArray, List.set_cons_zero, List.set_cons_succ]
  refine wpList_nil ?_
  show Code.wp _ _ _ _ _
  refine wp_seq ?_
  refine wp_region_lit ?_
  refine st_value (v := (.agg (setA S))) (by rfl) (run_load_set (.tmp 3) rfl _ rfl S B3) ?_
  simp only [Act.put, List.setIfInBounds_toArray, List.set_cons_zero, List.set_cons_succ]
  refine st_call1 (v := (.string (str (prt S)))) (by rfl) (run_call_13_1 (.tmp 17) rfl rfl _) (print_calls S hS w7 (hB.same bel)) ?_
  intro w12 hb13
  simp only [Act.put, List.setIfInBounds_toArray, List.set_cons_zero, List.set_cons_succ]
  replace B3 := B3.below hb13
  replace B8 := B8.below hb13
  replace bel := bl_step bel hb13
  clear hb13
  refine st_value (v := (.string (str (prt S)))) (by rfl) (by rfl) ?_
  simp only [Act.put, List.setIfInBounds_toArray, List.set_cons_zero, List.set_cons_succ]
  refine wpList_nil ?_
  show Code.wp _ _ _ _ _
  refine wp_seq ?_
  refine wp_region_lit ?_
  refine st_value (v := (.string (str (prt S)))) (by rfl) (by rfl) ?_
  simp only [Act.put, List.setIfInBounds_toArray, List.set_cons_zero, List.set_cons_succ]
  refine st_call1 (v := (.tuple #[.agg (setA S), .int .i64 0, .int .i64 0])) (by rfl) (run_call_10_1 (.tmp 20) rfl rfl _) (parse_at (prt S) (Nat.le_trans (prt_len hS) (by omega)) w12 (parse_prt hS)) ?_
  intro w14 hb15
  simp only [Act.put, List.setIfInBounds_toArray, List.set_cons_zero, List.set_cons_succ]
  replace B3 := B3.below hb15
  replace B8 := B8.below hb15
  replace bel := bl_step bel hb15
  clear hb15
  refine st_value (v := (.tuple #[.agg (setA S), .int .i64 0, .int .i64 0])) (by rfl) (by rfl) ?_
  simp only [Act.put, List.setIfInBounds_toArray, List.set_cons_zero, List.set_cons_succ]
  refine st_value (v := (.agg (setA S))) (by rfl) (by rfl) ?_
  simp only [Act.put, List.setIfInBounds_toArray, List.set_cons_zero, List.set_cons_succ]
  refine st_value (v := (.int .i64 0)) (by rfl) (by rfl) ?_
  simp only [Act.put, List.setIfInBounds_toArray, List.set_cons_zero, List.set_cons_succ]
  refine st_value (v := (.int .i64 0)) (by rfl) (by rfl) ?_
  simp only [Act.put, List.setIfInBounds_toArray, List.set_cons_zero, List.set_cons_succ]
  refine st_new (by rfl) (run_alloc_set rfl _) ?_
  intro g16 w17 B18 hb19 lo20
  simp only [Act.put, List.setIfInBounds_toArray, List.set_cons_zero, List.set_cons_succ]
  have n21 := B3.ne lo20
  have n22 := B8.ne lo20
  replace lo20 := low_le bel lo20
  replace B3 := B3.below hb19
  replace B8 := B8.below hb19
  replace bel := bl_step bel hb19
  clear hb19
  refine st_row (by rfl) (run_store_set (.tmp 8) (.tmp 22) rfl rfl (S := S) rfl B18) B18 ?_
  intro w23 B25 hg24
  simp only [Act.put, List.setIfInBounds_toArray, List.set_cons_zero, List.set_cons_succ]
  replace B3 := B3.kept hg24 n21
  replace B8 := B8.kept hg24 n22
  clear B18
  replace bel := bl_kept0 bel hg24 lo20
  clear hg24
  refine st_value (v := (.int .i64 0)) (by rfl) (by rfl) ?_
  simp only [Act.put, List.setIfInBounds_toArray, List.set_cons_zero, List.set_cons_succ]
  refine st_value (v := (.int .i64 0)) (by rfl) (by rfl) ?_
  simp only [Act.put, List.setIfInBounds_toArray, List.set_cons_zero, List.set_cons_succ]
  refine wpList_nil ?_
  show Code.wp _ _ _ _ _
  refine wp_seq ?_
  refine wp_seq ?_
  cases hg26 : decide (S = T)
  · have hp27 := of_decide_eq_false hg26
    refine wp_region_facts_lit (C := Abv w23) (G := G0) [.val (.string (str (prt S))), .val (.agg (setA S)), .val (.string (str (prt S))), .val (.bool false), .val (.bool false), .val (.int .i64 0), .val (.bool false), .val (.bool false), .val (.bool false), .val (.agg (setA S)), .val (.agg (setA S)), .val (.bool false), .val (.bool false), .val (.bool false), .val (.agg (setA T)), .val (.string (str (prt T))), .val (.string (str (prt S))), .val (.bool false), .val (.agg (setA S)), .val (.agg (setA T)), .val (.bool false), .val (.bool false), .val (.bool false)] (by kernel_rfl) (by kernel_rfl) (Abv.start _) ?_
    refine fsteps_val (fun W hC _ => opok_value (v := (.string (str (prt S)))) (by rfl) (by rfl) rfl hC (G0.refl _)) ?_
    simp only [Act.put, List.setIfInBounds_toArray, List.set_cons_zero, List.set_cons_succ]
    refine fsteps_val (fun W hC _ => opok_value (v := (.agg (setA S))) (by rfl) (run_load_set (.tmp 3) rfl _ rfl S (B3.below hC)) rfl hC (G0.refl _)) ?_
    simp only [Act.put, List.setIfInBounds_toArray, List.set_cons_zero, List.set_cons_succ]
    refine fsteps_val (fun W hC _ => opok_call (by rfl) (run_call_14_1 (.tmp 26) rfl rfl W) ((refPrint_calls S hS W).mono fun e W' ⟨h1, h2⟩ => ⟨_, h1, rfl, hC.step h2, h2⟩)) ?_
    simp only [Act.put, List.setIfInBounds_toArray, List.set_cons_zero, List.set_cons_succ]
    refine fsteps_val (fun W hC _ => opok_value (v := (.bool false)) (by rfl) (run_neq_text_t (.tmp 25) (.tmp 27) (l := (prt S)) (m := (prt S)) rfl rfl rfl rfl W) rfl hC (G0.refl _)) ?_
    simp only [Act.put, List.setIfInBounds_toArray, List.set_cons_zero, List.set_cons_succ]
    refine fsteps_val (fun W hC _ => opok_value (v := (.bool false)) (by rfl) (by rfl) rfl hC (G0.refl _)) ?_
    simp only [Act.put, List.setIfInBounds_toArray, List.set_cons_zero, List.set_cons_succ]
    refine fsteps_val (fun W hC _ => opok_value (v := (.int .i64 0)) (by rfl) (by rfl) rfl hC (G0.refl _)) ?_
    simp only [Act.put, List.setIfInBounds_toArray, List.set_cons_zero, List.set_cons_succ]
    refine fsteps_val (fun W hC _ => opok_value (v := (.bool false)) (by rfl) (run_neq_int_t (.tmp 30) (.const (.int .i64 0)) rfl rfl rfl rfl W) rfl hC (G0.refl _)) ?_
    simp only [Act.put, List.setIfInBounds_toArray, List.set_cons_zero, List.set_cons_succ]
    refine fsteps_val (fun W hC _ => opok_value (v := (.bool false)) (by rfl) (by rfl) rfl hC (G0.refl _)) ?_
    simp only [Act.put, List.setIfInBounds_toArray, List.set_cons_zero, List.set_cons_succ]
    refine fsteps_val (fun W hC _ => opok_value (v := (.bool false)) (by rfl) (by rfl) rfl hC (G0.refl _)) ?_
    simp only [Act.put, List.setIfInBounds_toArray, List.set_cons_zero, List.set_cons_succ]
    refine fsteps_val (fun W hC _ => opok_value (v := (.agg (setA S))) (by rfl) (run_load_set (.tmp 8) rfl _ rfl S (B25.below hC)) rfl hC (G0.refl _)) ?_
    simp only [Act.put, List.setIfInBounds_toArray, List.set_cons_zero, List.set_cons_succ]
    refine fsteps_val (fun W hC _ => opok_value (v := (.agg (setA S))) (by rfl) (run_load_set (.tmp 3) rfl _ rfl S (B3.below hC)) rfl hC (G0.refl _)) ?_
    simp only [Act.put, List.setIfInBounds_toArray, List.set_cons_zero, List.set_cons_succ]
    refine fsteps_val (fun W hC _ => opok_value (v := (.bool false)) (by rfl) (run_neq_set_t (.tmp 34) (.tmp 35) rfl rfl rfl hS hS rfl W) rfl hC (G0.refl _)) ?_
    simp only [Act.put, List.setIfInBounds_toArray, List.set_cons_zero, List.set_cons_succ]
    refine fsteps_val (fun W hC _ => opok_value (v := (.bool false)) (by rfl) (by rfl) rfl hC (G0.refl _)) ?_
    simp only [Act.put, List.setIfInBounds_toArray, List.set_cons_zero, List.set_cons_succ]
    refine fsteps_val (fun W hC _ => opok_value (v := (.bool false)) (by rfl) (by rfl) rfl hC (G0.refl _)) ?_
    simp only [Act.put, List.setIfInBounds_toArray, List.set_cons_zero, List.set_cons_succ]
    refine fsteps_val (fun W hC _ => opok_value (v := (.agg (setA T))) (by rfl) (run_load_set (.tmp 4) rfl _ rfl T (B8.below hC)) rfl hC (G0.refl _)) ?_
    simp only [Act.put, List.setIfInBounds_toArray, List.set_cons_zero, List.set_cons_succ]
    refine fsteps_val (fun W hC _ => opok_call (by rfl) (run_call_13_1 (.tmp 39) rfl rfl W) ((print_calls T hT W (hB.same (bl_step bel hC))).mono fun e W' ⟨h1, h2⟩ => ⟨_, h1, rfl, hC.step h2, h2⟩)) ?_
    simp only [Act.put, List.setIfInBounds_toArray, List.set_cons_zero, List.set_cons_succ]
    refine fsteps_val (fun W hC _ => opok_value (v := (.string (str (prt S)))) (by rfl) (by rfl) rfl hC (G0.refl _)) ?_
    simp only [Act.put, List.setIfInBounds_toArray, List.set_cons_zero, List.set_cons_succ]
    refine fsteps_val (fun W hC _ => opok_value (v := (.bool false)) (by rfl) (run_eql_text_f (.tmp 40) (.tmp 41) (l := (prt T)) (m := (prt S)) rfl rfl rfl (fun e => hp27 (prt_inj hT hS e).symm) W) rfl hC (G0.refl _)) ?_
    simp only [Act.put, List.setIfInBounds_toArray, List.set_cons_zero, List.set_cons_succ]
    refine fsteps_val (fun W hC _ => opok_value (v := (.agg (setA S))) (by rfl) (run_load_set (.tmp 3) rfl _ rfl S (B3.below hC)) rfl hC (G0.refl _)) ?_
    simp only [Act.put, List.setIfInBounds_toArray, List.set_cons_zero, List.set_cons_succ]
    refine fsteps_val (fun W hC _ => opok_value (v := (.agg (setA T))) (by rfl) (run_load_set (.tmp 4) rfl _ rfl T (B8.below hC)) rfl hC (G0.refl _)) ?_
    simp only [Act.put, List.setIfInBounds_toArray, List.set_cons_zero, List.set_cons_succ]
    refine fsteps_val (fun W hC _ => opok_value (v := (.bool false)) (by rfl) ((run_eql_set (.tmp 43) (.tmp 44) rfl rfl rfl hS hT W).trans (by rw [hg26])) rfl hC (G0.refl _)) ?_
    simp only [Act.put, List.setIfInBounds_toArray, List.set_cons_zero, List.set_cons_succ]
    refine fsteps_val (fun W hC _ => opok_value (v := (.bool false)) (by rfl) (run_neq_bool_t (.tmp 42) (.tmp 45) rfl rfl rfl W) rfl hC (G0.refl _)) ?_
    simp only [Act.put, List.setIfInBounds_toArray, List.set_cons_zero, List.set_cons_succ]
    refine fsteps_val (fun W hC _ => opok_value (v := (.bool false)) (by rfl) (by rfl) rfl hC (G0.refl _)) ?_
    simp only [Act.put, List.setIfInBounds_toArray, List.set_cons_zero, List.set_cons_succ]
    refine fsteps_nil fun w28 hC _ => ?_
    replace hC : Below w23.heap.size w23 w28 := hC
    replace B3 := B3.below hC
    replace B8 := B8.below hC
    replace B25 := B25.below hC
    replace bel := bl_step bel hC
    clear hC
    show Code.wp _ _ _ _ _
    refine wp_cond_false rfl ?_
    refine wp_skip ?_
    show Code.wp _ _ _ _ _
    refine wp_seq ?_
    refine wp_region_lit ?_
    refine st_value (v := (.string (str l))) (by rfl) (by rfl) ?_
    simp only [Act.put, List.setIfInBounds_toArray, List.set_cons_zero, List.set_cons_succ]
    refine st_value (v := (.string (str l))) (by rfl) (by rfl) ?_
    simp only [Act.put, List.setIfInBounds_toArray, List.set_cons_zero, List.set_cons_succ]
    refine st_value (v := (.int .i64 (l.length : Int))) (by rfl) (run_len_text (.tmp 50) rfl Tryd.underlying9 (l := l) rfl w28) ?_
    simp only [Act.put, List.setIfInBounds_toArray, List.set_cons_zero, List.set_cons_succ]
    refine st_value (v := (.int .i64 (min (l.length : Int) 1000))) (by rfl) (run_min2 (.tmp 51) (.const (.int .i64 1000)) rfl rfl rfl w28) ?_
    simp only [Act.put, List.setIfInBounds_toArray, List.set_cons_zero, List.set_cons_succ]
    refine st_value (v := (.string (str (l.take 1000)))) (by rfl) (run_cut_text (.tmp 49) (.tmp 52) rfl Tryd.underlying9 (l := l) rfl 1000 rfl rfl w28) ?_
    simp only [Act.put, List.setIfInBounds_toArray, List.set_cons_zero, List.set_cons_succ]
    refine st_call1 (v := (.tuple #[.agg (setA ((parse (l.take 1000)).1)), .int .i64 (((parse (l.take 1000)).2.1 : Nat) : Int), .int .i64 (((parse (l.take 1000)).2.2 : Nat) : Int)])) (by rfl) (run_call_10_1 (.tmp 53) rfl rfl _) (parse_at (l.take 1000) (by rw [List.length_take]; omega) w28 (S := (parse (l.take 1000)).1) (e := (parse (l.take 1000)).2.1) (a := (parse (l.take 1000)).2.2) rfl) ?_
    intro w29 hb30
    simp only [Act.put, List.setIfInBounds_toArray, List.set_cons_zero, List.set_cons_succ]
    replace B3 := B3.below hb30
    replace B8 := B8.below hb30
    replace B25 := B25.below hb30
    replace bel := bl_step bel hb30
    clear hb30
    refine st_value (v := (.tuple #[.agg (setA ((parse (l.take 1000)).1)), .int .i64 (((parse (l.take 1000)).2.1 : Nat) : Int), .int .i64 (((parse (l.take 1000)).2.2 : Nat) : Int)])) (by rfl) (by rfl) ?_
    simp only [Act.put, List.setIfInBounds_toArray, List.set_cons_zero, List.set_cons_succ]
    refine st_value (v := (.agg (setA ((parse (l.take 1000)).1)))) (by rfl) (by rfl) ?_
    simp only [Act.put, List.setIfInBounds_toArray, List.set_cons_zero, List.set_cons_succ]
    refine st_value (v := (.int .i64 (((parse (l.take 1000)).2.1 : Nat) : Int))) (by rfl) (by rfl) ?_
    simp only [Act.put, List.setIfInBounds_toArray, List.set_cons_zero, List.set_cons_succ]
    refine st_value (v := (.int .i64 (((parse (l.take 1000)).2.2 : Nat) : Int))) (by rfl) (by rfl) ?_
    simp only [Act.put, List.setIfInBounds_toArray, List.set_cons_zero, List.set_cons_succ]
    refine st_new (by rfl) (run_alloc_set rfl _) ?_
    intro g31 w32 B33 hb34 lo35
    simp only [Act.put, List.setIfInBounds_toArray, List.set_cons_zero, List.set_cons_succ]
    have n36 := B3.ne lo35
    have n37 := B8.ne lo35
    have n38 := B25.ne lo35
    replace lo35 := low_le bel lo35
    replace B3 := B3.below hb34
    replace B8 := B8.below hb34
    replace B25 := B25.below hb34
    replace bel := bl_step bel hb34
    clear hb34
    refine st_row (by rfl) (run_store_set (.tmp 11) (.tmp 55) rfl rfl (S := ((parse (l.take 1000)).1)) rfl B33) B33 ?_
    intro w39 B41 hg40
    simp only [Act.put, List.setIfInBounds_toArray, List.set_cons_zero, List.set_cons_succ]
    replace B3 := B3.kept hg40 n36
    replace B8 := B8.kept hg40 n37
    replace B25 := B25.kept hg40 n38
    clear B33
    replace bel := bl_kept0 bel hg40 lo35
    clear hg40
    refine st_value (v := (.int .i64 (((parse (l.take 1000)).2.1 : Nat) : Int))) (by rfl) (by rfl) ?_
    simp only [Act.put, List.setIfInBounds_toArray, List.set_cons_zero, List.set_cons_succ]
    refine st_value (v := (.int .i64 (((parse (l.take 1000)).2.2 : Nat) : Int))) (by rfl) (by rfl) ?_
    simp only [Act.put, List.setIfInBounds_toArray, List.set_cons_zero, List.set_cons_succ]
    refine wpList_nil ?_
    show Code.wp _ _ _ _ _
    refine wp_seq ?_
    refine wp_seq ?_
    refine wp_region_lit ?_
    refine st_value (v := (.int .i64 (((parse (l.take 1000)).2.1 : Nat) : Int))) (by rfl) (by rfl) ?_
    simp only [Act.put, List.setIfInBounds_toArray, List.set_cons_zero, List.set_cons_succ]
    refine st_value (v := (.bool (!decide ((((parse (l.take 1000)).2.1 : Nat) : Int) = 0)))) (by rfl) (run_neq_int (.tmp 58) (.const (.int .i64 0)) rfl rfl rfl w39) ?_
    simp only [Act.put, List.setIfInBounds_toArray, List.set_cons_zero, List.set_cons_succ]
    refine wpList_nil ?_
    show Code.wp _ _ _ _ _
    cases hg42 : decide ((((parse (l.take 1000)).2.1 : Nat) : Int) = 0)
    · have hp43 := of_decide_eq_false hg42
      refine wp_cond_true rfl ?_
      refine wp_seq ?_
      refine wp_region_lit ?_
      refine st_value (v := (.agg (setA ((parse (l.take 1000)).1)))) (by rfl) (run_load_set (.tmp 11) rfl _ rfl ((parse (l.take 1000)).1) B41) ?_
      simp only [Act.put, List.setIfInBounds_toArray, List.set_cons_zero, List.set_cons_succ]
      refine st_value (v := (.agg (setA 0))) (by rfl) (run_build_set rfl w39) ?_
      simp only [Act.put, List.setIfInBounds_toArray, List.set_cons_zero, List.set_cons_succ]
      refine st_value (v := (.bool true)) (by rfl) (run_eql_set_t (.tmp 60) (.tmp 61) rfl rfl rfl (parse_sm _) sm_zero (parse_err (fun h => hp43 (by rw [h]; rfl))) w39) ?_
      simp only [Act.put, List.setIfInBounds_toArray, List.set_cons_zero, List.set_cons_succ]
      refine st_value (v := (.bool true)) (by rfl) (by rfl) ?_
      simp only [Act.put, List.setIfInBounds_toArray, List.set_cons_zero, List.set_cons_succ]
      refine st_call1 (v := (.bool true)) (by rfl) (run_call_12_0  rfl  _) (lives_calls w39 (hB.same bel)) ?_
      intro w44 hb45
      simp only [Act.put, List.setIfInBounds_toArray, List.set_cons_zero, List.set_cons_succ]
      replace B3 := B3.below hb45
      replace B8 := B8.below hb45
      replace B25 := B25.below hb45
      replace B41 := B41.below hb45
      replace bel := bl_step bel hb45
      clear hb45
      refine st_value (v := (.bool true)) (by rfl) (by rfl) ?_
      simp only [Act.put, List.setIfInBounds_toArray, List.set_cons_zero, List.set_cons_succ]
      refine st_value (v := (.bool true)) (by rfl) (by rfl) ?_
      simp only [Act.put, List.setIfInBounds_toArray, List.set_cons_zero, List.set_cons_succ]
      refine wpList_nil ?_
      show Code.wp _ _ _ _ _
      refine wp_ret ?_
      first | show bodyPost _ _ _ _ _ _ | (simp only [Exit.then]; show bodyPost _ _ _ _ _ _)
      exact bodyPost_ret (results_tmp rfl _ _ _) rfl ⟨rfl, bel⟩
    · have hp46 := of_decide_eq_true hg42
      refine wp_cond_false rfl ?_
      refine wp_skip ?_
      show Code.wp _ _ _ _ _
      refine wp_seq ?_
      refine wp_region_lit ?_
      refine st_value (v := (.agg (setA ((parse (l.take 1000)).1)))) (by rfl) (run_load_set (.tmp 11) rfl _ rfl ((parse (l.take 1000)).1) B41) ?_
      simp only [Act.put, List.setIfInBounds_toArray, List.set_cons_zero, List.set_cons_succ]
      refine st_call1 (v := (.string (str (prt ((parse (l.take 1000)).1))))) (by rfl) (run_call_13_1 (.tmp 67) rfl rfl _) (print_calls ((parse (l.take 1000)).1) (parse_sm _) w39 (hB.same bel)) ?_
      intro w47 hb48
      simp only [Act.put, List.setIfInBounds_toArray, List.set_cons_zero, List.set_cons_succ]
      replace B3 := B3.below hb48
      replace B8 := B8.below hb48
      replace B25 := B25.below hb48
      replace B41 := B41.below hb48
      replace bel := bl_step bel hb48
      clear hb48
      refine st_call1 (v := (.tuple #[.agg (setA ((parse (l.take 1000)).1)), .int .i64 0, .int .i64 0])) (by rfl) (run_call_10_1 (.tmp 68) rfl rfl _) (parse_at (prt ((parse (l.take 1000)).1)) (Nat.le_trans (prt_len (parse_sm _)) (by omega)) w47 (parse_prt (parse_sm _))) ?_
      intro w49 hb50
      simp only [Act.put, List.setIfInBounds_toArray, List.set_cons_zero, List.set_cons_succ]
      replace B3 := B3.below hb50
      replace B8 := B8.below hb50
      replace B25 := B25.below hb50
      replace B41 := B41.below hb50
      replace bel := bl_step bel hb50
      clear hb50
      refine st_value (v := (.tuple #[.agg (setA ((parse (l.take 1000)).1)), .int .i64 0, .int .i64 0])) (by rfl) (by rfl) ?_
      simp only [Act.put, List.setIfInBounds_toArray, List.set_cons_zero, List.set_cons_succ]
      refine st_value (v := (.agg (setA ((parse (l.take 1000)).1)))) (by rfl) (by rfl) ?_
      simp only [Act.put, List.setIfInBounds_toArray, List.set_cons_zero, List.set_cons_succ]
      refine st_value (v := (.int .i64 0)) (by rfl) (by rfl) ?_
      simp only [Act.put, List.setIfInBounds_toArray, List.set_cons_zero, List.set_cons_succ]
      refine st_value (v := (.int .i64 0)) (by rfl) (by rfl) ?_
      simp only [Act.put, List.setIfInBounds_toArray, List.set_cons_zero, List.set_cons_succ]
      refine st_new (by rfl) (run_alloc_set rfl _) ?_
      intro g51 w52 B53 hb54 lo55
      simp only [Act.put, List.setIfInBounds_toArray, List.set_cons_zero, List.set_cons_succ]
      have n56 := B3.ne lo55
      have n57 := B8.ne lo55
      have n58 := B25.ne lo55
      have n59 := B41.ne lo55
      replace lo55 := low_le bel lo55
      replace B3 := B3.below hb54
      replace B8 := B8.below hb54
      replace B25 := B25.below hb54
      replace B41 := B41.below hb54
      replace bel := bl_step bel hb54
      clear hb54
      refine st_row (by rfl) (run_store_set (.tmp 14) (.tmp 70) rfl rfl (S := ((parse (l.take 1000)).1)) rfl B53) B53 ?_
      intro w60 B62 hg61
      simp only [Act.put, List.setIfInBounds_toArray, List.set_cons_zero, List.set_cons_succ]
      replace B3 := B3.kept hg61 n56
      replace B8 := B8.kept hg61 n57
      replace B25 := B25.kept hg61 n58
      replace B41 := B41.kept hg61 n59
      clear B53
      replace bel := bl_kept0 bel hg61 lo55
      clear hg61
      refine st_value (v := (.int .i64 0)) (by rfl) (by rfl) ?_
      simp only [Act.put, List.setIfInBounds_toArray, List.set_cons_zero, List.set_cons_succ]
      refine st_value (v := (.int .i64 0)) (by rfl) (by rfl) ?_
      simp only [Act.put, List.setIfInBounds_toArray, List.set_cons_zero, List.set_cons_succ]
      refine wpList_nil ?_
      show Code.wp _ _ _ _ _
      refine wp_seq ?_
      refine wp_region_lit ?_
      refine st_value (v := (.int .i64 0)) (by rfl) (by rfl) ?_
      simp only [Act.put, List.setIfInBounds_toArray, List.set_cons_zero, List.set_cons_succ]
      refine st_value (v := (.bool true)) (by rfl) (run_eql_int_t (.tmp 73) (.const (.int .i64 0)) rfl rfl rfl rfl w60) ?_
      simp only [Act.put, List.setIfInBounds_toArray, List.set_cons_zero, List.set_cons_succ]
      refine st_value (v := (.bool true)) (by rfl) (by rfl) ?_
      simp only [Act.put, List.setIfInBounds_toArray, List.set_cons_zero, List.set_cons_succ]
      refine st_value (v := (.agg (setA ((parse (l.take 1000)).1)))) (by rfl) (run_load_set (.tmp 14) rfl _ rfl ((parse (l.take 1000)).1) B62) ?_
      simp only [Act.put, List.setIfInBounds_toArray, List.set_cons_zero, List.set_cons_succ]
      refine st_value (v := (.agg (setA ((parse (l.take 1000)).1)))) (by rfl) (run_load_set (.tmp 11) rfl _ rfl ((parse (l.take 1000)).1) B41) ?_
      simp only [Act.put, List.setIfInBounds_toArray, List.set_cons_zero, List.set_cons_succ]
      refine st_value (v := (.bool true)) (by rfl) (run_eql_set_t (.tmp 76) (.tmp 77) rfl rfl rfl (parse_sm _) (parse_sm _) rfl w60) ?_
      simp only [Act.put, List.setIfInBounds_toArray, List.set_cons_zero, List.set_cons_succ]
      refine st_value (v := (.bool true)) (by rfl) (by rfl) ?_
      simp only [Act.put, List.setIfInBounds_toArray, List.set_cons_zero, List.set_cons_succ]
      refine st_value (v := (.bool true)) (by rfl) (by rfl) ?_
      simp only [Act.put, List.setIfInBounds_toArray, List.set_cons_zero, List.set_cons_succ]
      refine st_call1 (v := (.bool true)) (by rfl) (run_call_12_0  rfl  _) (lives_calls w60 (hB.same bel)) ?_
      intro w63 hb64
      simp only [Act.put, List.setIfInBounds_toArray, List.set_cons_zero, List.set_cons_succ]
      replace B3 := B3.below hb64
      replace B8 := B8.below hb64
      replace B25 := B25.below hb64
      replace B41 := B41.below hb64
      replace B62 := B62.below hb64
      replace bel := bl_step bel hb64
      clear hb64
      refine st_value (v := (.bool true)) (by rfl) (by rfl) ?_
      simp only [Act.put, List.setIfInBounds_toArray, List.set_cons_zero, List.set_cons_succ]
      refine st_value (v := (.bool true)) (by rfl) (by rfl) ?_
      simp only [Act.put, List.setIfInBounds_toArray, List.set_cons_zero, List.set_cons_succ]
      refine wpList_nil ?_
      show Code.wp _ _ _ _ _
      refine wp_ret ?_
      first | show bodyPost _ _ _ _ _ _ | (simp only [Exit.then]; show bodyPost _ _ _ _ _ _)
      exact bodyPost_ret (results_tmp rfl _ _ _) rfl ⟨rfl, bel⟩
  · have hp65 := of_decide_eq_true hg26
    refine wp_region_facts_lit (C := Abv w23) (G := G0) [.val (.string (str (prt S))), .val (.agg (setA S)), .val (.string (str (prt S))), .val (.bool false), .val (.bool false), .val (.int .i64 0), .val (.bool false), .val (.bool false), .val (.bool false), .val (.agg (setA S)), .val (.agg (setA S)), .val (.bool false), .val (.bool false), .val (.bool false), .val (.agg (setA T)), .val (.string (str (prt T))), .val (.string (str (prt S))), .val (.bool true), .val (.agg (setA S)), .val (.agg (setA T)), .val (.bool true), .val (.bool false), .val (.bool false)] (by kernel_rfl) (by kernel_rfl) (Abv.start _) ?_
    refine fsteps_val (fun W hC _ => opok_value (v := (.string (str (prt S)))) (by rfl) (by rfl) rfl hC (G0.refl _)) ?_
    simp only [Act.put, List.setIfInBounds_toArray, List.set_cons_zero, List.set_cons_succ]
    refine fsteps_val (fun W hC _ => opok_value (v := (.agg (setA S))) (by rfl) (run_load_set (.tmp 3) rfl _ rfl S (B3.below hC)) rfl hC (G0.refl _)) ?_
    simp only [Act.put, List.setIfInBounds_toArray, List.set_cons_zero, List.set_cons_succ]
    refine fsteps_val (fun W hC _ => opok_call (by rfl) (run_call_14_1 (.tmp 26) rfl rfl W) ((refPrint_calls S hS W).mono fun e W' ⟨h1, h2⟩ => ⟨_, h1, rfl, hC.step h2, h2⟩)) ?_
    simp only [Act.put, List.setIfInBounds_toArray, List.set_cons_zero, List.set_cons_succ]
    refine fsteps_val (fun W hC _ => opok_value (v := (.bool false)) (by rfl) (run_neq_text_t (.tmp 25) (.tmp 27) (l := (prt S)) (m := (prt S)) rfl rfl rfl rfl W) rfl hC (G0.refl _)) ?_
    simp only [Act.put, List.setIfInBounds_toArray, List.set_cons_zero, List.set_cons_succ]
    refine fsteps_val (fun W hC _ => opok_value (v := (.bool false)) (by rfl) (by rfl) rfl hC (G0.refl _)) ?_
    simp only [Act.put, List.setIfInBounds_toArray, List.set_cons_zero, List.set_cons_succ]
    refine fsteps_val (fun W hC _ => opok_value (v := (.int .i64 0)) (by rfl) (by rfl) rfl hC (G0.refl _)) ?_
    simp only [Act.put, List.setIfInBounds_toArray, List.set_cons_zero, List.set_cons_succ]
    refine fsteps_val (fun W hC _ => opok_value (v := (.bool false)) (by rfl) (run_neq_int_t (.tmp 30) (.const (.int .i64 0)) rfl rfl rfl rfl W) rfl hC (G0.refl _)) ?_
    simp only [Act.put, List.setIfInBounds_toArray, List.set_cons_zero, List.set_cons_succ]
    refine fsteps_val (fun W hC _ => opok_value (v := (.bool false)) (by rfl) (by rfl) rfl hC (G0.refl _)) ?_
    simp only [Act.put, List.setIfInBounds_toArray, List.set_cons_zero, List.set_cons_succ]
    refine fsteps_val (fun W hC _ => opok_value (v := (.bool false)) (by rfl) (by rfl) rfl hC (G0.refl _)) ?_
    simp only [Act.put, List.setIfInBounds_toArray, List.set_cons_zero, List.set_cons_succ]
    refine fsteps_val (fun W hC _ => opok_value (v := (.agg (setA S))) (by rfl) (run_load_set (.tmp 8) rfl _ rfl S (B25.below hC)) rfl hC (G0.refl _)) ?_
    simp only [Act.put, List.setIfInBounds_toArray, List.set_cons_zero, List.set_cons_succ]
    refine fsteps_val (fun W hC _ => opok_value (v := (.agg (setA S))) (by rfl) (run_load_set (.tmp 3) rfl _ rfl S (B3.below hC)) rfl hC (G0.refl _)) ?_
    simp only [Act.put, List.setIfInBounds_toArray, List.set_cons_zero, List.set_cons_succ]
    refine fsteps_val (fun W hC _ => opok_value (v := (.bool false)) (by rfl) (run_neq_set_t (.tmp 34) (.tmp 35) rfl rfl rfl hS hS rfl W) rfl hC (G0.refl _)) ?_
    simp only [Act.put, List.setIfInBounds_toArray, List.set_cons_zero, List.set_cons_succ]
    refine fsteps_val (fun W hC _ => opok_value (v := (.bool false)) (by rfl) (by rfl) rfl hC (G0.refl _)) ?_
    simp only [Act.put, List.setIfInBounds_toArray, List.set_cons_zero, List.set_cons_succ]
    refine fsteps_val (fun W hC _ => opok_value (v := (.bool false)) (by rfl) (by rfl) rfl hC (G0.refl _)) ?_
    simp only [Act.put, List.setIfInBounds_toArray, List.set_cons_zero, List.set_cons_succ]
    refine fsteps_val (fun W hC _ => opok_value (v := (.agg (setA T))) (by rfl) (run_load_set (.tmp 4) rfl _ rfl T (B8.below hC)) rfl hC (G0.refl _)) ?_
    simp only [Act.put, List.setIfInBounds_toArray, List.set_cons_zero, List.set_cons_succ]
    refine fsteps_val (fun W hC _ => opok_call (by rfl) (run_call_13_1 (.tmp 39) rfl rfl W) ((print_calls T hT W (hB.same (bl_step bel hC))).mono fun e W' ⟨h1, h2⟩ => ⟨_, h1, rfl, hC.step h2, h2⟩)) ?_
    simp only [Act.put, List.setIfInBounds_toArray, List.set_cons_zero, List.set_cons_succ]
    refine fsteps_val (fun W hC _ => opok_value (v := (.string (str (prt S)))) (by rfl) (by rfl) rfl hC (G0.refl _)) ?_
    simp only [Act.put, List.setIfInBounds_toArray, List.set_cons_zero, List.set_cons_succ]
    refine fsteps_val (fun W hC _ => opok_value (v := (.bool true)) (by rfl) (run_eql_text_t (.tmp 40) (.tmp 41) (l := (prt T)) (m := (prt S)) rfl rfl rfl (congrArg prt hp65.symm) W) rfl hC (G0.refl _)) ?_
    simp only [Act.put, List.setIfInBounds_toArray, List.set_cons_zero, List.set_cons_succ]
    refine fsteps_val (fun W hC _ => opok_value (v := (.agg (setA S))) (by rfl) (run_load_set (.tmp 3) rfl _ rfl S (B3.below hC)) rfl hC (G0.refl _)) ?_
    simp only [Act.put, List.setIfInBounds_toArray, List.set_cons_zero, List.set_cons_succ]
    refine fsteps_val (fun W hC _ => opok_value (v := (.agg (setA T))) (by rfl) (run_load_set (.tmp 4) rfl _ rfl T (B8.below hC)) rfl hC (G0.refl _)) ?_
    simp only [Act.put, List.setIfInBounds_toArray, List.set_cons_zero, List.set_cons_succ]
    refine fsteps_val (fun W hC _ => opok_value (v := (.bool true)) (by rfl) ((run_eql_set (.tmp 43) (.tmp 44) rfl rfl rfl hS hT W).trans (by rw [hg26])) rfl hC (G0.refl _)) ?_
    simp only [Act.put, List.setIfInBounds_toArray, List.set_cons_zero, List.set_cons_succ]
    refine fsteps_val (fun W hC _ => opok_value (v := (.bool false)) (by rfl) (run_neq_bool_t (.tmp 42) (.tmp 45) rfl rfl rfl W) rfl hC (G0.refl _)) ?_
    simp only [Act.put, List.setIfInBounds_toArray, List.set_cons_zero, List.set_cons_succ]
    refine fsteps_val (fun W hC _ => opok_value (v := (.bool false)) (by rfl) (by rfl) rfl hC (G0.refl _)) ?_
    simp only [Act.put, List.setIfInBounds_toArray, List.set_cons_zero, List.set_cons_succ]
    refine fsteps_nil fun w66 hC _ => ?_
    replace hC : Below w23.heap.size w23 w66 := hC
    replace B3 := B3.below hC
    replace B8 := B8.below hC
    replace B25 := B25.below hC
    replace bel := bl_step bel hC
    clear hC
    show Code.wp _ _ _ _ _
    refine wp_cond_false rfl ?_
    refine wp_skip ?_
    show Code.wp _ _ _ _ _
    refine wp_seq ?_
    refine wp_region_lit ?_
    refine st_value (v := (.string (str l))) (by rfl) (by rfl) ?_
    simp only [Act.put, List.setIfInBounds_toArray, List.set_cons_zero, List.set_cons_succ]
    refine st_value (v := (.string (str l))) (by rfl) (by rfl) ?_
    simp only [Act.put, List.setIfInBounds_toArray, List.set_cons_zero, List.set_cons_succ]
    refine st_value (v := (.int .i64 (l.length : Int))) (by rfl) (run_len_text (.tmp 50) rfl Tryd.underlying9 (l := l) rfl w66) ?_
    simp only [Act.put, List.setIfInBounds_toArray, List.set_cons_zero, List.set_cons_succ]
    refine st_value (v := (.int .i64 (min (l.length : Int) 1000))) (by rfl) (run_min2 (.tmp 51) (.const (.int .i64 1000)) rfl rfl rfl w66) ?_
    simp only [Act.put, List.setIfInBounds_toArray, List.set_cons_zero, List.set_cons_succ]
    refine st_value (v := (.string (str (l.take 1000)))) (by rfl) (run_cut_text (.tmp 49) (.tmp 52) rfl Tryd.underlying9 (l := l) rfl 1000 rfl rfl w66) ?_
    simp only [Act.put, List.setIfInBounds_toArray, List.set_cons_zero, List.set_cons_succ]
    refine st_call1 (v := (.tuple #[.agg (setA ((parse (l.take 1000)).1)), .int .i64 (((parse (l.take 1000)).2.1 : Nat) : Int), .int .i64 (((parse (l.take 1000)).2.2 : Nat) : Int)])) (by rfl) (run_call_10_1 (.tmp 53) rfl rfl _) (parse_at (l.take 1000) (by rw [List.length_take]; omega) w66 (S := (parse (l.take 1000)).1) (e := (parse (l.take 1000)).2.1) (a := (parse (l.take 1000)).2.2) rfl) ?_
    intro w67 hb68
    simp only [Act.put, List.setIfInBounds_toArray, List.set_cons_zero, List.set_cons_succ]
    replace B3 := B3.below hb68
    replace B8 := B8.below hb68
    replace B25 := B25.below hb68
    replace bel := bl_step bel hb68
    clear hb68
    refine st_value (v := (.tuple #[.agg (setA ((parse (l.take 1000)).1)), .int .i64 (((parse (l.take 1000)).2.1 : Nat) : Int), .int .i64 (((parse (l.take 1000)).2.2 : Nat) : Int)])) (by rfl) (by rfl) ?_
    simp only [Act.put, List.setIfInBounds_toArray, List.set_cons_zero, List.set_cons_succ]
    refine st_value (v := (.agg (setA ((parse (l.take 1000)).1)))) (by rfl) (by rfl) ?_
    simp only [Act.put, List.setIfInBounds_toArray, List.set_cons_zero, List.set_cons_succ]
    refine st_value (v := (.int .i64 (((parse (l.take 1000)).2.1 : Nat) : Int))) (by rfl) (by rfl) ?_
    simp only [Act.put, List.setIfInBounds_toArray, List.set_cons_zero, List.set_cons_succ]
    refine st_value (v := (.int .i64 (((parse (l.take 1000)).2.2 : Nat) : Int))) (by rfl) (by rfl) ?_
    simp only [Act.put, List.setIfInBounds_toArray, List.set_cons_zero, List.set_cons_succ]
    refine st_new (by rfl) (run_alloc_set rfl _) ?_
    intro g69 w70 B71 hb72 lo73
    simp only [Act.put, List.setIfInBounds_toArray, List.set_cons_zero, List.set_cons_succ]
    have n74 := B3.ne lo73
    have n75 := B8.ne lo73
    have n76 := B25.ne lo73
    replace lo73 := low_le bel lo73
    replace B3 := B3.below hb72
    replace B8 := B8.below hb72
    replace B25 := B25.below hb72
    replace bel := bl_step bel hb72
    clear hb72
    refine st_row (by rfl) (run_store_set (.tmp 11) (.tmp 55) rfl rfl (S := ((parse (l.take 1000)).1)) rfl B71) B71 ?_
    intro w77 B79 hg78
    simp only [Act.put, List.setIfInBounds_toArray, List.set_cons_zero, List.set_cons_succ]
    replace B3 := B3.kept hg78 n74
    replace B8 := B8.kept hg78 n75
    replace B25 := B25.kept hg78 n76
    clear B71
    replace bel := bl_kept0 bel hg78 lo73
    clear hg78
    refine st_value (v := (.int .i64 (((parse (l.take 1000)).2.1 : Nat) : Int))) (by rfl) (by rfl) ?_
    simp only [Act.put, List.setIfInBounds_toArray, List.set_cons_zero, List.set_cons_succ]
    refine st_value (v := (.int .i64 (((parse (l.take 1000)).2.2 : Nat) : Int))) (by rfl) (by rfl) ?_
    simp only [Act.put, List.setIfInBounds_toArray, List.set_cons_zero, List.set_cons_succ]
    refine wpList_nil ?_
    show Code.wp _ _ _ _ _
    refine wp_seq ?_
    refine wp_seq ?_
    refine wp_region_lit ?_
    refine st_value (v := (.int .i64 (((parse (l.take 1000)).2.1 : Nat) : Int))) (by rfl) (by rfl) ?_
    simp only [Act.put, List.setIfInBounds_toArray, List.set_cons_zero, List.set_cons_succ]
    refine st_value (v := (.bool (!decide ((((parse (l.take 1000)).2.1 : Nat) : Int) = 0)))) (by rfl) (run_neq_int (.tmp 58) (.const (.int .i64 0)) rfl rfl rfl w77) ?_
    simp only [Act.put, List.setIfInBounds_toArray, List.set_cons_zero, List.set_cons_succ]
    refine wpList_nil ?_
    show Code.wp _ _ _ _ _
    cases hg80 : decide ((((parse (l.take 1000)).2.1 : Nat) : Int) = 0)
    · have hp81 := of_decide_eq_false hg80
      refine wp_cond_true rfl ?_
      refine wp_seq ?_
      refine wp_region_lit ?_
      refine st_value (v := (.agg (setA ((parse (l.take 1000)).1)))) (by rfl) (run_load_set (.tmp 11) rfl _ rfl ((parse (l.take 1000)).1) B79) ?_
      simp only [Act.put, List.setIfInBounds_toArray, List.set_cons_zero, List.set_cons_succ]
      refine st_value (v := (.agg (setA 0))) (by rfl) (run_build_set rfl w77) ?_
      simp only [Act.put, List.setIfInBounds_toArray, List.set_cons_zero, List.set_cons_succ]
      refine st_value (v := (.bool true)) (by rfl) (run_eql_set_t (.tmp 60) (.tmp 61) rfl rfl rfl (parse_sm _) sm_zero (parse_err (fun h => hp81 (by rw [h]; rfl))) w77) ?_
      simp only [Act.put, List.setIfInBounds_toArray, List.set_cons_zero, List.set_cons_succ]
      refine st_value (v := (.bool true)) (by rfl) (by rfl) ?_
      simp only [Act.put, List.setIfInBounds_toArray, List.set_cons_zero, List.set_cons_succ]
      refine st_call1 (v := (.bool true)) (by rfl) (run_call_12_0  rfl  _) (lives_calls w77 (hB.same bel)) ?_
      intro w82 hb83
      simp only [Act.put, List.setIfInBounds_toArray, List.set_cons_zero, List.set_cons_succ]
      replace B3 := B3.below hb83
      replace B8 := B8.below hb83
      replace B25 := B25.below hb83
      replace B79 := B79.below hb83
      replace bel := bl_step bel hb83
      clear hb83
      refine st_value (v := (.bool true)) (by rfl) (by rfl) ?_
      simp only [Act.put, List.setIfInBounds_toArray, List.set_cons_zero, List.set_cons_succ]
      refine st_value (v := (.bool true)) (by rfl) (by rfl) ?_
      simp only [Act.put, List.setIfInBounds_toArray, List.set_cons_zero, List.set_cons_succ]
      refine wpList_nil ?_
      show Code.wp _ _ _ _ _
      refine wp_ret ?_
      first | show bodyPost _ _ _ _ _ _ | (simp only [Exit.then]; show bodyPost _ _ _ _ _ _)
      exact bodyPost_ret (results_tmp rfl _ _ _) rfl ⟨rfl, bel⟩
    · have hp84 := of_decide_eq_true hg80
      refine wp_cond_false rfl ?_
      refine wp_skip ?_
      show Code.wp _ _ _ _ _
      refine wp_seq ?_
      refine wp_region_lit ?_
      refine st_value (v := (.agg (setA ((parse (l.take 1000)).1)))) (by rfl) (run_load_set (.tmp 11) rfl _ rfl ((parse (l.take 1000)).1) B79) ?_
      simp only [Act.put, List.setIfInBounds_toArray, List.set_cons_zero, List.set_cons_succ]
      refine st_call1 (v := (.string (str (prt ((parse (l.take 1000)).1))))) (by rfl) (run_call_13_1 (.tmp 67) rfl rfl _) (print_calls ((parse (l.take 1000)).1) (parse_sm _) w77 (hB.same bel)) ?_
      intro w85 hb86
      simp only [Act.put, List.setIfInBounds_toArray, List.set_cons_zero, List.set_cons_succ]
      replace B3 := B3.below hb86
      replace B8 := B8.below hb86
      replace B25 := B25.below hb86
      replace B79 := B79.below hb86
      replace bel := bl_step bel hb86
      clear hb86
      refine st_call1 (v := (.tuple #[.agg (setA ((parse (l.take 1000)).1)), .int .i64 0, .int .i64 0])) (by rfl) (run_call_10_1 (.tmp 68) rfl rfl _) (parse_at (prt ((parse (l.take 1000)).1)) (Nat.le_trans (prt_len (parse_sm _)) (by omega)) w85 (parse_prt (parse_sm _))) ?_
      intro w87 hb88
      simp only [Act.put, List.setIfInBounds_toArray, List.set_cons_zero, List.set_cons_succ]
      replace B3 := B3.below hb88
      replace B8 := B8.below hb88
      replace B25 := B25.below hb88
      replace B79 := B79.below hb88
      replace bel := bl_step bel hb88
      clear hb88
      refine st_value (v := (.tuple #[.agg (setA ((parse (l.take 1000)).1)), .int .i64 0, .int .i64 0])) (by rfl) (by rfl) ?_
      simp only [Act.put, List.setIfInBounds_toArray, List.set_cons_zero, List.set_cons_succ]
      refine st_value (v := (.agg (setA ((parse (l.take 1000)).1)))) (by rfl) (by rfl) ?_
      simp only [Act.put, List.setIfInBounds_toArray, List.set_cons_zero, List.set_cons_succ]
      refine st_value (v := (.int .i64 0)) (by rfl) (by rfl) ?_
      simp only [Act.put, List.setIfInBounds_toArray, List.set_cons_zero, List.set_cons_succ]
      refine st_value (v := (.int .i64 0)) (by rfl) (by rfl) ?_
      simp only [Act.put, List.setIfInBounds_toArray, List.set_cons_zero, List.set_cons_succ]
      refine st_new (by rfl) (run_alloc_set rfl _) ?_
      intro g89 w90 B91 hb92 lo93
      simp only [Act.put, List.setIfInBounds_toArray, List.set_cons_zero, List.set_cons_succ]
      have n94 := B3.ne lo93
      have n95 := B8.ne lo93
      have n96 := B25.ne lo93
      have n97 := B79.ne lo93
      replace lo93 := low_le bel lo93
      replace B3 := B3.below hb92
      replace B8 := B8.below hb92
      replace B25 := B25.below hb92
      replace B79 := B79.below hb92
      replace bel := bl_step bel hb92
      clear hb92
      refine st_row (by rfl) (run_store_set (.tmp 14) (.tmp 70) rfl rfl (S := ((parse (l.take 1000)).1)) rfl B91) B91 ?_
      intro w98 B100 hg99
      simp only [Act.put, List.setIfInBounds_toArray, List.set_cons_zero, List.set_cons_succ]
      replace B3 := B3.kept hg99 n94
      replace B8 := B8.kept hg99 n95
      replace B25 := B25.kept hg99 n96
      replace B79 := B79.kept hg99 n97
      clear B91
      replace bel := bl_kept0 bel hg99 lo93
      clear hg99
      refine st_value (v := (.int .i64 0)) (by rfl) (by rfl) ?_
      simp only [Act.put, List.setIfInBounds_toArray, List.set_cons_zero, List.set_cons_succ]
      refine st_value (v := (.int .i64 0)) (by rfl) (by rfl) ?_
      simp only [Act.put, List.setIfInBounds_toArray, List.set_cons_zero, List.set_cons_succ]
      refine wpList_nil ?_
      show Code.wp _ _ _ _ _
      refine wp_seq ?_
      refine wp_region_lit ?_
      refine st_value (v := (.int .i64 0)) (by rfl) (by rfl) ?_
      simp only [Act.put, List.setIfInBounds_toArray, List.set_cons_zero, List.set_cons_succ]
      refine st_value (v := (.bool true)) (by rfl) (run_eql_int_t (.tmp 73) (.const (.int .i64 0)) rfl rfl rfl rfl w98) ?_
      simp only [Act.put, List.setIfInBounds_toArray, List.set_cons_zero, List.set_cons_succ]
      refine st_value (v := (.bool true)) (by rfl) (by rfl) ?_
      simp only [Act.put, List.setIfInBounds_toArray, List.set_cons_zero, List.set_cons_succ]
      refine st_value (v := (.agg (setA ((parse (l.take 1000)).1)))) (by rfl) (run_load_set (.tmp 14) rfl _ rfl ((parse (l.take 1000)).1) B100) ?_
      simp only [Act.put, List.setIfInBounds_toArray, List.set_cons_zero, List.set_cons_succ]
      refine st_value (v := (.agg (setA ((parse (l.take 1000)).1)))) (by rfl) (run_load_set (.tmp 11) rfl _ rfl ((parse (l.take 1000)).1) B79) ?_
      simp only [Act.put, List.setIfInBounds_toArray, List.set_cons_zero, List.set_cons_succ]
      refine st_value (v := (.bool true)) (by rfl) (run_eql_set_t (.tmp 76) (.tmp 77) rfl rfl rfl (parse_sm _) (parse_sm _) rfl w98) ?_
      simp only [Act.put, List.setIfInBounds_toArray, List.set_cons_zero, List.set_cons_succ]
      refine st_value (v := (.bool true)) (by rfl) (by rfl) ?_
      simp only [Act.put, List.setIfInBounds_toArray, List.set_cons_zero, List.set_cons_succ]
      refine st_value (v := (.bool true)) (by rfl) (by rfl) ?_
      simp only [Act.put, List.setIfInBounds_toArray, List.set_cons_zero, List.set_cons_succ]
      refine st_call1 (v := (.bool true)) (by rfl) (run_call_12_0  rfl  _) (lives_calls w98 (hB.same bel)) ?_
      intro w101 hb102
      simp only [Act.put, List.setIfInBounds_toArray, List.set_cons_zero, List.set_cons_succ]
      replace B3 := B3.below hb102
      replace B8 := B8.below hb102
      replace B25 := B25.below hb102
      replace B79 := B79.below hb102
      replace B100 := B100.below hb102
      replace bel := bl_step bel hb102
      clear hb102
      refine st_value (v := (.bool true)) (by rfl) (by rfl) ?_
      simp only [Act.put, List.setIfInBounds_toArray, List.set_cons_zero, List.set_cons_succ]
      refine st_value (v := (.bool true)) (by rfl) (by rfl) ?_
      simp only [Act.put, List.setIfInBounds_toArray, List.set_cons_zero, List.set_cons_succ]
      refine wpList_nil ?_
      show Code.wp _ _ _ _ _
      refine wp_ret ?_
      first | show bodyPost _ _ _ _ _ _ | (simp only [Exit.then]; show bodyPost _ _ _ _ _ _)
      exact bodyPost_ret (results_tmp rfl _ _ _) rfl ⟨rfl, bel⟩
end Go.Proofs.YthgamlklpfkkhaaDoor

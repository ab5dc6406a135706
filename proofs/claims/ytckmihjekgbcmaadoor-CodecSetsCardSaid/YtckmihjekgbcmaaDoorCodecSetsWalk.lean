/- What the law CodecSets does. -/
import Derived.Test.YtckmihjekgbcmaaDoorCodeLives
import Derived.Test.YtckmihjekgbcmaaDoorTexts
import Derived.Test.YtckmihjekgbcmaaDoorCodeGetSet
import Derived.Test.YtckmihjekgbcmaaDoorCodeRefSet
namespace Go.Proofs.YtckmihjekgbcmaaDoor
open Go.RowKit Go.WideShapes Go.ChangeShapes
set_option linter.unusedSimpArgs false
set_option linter.unusedVariables false

theorem o_run_call_11_0 {o : Oper} {a : Act}  {ts : Array TypeId} (ho : o.op = .call { callee := .value (.func 11), args := #[], argTypes := ts })  (W : World) : (execOp a.eval o).run Tryd.prog W = .ok (.enter 11 #[]) W := by
  unfold execOp
  simp only [ho]
  go_simp
theorem o_run_call_12_2 {o : Oper} {a : Act} (x0 : Operand) (x1 : Operand) {ts : Array TypeId} (ho : o.op = .call { callee := .value (.func 12), args := #[x0, x1], argTypes := ts }) {v0 : Value} (h0 : a.eval x0 = v0) {v1 : Value} (h1 : a.eval x1 = v1) (W : World) : (execOp a.eval o).run Tryd.prog W = .ok (.enter 12 #[v0, v1]) W := by
  unfold execOp
  simp only [ho]
  subst h0 h1
  go_simp
theorem o_run_call_13_2 {o : Oper} {a : Act} (x0 : Operand) (x1 : Operand) {ts : Array TypeId} (ho : o.op = .call { callee := .value (.func 13), args := #[x0, x1], argTypes := ts }) {v0 : Value} (h0 : a.eval x0 = v0) {v1 : Value} (h1 : a.eval x1 = v1) (W : World) : (execOp a.eval o).run Tryd.prog W = .ok (.enter 13 #[v0, v1]) W := by
  unfold execOp
  simp only [ho]
  subst h0 h1
  go_simp
theorem o_run_call_14_1 {o : Oper} {a : Act} (x0 : Operand) {ts : Array TypeId} (ho : o.op = .call { callee := .value (.func 14), args := #[x0], argTypes := ts }) {v0 : Value} (h0 : a.eval x0 = v0) (W : World) : (execOp a.eval o).run Tryd.prog W = .ok (.enter 14 #[v0]) W := by
  unfold execOp
  simp only [ho]
  subst h0
  go_simp
theorem setB_len {S : Nat} (hS : Sm S) : (setB S).length ≤ 30000 := by
  have h1 := rowsL_len hS
  have h2 := vbs_len (rowsL_I64 hS)
  have h3 := vbz_len (n := (((rowsL S).length / 2 : Nat) : Int)) (by unfold I64; omega)
  unfold setB
  rw [List.length_append]; omega

attribute [local irreducible] Go.wpList Go.Code.wp
set_option maxRecDepth 100000 in
set_option maxHeartbeats 4000000 in
theorem sets_none {A : Option Addr} {xs : List UInt8} {cap S : Nat} (hS : Sm S) (hg : setAt (xs.take 300) 0 = none) (w : World) (hcap : xs.length ≤ cap) (hA : A = none → cap = 0) (hr : Reads w A (eByte.all xs)) (hT : Tab w) : Calls Tryd.prog 4 #[.agg (setA S), .slice A xs.length cap] w fun e w' => e = .returned (.bool true) ∧ Below w.heap.size w w' := by
  have bel : Below w.heap.size w w := Below.refl _ _
  have hl3 : (xs.take 300).length ≤ 300 := List.length_take_le _ _
  have hsl := setB_len hS
  go_enter Tryd.func4, Tryd.ntmps4
  refine wp_seq ?_
  refine wp_region_lit ?_
  refine st_new (by rfl) (run_box_set (.tmp 0) rfl (S := S) rfl _) ?_
  intro g1 w2 B3 hb4 lo5
  simp only [nf0, nf1, nf2, nf3, nf4]
  replace lo5 := low_le bel lo5
  replace bel := bl_step bel hb4
  clear hb4
  refine st_mv (.bool false) ?_
  simp only [nf0, nf1, nf2, nf3, nf4]
  refine wpList_nil ?_
  show Code.wp _ _ _ _ _
  refine wp_seq ?_
  refine wp_region_lit ?_
  refine st_mv (.slice A xs.length cap) ?_
  simp only [nf0, nf1, nf2, nf3, nf4]
  refine st_mv (.slice A xs.length cap) ?_
  simp only [nf0, nf1, nf2, nf3, nf4]
  refine st_value (v := (.int .i64 (xs.length : Int))) (by rfl) (run_len (.tmp 13) rfl ⟨_, Tryd.underlying22⟩ rfl w2) ?_
  simp only [nf0, nf1, nf2, nf3, nf4]
  refine st_value (v := (.int .i64 (min (xs.length : Int) 300))) (by rfl) (run_min2 (.tmp 14) (.const (.int .i64 300)) rfl rfl rfl w2) ?_
  simp only [nf0, nf1, nf2, nf3, nf4]
  have R6 := hr.takeB 300
  refine st_value (v := (.slice A (xs.take 300).length cap)) (by rfl) (run_cut_take (.tmp 12) (.tmp 15) rfl Tryd.underlying22 slByte.sz rfl 300 rfl rfl hcap w2) ?_
  simp only [nf0, nf1, nf2, nf3, nf4]
  refine st_mv (.slice A (xs.take 300).length cap) ?_
  simp only [nf0, nf1, nf2, nf3, nf4]
  refine wpList_nil ?_
  show Code.wp _ _ _ _ _
  refine wp_seq ?_
  refine wp_region_lit ?_
  refine st_mv (.slice A (xs.take 300).length cap) ?_
  simp only [nf0, nf1, nf2, nf3, nf4]
  refine st_value (v := (.agg (setA S))) (by rfl) (run_load_set (.tmp 2) rfl _ rfl S B3) ?_
  simp only [nf0, nf1, nf2, nf3, nf4]
  refine st_call (by rfl) (o_run_call_12_2 (.tmp 17) (.tmp 18) rfl rfl rfl _) (putSet_calls A (xs.take 300) cap S hS w2 (R6.same bel) (by omega) hA (hT.same bel)) ?_
  rintro v7 w9 ⟨O8, hf10⟩
  simp only [nf0, nf1, nf2, nf3, nf4]
  have n11 := O8.offLow B3
  have O8_ := fun k hk => (O8.lt k hk).1
  replace O8 := O8.lower bel.size
  replace B3 := B3.below hf10
  replace bel := bl_step bel hf10
  clear hf10
  refine st_mv v7 ?_
  simp only [nf0, nf1, nf2, nf3, nf4]
  refine wpList_nil ?_
  show Code.wp _ _ _ _ _
  refine wp_seq ?_
  obtain ⟨A12, c13, hv14, h15, h16, h17, R18⟩ := O8.reads
  subst hv14
  refine wp_region_lit ?_
  refine st_mv (.slice A12 ((xs.take 300) ++ setB S).length c13) ?_
  simp only [nf0, nf1, nf2, nf3, nf4]
  refine st_mv (.slice A (xs.take 300).length cap) ?_
  simp only [nf0, nf1, nf2, nf3, nf4]
  refine st_value (v := (.int .i64 ((xs.take 300).length : Int))) (by rfl) (run_len (.tmp 22) rfl ⟨_, Tryd.underlying22⟩ rfl w9) ?_
  simp only [nf0, nf1, nf2, nf3, nf4]
  refine st_call1 (v := (.tuple #[.agg (setA S), .int .i64 ((((xs.take 300) ++ setB S).length : Nat) : Int), .bool true])) (by rfl) (o_run_call_13_2 (.tmp 21) (.tmp 23) rfl rfl rfl _) (by have h := getSet_calls A12 ((xs.take 300) ++ setB S) c13 (xs.take 300).length h15 (by rw [List.length_append]; omega) (by rw [List.length_append]; omega) w9 R18; rw [setAt_fwd hS] at h; exact h) ?_
  intro w19 hb20
  simp only [nf0, nf1, nf2, nf3, nf4]
  replace B3 := B3.below hb20
  replace O8 := O8.same hb20
  replace R18 := R18.same hb20
  replace bel := bl_step bel hb20
  clear hb20
  refine st_mv (.tuple #[.agg (setA S), .int .i64 ((((xs.take 300) ++ setB S).length : Nat) : Int), .bool true]) ?_
  simp only [nf0, nf1, nf2, nf3, nf4]
  refine st_mv (.agg (setA S)) ?_
  simp only [nf0, nf1, nf2, nf3, nf4]
  refine st_mv (.int .i64 ((((xs.take 300) ++ setB S).length : Nat) : Int)) ?_
  simp only [nf0, nf1, nf2, nf3, nf4]
  refine st_mv (.bool true) ?_
  simp only [nf0, nf1, nf2, nf3, nf4]
  refine st_new (by rfl) (run_alloc_set rfl _) ?_
  intro g21 w22 B23 hb24 lo25
  simp only [nf0, nf1, nf2, nf3, nf4]
  have n26 := B3.ne lo25
  have n27 := O8.off lo25
  replace lo25 := low_le bel lo25
  replace B3 := B3.below hb24
  replace O8 := O8.same hb24
  replace R18 := R18.same hb24
  replace bel := bl_step bel hb24
  clear hb24
  refine st_row (by rfl) (run_store_set (.tmp 6) (.tmp 25) rfl rfl (S := S) rfl B23) B23 ?_
  intro w28 B30 hg29
  simp only [nf0, nf1, nf2, nf3, nf4]
  replace B3 := B3.kept hg29 n26
  replace O8 := O8.keptB hg29 n27
  replace bel := bl_kept0 bel hg29 lo25
  replace R18 := OwnR.rdE O8
  clear hg29
  clear B23
  refine st_mv (.int .i64 ((((xs.take 300) ++ setB S).length : Nat) : Int)) ?_
  simp only [nf0, nf1, nf2, nf3, nf4]
  refine st_mv (.bool true) ?_
  simp only [nf0, nf1, nf2, nf3, nf4]
  refine wpList_nil ?_
  show Code.wp _ _ _ _ _
  refine wp_seq ?_
  refine wp_seq ?_
  refine wp_region_facts2_lit (C := Abv w28) 24 [.val (.slice A12 ((xs.take 300) ++ setB S).length c13), .val (.string (str ((xs.take 300) ++ setB S))), .val (.slice A (xs.take 300).length cap), .val (.string (str (xs.take 300))), .val (.agg (setA S)), .ex (fun v_ z_ => OwnR z_ w28.heap.size 5 eByte v_ (setB S)) (fun v_ z_ y_ hG h => h.same hG), .val (.string (str (setB S))), .val (.string (str ((xs.take 300) ++ (setB S)))), .val (.bool false), .val (.bool false), .val (.bool true), .val (.bool false), .val (.bool false), .val (.bool false), .val (.agg (setA S)), .val (.agg (setA S)), .val (.bool false), .val (.bool false), .val (.bool false), .val (.int .i64 ((((xs.take 300) ++ setB S).length : Nat) : Int)), .val (.slice A12 ((xs.take 300) ++ setB S).length c13), .val (.int .i64 (((xs.take 300) ++ setB S).length : Int)), .val (.bool false), .val (.bool false)] w28.heap.size (by kernel_rfl) (by simp) (by kernel_rfl) (by kernel_rfl) (fun _ h => h.size) (Abv.start _) ?_
  simp only [List.take_succ_cons, List.take_zero, List.drop_succ_cons, List.drop_zero]
  refine fst2_val (fun W hC hh => ok2_value (v := (.slice A12 ((xs.take 300) ++ setB S).length c13)) (by rfl) (by rfl) rfl hC (G0.refl _)) ?_
  simp only [nf0, nf1, nf2, nf3, nf4]
  refine fst2_val (fun W hC hh => ok2_value (v := (.string (str ((xs.take 300) ++ setB S)))) (by rfl) (run_convR (.tmp 28) rfl rfl (R18.same hC)) rfl hC (G0.refl _)) ?_
  simp only [nf0, nf1, nf2, nf3, nf4]
  refine fst2_val (fun W hC hh => ok2_value (v := (.slice A (xs.take 300).length cap)) (by rfl) (by rfl) rfl hC (G0.refl _)) ?_
  simp only [nf0, nf1, nf2, nf3, nf4]
  refine fst2_val (fun W hC hh => ok2_value (v := (.string (str (xs.take 300)))) (by rfl) (run_convR (.tmp 30) rfl rfl (R6.same (bl_step bel hC))) rfl hC (G0.refl _)) ?_
  simp only [nf0, nf1, nf2, nf3, nf4]
  refine fst2_val (fun W hC hh => ok2_value (v := (.agg (setA S))) (by rfl) (run_load_set (.tmp 2) rfl _ rfl S (B3.below hC)) rfl hC (G0.refl _)) ?_
  simp only [nf0, nf1, nf2, nf3, nf4]
  refine fst2_ex (fun W hC hh => ok2_callex (by rfl) (o_run_call_14_1 (.tmp 32) rfl rfl W) ((refSet_calls S hS W).mono fun e W' ⟨v_, h1_, h2_, h3_⟩ => ⟨v_, h1_, h2_.lower hC.size, hC.step h3_, h3_⟩)) fun v33 => ?_
  simp only [nf0, nf1, nf2, nf3, nf4]
  refine fst2_val (fun W hC hh => ok2_value (v := (.string (str (setB S)))) (by rfl) (run_convB (.tmp 33) rfl rfl (hh _ (.head _) (by show (5 : Nat) ∈ _; decide))) rfl hC (G0.refl _)) ?_
  simp only [nf0, nf1, nf2, nf3, nf4]
  refine fst2_val (fun W hC hh => ok2_value (v := (.string (str ((xs.take 300) ++ (setB S))))) (by rfl) (run_add_text (.tmp 31) (.tmp 34) (l := (xs.take 300)) (m := (setB S)) rfl rfl rfl (by (try simp only [List.length_append, List.length_cons, List.length_nil]); omega) W) rfl hC (G0.refl _)) ?_
  simp only [nf0, nf1, nf2, nf3, nf4]
  refine fst2_val (fun W hC hh => ok2_value (v := (.bool false)) (by rfl) (run_neq_text_t (.tmp 29) (.tmp 35) (l := ((xs.take 300) ++ setB S)) (m := ((xs.take 300) ++ (setB S))) rfl rfl rfl rfl W) rfl hC (G0.refl _)) ?_
  simp only [nf0, nf1, nf2, nf3, nf4]
  refine fst2_val (fun W hC hh => ok2_value (v := (.bool false)) (by rfl) (by rfl) rfl hC (G0.refl _)) ?_
  simp only [nf0, nf1, nf2, nf3, nf4]
  refine fst2_val (fun W hC hh => ok2_value (v := (.bool true)) (by rfl) (by rfl) rfl hC (G0.refl _)) ?_
  simp only [nf0, nf1, nf2, nf3, nf4]
  refine fst2_val (fun W hC hh => ok2_value (v := (.bool false)) (by rfl) (run_not (.tmp 38) rfl (b := true) rfl W) rfl hC (G0.refl _)) ?_
  simp only [nf0, nf1, nf2, nf3, nf4]
  refine fst2_val (fun W hC hh => ok2_value (v := (.bool false)) (by rfl) (by rfl) rfl hC (G0.refl _)) ?_
  simp only [nf0, nf1, nf2, nf3, nf4]
  refine fst2_val (fun W hC hh => ok2_value (v := (.bool false)) (by rfl) (by rfl) rfl hC (G0.refl _)) ?_
  simp only [nf0, nf1, nf2, nf3, nf4]
  refine fst2_val (fun W hC hh => ok2_value (v := (.agg (setA S))) (by rfl) (run_load_set (.tmp 6) rfl _ rfl S (B30.below hC)) rfl hC (G0.refl _)) ?_
  simp only [nf0, nf1, nf2, nf3, nf4]
  refine fst2_val (fun W hC hh => ok2_value (v := (.agg (setA S))) (by rfl) (run_load_set (.tmp 2) rfl _ rfl S (B3.below hC)) rfl hC (G0.refl _)) ?_
  simp only [nf0, nf1, nf2, nf3, nf4]
  refine fst2_val (fun W hC hh => ok2_value (v := (.bool false)) (by rfl) (run_neq_set_t (.tmp 42) (.tmp 43) rfl rfl rfl hS hS rfl W) rfl hC (G0.refl _)) ?_
  simp only [nf0, nf1, nf2, nf3, nf4]
  refine fst2_val (fun W hC hh => ok2_value (v := (.bool false)) (by rfl) (by rfl) rfl hC (G0.refl _)) ?_
  simp only [nf0, nf1, nf2, nf3, nf4]
  refine fst2_val (fun W hC hh => ok2_value (v := (.bool false)) (by rfl) (by rfl) rfl hC (G0.refl _)) ?_
  simp only [nf0, nf1, nf2, nf3, nf4]
  refine fst2_val (fun W hC hh => ok2_value (v := (.int .i64 ((((xs.take 300) ++ setB S).length : Nat) : Int))) (by rfl) (by rfl) rfl hC (G0.refl _)) ?_
  simp only [nf0, nf1, nf2, nf3, nf4]
  refine fst2_val (fun W hC hh => ok2_value (v := (.slice A12 ((xs.take 300) ++ setB S).length c13)) (by rfl) (by rfl) rfl hC (G0.refl _)) ?_
  simp only [nf0, nf1, nf2, nf3, nf4]
  refine fst2_val (fun W hC hh => ok2_value (v := (.int .i64 (((xs.take 300) ++ setB S).length : Int))) (by rfl) (run_len (.tmp 48) rfl ⟨_, Tryd.underlying22⟩ rfl W) rfl hC (G0.refl _)) ?_
  simp only [nf0, nf1, nf2, nf3, nf4]
  refine fst2_val (fun W hC hh => ok2_value (v := (.bool false)) (by rfl) (run_neq_int_t (.tmp 47) (.tmp 49) rfl rfl rfl rfl W) rfl hC (G0.refl _)) ?_
  simp only [nf0, nf1, nf2, nf3, nf4]
  refine fst2_val (fun W hC hh => ok2_value (v := (.bool false)) (by rfl) (by rfl) rfl hC (G0.refl _)) ?_
  simp only [nf0, nf1, nf2, nf3, nf4]
  refine fst2_nil fun w34 hC hh hnd => ?_
  replace hC : Below w28.heap.size w28 w34 := hC
  clear hh hnd
  replace B3 := B3.below hC
  replace O8 := O8.same hC
  replace R18 := R18.same hC
  replace B30 := B30.below hC
  replace bel := bl_step bel hC
  clear hC
  refine wpList_nil ?_
  show Code.wp _ _ _ _ _
  refine wp_cond_false rfl ?_
  refine wp_skip ?_
  show Code.wp _ _ _ _ _
  refine wp_seq ?_
  refine wp_region_lit ?_
  refine st_mv (.slice A (xs.take 300).length cap) ?_
  simp only [nf0, nf1, nf2, nf3, nf4]
  refine st_call1 (v := (.tuple #[.agg (setA 0), .int .i64 0, .bool false])) (by rfl) (o_run_call_13_2 (.tmp 53) (.const (.int .i64 0)) rfl rfl rfl _) (by have h := getSet_calls A (xs.take 300) cap 0 (by rw [List.length_take]; omega) (by omega) (Nat.zero_le _) w34 (R6.same bel); rw [hg] at h; exact h) ?_
  intro w35 hb36
  simp only [nf0, nf1, nf2, nf3, nf4]
  replace B3 := B3.below hb36
  replace O8 := O8.same hb36
  replace R18 := R18.same hb36
  replace B30 := B30.below hb36
  replace bel := bl_step bel hb36
  clear hb36
  refine st_mv (.tuple #[.agg (setA 0), .int .i64 0, .bool false]) ?_
  simp only [nf0, nf1, nf2, nf3, nf4]
  refine st_mv (.agg (setA 0)) ?_
  simp only [nf0, nf1, nf2, nf3, nf4]
  refine st_mv (.int .i64 0) ?_
  simp only [nf0, nf1, nf2, nf3, nf4]
  refine st_mv (.bool false) ?_
  simp only [nf0, nf1, nf2, nf3, nf4]
  refine st_new (by rfl) (run_alloc_set rfl _) ?_
  intro g37 w38 B39 hb40 lo41
  simp only [nf0, nf1, nf2, nf3, nf4]
  have n42 := B3.ne lo41
  have n43 := O8.off lo41
  have n44 := B30.ne lo41
  replace lo41 := low_le bel lo41
  replace B3 := B3.below hb40
  replace O8 := O8.same hb40
  replace R18 := R18.same hb40
  replace B30 := B30.below hb40
  replace bel := bl_step bel hb40
  clear hb40
  refine st_row (by rfl) (run_store_set (.tmp 9) (.tmp 55) rfl rfl (S := 0) rfl B39) B39 ?_
  intro w45 B47 hg46
  simp only [nf0, nf1, nf2, nf3, nf4]
  replace B3 := B3.kept hg46 n42
  replace O8 := O8.keptB hg46 n43
  replace B30 := B30.kept hg46 n44
  replace bel := bl_kept0 bel hg46 lo41
  replace R18 := OwnR.rdE O8
  clear hg46
  clear B39
  refine st_mv (.int .i64 0) ?_
  simp only [nf0, nf1, nf2, nf3, nf4]
  refine st_mv (.bool false) ?_
  simp only [nf0, nf1, nf2, nf3, nf4]
  refine wpList_nil ?_
  show Code.wp _ _ _ _ _
  refine wp_seq ?_
  refine wp_seq ?_
  refine wp_region_lit ?_
  refine st_mv (.bool false) ?_
  simp only [nf0, nf1, nf2, nf3, nf4]
  refine st_value (v := (.bool true)) (by rfl) (run_not (.tmp 58) rfl (b := false) rfl w45) ?_
  simp only [nf0, nf1, nf2, nf3, nf4]
  refine wpList_nil ?_
  show Code.wp _ _ _ _ _
  refine wp_cond_true rfl ?_
  refine wp_seq ?_
  refine wp_region_lit ?_
  refine st_value (v := (.agg (setA 0))) (by rfl) (run_load_set (.tmp 9) rfl _ rfl 0 B47) ?_
  simp only [nf0, nf1, nf2, nf3, nf4]
  refine st_value (v := (.agg (setA 0))) (by rfl) (run_build_set rfl w45) ?_
  simp only [nf0, nf1, nf2, nf3, nf4]
  refine st_value (v := (.bool true)) (by rfl) (run_eql_set_t (.tmp 60) (.tmp 61) rfl rfl rfl sm_zero sm_zero rfl w45) ?_
  simp only [nf0, nf1, nf2, nf3, nf4]
  refine st_mv (.bool true) ?_
  simp only [nf0, nf1, nf2, nf3, nf4]
  refine st_mv (.int .i64 0) ?_
  simp only [nf0, nf1, nf2, nf3, nf4]
  refine st_value (v := (.bool true)) (by rfl) (run_eql_int_t (.tmp 64) (.const (.int .i64 0)) rfl rfl rfl rfl w45) ?_
  simp only [nf0, nf1, nf2, nf3, nf4]
  refine st_mv (.bool true) ?_
  simp only [nf0, nf1, nf2, nf3, nf4]
  refine st_mv (.bool true) ?_
  simp only [nf0, nf1, nf2, nf3, nf4]
  refine st_call1 (v := (.bool true)) (by rfl) (o_run_call_11_0  rfl  _) (codeLives_calls w45 (hT.same bel)) ?_
  intro w48 hb49
  simp only [nf0, nf1, nf2, nf3, nf4]
  replace B3 := B3.below hb49
  replace O8 := O8.same hb49
  replace R18 := R18.same hb49
  replace B30 := B30.below hb49
  replace B47 := B47.below hb49
  replace bel := bl_step bel hb49
  clear hb49
  refine st_mv (.bool true) ?_
  simp only [nf0, nf1, nf2, nf3, nf4]
  refine st_mv (.bool true) ?_
  simp only [nf0, nf1, nf2, nf3, nf4]
  refine wpList_nil ?_
  show Code.wp _ _ _ _ _
  refine wp_ret ?_
  first | show bodyPost _ _ _ _ _ _ | (simp only [Exit.then, Exit.inBlock]; show bodyPost _ _ _ _ _ _)
  exact bodyPost_ret (results_tmp rfl _ _ _) rfl ⟨rfl, bel⟩
set_option maxRecDepth 100000 in
set_option maxHeartbeats 4000000 in
theorem sets_some {A : Option Addr} {xs : List UInt8} {cap S : Nat} (hS : Sm S) {Y e : Nat} (hg : setAt (xs.take 300) 0 = some (Y, e)) (w : World) (hcap : xs.length ≤ cap) (hA : A = none → cap = 0) (hr : Reads w A (eByte.all xs)) (hT : Tab w) : Calls Tryd.prog 4 #[.agg (setA S), .slice A xs.length cap] w fun e w' => e = .returned (.bool true) ∧ Below w.heap.size w w' := by
  have bel : Below w.heap.size w w := Below.refl _ _
  have hl3 : (xs.take 300).length ≤ 300 := List.length_take_le _ _
  have hsl := setB_len hS
  obtain ⟨he, hYb, hY⟩ := setAt_back hg
  have hYl := setB_len hY
  go_enter Tryd.func4, Tryd.ntmps4
  refine wp_seq ?_
  refine wp_region_lit ?_
  refine st_new (by rfl) (run_box_set (.tmp 0) rfl (S := S) rfl _) ?_
  intro g1 w2 B3 hb4 lo5
  simp only [nf0, nf1, nf2, nf3, nf4]
  replace lo5 := low_le bel lo5
  replace bel := bl_step bel hb4
  clear hb4
  refine st_mv (.bool false) ?_
  simp only [nf0, nf1, nf2, nf3, nf4]
  refine wpList_nil ?_
  show Code.wp _ _ _ _ _
  refine wp_seq ?_
  refine wp_region_lit ?_
  refine st_mv (.slice A xs.length cap) ?_
  simp only [nf0, nf1, nf2, nf3, nf4]
  refine st_mv (.slice A xs.length cap) ?_
  simp only [nf0, nf1, nf2, nf3, nf4]
  refine st_value (v := (.int .i64 (xs.length : Int))) (by rfl) (run_len (.tmp 13) rfl ⟨_, Tryd.underlying22⟩ rfl w2) ?_
  simp only [nf0, nf1, nf2, nf3, nf4]
  refine st_value (v := (.int .i64 (min (xs.length : Int) 300))) (by rfl) (run_min2 (.tmp 14) (.const (.int .i64 300)) rfl rfl rfl w2) ?_
  simp only [nf0, nf1, nf2, nf3, nf4]
  have R6 := hr.takeB 300
  refine st_value (v := (.slice A (xs.take 300).length cap)) (by rfl) (run_cut_take (.tmp 12) (.tmp 15) rfl Tryd.underlying22 slByte.sz rfl 300 rfl rfl hcap w2) ?_
  simp only [nf0, nf1, nf2, nf3, nf4]
  refine st_mv (.slice A (xs.take 300).length cap) ?_
  simp only [nf0, nf1, nf2, nf3, nf4]
  refine wpList_nil ?_
  show Code.wp _ _ _ _ _
  refine wp_seq ?_
  refine wp_region_lit ?_
  refine st_mv (.slice A (xs.take 300).length cap) ?_
  simp only [nf0, nf1, nf2, nf3, nf4]
  refine st_value (v := (.agg (setA S))) (by rfl) (run_load_set (.tmp 2) rfl _ rfl S B3) ?_
  simp only [nf0, nf1, nf2, nf3, nf4]
  refine st_call (by rfl) (o_run_call_12_2 (.tmp 17) (.tmp 18) rfl rfl rfl _) (putSet_calls A (xs.take 300) cap S hS w2 (R6.same bel) (by omega) hA (hT.same bel)) ?_
  rintro v7 w9 ⟨O8, hf10⟩
  simp only [nf0, nf1, nf2, nf3, nf4]
  have n11 := O8.offLow B3
  have O8_ := fun k hk => (O8.lt k hk).1
  replace O8 := O8.lower bel.size
  replace B3 := B3.below hf10
  replace bel := bl_step bel hf10
  clear hf10
  refine st_mv v7 ?_
  simp only [nf0, nf1, nf2, nf3, nf4]
  refine wpList_nil ?_
  show Code.wp _ _ _ _ _
  refine wp_seq ?_
  obtain ⟨A12, c13, hv14, h15, h16, h17, R18⟩ := O8.reads
  subst hv14
  refine wp_region_lit ?_
  refine st_mv (.slice A12 ((xs.take 300) ++ setB S).length c13) ?_
  simp only [nf0, nf1, nf2, nf3, nf4]
  refine st_mv (.slice A (xs.take 300).length cap) ?_
  simp only [nf0, nf1, nf2, nf3, nf4]
  refine st_value (v := (.int .i64 ((xs.take 300).length : Int))) (by rfl) (run_len (.tmp 22) rfl ⟨_, Tryd.underlying22⟩ rfl w9) ?_
  simp only [nf0, nf1, nf2, nf3, nf4]
  refine st_call1 (v := (.tuple #[.agg (setA S), .int .i64 ((((xs.take 300) ++ setB S).length : Nat) : Int), .bool true])) (by rfl) (o_run_call_13_2 (.tmp 21) (.tmp 23) rfl rfl rfl _) (by have h := getSet_calls A12 ((xs.take 300) ++ setB S) c13 (xs.take 300).length h15 (by rw [List.length_append]; omega) (by rw [List.length_append]; omega) w9 R18; rw [setAt_fwd hS] at h; exact h) ?_
  intro w19 hb20
  simp only [nf0, nf1, nf2, nf3, nf4]
  replace B3 := B3.below hb20
  replace O8 := O8.same hb20
  replace R18 := R18.same hb20
  replace bel := bl_step bel hb20
  clear hb20
  refine st_mv (.tuple #[.agg (setA S), .int .i64 ((((xs.take 300) ++ setB S).length : Nat) : Int), .bool true]) ?_
  simp only [nf0, nf1, nf2, nf3, nf4]
  refine st_mv (.agg (setA S)) ?_
  simp only [nf0, nf1, nf2, nf3, nf4]
  refine st_mv (.int .i64 ((((xs.take 300) ++ setB S).length : Nat) : Int)) ?_
  simp only [nf0, nf1, nf2, nf3, nf4]
  refine st_mv (.bool true) ?_
  simp only [nf0, nf1, nf2, nf3, nf4]
  refine st_new (by rfl) (run_alloc_set rfl _) ?_
  intro g21 w22 B23 hb24 lo25
  simp only [nf0, nf1, nf2, nf3, nf4]
  have n26 := B3.ne lo25
  have n27 := O8.off lo25
  replace lo25 := low_le bel lo25
  replace B3 := B3.below hb24
  replace O8 := O8.same hb24
  replace R18 := R18.same hb24
  replace bel := bl_step bel hb24
  clear hb24
  refine st_row (by rfl) (run_store_set (.tmp 6) (.tmp 25) rfl rfl (S := S) rfl B23) B23 ?_
  intro w28 B30 hg29
  simp only [nf0, nf1, nf2, nf3, nf4]
  replace B3 := B3.kept hg29 n26
  replace O8 := O8.keptB hg29 n27
  replace bel := bl_kept0 bel hg29 lo25
  replace R18 := OwnR.rdE O8
  clear hg29
  clear B23
  refine st_mv (.int .i64 ((((xs.take 300) ++ setB S).length : Nat) : Int)) ?_
  simp only [nf0, nf1, nf2, nf3, nf4]
  refine st_mv (.bool true) ?_
  simp only [nf0, nf1, nf2, nf3, nf4]
  refine wpList_nil ?_
  show Code.wp _ _ _ _ _
  refine wp_seq ?_
  refine wp_seq ?_
  refine wp_region_facts2_lit (C := Abv w28) 24 [.val (.slice A12 ((xs.take 300) ++ setB S).length c13), .val (.string (str ((xs.take 300) ++ setB S))), .val (.slice A (xs.take 300).length cap), .val (.string (str (xs.take 300))), .val (.agg (setA S)), .ex (fun v_ z_ => OwnR z_ w28.heap.size 5 eByte v_ (setB S)) (fun v_ z_ y_ hG h => h.same hG), .val (.string (str (setB S))), .val (.string (str ((xs.take 300) ++ (setB S)))), .val (.bool false), .val (.bool false), .val (.bool true), .val (.bool false), .val (.bool false), .val (.bool false), .val (.agg (setA S)), .val (.agg (setA S)), .val (.bool false), .val (.bool false), .val (.bool false), .val (.int .i64 ((((xs.take 300) ++ setB S).length : Nat) : Int)), .val (.slice A12 ((xs.take 300) ++ setB S).length c13), .val (.int .i64 (((xs.take 300) ++ setB S).length : Int)), .val (.bool false), .val (.bool false)] w28.heap.size (by kernel_rfl) (by simp) (by kernel_rfl) (by kernel_rfl) (fun _ h => h.size) (Abv.start _) ?_
  simp only [List.take_succ_cons, List.take_zero, List.drop_succ_cons, List.drop_zero]
  refine fst2_val (fun W hC hh => ok2_value (v := (.slice A12 ((xs.take 300) ++ setB S).length c13)) (by rfl) (by rfl) rfl hC (G0.refl _)) ?_
  simp only [nf0, nf1, nf2, nf3, nf4]
  refine fst2_val (fun W hC hh => ok2_value (v := (.string (str ((xs.take 300) ++ setB S)))) (by rfl) (run_convR (.tmp 28) rfl rfl (R18.same hC)) rfl hC (G0.refl _)) ?_
  simp only [nf0, nf1, nf2, nf3, nf4]
  refine fst2_val (fun W hC hh => ok2_value (v := (.slice A (xs.take 300).length cap)) (by rfl) (by rfl) rfl hC (G0.refl _)) ?_
  simp only [nf0, nf1, nf2, nf3, nf4]
  refine fst2_val (fun W hC hh => ok2_value (v := (.string (str (xs.take 300)))) (by rfl) (run_convR (.tmp 30) rfl rfl (R6.same (bl_step bel hC))) rfl hC (G0.refl _)) ?_
  simp only [nf0, nf1, nf2, nf3, nf4]
  refine fst2_val (fun W hC hh => ok2_value (v := (.agg (setA S))) (by rfl) (run_load_set (.tmp 2) rfl _ rfl S (B3.below hC)) rfl hC (G0.refl _)) ?_
  simp only [nf0, nf1, nf2, nf3, nf4]
  refine fst2_ex (fun W hC hh => ok2_callex (by rfl) (o_run_call_14_1 (.tmp 32) rfl rfl W) ((refSet_calls S hS W).mono fun e W' ⟨v_, h1_, h2_, h3_⟩ => ⟨v_, h1_, h2_.lower hC.size, hC.step h3_, h3_⟩)) fun v33 => ?_
  simp only [nf0, nf1, nf2, nf3, nf4]
  refine fst2_val (fun W hC hh => ok2_value (v := (.string (str (setB S)))) (by rfl) (run_convB (.tmp 33) rfl rfl (hh _ (.head _) (by show (5 : Nat) ∈ _; decide))) rfl hC (G0.refl _)) ?_
  simp only [nf0, nf1, nf2, nf3, nf4]
  refine fst2_val (fun W hC hh => ok2_value (v := (.string (str ((xs.take 300) ++ (setB S))))) (by rfl) (run_add_text (.tmp 31) (.tmp 34) (l := (xs.take 300)) (m := (setB S)) rfl rfl rfl (by (try simp only [List.length_append, List.length_cons, List.length_nil]); omega) W) rfl hC (G0.refl _)) ?_
  simp only [nf0, nf1, nf2, nf3, nf4]
  refine fst2_val (fun W hC hh => ok2_value (v := (.bool false)) (by rfl) (run_neq_text_t (.tmp 29) (.tmp 35) (l := ((xs.take 300) ++ setB S)) (m := ((xs.take 300) ++ (setB S))) rfl rfl rfl rfl W) rfl hC (G0.refl _)) ?_
  simp only [nf0, nf1, nf2, nf3, nf4]
  refine fst2_val (fun W hC hh => ok2_value (v := (.bool false)) (by rfl) (by rfl) rfl hC (G0.refl _)) ?_
  simp only [nf0, nf1, nf2, nf3, nf4]
  refine fst2_val (fun W hC hh => ok2_value (v := (.bool true)) (by rfl) (by rfl) rfl hC (G0.refl _)) ?_
  simp only [nf0, nf1, nf2, nf3, nf4]
  refine fst2_val (fun W hC hh => ok2_value (v := (.bool false)) (by rfl) (run_not (.tmp 38) rfl (b := true) rfl W) rfl hC (G0.refl _)) ?_
  simp only [nf0, nf1, nf2, nf3, nf4]
  refine fst2_val (fun W hC hh => ok2_value (v := (.bool false)) (by rfl) (by rfl) rfl hC (G0.refl _)) ?_
  simp only [nf0, nf1, nf2, nf3, nf4]
  refine fst2_val (fun W hC hh => ok2_value (v := (.bool false)) (by rfl) (by rfl) rfl hC (G0.refl _)) ?_
  simp only [nf0, nf1, nf2, nf3, nf4]
  refine fst2_val (fun W hC hh => ok2_value (v := (.agg (setA S))) (by rfl) (run_load_set (.tmp 6) rfl _ rfl S (B30.below hC)) rfl hC (G0.refl _)) ?_
  simp only [nf0, nf1, nf2, nf3, nf4]
  refine fst2_val (fun W hC hh => ok2_value (v := (.agg (setA S))) (by rfl) (run_load_set (.tmp 2) rfl _ rfl S (B3.below hC)) rfl hC (G0.refl _)) ?_
  simp only [nf0, nf1, nf2, nf3, nf4]
  refine fst2_val (fun W hC hh => ok2_value (v := (.bool false)) (by rfl) (run_neq_set_t (.tmp 42) (.tmp 43) rfl rfl rfl hS hS rfl W) rfl hC (G0.refl _)) ?_
  simp only [nf0, nf1, nf2, nf3, nf4]
  refine fst2_val (fun W hC hh => ok2_value (v := (.bool false)) (by rfl) (by rfl) rfl hC (G0.refl _)) ?_
  simp only [nf0, nf1, nf2, nf3, nf4]
  refine fst2_val (fun W hC hh => ok2_value (v := (.bool false)) (by rfl) (by rfl) rfl hC (G0.refl _)) ?_
  simp only [nf0, nf1, nf2, nf3, nf4]
  refine fst2_val (fun W hC hh => ok2_value (v := (.int .i64 ((((xs.take 300) ++ setB S).length : Nat) : Int))) (by rfl) (by rfl) rfl hC (G0.refl _)) ?_
  simp only [nf0, nf1, nf2, nf3, nf4]
  refine fst2_val (fun W hC hh => ok2_value (v := (.slice A12 ((xs.take 300) ++ setB S).length c13)) (by rfl) (by rfl) rfl hC (G0.refl _)) ?_
  simp only [nf0, nf1, nf2, nf3, nf4]
  refine fst2_val (fun W hC hh => ok2_value (v := (.int .i64 (((xs.take 300) ++ setB S).length : Int))) (by rfl) (run_len (.tmp 48) rfl ⟨_, Tryd.underlying22⟩ rfl W) rfl hC (G0.refl _)) ?_
  simp only [nf0, nf1, nf2, nf3, nf4]
  refine fst2_val (fun W hC hh => ok2_value (v := (.bool false)) (by rfl) (run_neq_int_t (.tmp 47) (.tmp 49) rfl rfl rfl rfl W) rfl hC (G0.refl _)) ?_
  simp only [nf0, nf1, nf2, nf3, nf4]
  refine fst2_val (fun W hC hh => ok2_value (v := (.bool false)) (by rfl) (by rfl) rfl hC (G0.refl _)) ?_
  simp only [nf0, nf1, nf2, nf3, nf4]
  refine fst2_nil fun w34 hC hh hnd => ?_
  replace hC : Below w28.heap.size w28 w34 := hC
  clear hh hnd
  replace B3 := B3.below hC
  replace O8 := O8.same hC
  replace R18 := R18.same hC
  replace B30 := B30.below hC
  replace bel := bl_step bel hC
  clear hC
  refine wpList_nil ?_
  show Code.wp _ _ _ _ _
  refine wp_cond_false rfl ?_
  refine wp_skip ?_
  show Code.wp _ _ _ _ _
  refine wp_seq ?_
  refine wp_region_lit ?_
  refine st_mv (.slice A (xs.take 300).length cap) ?_
  simp only [nf0, nf1, nf2, nf3, nf4]
  refine st_call1 (v := (.tuple #[.agg (setA Y), .int .i64 (e : Int), .bool true])) (by rfl) (o_run_call_13_2 (.tmp 53) (.const (.int .i64 0)) rfl rfl rfl _) (by have h := getSet_calls A (xs.take 300) cap 0 (by rw [List.length_take]; omega) (by omega) (Nat.zero_le _) w34 (R6.same bel); rw [hg] at h; exact h) ?_
  intro w35 hb36
  simp only [nf0, nf1, nf2, nf3, nf4]
  replace B3 := B3.below hb36
  replace O8 := O8.same hb36
  replace R18 := R18.same hb36
  replace B30 := B30.below hb36
  replace bel := bl_step bel hb36
  clear hb36
  refine st_mv (.tuple #[.agg (setA Y), .int .i64 (e : Int), .bool true]) ?_
  simp only [nf0, nf1, nf2, nf3, nf4]
  refine st_mv (.agg (setA Y)) ?_
  simp only [nf0, nf1, nf2, nf3, nf4]
  refine st_mv (.int .i64 (e : Int)) ?_
  simp only [nf0, nf1, nf2, nf3, nf4]
  refine st_mv (.bool true) ?_
  simp only [nf0, nf1, nf2, nf3, nf4]
  refine st_new (by rfl) (run_alloc_set rfl _) ?_
  intro g37 w38 B39 hb40 lo41
  simp only [nf0, nf1, nf2, nf3, nf4]
  have n42 := B3.ne lo41
  have n43 := O8.off lo41
  have n44 := B30.ne lo41
  replace lo41 := low_le bel lo41
  replace B3 := B3.below hb40
  replace O8 := O8.same hb40
  replace R18 := R18.same hb40
  replace B30 := B30.below hb40
  replace bel := bl_step bel hb40
  clear hb40
  refine st_row (by rfl) (run_store_set (.tmp 9) (.tmp 55) rfl rfl (S := Y) rfl B39) B39 ?_
  intro w45 B47 hg46
  simp only [nf0, nf1, nf2, nf3, nf4]
  replace B3 := B3.kept hg46 n42
  replace O8 := O8.keptB hg46 n43
  replace B30 := B30.kept hg46 n44
  replace bel := bl_kept0 bel hg46 lo41
  replace R18 := OwnR.rdE O8
  clear hg46
  clear B39
  refine st_mv (.int .i64 (e : Int)) ?_
  simp only [nf0, nf1, nf2, nf3, nf4]
  refine st_mv (.bool true) ?_
  simp only [nf0, nf1, nf2, nf3, nf4]
  refine wpList_nil ?_
  show Code.wp _ _ _ _ _
  refine wp_seq ?_
  refine wp_seq ?_
  refine wp_region_lit ?_
  refine st_mv (.bool true) ?_
  simp only [nf0, nf1, nf2, nf3, nf4]
  refine st_value (v := (.bool false)) (by rfl) (run_not (.tmp 58) rfl (b := true) rfl w45) ?_
  simp only [nf0, nf1, nf2, nf3, nf4]
  refine wpList_nil ?_
  show Code.wp _ _ _ _ _
  refine wp_cond_false rfl ?_
  refine wp_skip ?_
  show Code.wp _ _ _ _ _
  refine wp_seq ?_
  refine wp_region_facts2_lit (C := Abv w45) 18 [.val (.int .i64 (e : Int)), .val (.slice A (xs.take 300).length cap), .val (.int .i64 ((xs.take 300).length : Int)), .val (.bool true), .val (.bool true), .val (.agg (setA Y)), .ex (fun v_ z_ => OwnR z_ w45.heap.size 5 eByte v_ (setB Y)) (fun v_ z_ y_ hG h => h.same hG), .val (.string (str (setB Y))), .val (.slice A (xs.take 300).length cap), .val (.int .i64 (e : Int)), .val (.slice A ((xs.take 300).take e).length cap), .val (.string (str ((xs.take 300).take e))), .val (.bool true), .val (.bool true), .val (.bool true), .val (.bool true), .val (.bool true), .val (.bool true)] w45.heap.size (by kernel_rfl) (by simp) (by kernel_rfl) (by kernel_rfl) (fun _ h => h.size) (Abv.start _) ?_
  simp only [List.take_succ_cons, List.take_zero, List.drop_succ_cons, List.drop_zero]
  refine fst2_val (fun W hC hh => ok2_value (v := (.int .i64 (e : Int))) (by rfl) (by rfl) rfl hC (G0.refl _)) ?_
  simp only [nf0, nf1, nf2, nf3, nf4]
  refine fst2_val (fun W hC hh => ok2_value (v := (.slice A (xs.take 300).length cap)) (by rfl) (by rfl) rfl hC (G0.refl _)) ?_
  simp only [nf0, nf1, nf2, nf3, nf4]
  refine fst2_val (fun W hC hh => ok2_value (v := (.int .i64 ((xs.take 300).length : Int))) (by rfl) (run_len (.tmp 71) rfl ⟨_, Tryd.underlying22⟩ rfl W) rfl hC (G0.refl _)) ?_
  simp only [nf0, nf1, nf2, nf3, nf4]
  refine fst2_val (fun W hC hh => ok2_value (v := (.bool true)) (by rfl) ((run_leq (.tmp 70) (.tmp 72) rfl rfl rfl W).trans (by rw [decide_eq_true (by omega)])) rfl hC (G0.refl _)) ?_
  simp only [nf0, nf1, nf2, nf3, nf4]
  refine fst2_val (fun W hC hh => ok2_value (v := (.bool true)) (by rfl) (by rfl) rfl hC (G0.refl _)) ?_
  simp only [nf0, nf1, nf2, nf3, nf4]
  refine fst2_val (fun W hC hh => ok2_value (v := (.agg (setA Y))) (by rfl) (run_load_set (.tmp 9) rfl _ rfl Y (B47.below hC)) rfl hC (G0.refl _)) ?_
  simp only [nf0, nf1, nf2, nf3, nf4]
  refine fst2_ex (fun W hC hh => ok2_callex (by rfl) (o_run_call_14_1 (.tmp 75) rfl rfl W) ((refSet_calls Y hY W).mono fun e W' ⟨v_, h1_, h2_, h3_⟩ => ⟨v_, h1_, h2_.lower hC.size, hC.step h3_, h3_⟩)) fun v50 => ?_
  simp only [nf0, nf1, nf2, nf3, nf4]
  refine fst2_val (fun W hC hh => ok2_value (v := (.string (str (setB Y)))) (by rfl) (run_convB (.tmp 76) rfl rfl (hh _ (.head _) (by show (6 : Nat) ∈ _; decide))) rfl hC (G0.refl _)) ?_
  simp only [nf0, nf1, nf2, nf3, nf4]
  refine fst2_val (fun W hC hh => ok2_value (v := (.slice A (xs.take 300).length cap)) (by rfl) (by rfl) rfl hC (G0.refl _)) ?_
  simp only [nf0, nf1, nf2, nf3, nf4]
  refine fst2_val (fun W hC hh => ok2_value (v := (.int .i64 (e : Int))) (by rfl) (by rfl) rfl hC (G0.refl _)) ?_
  simp only [nf0, nf1, nf2, nf3, nf4]
  have R51 := R6.takeB e
  refine fst2_val (fun W hC hh => ok2_value (v := (.slice A ((xs.take 300).take e).length cap)) (by rfl) (run_cutq (.tmp 78) (.tmp 79) rfl Tryd.underlying22 slByte.sz rfl rfl (p := e) (by omega) (by omega) (by rw [List.length_take]; omega) W) rfl hC (G0.refl _)) ?_
  simp only [nf0, nf1, nf2, nf3, nf4]
  refine fst2_val (fun W hC hh => ok2_value (v := (.string (str ((xs.take 300).take e)))) (by rfl) (run_convR (.tmp 80) rfl rfl (R51.same (bl_step bel hC))) rfl hC (G0.refl _)) ?_
  simp only [nf0, nf1, nf2, nf3, nf4]
  refine fst2_val (fun W hC hh => ok2_value (v := (.bool true)) (by rfl) (run_eql_text_t (.tmp 77) (.tmp 81) (l := (setB Y)) (m := ((xs.take 300).take e)) rfl rfl rfl hYb W) rfl hC (G0.refl _)) ?_
  simp only [nf0, nf1, nf2, nf3, nf4]
  refine fst2_val (fun W hC hh => ok2_value (v := (.bool true)) (by rfl) (by rfl) rfl hC (G0.refl _)) ?_
  simp only [nf0, nf1, nf2, nf3, nf4]
  refine fst2_val (fun W hC hh => ok2_value (v := (.bool true)) (by rfl) (by rfl) rfl hC (G0.refl _)) ?_
  simp only [nf0, nf1, nf2, nf3, nf4]
  refine fst2_val (fun W hC hh => ok2_call (by rfl) (o_run_call_11_0  rfl  W) ((codeLives_calls W (hT.same (bl_step bel hC))).mono fun e W' ⟨h1, h2⟩ => ⟨h1, hC.step h2, h2⟩)) ?_
  simp only [nf0, nf1, nf2, nf3, nf4]
  refine fst2_val (fun W hC hh => ok2_value (v := (.bool true)) (by rfl) (by rfl) rfl hC (G0.refl _)) ?_
  simp only [nf0, nf1, nf2, nf3, nf4]
  refine fst2_val (fun W hC hh => ok2_value (v := (.bool true)) (by rfl) (by rfl) rfl hC (G0.refl _)) ?_
  simp only [nf0, nf1, nf2, nf3, nf4]
  refine fst2_nil fun w52 hC hh hnd => ?_
  replace hC : Below w45.heap.size w45 w52 := hC
  clear hh hnd
  replace B3 := B3.below hC
  replace O8 := O8.same hC
  replace R18 := R18.same hC
  replace B30 := B30.below hC
  replace B47 := B47.below hC
  replace bel := bl_step bel hC
  clear hC
  refine wpList_nil ?_
  show Code.wp _ _ _ _ _
  refine wp_ret ?_
  first | show bodyPost _ _ _ _ _ _ | (simp only [Exit.then, Exit.inBlock]; show bodyPost _ _ _ _ _ _)
  exact bodyPost_ret (results_tmp rfl _ _ _) rfl ⟨rfl, bel⟩
end Go.Proofs.YtckmihjekgbcmaaDoor

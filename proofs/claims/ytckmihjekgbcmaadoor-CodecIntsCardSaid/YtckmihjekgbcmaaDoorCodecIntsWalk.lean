/- What the law CodecInts does. -/
import Derived.Test.YtckmihjekgbcmaaDoorCodeLives
import Derived.Test.YtckmihjekgbcmaaDoorTexts
namespace Go.Proofs.YtckmihjekgbcmaaDoor
open Go.RowKit Go.WideShapes Go.ChangeShapes
set_option linter.unusedSimpArgs false
set_option linter.unusedVariables false

theorem l_run_call_7_2 {o : Oper} {a : Act} (x0 : Operand) (x1 : Operand) {ts : Array TypeId} (ho : o.op = .call { callee := .value (.func 7), args := #[x0, x1], argTypes := ts }) {v0 : Value} (h0 : a.eval x0 = v0) {v1 : Value} (h1 : a.eval x1 = v1) (W : World) : (execOp a.eval o).run Tryd.prog W = .ok (.enter 7 #[v0, v1]) W := by
  unfold execOp
  simp only [ho]
  subst h0 h1
  go_simp
theorem l_run_call_8_2 {o : Oper} {a : Act} (x0 : Operand) (x1 : Operand) {ts : Array TypeId} (ho : o.op = .call { callee := .value (.func 8), args := #[x0, x1], argTypes := ts }) {v0 : Value} (h0 : a.eval x0 = v0) {v1 : Value} (h1 : a.eval x1 = v1) (W : World) : (execOp a.eval o).run Tryd.prog W = .ok (.enter 8 #[v0, v1]) W := by
  unfold execOp
  simp only [ho]
  subst h0 h1
  go_simp
theorem l_run_call_9_2 {o : Oper} {a : Act} (x0 : Operand) (x1 : Operand) {ts : Array TypeId} (ho : o.op = .call { callee := .value (.func 9), args := #[x0, x1], argTypes := ts }) {v0 : Value} (h0 : a.eval x0 = v0) {v1 : Value} (h1 : a.eval x1 = v1) (W : World) : (execOp a.eval o).run Tryd.prog W = .ok (.enter 9 #[v0, v1]) W := by
  unfold execOp
  simp only [ho]
  subst h0 h1
  go_simp
theorem l_run_call_10_1 {o : Oper} {a : Act} (x0 : Operand) {ts : Array TypeId} (ho : o.op = .call { callee := .value (.func 10), args := #[x0], argTypes := ts }) {v0 : Value} (h0 : a.eval x0 = v0) (W : World) : (execOp a.eval o).run Tryd.prog W = .ok (.enter 10 #[v0]) W := by
  unfold execOp
  simp only [ho]
  subst h0
  go_simp
theorem l_run_call_11_0 {o : Oper} {a : Act}  {ts : Array TypeId} (ho : o.op = .call { callee := .value (.func 11), args := #[], argTypes := ts })  (W : World) : (execOp a.eval o).run Tryd.prog W = .ok (.enter 11 #[]) W := by
  unfold execOp
  simp only [ho]
  go_simp

attribute [local irreducible] Go.wpList Go.Code.wp
set_option maxRecDepth 100000 in
set_option maxHeartbeats 4000000 in
theorem ints_out {A : Option Addr} {xs : List UInt8} {cap : Nat} {n : Int} (hn : I64 n) {i : Int} (hi : i < 0 ∨ ((xs.take 300).length : Int) < i) (w : World) (hcap : xs.length ≤ cap) (hA : A = none → cap = 0) (hr : Reads w A (eByte.all xs)) (hT : Tab w) : Calls Tryd.prog 3 #[.slice A xs.length cap, .int .i64 n, .int .i64 i] w fun e w' => e = .returned (.bool true) ∧ Below w.heap.size w w' := by
  have bel : Below w.heap.size w w := Below.refl _ _
  have hl3 : (xs.take 300).length ≤ 300 := List.length_take_le _ _
  have hvl := vbz_len (n := n) hn
  go_enter Tryd.func3, Tryd.ntmps3
  refine wp_seq ?_
  refine wp_region_lit ?_
  refine st_mv (.bool false) ?_
  simp only [nf0, nf1, nf2, nf3, nf4]
  refine wpList_nil ?_
  show Code.wp _ _ _ _ _
  refine wp_seq ?_
  refine wp_region_lit ?_
  refine st_mv (.slice A xs.length cap) ?_
  simp only [nf0, nf1, nf2, nf3, nf4]
  refine st_mv (.slice A xs.length cap) ?_
  simp only [nf0, nf1, nf2, nf3, nf4]
  refine st_value (v := (.int .i64 (xs.length : Int))) (by rfl) (run_len (.tmp 18) rfl ⟨_, Tryd.underlying22⟩ rfl w) ?_
  simp only [nf0, nf1, nf2, nf3, nf4]
  refine st_value (v := (.int .i64 (min (xs.length : Int) 300))) (by rfl) (run_min2 (.tmp 19) (.const (.int .i64 300)) rfl rfl rfl w) ?_
  simp only [nf0, nf1, nf2, nf3, nf4]
  have R1 := hr.takeB 300
  refine st_value (v := (.slice A (xs.take 300).length cap)) (by rfl) (run_cut_take (.tmp 17) (.tmp 20) rfl Tryd.underlying22 slByte.sz rfl 300 rfl rfl hcap w) ?_
  simp only [nf0, nf1, nf2, nf3, nf4]
  refine st_mv (.slice A (xs.take 300).length cap) ?_
  simp only [nf0, nf1, nf2, nf3, nf4]
  refine wpList_nil ?_
  show Code.wp _ _ _ _ _
  refine wp_seq ?_
  refine wp_region_lit ?_
  refine st_mv (.slice A (xs.take 300).length cap) ?_
  simp only [nf0, nf1, nf2, nf3, nf4]
  refine st_value (v := (.string (str (xs.take 300)))) (by rfl) (run_convR (.tmp 22) rfl rfl (R1.same bel)) ?_
  simp only [nf0, nf1, nf2, nf3, nf4]
  refine st_mv (.string (str (xs.take 300))) ?_
  simp only [nf0, nf1, nf2, nf3, nf4]
  refine wpList_nil ?_
  show Code.wp _ _ _ _ _
  refine wp_seq ?_
  refine wp_region_lit ?_
  refine st_mv (.slice A (xs.take 300).length cap) ?_
  simp only [nf0, nf1, nf2, nf3, nf4]
  refine st_mv (.int .i64 n) ?_
  simp only [nf0, nf1, nf2, nf3, nf4]
  refine st_call (by rfl) (l_run_call_7_2 (.tmp 24) (.tmp 25) rfl rfl rfl _) (putInt_calls A (xs.take 300) cap n hn w (R1.same bel) (by omega) hA) ?_
  rintro v2 w4 ⟨O3, hf5⟩
  simp only [nf0, nf1, nf2, nf3, nf4]
  have O3_ := fun k hk => (O3.lt k hk).1
  replace O3 := O3.lower bel.size
  replace bel := bl_step bel hf5
  clear hf5
  refine st_mv v2 ?_
  simp only [nf0, nf1, nf2, nf3, nf4]
  refine wpList_nil ?_
  show Code.wp _ _ _ _ _
  refine wp_seq ?_
  refine wp_region_lit ?_
  refine st_mv (.slice A (xs.take 300).length cap) ?_
  simp only [nf0, nf1, nf2, nf3, nf4]
  refine st_mv (.int .i64 i) ?_
  simp only [nf0, nf1, nf2, nf3, nf4]
  refine st_call1 (v := (.tuple #[.int .i64 0, .int .i64 0, .bool false])) (by rfl) (l_run_call_8_2 (.tmp 28) (.tmp 29) rfl rfl rfl _) (getInt_out (xs.take 300) cap hi w4) ?_
  intro w6 hb7
  simp only [nf0, nf1, nf2, nf3, nf4]
  replace O3 := O3.same hb7
  replace bel := bl_step bel hb7
  clear hb7
  refine st_mv (.tuple #[.int .i64 0, .int .i64 0, .bool false]) ?_
  simp only [nf0, nf1, nf2, nf3, nf4]
  refine st_mv (.int .i64 0) ?_
  simp only [nf0, nf1, nf2, nf3, nf4]
  refine st_mv (.int .i64 0) ?_
  simp only [nf0, nf1, nf2, nf3, nf4]
  refine st_mv (.bool false) ?_
  simp only [nf0, nf1, nf2, nf3, nf4]
  refine st_mv (.int .i64 0) ?_
  simp only [nf0, nf1, nf2, nf3, nf4]
  refine st_mv (.int .i64 0) ?_
  simp only [nf0, nf1, nf2, nf3, nf4]
  refine st_mv (.bool false) ?_
  simp only [nf0, nf1, nf2, nf3, nf4]
  refine wpList_nil ?_
  show Code.wp _ _ _ _ _
  refine wp_seq ?_
  refine wp_region_lit ?_
  refine st_mv (.slice A (xs.take 300).length cap) ?_
  simp only [nf0, nf1, nf2, nf3, nf4]
  refine st_mv (.int .i64 i) ?_
  simp only [nf0, nf1, nf2, nf3, nf4]
  refine st_call1 (v := (.tuple #[.int .i64 0, .int .i64 0])) (by rfl) (l_run_call_9_2 (.tmp 35) (.tmp 36) rfl rfl rfl _) (refGet_out (xs.take 300) cap hi w6) ?_
  intro w8 hb9
  simp only [nf0, nf1, nf2, nf3, nf4]
  replace O3 := O3.same hb9
  replace bel := bl_step bel hb9
  clear hb9
  refine st_mv (.tuple #[.int .i64 0, .int .i64 0]) ?_
  simp only [nf0, nf1, nf2, nf3, nf4]
  refine st_mv (.int .i64 0) ?_
  simp only [nf0, nf1, nf2, nf3, nf4]
  refine st_mv (.int .i64 0) ?_
  simp only [nf0, nf1, nf2, nf3, nf4]
  refine st_mv (.int .i64 0) ?_
  simp only [nf0, nf1, nf2, nf3, nf4]
  refine st_mv (.int .i64 0) ?_
  simp only [nf0, nf1, nf2, nf3, nf4]
  refine wpList_nil ?_
  show Code.wp _ _ _ _ _
  refine wp_seq ?_
  refine wp_seq ?_
  refine wp_region_lit ?_
  refine st_mv (.bool false) ?_
  simp only [nf0, nf1, nf2, nf3, nf4]
  refine st_mv (.int .i64 0) ?_
  simp only [nf0, nf1, nf2, nf3, nf4]
  refine st_value (v := (.bool false)) (by rfl) ((run_gtr (.tmp 41) (.const (.int .i64 0)) rfl rfl rfl w8).trans (by rw [decide_eq_false (by omega)])) ?_
  simp only [nf0, nf1, nf2, nf3, nf4]
  refine st_value (v := (.bool false)) (by rfl) (runm_neq_bool (.tmp 40) (.tmp 42) rfl Tryd.underlying4 (b := false) (c := false) rfl rfl w8) ?_
  simp only [nf0, nf1, nf2, nf3, nf4]
  refine st_mv (.bool false) ?_
  simp only [nf0, nf1, nf2, nf3, nf4]
  refine st_mv (.bool false) ?_
  simp only [nf0, nf1, nf2, nf3, nf4]
  refine st_mv (.bool false) ?_
  simp only [nf0, nf1, nf2, nf3, nf4]
  refine st_nob (j := 6) (t := 46) (c := false) rfl rfl rfl rfl rfl ?_
  simp only [nf0, nf1, nf2, nf3, nf4]
  refine st_nob (j := 6) (t := 46) (c := false) rfl rfl rfl rfl rfl ?_
  simp only [nf0, nf1, nf2, nf3, nf4]
  refine st_nob (j := 6) (t := 46) (c := false) rfl rfl rfl rfl rfl ?_
  simp only [nf0, nf1, nf2, nf3, nf4]
  refine st_nob (j := 6) (t := 46) (c := false) rfl rfl rfl rfl rfl ?_
  simp only [nf0, nf1, nf2, nf3, nf4]
  refine st_nou (j := 10) (t := 50) rfl rfl rfl rfl ?_
  simp only [nf0, nf1, nf2, nf3, nf4]
  refine st_nou (j := 10) (t := 50) rfl rfl rfl rfl ?_
  simp only [nf0, nf1, nf2, nf3, nf4]
  refine st_nou (j := 10) (t := 50) rfl rfl rfl rfl ?_
  simp only [nf0, nf1, nf2, nf3, nf4]
  refine st_nou (j := 10) (t := 50) rfl rfl rfl rfl ?_
  simp only [nf0, nf1, nf2, nf3, nf4]
  refine st_nou (j := 10) (t := 50) rfl rfl rfl rfl ?_
  simp only [nf0, nf1, nf2, nf3, nf4]
  refine st_nob (j := 6) (t := 46) (c := false) rfl rfl rfl rfl rfl ?_
  simp only [nf0, nf1, nf2, nf3, nf4]
  refine st_mv (.bool false) ?_
  simp only [nf0, nf1, nf2, nf3, nf4]
  refine st_mv (.bool false) ?_
  simp only [nf0, nf1, nf2, nf3, nf4]
  refine st_mv (.bool false) ?_
  simp only [nf0, nf1, nf2, nf3, nf4]
  refine st_mv (.bool false) ?_
  simp only [nf0, nf1, nf2, nf3, nf4]
  refine st_value (v := (.bool true)) (by rfl) (run_not (.tmp 60) rfl (b := false) rfl w8) ?_
  simp only [nf0, nf1, nf2, nf3, nf4]
  refine st_mv (.bool true) ?_
  simp only [nf0, nf1, nf2, nf3, nf4]
  refine st_mv (.int .i64 0) ?_
  simp only [nf0, nf1, nf2, nf3, nf4]
  refine st_value (v := (.bool false)) (by rfl) (run_neq_int_t (.tmp 63) (.const (.int .i64 0)) rfl rfl rfl rfl w8) ?_
  simp only [nf0, nf1, nf2, nf3, nf4]
  refine st_mv (.bool false) ?_
  simp only [nf0, nf1, nf2, nf3, nf4]
  refine st_mv (.int .i64 0) ?_
  simp only [nf0, nf1, nf2, nf3, nf4]
  refine st_value (v := (.bool false)) (by rfl) (run_neq_int_t (.tmp 66) (.const (.int .i64 0)) rfl rfl rfl rfl w8) ?_
  simp only [nf0, nf1, nf2, nf3, nf4]
  refine st_mv (.bool false) ?_
  simp only [nf0, nf1, nf2, nf3, nf4]
  refine st_mv (.bool false) ?_
  simp only [nf0, nf1, nf2, nf3, nf4]
  refine st_mv (.bool false) ?_
  simp only [nf0, nf1, nf2, nf3, nf4]
  refine wpList_nil ?_
  show Code.wp _ _ _ _ _
  refine wp_cond_false rfl ?_
  refine wp_skip ?_
  show Code.wp _ _ _ _ _
  refine wp_seq ?_
  obtain ⟨A10, c11, hv12, h13, h14, h15, R16⟩ := O3.reads
  subst hv12
  clear O3
  refine wp_region_lit ?_
  refine st_mv (.slice A10 ((xs.take 300) ++ vb (zig n)).length c11) ?_
  simp only [nf0, nf1, nf2, nf3, nf4]
  refine st_mv (.slice A (xs.take 300).length cap) ?_
  simp only [nf0, nf1, nf2, nf3, nf4]
  refine st_value (v := (.int .i64 ((xs.take 300).length : Int))) (by rfl) (run_len (.tmp 73) rfl ⟨_, Tryd.underlying22⟩ rfl w8) ?_
  simp only [nf0, nf1, nf2, nf3, nf4]
  refine st_call1 (v := (.tuple #[.int .i64 n, .int .i64 (((xs.take 300).length : Int) + ((vb (zig n)).length : Int)), .bool true])) (by rfl) (l_run_call_8_2 (.tmp 72) (.tmp 74) rfl rfl rfl _) (by have h := getInt_in A10 ((xs.take 300) ++ vb (zig n)) c11 (xs.take 300).length h13 (by rw [List.length_append]; omega) (by rw [List.length_append]; omega) w8 R16; rw [getAt_vb (zig_lt hn), gres, zag_zig] at h; exact h) ?_
  intro w17 hb18
  simp only [nf0, nf1, nf2, nf3, nf4]
  replace R16 := R16.same hb18
  replace bel := bl_step bel hb18
  clear hb18
  refine st_mv (.tuple #[.int .i64 n, .int .i64 (((xs.take 300).length : Int) + ((vb (zig n)).length : Int)), .bool true]) ?_
  simp only [nf0, nf1, nf2, nf3, nf4]
  refine st_mv (.int .i64 n) ?_
  simp only [nf0, nf1, nf2, nf3, nf4]
  refine st_mv (.int .i64 (((xs.take 300).length : Int) + ((vb (zig n)).length : Int))) ?_
  simp only [nf0, nf1, nf2, nf3, nf4]
  refine st_mv (.bool true) ?_
  simp only [nf0, nf1, nf2, nf3, nf4]
  refine st_mv (.int .i64 n) ?_
  simp only [nf0, nf1, nf2, nf3, nf4]
  refine st_mv (.int .i64 (((xs.take 300).length : Int) + ((vb (zig n)).length : Int))) ?_
  simp only [nf0, nf1, nf2, nf3, nf4]
  refine st_mv (.bool true) ?_
  simp only [nf0, nf1, nf2, nf3, nf4]
  refine wpList_nil ?_
  show Code.wp _ _ _ _ _
  refine wp_seq ?_
  refine wp_region_facts2_lit (C := Abv w17) 32 [.val (.slice A10 ((xs.take 300) ++ vb (zig n)).length c11), .val (.string (str ((xs.take 300) ++ vb (zig n)))), .val (.string (str (xs.take 300))), .val (.int .i64 n), .ex (fun v_ z_ => OwnR z_ w17.heap.size 5 eByte v_ (vb (zig n))) (fun v_ z_ y_ hG h => h.same hG), .val (.string (str (vb (zig n)))), .val (.string (str ((xs.take 300) ++ (vb (zig n))))), .val (.bool true), .val (.bool true), .val (.slice A (xs.take 300).length cap), .val (.string (str (xs.take 300))), .val (.string (str (xs.take 300))), .val (.bool true), .val (.bool true), .val (.bool true), .val (.bool true), .val (.bool true), .val (.bool true), .val (.int .i64 n), .val (.int .i64 n), .val (.bool true), .val (.bool true), .val (.bool true), .val (.int .i64 (((xs.take 300).length : Int) + ((vb (zig n)).length : Int))), .val (.slice A10 ((xs.take 300) ++ vb (zig n)).length c11), .val (.int .i64 (((xs.take 300) ++ vb (zig n)).length : Int)), .val (.bool true), .val (.bool true), .val (.bool true), .val (.bool true), .val (.bool true), .val (.bool true)] w17.heap.size (by kernel_rfl) (by simp) (by kernel_rfl) (by kernel_rfl) (fun _ h => h.size) (Abv.start _) ?_
  simp only [List.take_succ_cons, List.take_zero, List.drop_succ_cons, List.drop_zero]
  refine fst2_val (fun W hC hh => ok2_value (v := (.slice A10 ((xs.take 300) ++ vb (zig n)).length c11)) (by rfl) (by rfl) rfl hC (G0.refl _)) ?_
  simp only [nf0, nf1, nf2, nf3, nf4]
  refine fst2_val (fun W hC hh => ok2_value (v := (.string (str ((xs.take 300) ++ vb (zig n))))) (by rfl) (run_convR (.tmp 79) rfl rfl (R16.same hC)) rfl hC (G0.refl _)) ?_
  simp only [nf0, nf1, nf2, nf3, nf4]
  refine fst2_val (fun W hC hh => ok2_value (v := (.string (str (xs.take 300)))) (by rfl) (by rfl) rfl hC (G0.refl _)) ?_
  simp only [nf0, nf1, nf2, nf3, nf4]
  refine fst2_val (fun W hC hh => ok2_value (v := (.int .i64 n)) (by rfl) (by rfl) rfl hC (G0.refl _)) ?_
  simp only [nf0, nf1, nf2, nf3, nf4]
  refine fst2_ex (fun W hC hh => ok2_callex (by rfl) (l_run_call_10_1 (.tmp 82) rfl rfl W) ((refInt_calls hn W).mono fun e W' ⟨v_, h1_, h2_, h3_⟩ => ⟨v_, h1_, h2_.lower hC.size, hC.step h3_, h3_⟩)) fun v21 => ?_
  simp only [nf0, nf1, nf2, nf3, nf4]
  refine fst2_val (fun W hC hh => ok2_value (v := (.string (str (vb (zig n))))) (by rfl) (run_convB (.tmp 83) rfl rfl (hh _ (.head _) (by show (4 : Nat) ∈ _; decide))) rfl hC (G0.refl _)) ?_
  simp only [nf0, nf1, nf2, nf3, nf4]
  refine fst2_val (fun W hC hh => ok2_value (v := (.string (str ((xs.take 300) ++ (vb (zig n)))))) (by rfl) (run_add_text (.tmp 81) (.tmp 84) (l := (xs.take 300)) (m := (vb (zig n))) rfl rfl rfl (by (try simp only [List.length_append, List.length_cons, List.length_nil]); omega) W) rfl hC (G0.refl _)) ?_
  simp only [nf0, nf1, nf2, nf3, nf4]
  refine fst2_val (fun W hC hh => ok2_value (v := (.bool true)) (by rfl) (run_eql_text_t (.tmp 80) (.tmp 85) (l := ((xs.take 300) ++ vb (zig n))) (m := ((xs.take 300) ++ (vb (zig n)))) rfl rfl rfl rfl W) rfl hC (G0.refl _)) ?_
  simp only [nf0, nf1, nf2, nf3, nf4]
  refine fst2_val (fun W hC hh => ok2_value (v := (.bool true)) (by rfl) (by rfl) rfl hC (G0.refl _)) ?_
  simp only [nf0, nf1, nf2, nf3, nf4]
  refine fst2_val (fun W hC hh => ok2_value (v := (.slice A (xs.take 300).length cap)) (by rfl) (by rfl) rfl hC (G0.refl _)) ?_
  simp only [nf0, nf1, nf2, nf3, nf4]
  refine fst2_val (fun W hC hh => ok2_value (v := (.string (str (xs.take 300)))) (by rfl) (run_convR (.tmp 88) rfl rfl (R1.same (bl_step bel hC))) rfl hC (G0.refl _)) ?_
  simp only [nf0, nf1, nf2, nf3, nf4]
  refine fst2_val (fun W hC hh => ok2_value (v := (.string (str (xs.take 300)))) (by rfl) (by rfl) rfl hC (G0.refl _)) ?_
  simp only [nf0, nf1, nf2, nf3, nf4]
  refine fst2_val (fun W hC hh => ok2_value (v := (.bool true)) (by rfl) (run_eql_text_t (.tmp 89) (.tmp 90) (l := (xs.take 300)) (m := (xs.take 300)) rfl rfl rfl rfl W) rfl hC (G0.refl _)) ?_
  simp only [nf0, nf1, nf2, nf3, nf4]
  refine fst2_val (fun W hC hh => ok2_value (v := (.bool true)) (by rfl) (by rfl) rfl hC (G0.refl _)) ?_
  simp only [nf0, nf1, nf2, nf3, nf4]
  refine fst2_val (fun W hC hh => ok2_value (v := (.bool true)) (by rfl) (by rfl) rfl hC (G0.refl _)) ?_
  simp only [nf0, nf1, nf2, nf3, nf4]
  refine fst2_val (fun W hC hh => ok2_value (v := (.bool true)) (by rfl) (by rfl) rfl hC (G0.refl _)) ?_
  simp only [nf0, nf1, nf2, nf3, nf4]
  refine fst2_val (fun W hC hh => ok2_value (v := (.bool true)) (by rfl) (by rfl) rfl hC (G0.refl _)) ?_
  simp only [nf0, nf1, nf2, nf3, nf4]
  refine fst2_val (fun W hC hh => ok2_value (v := (.bool true)) (by rfl) (by rfl) rfl hC (G0.refl _)) ?_
  simp only [nf0, nf1, nf2, nf3, nf4]
  refine fst2_val (fun W hC hh => ok2_value (v := (.int .i64 n)) (by rfl) (by rfl) rfl hC (G0.refl _)) ?_
  simp only [nf0, nf1, nf2, nf3, nf4]
  refine fst2_val (fun W hC hh => ok2_value (v := (.int .i64 n)) (by rfl) (by rfl) rfl hC (G0.refl _)) ?_
  simp only [nf0, nf1, nf2, nf3, nf4]
  refine fst2_val (fun W hC hh => ok2_value (v := (.bool true)) (by rfl) (run_eql_int_t (.tmp 97) (.tmp 98) rfl rfl rfl rfl W) rfl hC (G0.refl _)) ?_
  simp only [nf0, nf1, nf2, nf3, nf4]
  refine fst2_val (fun W hC hh => ok2_value (v := (.bool true)) (by rfl) (by rfl) rfl hC (G0.refl _)) ?_
  simp only [nf0, nf1, nf2, nf3, nf4]
  refine fst2_val (fun W hC hh => ok2_value (v := (.bool true)) (by rfl) (by rfl) rfl hC (G0.refl _)) ?_
  simp only [nf0, nf1, nf2, nf3, nf4]
  refine fst2_val (fun W hC hh => ok2_value (v := (.int .i64 (((xs.take 300).length : Int) + ((vb (zig n)).length : Int)))) (by rfl) (by rfl) rfl hC (G0.refl _)) ?_
  simp only [nf0, nf1, nf2, nf3, nf4]
  refine fst2_val (fun W hC hh => ok2_value (v := (.slice A10 ((xs.take 300) ++ vb (zig n)).length c11)) (by rfl) (by rfl) rfl hC (G0.refl _)) ?_
  simp only [nf0, nf1, nf2, nf3, nf4]
  refine fst2_val (fun W hC hh => ok2_value (v := (.int .i64 (((xs.take 300) ++ vb (zig n)).length : Int))) (by rfl) (run_len (.tmp 103) rfl ⟨_, Tryd.underlying22⟩ rfl W) rfl hC (G0.refl _)) ?_
  simp only [nf0, nf1, nf2, nf3, nf4]
  refine fst2_val (fun W hC hh => ok2_value (v := (.bool true)) (by rfl) (run_eql_int_t (.tmp 102) (.tmp 104) rfl rfl rfl (by rw [List.length_append]; omega) W) rfl hC (G0.refl _)) ?_
  simp only [nf0, nf1, nf2, nf3, nf4]
  refine fst2_val (fun W hC hh => ok2_value (v := (.bool true)) (by rfl) (by rfl) rfl hC (G0.refl _)) ?_
  simp only [nf0, nf1, nf2, nf3, nf4]
  refine fst2_val (fun W hC hh => ok2_value (v := (.bool true)) (by rfl) (by rfl) rfl hC (G0.refl _)) ?_
  simp only [nf0, nf1, nf2, nf3, nf4]
  refine fst2_val (fun W hC hh => ok2_call (by rfl) (l_run_call_11_0  rfl  W) ((codeLives_calls W (hT.same (bl_step bel hC))).mono fun e W' ⟨h1, h2⟩ => ⟨h1, hC.step h2, h2⟩)) ?_
  simp only [nf0, nf1, nf2, nf3, nf4]
  refine fst2_val (fun W hC hh => ok2_value (v := (.bool true)) (by rfl) (by rfl) rfl hC (G0.refl _)) ?_
  simp only [nf0, nf1, nf2, nf3, nf4]
  refine fst2_val (fun W hC hh => ok2_value (v := (.bool true)) (by rfl) (by rfl) rfl hC (G0.refl _)) ?_
  simp only [nf0, nf1, nf2, nf3, nf4]
  refine fst2_nil fun w22 hC hh hnd => ?_
  replace hC : Below w17.heap.size w17 w22 := hC
  clear hh hnd
  replace R16 := R16.same hC
  replace bel := bl_step bel hC
  clear hC
  refine wpList_nil ?_
  show Code.wp _ _ _ _ _
  refine wp_ret ?_
  first | show bodyPost _ _ _ _ _ _ | (simp only [Exit.then, Exit.inBlock]; show bodyPost _ _ _ _ _ _)
  exact bodyPost_ret (results_tmp rfl _ _ _) rfl ⟨rfl, bel⟩
set_option maxRecDepth 100000 in
set_option maxHeartbeats 4000000 in
theorem ints_none {A : Option Addr} {xs : List UInt8} {cap : Nat} {n : Int} (hn : I64 n) {p : Nat} (hp : p ≤ (xs.take 300).length) (hg : getAt (xs.take 300) p = none) (w : World) (hcap : xs.length ≤ cap) (hA : A = none → cap = 0) (hr : Reads w A (eByte.all xs)) (hT : Tab w) : Calls Tryd.prog 3 #[.slice A xs.length cap, .int .i64 n, .int .i64 (p : Int)] w fun e w' => e = .returned (.bool true) ∧ Below w.heap.size w w' := by
  have bel : Below w.heap.size w w := Below.refl _ _
  have hl3 : (xs.take 300).length ≤ 300 := List.length_take_le _ _
  have hvl := vbz_len (n := n) hn
  go_enter Tryd.func3, Tryd.ntmps3
  refine wp_seq ?_
  refine wp_region_lit ?_
  refine st_mv (.bool false) ?_
  simp only [nf0, nf1, nf2, nf3, nf4]
  refine wpList_nil ?_
  show Code.wp _ _ _ _ _
  refine wp_seq ?_
  refine wp_region_lit ?_
  refine st_mv (.slice A xs.length cap) ?_
  simp only [nf0, nf1, nf2, nf3, nf4]
  refine st_mv (.slice A xs.length cap) ?_
  simp only [nf0, nf1, nf2, nf3, nf4]
  refine st_value (v := (.int .i64 (xs.length : Int))) (by rfl) (run_len (.tmp 18) rfl ⟨_, Tryd.underlying22⟩ rfl w) ?_
  simp only [nf0, nf1, nf2, nf3, nf4]
  refine st_value (v := (.int .i64 (min (xs.length : Int) 300))) (by rfl) (run_min2 (.tmp 19) (.const (.int .i64 300)) rfl rfl rfl w) ?_
  simp only [nf0, nf1, nf2, nf3, nf4]
  have R1 := hr.takeB 300
  refine st_value (v := (.slice A (xs.take 300).length cap)) (by rfl) (run_cut_take (.tmp 17) (.tmp 20) rfl Tryd.underlying22 slByte.sz rfl 300 rfl rfl hcap w) ?_
  simp only [nf0, nf1, nf2, nf3, nf4]
  refine st_mv (.slice A (xs.take 300).length cap) ?_
  simp only [nf0, nf1, nf2, nf3, nf4]
  refine wpList_nil ?_
  show Code.wp _ _ _ _ _
  refine wp_seq ?_
  refine wp_region_lit ?_
  refine st_mv (.slice A (xs.take 300).length cap) ?_
  simp only [nf0, nf1, nf2, nf3, nf4]
  refine st_value (v := (.string (str (xs.take 300)))) (by rfl) (run_convR (.tmp 22) rfl rfl (R1.same bel)) ?_
  simp only [nf0, nf1, nf2, nf3, nf4]
  refine st_mv (.string (str (xs.take 300))) ?_
  simp only [nf0, nf1, nf2, nf3, nf4]
  refine wpList_nil ?_
  show Code.wp _ _ _ _ _
  refine wp_seq ?_
  refine wp_region_lit ?_
  refine st_mv (.slice A (xs.take 300).length cap) ?_
  simp only [nf0, nf1, nf2, nf3, nf4]
  refine st_mv (.int .i64 n) ?_
  simp only [nf0, nf1, nf2, nf3, nf4]
  refine st_call (by rfl) (l_run_call_7_2 (.tmp 24) (.tmp 25) rfl rfl rfl _) (putInt_calls A (xs.take 300) cap n hn w (R1.same bel) (by omega) hA) ?_
  rintro v2 w4 ⟨O3, hf5⟩
  simp only [nf0, nf1, nf2, nf3, nf4]
  have O3_ := fun k hk => (O3.lt k hk).1
  replace O3 := O3.lower bel.size
  replace bel := bl_step bel hf5
  clear hf5
  refine st_mv v2 ?_
  simp only [nf0, nf1, nf2, nf3, nf4]
  refine wpList_nil ?_
  show Code.wp _ _ _ _ _
  refine wp_seq ?_
  refine wp_region_lit ?_
  refine st_mv (.slice A (xs.take 300).length cap) ?_
  simp only [nf0, nf1, nf2, nf3, nf4]
  refine st_mv (.int .i64 (p : Int)) ?_
  simp only [nf0, nf1, nf2, nf3, nf4]
  refine st_call1 (v := (.tuple #[.int .i64 0, .int .i64 0, .bool false])) (by rfl) (l_run_call_8_2 (.tmp 28) (.tmp 29) rfl rfl rfl _) (by have h := getInt_in A (xs.take 300) cap p (by rw [List.length_take]; omega) (by omega) hp w4 (R1.same bel); rw [hg, gres] at h; exact h) ?_
  intro w6 hb7
  simp only [nf0, nf1, nf2, nf3, nf4]
  replace O3 := O3.same hb7
  replace bel := bl_step bel hb7
  clear hb7
  refine st_mv (.tuple #[.int .i64 0, .int .i64 0, .bool false]) ?_
  simp only [nf0, nf1, nf2, nf3, nf4]
  refine st_mv (.int .i64 0) ?_
  simp only [nf0, nf1, nf2, nf3, nf4]
  refine st_mv (.int .i64 0) ?_
  simp only [nf0, nf1, nf2, nf3, nf4]
  refine st_mv (.bool false) ?_
  simp only [nf0, nf1, nf2, nf3, nf4]
  refine st_mv (.int .i64 0) ?_
  simp only [nf0, nf1, nf2, nf3, nf4]
  refine st_mv (.int .i64 0) ?_
  simp only [nf0, nf1, nf2, nf3, nf4]
  refine st_mv (.bool false) ?_
  simp only [nf0, nf1, nf2, nf3, nf4]
  refine wpList_nil ?_
  show Code.wp _ _ _ _ _
  refine wp_seq ?_
  refine wp_region_lit ?_
  refine st_mv (.slice A (xs.take 300).length cap) ?_
  simp only [nf0, nf1, nf2, nf3, nf4]
  refine st_mv (.int .i64 (p : Int)) ?_
  simp only [nf0, nf1, nf2, nf3, nf4]
  refine st_call1 (v := (.tuple #[.int .i64 0, .int .i64 0])) (by rfl) (l_run_call_9_2 (.tmp 35) (.tmp 36) rfl rfl rfl _) (by have h := refGet_in A (xs.take 300) cap p (by rw [List.length_take]; omega) (by omega) hp w6 (R1.same bel); rw [hg, gres2] at h; exact h) ?_
  intro w8 hb9
  simp only [nf0, nf1, nf2, nf3, nf4]
  replace O3 := O3.same hb9
  replace bel := bl_step bel hb9
  clear hb9
  refine st_mv (.tuple #[.int .i64 0, .int .i64 0]) ?_
  simp only [nf0, nf1, nf2, nf3, nf4]
  refine st_mv (.int .i64 0) ?_
  simp only [nf0, nf1, nf2, nf3, nf4]
  refine st_mv (.int .i64 0) ?_
  simp only [nf0, nf1, nf2, nf3, nf4]
  refine st_mv (.int .i64 0) ?_
  simp only [nf0, nf1, nf2, nf3, nf4]
  refine st_mv (.int .i64 0) ?_
  simp only [nf0, nf1, nf2, nf3, nf4]
  refine wpList_nil ?_
  show Code.wp _ _ _ _ _
  refine wp_seq ?_
  refine wp_seq ?_
  refine wp_region_lit ?_
  refine st_mv (.bool false) ?_
  simp only [nf0, nf1, nf2, nf3, nf4]
  refine st_mv (.int .i64 0) ?_
  simp only [nf0, nf1, nf2, nf3, nf4]
  refine st_value (v := (.bool false)) (by rfl) ((run_gtr (.tmp 41) (.const (.int .i64 0)) rfl rfl rfl w8).trans (by rw [decide_eq_false (by omega)])) ?_
  simp only [nf0, nf1, nf2, nf3, nf4]
  refine st_value (v := (.bool false)) (by rfl) (runm_neq_bool (.tmp 40) (.tmp 42) rfl Tryd.underlying4 (b := false) (c := false) rfl rfl w8) ?_
  simp only [nf0, nf1, nf2, nf3, nf4]
  refine st_mv (.bool false) ?_
  simp only [nf0, nf1, nf2, nf3, nf4]
  refine st_mv (.bool false) ?_
  simp only [nf0, nf1, nf2, nf3, nf4]
  refine st_mv (.bool false) ?_
  simp only [nf0, nf1, nf2, nf3, nf4]
  refine st_nob (j := 6) (t := 46) (c := false) rfl rfl rfl rfl rfl ?_
  simp only [nf0, nf1, nf2, nf3, nf4]
  refine st_nob (j := 6) (t := 46) (c := false) rfl rfl rfl rfl rfl ?_
  simp only [nf0, nf1, nf2, nf3, nf4]
  refine st_nob (j := 6) (t := 46) (c := false) rfl rfl rfl rfl rfl ?_
  simp only [nf0, nf1, nf2, nf3, nf4]
  refine st_nob (j := 6) (t := 46) (c := false) rfl rfl rfl rfl rfl ?_
  simp only [nf0, nf1, nf2, nf3, nf4]
  refine st_nou (j := 10) (t := 50) rfl rfl rfl rfl ?_
  simp only [nf0, nf1, nf2, nf3, nf4]
  refine st_nou (j := 10) (t := 50) rfl rfl rfl rfl ?_
  simp only [nf0, nf1, nf2, nf3, nf4]
  refine st_nou (j := 10) (t := 50) rfl rfl rfl rfl ?_
  simp only [nf0, nf1, nf2, nf3, nf4]
  refine st_nou (j := 10) (t := 50) rfl rfl rfl rfl ?_
  simp only [nf0, nf1, nf2, nf3, nf4]
  refine st_nou (j := 10) (t := 50) rfl rfl rfl rfl ?_
  simp only [nf0, nf1, nf2, nf3, nf4]
  refine st_nob (j := 6) (t := 46) (c := false) rfl rfl rfl rfl rfl ?_
  simp only [nf0, nf1, nf2, nf3, nf4]
  refine st_mv (.bool false) ?_
  simp only [nf0, nf1, nf2, nf3, nf4]
  refine st_mv (.bool false) ?_
  simp only [nf0, nf1, nf2, nf3, nf4]
  refine st_mv (.bool false) ?_
  simp only [nf0, nf1, nf2, nf3, nf4]
  refine st_mv (.bool false) ?_
  simp only [nf0, nf1, nf2, nf3, nf4]
  refine st_value (v := (.bool true)) (by rfl) (run_not (.tmp 60) rfl (b := false) rfl w8) ?_
  simp only [nf0, nf1, nf2, nf3, nf4]
  refine st_mv (.bool true) ?_
  simp only [nf0, nf1, nf2, nf3, nf4]
  refine st_mv (.int .i64 0) ?_
  simp only [nf0, nf1, nf2, nf3, nf4]
  refine st_value (v := (.bool false)) (by rfl) (run_neq_int_t (.tmp 63) (.const (.int .i64 0)) rfl rfl rfl rfl w8) ?_
  simp only [nf0, nf1, nf2, nf3, nf4]
  refine st_mv (.bool false) ?_
  simp only [nf0, nf1, nf2, nf3, nf4]
  refine st_mv (.int .i64 0) ?_
  simp only [nf0, nf1, nf2, nf3, nf4]
  refine st_value (v := (.bool false)) (by rfl) (run_neq_int_t (.tmp 66) (.const (.int .i64 0)) rfl rfl rfl rfl w8) ?_
  simp only [nf0, nf1, nf2, nf3, nf4]
  refine st_mv (.bool false) ?_
  simp only [nf0, nf1, nf2, nf3, nf4]
  refine st_mv (.bool false) ?_
  simp only [nf0, nf1, nf2, nf3, nf4]
  refine st_mv (.bool false) ?_
  simp only [nf0, nf1, nf2, nf3, nf4]
  refine wpList_nil ?_
  show Code.wp _ _ _ _ _
  refine wp_cond_false rfl ?_
  refine wp_skip ?_
  show Code.wp _ _ _ _ _
  refine wp_seq ?_
  obtain ⟨A10, c11, hv12, h13, h14, h15, R16⟩ := O3.reads
  subst hv12
  clear O3
  refine wp_region_lit ?_
  refine st_mv (.slice A10 ((xs.take 300) ++ vb (zig n)).length c11) ?_
  simp only [nf0, nf1, nf2, nf3, nf4]
  refine st_mv (.slice A (xs.take 300).length cap) ?_
  simp only [nf0, nf1, nf2, nf3, nf4]
  refine st_value (v := (.int .i64 ((xs.take 300).length : Int))) (by rfl) (run_len (.tmp 73) rfl ⟨_, Tryd.underlying22⟩ rfl w8) ?_
  simp only [nf0, nf1, nf2, nf3, nf4]
  refine st_call1 (v := (.tuple #[.int .i64 n, .int .i64 (((xs.take 300).length : Int) + ((vb (zig n)).length : Int)), .bool true])) (by rfl) (l_run_call_8_2 (.tmp 72) (.tmp 74) rfl rfl rfl _) (by have h := getInt_in A10 ((xs.take 300) ++ vb (zig n)) c11 (xs.take 300).length h13 (by rw [List.length_append]; omega) (by rw [List.length_append]; omega) w8 R16; rw [getAt_vb (zig_lt hn), gres, zag_zig] at h; exact h) ?_
  intro w17 hb18
  simp only [nf0, nf1, nf2, nf3, nf4]
  replace R16 := R16.same hb18
  replace bel := bl_step bel hb18
  clear hb18
  refine st_mv (.tuple #[.int .i64 n, .int .i64 (((xs.take 300).length : Int) + ((vb (zig n)).length : Int)), .bool true]) ?_
  simp only [nf0, nf1, nf2, nf3, nf4]
  refine st_mv (.int .i64 n) ?_
  simp only [nf0, nf1, nf2, nf3, nf4]
  refine st_mv (.int .i64 (((xs.take 300).length : Int) + ((vb (zig n)).length : Int))) ?_
  simp only [nf0, nf1, nf2, nf3, nf4]
  refine st_mv (.bool true) ?_
  simp only [nf0, nf1, nf2, nf3, nf4]
  refine st_mv (.int .i64 n) ?_
  simp only [nf0, nf1, nf2, nf3, nf4]
  refine st_mv (.int .i64 (((xs.take 300).length : Int) + ((vb (zig n)).length : Int))) ?_
  simp only [nf0, nf1, nf2, nf3, nf4]
  refine st_mv (.bool true) ?_
  simp only [nf0, nf1, nf2, nf3, nf4]
  refine wpList_nil ?_
  show Code.wp _ _ _ _ _
  refine wp_seq ?_
  refine wp_region_facts2_lit (C := Abv w17) 32 [.val (.slice A10 ((xs.take 300) ++ vb (zig n)).length c11), .val (.string (str ((xs.take 300) ++ vb (zig n)))), .val (.string (str (xs.take 300))), .val (.int .i64 n), .ex (fun v_ z_ => OwnR z_ w17.heap.size 5 eByte v_ (vb (zig n))) (fun v_ z_ y_ hG h => h.same hG), .val (.string (str (vb (zig n)))), .val (.string (str ((xs.take 300) ++ (vb (zig n))))), .val (.bool true), .val (.bool true), .val (.slice A (xs.take 300).length cap), .val (.string (str (xs.take 300))), .val (.string (str (xs.take 300))), .val (.bool true), .val (.bool true), .val (.bool true), .val (.bool true), .val (.bool true), .val (.bool true), .val (.int .i64 n), .val (.int .i64 n), .val (.bool true), .val (.bool true), .val (.bool true), .val (.int .i64 (((xs.take 300).length : Int) + ((vb (zig n)).length : Int))), .val (.slice A10 ((xs.take 300) ++ vb (zig n)).length c11), .val (.int .i64 (((xs.take 300) ++ vb (zig n)).length : Int)), .val (.bool true), .val (.bool true), .val (.bool true), .val (.bool true), .val (.bool true), .val (.bool true)] w17.heap.size (by kernel_rfl) (by simp) (by kernel_rfl) (by kernel_rfl) (fun _ h => h.size) (Abv.start _) ?_
  simp only [List.take_succ_cons, List.take_zero, List.drop_succ_cons, List.drop_zero]
  refine fst2_val (fun W hC hh => ok2_value (v := (.slice A10 ((xs.take 300) ++ vb (zig n)).length c11)) (by rfl) (by rfl) rfl hC (G0.refl _)) ?_
  simp only [nf0, nf1, nf2, nf3, nf4]
  refine fst2_val (fun W hC hh => ok2_value (v := (.string (str ((xs.take 300) ++ vb (zig n))))) (by rfl) (run_convR (.tmp 79) rfl rfl (R16.same hC)) rfl hC (G0.refl _)) ?_
  simp only [nf0, nf1, nf2, nf3, nf4]
  refine fst2_val (fun W hC hh => ok2_value (v := (.string (str (xs.take 300)))) (by rfl) (by rfl) rfl hC (G0.refl _)) ?_
  simp only [nf0, nf1, nf2, nf3, nf4]
  refine fst2_val (fun W hC hh => ok2_value (v := (.int .i64 n)) (by rfl) (by rfl) rfl hC (G0.refl _)) ?_
  simp only [nf0, nf1, nf2, nf3, nf4]
  refine fst2_ex (fun W hC hh => ok2_callex (by rfl) (l_run_call_10_1 (.tmp 82) rfl rfl W) ((refInt_calls hn W).mono fun e W' ⟨v_, h1_, h2_, h3_⟩ => ⟨v_, h1_, h2_.lower hC.size, hC.step h3_, h3_⟩)) fun v21 => ?_
  simp only [nf0, nf1, nf2, nf3, nf4]
  refine fst2_val (fun W hC hh => ok2_value (v := (.string (str (vb (zig n))))) (by rfl) (run_convB (.tmp 83) rfl rfl (hh _ (.head _) (by show (4 : Nat) ∈ _; decide))) rfl hC (G0.refl _)) ?_
  simp only [nf0, nf1, nf2, nf3, nf4]
  refine fst2_val (fun W hC hh => ok2_value (v := (.string (str ((xs.take 300) ++ (vb (zig n)))))) (by rfl) (run_add_text (.tmp 81) (.tmp 84) (l := (xs.take 300)) (m := (vb (zig n))) rfl rfl rfl (by (try simp only [List.length_append, List.length_cons, List.length_nil]); omega) W) rfl hC (G0.refl _)) ?_
  simp only [nf0, nf1, nf2, nf3, nf4]
  refine fst2_val (fun W hC hh => ok2_value (v := (.bool true)) (by rfl) (run_eql_text_t (.tmp 80) (.tmp 85) (l := ((xs.take 300) ++ vb (zig n))) (m := ((xs.take 300) ++ (vb (zig n)))) rfl rfl rfl rfl W) rfl hC (G0.refl _)) ?_
  simp only [nf0, nf1, nf2, nf3, nf4]
  refine fst2_val (fun W hC hh => ok2_value (v := (.bool true)) (by rfl) (by rfl) rfl hC (G0.refl _)) ?_
  simp only [nf0, nf1, nf2, nf3, nf4]
  refine fst2_val (fun W hC hh => ok2_value (v := (.slice A (xs.take 300).length cap)) (by rfl) (by rfl) rfl hC (G0.refl _)) ?_
  simp only [nf0, nf1, nf2, nf3, nf4]
  refine fst2_val (fun W hC hh => ok2_value (v := (.string (str (xs.take 300)))) (by rfl) (run_convR (.tmp 88) rfl rfl (R1.same (bl_step bel hC))) rfl hC (G0.refl _)) ?_
  simp only [nf0, nf1, nf2, nf3, nf4]
  refine fst2_val (fun W hC hh => ok2_value (v := (.string (str (xs.take 300)))) (by rfl) (by rfl) rfl hC (G0.refl _)) ?_
  simp only [nf0, nf1, nf2, nf3, nf4]
  refine fst2_val (fun W hC hh => ok2_value (v := (.bool true)) (by rfl) (run_eql_text_t (.tmp 89) (.tmp 90) (l := (xs.take 300)) (m := (xs.take 300)) rfl rfl rfl rfl W) rfl hC (G0.refl _)) ?_
  simp only [nf0, nf1, nf2, nf3, nf4]
  refine fst2_val (fun W hC hh => ok2_value (v := (.bool true)) (by rfl) (by rfl) rfl hC (G0.refl _)) ?_
  simp only [nf0, nf1, nf2, nf3, nf4]
  refine fst2_val (fun W hC hh => ok2_value (v := (.bool true)) (by rfl) (by rfl) rfl hC (G0.refl _)) ?_
  simp only [nf0, nf1, nf2, nf3, nf4]
  refine fst2_val (fun W hC hh => ok2_value (v := (.bool true)) (by rfl) (by rfl) rfl hC (G0.refl _)) ?_
  simp only [nf0, nf1, nf2, nf3, nf4]
  refine fst2_val (fun W hC hh => ok2_value (v := (.bool true)) (by rfl) (by rfl) rfl hC (G0.refl _)) ?_
  simp only [nf0, nf1, nf2, nf3, nf4]
  refine fst2_val (fun W hC hh => ok2_value (v := (.bool true)) (by rfl) (by rfl) rfl hC (G0.refl _)) ?_
  simp only [nf0, nf1, nf2, nf3, nf4]
  refine fst2_val (fun W hC hh => ok2_value (v := (.int .i64 n)) (by rfl) (by rfl) rfl hC (G0.refl _)) ?_
  simp only [nf0, nf1, nf2, nf3, nf4]
  refine fst2_val (fun W hC hh => ok2_value (v := (.int .i64 n)) (by rfl) (by rfl) rfl hC (G0.refl _)) ?_
  simp only [nf0, nf1, nf2, nf3, nf4]
  refine fst2_val (fun W hC hh => ok2_value (v := (.bool true)) (by rfl) (run_eql_int_t (.tmp 97) (.tmp 98) rfl rfl rfl rfl W) rfl hC (G0.refl _)) ?_
  simp only [nf0, nf1, nf2, nf3, nf4]
  refine fst2_val (fun W hC hh => ok2_value (v := (.bool true)) (by rfl) (by rfl) rfl hC (G0.refl _)) ?_
  simp only [nf0, nf1, nf2, nf3, nf4]
  refine fst2_val (fun W hC hh => ok2_value (v := (.bool true)) (by rfl) (by rfl) rfl hC (G0.refl _)) ?_
  simp only [nf0, nf1, nf2, nf3, nf4]
  refine fst2_val (fun W hC hh => ok2_value (v := (.int .i64 (((xs.take 300).length : Int) + ((vb (zig n)).length : Int)))) (by rfl) (by rfl) rfl hC (G0.refl _)) ?_
  simp only [nf0, nf1, nf2, nf3, nf4]
  refine fst2_val (fun W hC hh => ok2_value (v := (.slice A10 ((xs.take 300) ++ vb (zig n)).length c11)) (by rfl) (by rfl) rfl hC (G0.refl _)) ?_
  simp only [nf0, nf1, nf2, nf3, nf4]
  refine fst2_val (fun W hC hh => ok2_value (v := (.int .i64 (((xs.take 300) ++ vb (zig n)).length : Int))) (by rfl) (run_len (.tmp 103) rfl ⟨_, Tryd.underlying22⟩ rfl W) rfl hC (G0.refl _)) ?_
  simp only [nf0, nf1, nf2, nf3, nf4]
  refine fst2_val (fun W hC hh => ok2_value (v := (.bool true)) (by rfl) (run_eql_int_t (.tmp 102) (.tmp 104) rfl rfl rfl (by rw [List.length_append]; omega) W) rfl hC (G0.refl _)) ?_
  simp only [nf0, nf1, nf2, nf3, nf4]
  refine fst2_val (fun W hC hh => ok2_value (v := (.bool true)) (by rfl) (by rfl) rfl hC (G0.refl _)) ?_
  simp only [nf0, nf1, nf2, nf3, nf4]
  refine fst2_val (fun W hC hh => ok2_value (v := (.bool true)) (by rfl) (by rfl) rfl hC (G0.refl _)) ?_
  simp only [nf0, nf1, nf2, nf3, nf4]
  refine fst2_val (fun W hC hh => ok2_call (by rfl) (l_run_call_11_0  rfl  W) ((codeLives_calls W (hT.same (bl_step bel hC))).mono fun e W' ⟨h1, h2⟩ => ⟨h1, hC.step h2, h2⟩)) ?_
  simp only [nf0, nf1, nf2, nf3, nf4]
  refine fst2_val (fun W hC hh => ok2_value (v := (.bool true)) (by rfl) (by rfl) rfl hC (G0.refl _)) ?_
  simp only [nf0, nf1, nf2, nf3, nf4]
  refine fst2_val (fun W hC hh => ok2_value (v := (.bool true)) (by rfl) (by rfl) rfl hC (G0.refl _)) ?_
  simp only [nf0, nf1, nf2, nf3, nf4]
  refine fst2_nil fun w22 hC hh hnd => ?_
  replace hC : Below w17.heap.size w17 w22 := hC
  clear hh hnd
  replace R16 := R16.same hC
  replace bel := bl_step bel hC
  clear hC
  refine wpList_nil ?_
  show Code.wp _ _ _ _ _
  refine wp_ret ?_
  first | show bodyPost _ _ _ _ _ _ | (simp only [Exit.then, Exit.inBlock]; show bodyPost _ _ _ _ _ _)
  exact bodyPost_ret (results_tmp rfl _ _ _) rfl ⟨rfl, bel⟩
set_option maxRecDepth 100000 in
set_option maxHeartbeats 4000000 in
theorem ints_some {A : Option Addr} {xs : List UInt8} {cap : Nat} {n : Int} (hn : I64 n) {p u m : Nat} (hp : p ≤ (xs.take 300).length) (hg : getAt (xs.take 300) p = some (u, m)) (hm : 0 < m ∧ m ≤ 10) (w : World) (hcap : xs.length ≤ cap) (hA : A = none → cap = 0) (hr : Reads w A (eByte.all xs)) (hT : Tab w) : Calls Tryd.prog 3 #[.slice A xs.length cap, .int .i64 n, .int .i64 (p : Int)] w fun e w' => e = .returned (.bool true) ∧ Below w.heap.size w w' := by
  have bel : Below w.heap.size w w := Below.refl _ _
  have hl3 : (xs.take 300).length ≤ 300 := List.length_take_le _ _
  have hvl := vbz_len (n := n) hn
  go_enter Tryd.func3, Tryd.ntmps3
  refine wp_seq ?_
  refine wp_region_lit ?_
  refine st_mv (.bool false) ?_
  simp only [nf0, nf1, nf2, nf3, nf4]
  refine wpList_nil ?_
  show Code.wp _ _ _ _ _
  refine wp_seq ?_
  refine wp_region_lit ?_
  refine st_mv (.slice A xs.length cap) ?_
  simp only [nf0, nf1, nf2, nf3, nf4]
  refine st_mv (.slice A xs.length cap) ?_
  simp only [nf0, nf1, nf2, nf3, nf4]
  refine st_value (v := (.int .i64 (xs.length : Int))) (by rfl) (run_len (.tmp 18) rfl ⟨_, Tryd.underlying22⟩ rfl w) ?_
  simp only [nf0, nf1, nf2, nf3, nf4]
  refine st_value (v := (.int .i64 (min (xs.length : Int) 300))) (by rfl) (run_min2 (.tmp 19) (.const (.int .i64 300)) rfl rfl rfl w) ?_
  simp only [nf0, nf1, nf2, nf3, nf4]
  have R1 := hr.takeB 300
  refine st_value (v := (.slice A (xs.take 300).length cap)) (by rfl) (run_cut_take (.tmp 17) (.tmp 20) rfl Tryd.underlying22 slByte.sz rfl 300 rfl rfl hcap w) ?_
  simp only [nf0, nf1, nf2, nf3, nf4]
  refine st_mv (.slice A (xs.take 300).length cap) ?_
  simp only [nf0, nf1, nf2, nf3, nf4]
  refine wpList_nil ?_
  show Code.wp _ _ _ _ _
  refine wp_seq ?_
  refine wp_region_lit ?_
  refine st_mv (.slice A (xs.take 300).length cap) ?_
  simp only [nf0, nf1, nf2, nf3, nf4]
  refine st_value (v := (.string (str (xs.take 300)))) (by rfl) (run_convR (.tmp 22) rfl rfl (R1.same bel)) ?_
  simp only [nf0, nf1, nf2, nf3, nf4]
  refine st_mv (.string (str (xs.take 300))) ?_
  simp only [nf0, nf1, nf2, nf3, nf4]
  refine wpList_nil ?_
  show Code.wp _ _ _ _ _
  refine wp_seq ?_
  refine wp_region_lit ?_
  refine st_mv (.slice A (xs.take 300).length cap) ?_
  simp only [nf0, nf1, nf2, nf3, nf4]
  refine st_mv (.int .i64 n) ?_
  simp only [nf0, nf1, nf2, nf3, nf4]
  refine st_call (by rfl) (l_run_call_7_2 (.tmp 24) (.tmp 25) rfl rfl rfl _) (putInt_calls A (xs.take 300) cap n hn w (R1.same bel) (by omega) hA) ?_
  rintro v2 w4 ⟨O3, hf5⟩
  simp only [nf0, nf1, nf2, nf3, nf4]
  have O3_ := fun k hk => (O3.lt k hk).1
  replace O3 := O3.lower bel.size
  replace bel := bl_step bel hf5
  clear hf5
  refine st_mv v2 ?_
  simp only [nf0, nf1, nf2, nf3, nf4]
  refine wpList_nil ?_
  show Code.wp _ _ _ _ _
  refine wp_seq ?_
  refine wp_region_lit ?_
  refine st_mv (.slice A (xs.take 300).length cap) ?_
  simp only [nf0, nf1, nf2, nf3, nf4]
  refine st_mv (.int .i64 (p : Int)) ?_
  simp only [nf0, nf1, nf2, nf3, nf4]
  refine st_call1 (v := (.tuple #[.int .i64 (zag u), .int .i64 ((p : Int) + (m : Int)), .bool true])) (by rfl) (l_run_call_8_2 (.tmp 28) (.tmp 29) rfl rfl rfl _) (by have h := getInt_in A (xs.take 300) cap p (by rw [List.length_take]; omega) (by omega) hp w4 (R1.same bel); rw [hg, gres] at h; exact h) ?_
  intro w6 hb7
  simp only [nf0, nf1, nf2, nf3, nf4]
  replace O3 := O3.same hb7
  replace bel := bl_step bel hb7
  clear hb7
  refine st_mv (.tuple #[.int .i64 (zag u), .int .i64 ((p : Int) + (m : Int)), .bool true]) ?_
  simp only [nf0, nf1, nf2, nf3, nf4]
  refine st_mv (.int .i64 (zag u)) ?_
  simp only [nf0, nf1, nf2, nf3, nf4]
  refine st_mv (.int .i64 ((p : Int) + (m : Int))) ?_
  simp only [nf0, nf1, nf2, nf3, nf4]
  refine st_mv (.bool true) ?_
  simp only [nf0, nf1, nf2, nf3, nf4]
  refine st_mv (.int .i64 (zag u)) ?_
  simp only [nf0, nf1, nf2, nf3, nf4]
  refine st_mv (.int .i64 ((p : Int) + (m : Int))) ?_
  simp only [nf0, nf1, nf2, nf3, nf4]
  refine st_mv (.bool true) ?_
  simp only [nf0, nf1, nf2, nf3, nf4]
  refine wpList_nil ?_
  show Code.wp _ _ _ _ _
  refine wp_seq ?_
  refine wp_region_lit ?_
  refine st_mv (.slice A (xs.take 300).length cap) ?_
  simp only [nf0, nf1, nf2, nf3, nf4]
  refine st_mv (.int .i64 (p : Int)) ?_
  simp only [nf0, nf1, nf2, nf3, nf4]
  refine st_call1 (v := (.tuple #[.int .i64 (zag u), .int .i64 (m : Int)])) (by rfl) (l_run_call_9_2 (.tmp 35) (.tmp 36) rfl rfl rfl _) (by have h := refGet_in A (xs.take 300) cap p (by rw [List.length_take]; omega) (by omega) hp w6 (R1.same bel); rw [hg, gres2] at h; exact h) ?_
  intro w8 hb9
  simp only [nf0, nf1, nf2, nf3, nf4]
  replace O3 := O3.same hb9
  replace bel := bl_step bel hb9
  clear hb9
  refine st_mv (.tuple #[.int .i64 (zag u), .int .i64 (m : Int)]) ?_
  simp only [nf0, nf1, nf2, nf3, nf4]
  refine st_mv (.int .i64 (zag u)) ?_
  simp only [nf0, nf1, nf2, nf3, nf4]
  refine st_mv (.int .i64 (m : Int)) ?_
  simp only [nf0, nf1, nf2, nf3, nf4]
  refine st_mv (.int .i64 (zag u)) ?_
  simp only [nf0, nf1, nf2, nf3, nf4]
  refine st_mv (.int .i64 (m : Int)) ?_
  simp only [nf0, nf1, nf2, nf3, nf4]
  refine wpList_nil ?_
  show Code.wp _ _ _ _ _
  refine wp_seq ?_
  refine wp_seq ?_
  refine wp_region_lit ?_
  refine st_mv (.bool true) ?_
  simp only [nf0, nf1, nf2, nf3, nf4]
  refine st_mv (.int .i64 (m : Int)) ?_
  simp only [nf0, nf1, nf2, nf3, nf4]
  refine st_value (v := (.bool true)) (by rfl) ((run_gtr (.tmp 41) (.const (.int .i64 0)) rfl rfl rfl w8).trans (by rw [decide_eq_true (by omega)])) ?_
  simp only [nf0, nf1, nf2, nf3, nf4]
  refine st_value (v := (.bool false)) (by rfl) (runm_neq_bool (.tmp 40) (.tmp 42) rfl Tryd.underlying4 (b := true) (c := true) rfl rfl w8) ?_
  simp only [nf0, nf1, nf2, nf3, nf4]
  refine st_mv (.bool false) ?_
  simp only [nf0, nf1, nf2, nf3, nf4]
  refine st_mv (.bool true) ?_
  simp only [nf0, nf1, nf2, nf3, nf4]
  refine st_mv (.bool true) ?_
  simp only [nf0, nf1, nf2, nf3, nf4]
  refine st_mv (.int .i64 (zag u)) ?_
  simp only [nf0, nf1, nf2, nf3, nf4]
  refine st_mv (.int .i64 (zag u)) ?_
  simp only [nf0, nf1, nf2, nf3, nf4]
  refine st_value (v := (.bool false)) (by rfl) (run_neq_int_t (.tmp 47) (.tmp 48) rfl rfl rfl rfl w8) ?_
  simp only [nf0, nf1, nf2, nf3, nf4]
  refine st_mv (.bool false) ?_
  simp only [nf0, nf1, nf2, nf3, nf4]
  refine st_mv (.int .i64 ((p : Int) + (m : Int))) ?_
  simp only [nf0, nf1, nf2, nf3, nf4]
  refine st_mv (.int .i64 (p : Int)) ?_
  simp only [nf0, nf1, nf2, nf3, nf4]
  refine st_mv (.int .i64 (m : Int)) ?_
  simp only [nf0, nf1, nf2, nf3, nf4]
  refine st_value (v := (.int .i64 ((p : Int) + (m : Int)))) (by rfl) (run_add_in (.tmp 52) (.tmp 53) rfl rfl rfl (by omega) w8) ?_
  simp only [nf0, nf1, nf2, nf3, nf4]
  refine st_value (v := (.bool false)) (by rfl) (run_neq_int_t (.tmp 51) (.tmp 54) rfl rfl rfl rfl w8) ?_
  simp only [nf0, nf1, nf2, nf3, nf4]
  refine st_mv (.bool false) ?_
  simp only [nf0, nf1, nf2, nf3, nf4]
  refine st_mv (.bool false) ?_
  simp only [nf0, nf1, nf2, nf3, nf4]
  refine st_mv (.bool false) ?_
  simp only [nf0, nf1, nf2, nf3, nf4]
  refine st_mv (.bool false) ?_
  simp only [nf0, nf1, nf2, nf3, nf4]
  refine st_mv (.bool true) ?_
  simp only [nf0, nf1, nf2, nf3, nf4]
  refine st_value (v := (.bool false)) (by rfl) (run_not (.tmp 60) rfl (b := true) rfl w8) ?_
  simp only [nf0, nf1, nf2, nf3, nf4]
  refine st_mv (.bool false) ?_
  simp only [nf0, nf1, nf2, nf3, nf4]
  refine st_nob (j := 22) (t := 62) (c := false) rfl rfl rfl rfl rfl ?_
  simp only [nf0, nf1, nf2, nf3, nf4]
  refine st_nob (j := 22) (t := 62) (c := false) rfl rfl rfl rfl rfl ?_
  simp only [nf0, nf1, nf2, nf3, nf4]
  refine st_nob (j := 22) (t := 62) (c := false) rfl rfl rfl rfl rfl ?_
  simp only [nf0, nf1, nf2, nf3, nf4]
  refine st_nou (j := 25) (t := 65) rfl rfl rfl rfl ?_
  simp only [nf0, nf1, nf2, nf3, nf4]
  refine st_nou (j := 25) (t := 65) rfl rfl rfl rfl ?_
  simp only [nf0, nf1, nf2, nf3, nf4]
  refine st_nob (j := 22) (t := 62) (c := false) rfl rfl rfl rfl rfl ?_
  simp only [nf0, nf1, nf2, nf3, nf4]
  refine st_mv (.bool false) ?_
  simp only [nf0, nf1, nf2, nf3, nf4]
  refine st_mv (.bool false) ?_
  simp only [nf0, nf1, nf2, nf3, nf4]
  refine wpList_nil ?_
  show Code.wp _ _ _ _ _
  refine wp_cond_false rfl ?_
  refine wp_skip ?_
  show Code.wp _ _ _ _ _
  refine wp_seq ?_
  obtain ⟨A10, c11, hv12, h13, h14, h15, R16⟩ := O3.reads
  subst hv12
  clear O3
  refine wp_region_lit ?_
  refine st_mv (.slice A10 ((xs.take 300) ++ vb (zig n)).length c11) ?_
  simp only [nf0, nf1, nf2, nf3, nf4]
  refine st_mv (.slice A (xs.take 300).length cap) ?_
  simp only [nf0, nf1, nf2, nf3, nf4]
  refine st_value (v := (.int .i64 ((xs.take 300).length : Int))) (by rfl) (run_len (.tmp 73) rfl ⟨_, Tryd.underlying22⟩ rfl w8) ?_
  simp only [nf0, nf1, nf2, nf3, nf4]
  refine st_call1 (v := (.tuple #[.int .i64 n, .int .i64 (((xs.take 300).length : Int) + ((vb (zig n)).length : Int)), .bool true])) (by rfl) (l_run_call_8_2 (.tmp 72) (.tmp 74) rfl rfl rfl _) (by have h := getInt_in A10 ((xs.take 300) ++ vb (zig n)) c11 (xs.take 300).length h13 (by rw [List.length_append]; omega) (by rw [List.length_append]; omega) w8 R16; rw [getAt_vb (zig_lt hn), gres, zag_zig] at h; exact h) ?_
  intro w17 hb18
  simp only [nf0, nf1, nf2, nf3, nf4]
  replace R16 := R16.same hb18
  replace bel := bl_step bel hb18
  clear hb18
  refine st_mv (.tuple #[.int .i64 n, .int .i64 (((xs.take 300).length : Int) + ((vb (zig n)).length : Int)), .bool true]) ?_
  simp only [nf0, nf1, nf2, nf3, nf4]
  refine st_mv (.int .i64 n) ?_
  simp only [nf0, nf1, nf2, nf3, nf4]
  refine st_mv (.int .i64 (((xs.take 300).length : Int) + ((vb (zig n)).length : Int))) ?_
  simp only [nf0, nf1, nf2, nf3, nf4]
  refine st_mv (.bool true) ?_
  simp only [nf0, nf1, nf2, nf3, nf4]
  refine st_mv (.int .i64 n) ?_
  simp only [nf0, nf1, nf2, nf3, nf4]
  refine st_mv (.int .i64 (((xs.take 300).length : Int) + ((vb (zig n)).length : Int))) ?_
  simp only [nf0, nf1, nf2, nf3, nf4]
  refine st_mv (.bool true) ?_
  simp only [nf0, nf1, nf2, nf3, nf4]
  refine wpList_nil ?_
  show Code.wp _ _ _ _ _
  refine wp_seq ?_
  refine wp_region_facts2_lit (C := Abv w17) 32 [.val (.slice A10 ((xs.take 300) ++ vb (zig n)).length c11), .val (.string (str ((xs.take 300) ++ vb (zig n)))), .val (.string (str (xs.take 300))), .val (.int .i64 n), .ex (fun v_ z_ => OwnR z_ w17.heap.size 5 eByte v_ (vb (zig n))) (fun v_ z_ y_ hG h => h.same hG), .val (.string (str (vb (zig n)))), .val (.string (str ((xs.take 300) ++ (vb (zig n))))), .val (.bool true), .val (.bool true), .val (.slice A (xs.take 300).length cap), .val (.string (str (xs.take 300))), .val (.string (str (xs.take 300))), .val (.bool true), .val (.bool true), .val (.bool true), .val (.bool true), .val (.bool true), .val (.bool true), .val (.int .i64 n), .val (.int .i64 n), .val (.bool true), .val (.bool true), .val (.bool true), .val (.int .i64 (((xs.take 300).length : Int) + ((vb (zig n)).length : Int))), .val (.slice A10 ((xs.take 300) ++ vb (zig n)).length c11), .val (.int .i64 (((xs.take 300) ++ vb (zig n)).length : Int)), .val (.bool true), .val (.bool true), .val (.bool true), .val (.bool true), .val (.bool true), .val (.bool true)] w17.heap.size (by kernel_rfl) (by simp) (by kernel_rfl) (by kernel_rfl) (fun _ h => h.size) (Abv.start _) ?_
  simp only [List.take_succ_cons, List.take_zero, List.drop_succ_cons, List.drop_zero]
  refine fst2_val (fun W hC hh => ok2_value (v := (.slice A10 ((xs.take 300) ++ vb (zig n)).length c11)) (by rfl) (by rfl) rfl hC (G0.refl _)) ?_
  simp only [nf0, nf1, nf2, nf3, nf4]
  refine fst2_val (fun W hC hh => ok2_value (v := (.string (str ((xs.take 300) ++ vb (zig n))))) (by rfl) (run_convR (.tmp 79) rfl rfl (R16.same hC)) rfl hC (G0.refl _)) ?_
  simp only [nf0, nf1, nf2, nf3, nf4]
  refine fst2_val (fun W hC hh => ok2_value (v := (.string (str (xs.take 300)))) (by rfl) (by rfl) rfl hC (G0.refl _)) ?_
  simp only [nf0, nf1, nf2, nf3, nf4]
  refine fst2_val (fun W hC hh => ok2_value (v := (.int .i64 n)) (by rfl) (by rfl) rfl hC (G0.refl _)) ?_
  simp only [nf0, nf1, nf2, nf3, nf4]
  refine fst2_ex (fun W hC hh => ok2_callex (by rfl) (l_run_call_10_1 (.tmp 82) rfl rfl W) ((refInt_calls hn W).mono fun e W' ⟨v_, h1_, h2_, h3_⟩ => ⟨v_, h1_, h2_.lower hC.size, hC.step h3_, h3_⟩)) fun v21 => ?_
  simp only [nf0, nf1, nf2, nf3, nf4]
  refine fst2_val (fun W hC hh => ok2_value (v := (.string (str (vb (zig n))))) (by rfl) (run_convB (.tmp 83) rfl rfl (hh _ (.head _) (by show (4 : Nat) ∈ _; decide))) rfl hC (G0.refl _)) ?_
  simp only [nf0, nf1, nf2, nf3, nf4]
  refine fst2_val (fun W hC hh => ok2_value (v := (.string (str ((xs.take 300) ++ (vb (zig n)))))) (by rfl) (run_add_text (.tmp 81) (.tmp 84) (l := (xs.take 300)) (m := (vb (zig n))) rfl rfl rfl (by (try simp only [List.length_append, List.length_cons, List.length_nil]); omega) W) rfl hC (G0.refl _)) ?_
  simp only [nf0, nf1, nf2, nf3, nf4]
  refine fst2_val (fun W hC hh => ok2_value (v := (.bool true)) (by rfl) (run_eql_text_t (.tmp 80) (.tmp 85) (l := ((xs.take 300) ++ vb (zig n))) (m := ((xs.take 300) ++ (vb (zig n)))) rfl rfl rfl rfl W) rfl hC (G0.refl _)) ?_
  simp only [nf0, nf1, nf2, nf3, nf4]
  refine fst2_val (fun W hC hh => ok2_value (v := (.bool true)) (by rfl) (by rfl) rfl hC (G0.refl _)) ?_
  simp only [nf0, nf1, nf2, nf3, nf4]
  refine fst2_val (fun W hC hh => ok2_value (v := (.slice A (xs.take 300).length cap)) (by rfl) (by rfl) rfl hC (G0.refl _)) ?_
  simp only [nf0, nf1, nf2, nf3, nf4]
  refine fst2_val (fun W hC hh => ok2_value (v := (.string (str (xs.take 300)))) (by rfl) (run_convR (.tmp 88) rfl rfl (R1.same (bl_step bel hC))) rfl hC (G0.refl _)) ?_
  simp only [nf0, nf1, nf2, nf3, nf4]
  refine fst2_val (fun W hC hh => ok2_value (v := (.string (str (xs.take 300)))) (by rfl) (by rfl) rfl hC (G0.refl _)) ?_
  simp only [nf0, nf1, nf2, nf3, nf4]
  refine fst2_val (fun W hC hh => ok2_value (v := (.bool true)) (by rfl) (run_eql_text_t (.tmp 89) (.tmp 90) (l := (xs.take 300)) (m := (xs.take 300)) rfl rfl rfl rfl W) rfl hC (G0.refl _)) ?_
  simp only [nf0, nf1, nf2, nf3, nf4]
  refine fst2_val (fun W hC hh => ok2_value (v := (.bool true)) (by rfl) (by rfl) rfl hC (G0.refl _)) ?_
  simp only [nf0, nf1, nf2, nf3, nf4]
  refine fst2_val (fun W hC hh => ok2_value (v := (.bool true)) (by rfl) (by rfl) rfl hC (G0.refl _)) ?_
  simp only [nf0, nf1, nf2, nf3, nf4]
  refine fst2_val (fun W hC hh => ok2_value (v := (.bool true)) (by rfl) (by rfl) rfl hC (G0.refl _)) ?_
  simp only [nf0, nf1, nf2, nf3, nf4]
  refine fst2_val (fun W hC hh => ok2_value (v := (.bool true)) (by rfl) (by rfl) rfl hC (G0.refl _)) ?_
  simp only [nf0, nf1, nf2, nf3, nf4]
  refine fst2_val (fun W hC hh => ok2_value (v := (.bool true)) (by rfl) (by rfl) rfl hC (G0.refl _)) ?_
  simp only [nf0, nf1, nf2, nf3, nf4]
  refine fst2_val (fun W hC hh => ok2_value (v := (.int .i64 n)) (by rfl) (by rfl) rfl hC (G0.refl _)) ?_
  simp only [nf0, nf1, nf2, nf3, nf4]
  refine fst2_val (fun W hC hh => ok2_value (v := (.int .i64 n)) (by rfl) (by rfl) rfl hC (G0.refl _)) ?_
  simp only [nf0, nf1, nf2, nf3, nf4]
  refine fst2_val (fun W hC hh => ok2_value (v := (.bool true)) (by rfl) (run_eql_int_t (.tmp 97) (.tmp 98) rfl rfl rfl rfl W) rfl hC (G0.refl _)) ?_
  simp only [nf0, nf1, nf2, nf3, nf4]
  refine fst2_val (fun W hC hh => ok2_value (v := (.bool true)) (by rfl) (by rfl) rfl hC (G0.refl _)) ?_
  simp only [nf0, nf1, nf2, nf3, nf4]
  refine fst2_val (fun W hC hh => ok2_value (v := (.bool true)) (by rfl) (by rfl) rfl hC (G0.refl _)) ?_
  simp only [nf0, nf1, nf2, nf3, nf4]
  refine fst2_val (fun W hC hh => ok2_value (v := (.int .i64 (((xs.take 300).length : Int) + ((vb (zig n)).length : Int)))) (by rfl) (by rfl) rfl hC (G0.refl _)) ?_
  simp only [nf0, nf1, nf2, nf3, nf4]
  refine fst2_val (fun W hC hh => ok2_value (v := (.slice A10 ((xs.take 300) ++ vb (zig n)).length c11)) (by rfl) (by rfl) rfl hC (G0.refl _)) ?_
  simp only [nf0, nf1, nf2, nf3, nf4]
  refine fst2_val (fun W hC hh => ok2_value (v := (.int .i64 (((xs.take 300) ++ vb (zig n)).length : Int))) (by rfl) (run_len (.tmp 103) rfl ⟨_, Tryd.underlying22⟩ rfl W) rfl hC (G0.refl _)) ?_
  simp only [nf0, nf1, nf2, nf3, nf4]
  refine fst2_val (fun W hC hh => ok2_value (v := (.bool true)) (by rfl) (run_eql_int_t (.tmp 102) (.tmp 104) rfl rfl rfl (by rw [List.length_append]; omega) W) rfl hC (G0.refl _)) ?_
  simp only [nf0, nf1, nf2, nf3, nf4]
  refine fst2_val (fun W hC hh => ok2_value (v := (.bool true)) (by rfl) (by rfl) rfl hC (G0.refl _)) ?_
  simp only [nf0, nf1, nf2, nf3, nf4]
  refine fst2_val (fun W hC hh => ok2_value (v := (.bool true)) (by rfl) (by rfl) rfl hC (G0.refl _)) ?_
  simp only [nf0, nf1, nf2, nf3, nf4]
  refine fst2_val (fun W hC hh => ok2_call (by rfl) (l_run_call_11_0  rfl  W) ((codeLives_calls W (hT.same (bl_step bel hC))).mono fun e W' ⟨h1, h2⟩ => ⟨h1, hC.step h2, h2⟩)) ?_
  simp only [nf0, nf1, nf2, nf3, nf4]
  refine fst2_val (fun W hC hh => ok2_value (v := (.bool true)) (by rfl) (by rfl) rfl hC (G0.refl _)) ?_
  simp only [nf0, nf1, nf2, nf3, nf4]
  refine fst2_val (fun W hC hh => ok2_value (v := (.bool true)) (by rfl) (by rfl) rfl hC (G0.refl _)) ?_
  simp only [nf0, nf1, nf2, nf3, nf4]
  refine fst2_nil fun w22 hC hh hnd => ?_
  replace hC : Below w17.heap.size w17 w22 := hC
  clear hh hnd
  replace R16 := R16.same hC
  replace bel := bl_step bel hC
  clear hC
  refine wpList_nil ?_
  show Code.wp _ _ _ _ _
  refine wp_ret ?_
  first | show bodyPost _ _ _ _ _ _ | (simp only [Exit.then, Exit.inBlock]; show bodyPost _ _ _ _ _ _)
  exact bodyPost_ret (results_tmp rfl _ _ _) rfl ⟨rfl, bel⟩
end Go.Proofs.YtckmihjekgbcmaaDoor

/- One thing that is done to a row and to a list: Take, At. -/
import Derived.Test.YtdhhcjhinpmeeaaRingDone
namespace Go.Proofs.Ytdhhcjhinpmeeaa
open Go.RowKit Go.WideShapes Go.ChangeShapes
set_option linter.unusedSimpArgs false
set_option linter.unusedVariables false

theorem s613_fld_40_1 : FieldAt Try.prog 40 1 1 := fieldAt_of (s := 0) Try.underlying40 (by kernel_rfl)
theorem s613_one_3 : One Try.prog 3 := one_of Try.underlying3 rfl (by kernel_rfl)
theorem s613_fld_40_0 : FieldAt Try.prog 40 0 0 := fieldAt_of (s := 0) Try.underlying40 (by kernel_rfl)
theorem s613_one_38 : One Try.prog 38 := one_of Try.underlying38 rfl (by kernel_rfl)
theorem s613_run_call_21_2 {o : Oper} {a : Act} (x0 : Operand) (x1 : Operand) {ts : Array TypeId} (ho : o.op = .call { callee := .value (.func 21), args := #[x0, x1], argTypes := ts }) {v0 : Value} (h0 : a.eval x0 = v0) {v1 : Value} (h1 : a.eval x1 = v1) (W : World) : (execOp a.eval o).run Try.prog W = .ok (.enter 21 #[v0, v1]) W := by
  unfold execOp
  simp only [ho]
  subst h0 h1
  go_simp
theorem s613_run_call_26_2 {o : Oper} {a : Act} (x0 : Operand) (x1 : Operand) {ts : Array TypeId} (ho : o.op = .call { callee := .value (.func 26), args := #[x0, x1], argTypes := ts }) {v0 : Value} (h0 : a.eval x0 = v0) {v1 : Value} (h1 : a.eval x1 = v1) (W : World) : (execOp a.eval o).run Try.prog W = .ok (.enter 26 #[v0, v1]) W := by
  unfold execOp
  simp only [ho]
  subst h0 h1
  go_simp
theorem s613_run_call_27_2 {o : Oper} {a : Act} (x0 : Operand) (x1 : Operand) {ts : Array TypeId} (ho : o.op = .call { callee := .value (.func 27), args := #[x0, x1], argTypes := ts }) {v0 : Value} (h0 : a.eval x0 = v0) {v1 : Value} (h1 : a.eval x1 = v1) (W : World) : (execOp a.eval o).run Try.prog W = .ok (.enter 27 #[v0, v1]) W := by
  unfold execOp
  simp only [ho]
  subst h0 h1
  go_simp
theorem s614_fld_40_1 : FieldAt Try.prog 40 1 1 := fieldAt_of (s := 0) Try.underlying40 (by kernel_rfl)
theorem s614_one_3 : One Try.prog 3 := one_of Try.underlying3 rfl (by kernel_rfl)
theorem s614_fld_40_0 : FieldAt Try.prog 40 0 0 := fieldAt_of (s := 0) Try.underlying40 (by kernel_rfl)
theorem s614_one_38 : One Try.prog 38 := one_of Try.underlying38 rfl (by kernel_rfl)
theorem s614_run_call_21_2 {o : Oper} {a : Act} (x0 : Operand) (x1 : Operand) {ts : Array TypeId} (ho : o.op = .call { callee := .value (.func 21), args := #[x0, x1], argTypes := ts }) {v0 : Value} (h0 : a.eval x0 = v0) {v1 : Value} (h1 : a.eval x1 = v1) (W : World) : (execOp a.eval o).run Try.prog W = .ok (.enter 21 #[v0, v1]) W := by
  unfold execOp
  simp only [ho]
  subst h0 h1
  go_simp
theorem s614_run_call_26_2 {o : Oper} {a : Act} (x0 : Operand) (x1 : Operand) {ts : Array TypeId} (ho : o.op = .call { callee := .value (.func 26), args := #[x0, x1], argTypes := ts }) {v0 : Value} (h0 : a.eval x0 = v0) {v1 : Value} (h1 : a.eval x1 = v1) (W : World) : (execOp a.eval o).run Try.prog W = .ok (.enter 26 #[v0, v1]) W := by
  unfold execOp
  simp only [ho]
  subst h0 h1
  go_simp
theorem s715_fld_40_1 : FieldAt Try.prog 40 1 1 := fieldAt_of (s := 0) Try.underlying40 (by kernel_rfl)
theorem s715_one_3 : One Try.prog 3 := one_of Try.underlying3 rfl (by kernel_rfl)
theorem s715_fld_40_0 : FieldAt Try.prog 40 0 0 := fieldAt_of (s := 0) Try.underlying40 (by kernel_rfl)
theorem s715_one_38 : One Try.prog 38 := one_of Try.underlying38 rfl (by kernel_rfl)
theorem s715_run_call_20_2 {o : Oper} {a : Act} (x0 : Operand) (x1 : Operand) {ts : Array TypeId} (ho : o.op = .call { callee := .value (.func 20), args := #[x0, x1], argTypes := ts }) {v0 : Value} (h0 : a.eval x0 = v0) {v1 : Value} (h1 : a.eval x1 = v1) (W : World) : (execOp a.eval o).run Try.prog W = .ok (.enter 20 #[v0, v1]) W := by
  unfold execOp
  simp only [ho]
  subst h0 h1
  go_simp
theorem s715_run_call_26_2 {o : Oper} {a : Act} (x0 : Operand) (x1 : Operand) {ts : Array TypeId} (ho : o.op = .call { callee := .value (.func 26), args := #[x0, x1], argTypes := ts }) {v0 : Value} (h0 : a.eval x0 = v0) {v1 : Value} (h1 : a.eval x1 = v1) (W : World) : (execOp a.eval o).run Try.prog W = .ok (.enter 26 #[v0, v1]) W := by
  unfold execOp
  simp only [ho]
  subst h0 h1
  go_simp
theorem s716_fld_40_1 : FieldAt Try.prog 40 1 1 := fieldAt_of (s := 0) Try.underlying40 (by kernel_rfl)
theorem s716_one_3 : One Try.prog 3 := one_of Try.underlying3 rfl (by kernel_rfl)
theorem s716_fld_40_0 : FieldAt Try.prog 40 0 0 := fieldAt_of (s := 0) Try.underlying40 (by kernel_rfl)
theorem s716_one_38 : One Try.prog 38 := one_of Try.underlying38 rfl (by kernel_rfl)
theorem s716_run_call_20_2 {o : Oper} {a : Act} (x0 : Operand) (x1 : Operand) {ts : Array TypeId} (ho : o.op = .call { callee := .value (.func 20), args := #[x0, x1], argTypes := ts }) {v0 : Value} (h0 : a.eval x0 = v0) {v1 : Value} (h1 : a.eval x1 = v1) (W : World) : (execOp a.eval o).run Try.prog W = .ok (.enter 20 #[v0, v1]) W := by
  unfold execOp
  simp only [ho]
  subst h0 h1
  go_simp
theorem s716_run_call_26_2 {o : Oper} {a : Act} (x0 : Operand) (x1 : Operand) {ts : Array TypeId} (ho : o.op = .call { callee := .value (.func 26), args := #[x0, x1], argTypes := ts }) {v0 : Value} (h0 : a.eval x0 = v0) {v1 : Value} (h1 : a.eval x1 = v1) (W : World) : (execOp a.eval o).run Try.prog W = .ok (.enter 26 #[v0, v1]) W := by
  unfold execOp
  simp only [ho]
  subst h0 h1
  go_simp

attribute [local irreducible] Go.wpList Go.Code.wp
set_option maxRecDepth 100000 in
set_option maxHeartbeats 4000000 in
theorem do_6_yes {w : World} {r b N B cap kn : Nat} {A : Option Addr} {xs : List Int} (h : Rg w r b N xs) (ho : OwnR w B 3 (eInt .i64) (.slice A xs.length cap) xs) (hcap : xs.length ≤ cap) (hB : B ≤ w.heap.size) (n1 : Off (.slice A xs.length cap) r) (n2 : Off (.slice A xs.length cap) b) (hk : kn % 8 = 6) {p : Nat} (hp : p < xs.length)  (x : Int) : Calls Try.prog 18 #[.pointer (some ⟨r, 0, none⟩), .slice A xs.length cap, .int .i64 (N : Int), .agg #[.int .u64 (kn : Int), .int .i64 (p : Int), .int .i64 x]] w fun e w' => ∃ u, e = .returned u ∧ Done w w' r b N B (.slice A xs.length cap) u := by
  have bel : Fr [r, b] w w := Fr.refl _ _
  have hne := h.nerb
  have hle := h.le
  have hrd := OwnR.rdI ho
  go_enter Try.func18, Try.ntmps18
  refine wp_seq ?_
  refine wp_region_lit ?_
  refine st_new (cs := #[.int .u64 (kn : Int), .int .i64 (p : Int), .int .i64 x]) (t := 40) (by rfl) (run_boxV (.tmp 3) rfl (v := (.agg #[.int .u64 (kn : Int), .int .i64 (p : Int), .int .i64 x])) rfl rfl _) ?_
  intro g1 w2 B3 hb4 lo5
  simp only [nf0, nf1, nf2, nf3, nf4]
  have n6 : r ≠ g1 := Nat.ne_of_lt (Nat.lt_of_lt_of_le h.ltr lo5)
  have n7 : b ≠ g1 := Nat.ne_of_lt (Nat.lt_of_lt_of_le h.ltb lo5)
  have n8 := ho.off lo5
  replace lo5 := low_fr bel lo5
  replace h := h.below hb4
  replace ho := ho.same hb4
  replace hrd := hrd.same hb4
  replace bel := fr_step bel hb4
  clear hb4
  refine st_mv (.slice none 0 0) ?_
  simp only [nf0, nf1, nf2, nf3, nf4]
  refine st_mv (.bool false) ?_
  simp only [nf0, nf1, nf2, nf3, nf4]
  refine wpList_nil ?_
  show Code.wp _ _ _ _ _
  refine wp_seq ?_
  refine wp_region_lit ?_
  refine st_value (v := (.pointer (some ⟨g1, 1, none⟩))) (by rfl) (run_fieldA (.tmp 7) rfl s613_fld_40_1 rfl rfl w2) ?_
  simp only [nf0, nf1, nf2, nf3, nf4]
  refine st_value (v := (.int .i64 (p : Int))) (by rfl) (run_loadB (.tmp 21) rfl s613_one_3 rfl B3 rfl) ?_
  simp only [nf0, nf1, nf2, nf3, nf4]
  refine st_mv (.int .i64 (p : Int)) ?_
  simp only [nf0, nf1, nf2, nf3, nf4]
  refine wpList_nil ?_
  show Code.wp _ _ _ _ _
  refine wp_seq ?_
  refine wp_seq ?_
  refine wp_region_lit ?_
  refine st_value (v := (.pointer (some ⟨g1, 0, none⟩))) (by rfl) (run_fieldA (.tmp 7) rfl s613_fld_40_0 rfl rfl w2) ?_
  simp only [nf0, nf1, nf2, nf3, nf4]
  refine st_value (v := (.int .u64 (kn : Int))) (by rfl) (run_loadB (.tmp 23) rfl s613_one_38 rfl B3 rfl) ?_
  simp only [nf0, nf1, nf2, nf3, nf4]
  refine st_value (v := (.int .u64 6)) (by rfl) (run_remC (.tmp 24) (.const (.int .u64 8)) (k := .u64) (m := kn) (n := 8) rfl rfl rfl (by omega) hk w2) ?_
  simp only [nf0, nf1, nf2, nf3, nf4]
  refine wpList_nil ?_
  show Code.wp _ _ _ _ _
  refine wp_block ?_
  refine wp_seq ?_
  refine wp_seq ?_
  refine wp_region_lit ?_
  refine st_value (v := (.bool false)) (by rfl) (run_eql_int_f (.tmp 25) (.const (.int .u64 0)) rfl rfl rfl (by decide) w2) ?_
  simp only [nf0, nf1, nf2, nf3, nf4]
  refine st_mv (.bool false) ?_
  simp only [nf0, nf1, nf2, nf3, nf4]
  refine wpList_nil ?_
  show Code.wp _ _ _ _ _
  refine wp_cond_false rfl ?_
  refine wp_seq ?_
  refine wp_region_lit ?_
  refine st_value (v := (.bool false)) (by rfl) (run_eql_int_f (.tmp 25) (.const (.int .u64 1)) rfl rfl rfl (by decide) w2) ?_
  simp only [nf0, nf1, nf2, nf3, nf4]
  refine st_mv (.bool false) ?_
  simp only [nf0, nf1, nf2, nf3, nf4]
  refine wpList_nil ?_
  show Code.wp _ _ _ _ _
  refine wp_cond_false rfl ?_
  refine wp_seq ?_
  refine wp_region_lit ?_
  refine st_value (v := (.bool false)) (by rfl) (run_eql_int_f (.tmp 25) (.const (.int .u64 2)) rfl rfl rfl (by decide) w2) ?_
  simp only [nf0, nf1, nf2, nf3, nf4]
  refine st_mv (.bool false) ?_
  simp only [nf0, nf1, nf2, nf3, nf4]
  refine wpList_nil ?_
  show Code.wp _ _ _ _ _
  refine wp_cond_false rfl ?_
  refine wp_region_lit ?_
  refine st_value (v := (.bool false)) (by rfl) (run_eql_int_f (.tmp 25) (.const (.int .u64 3)) rfl rfl rfl (by decide) w2) ?_
  simp only [nf0, nf1, nf2, nf3, nf4]
  refine st_mv (.bool false) ?_
  simp only [nf0, nf1, nf2, nf3, nf4]
  refine wpList_nil ?_
  show Code.wp _ _ _ _ _
  refine wp_cond_false rfl ?_
  refine wp_seq ?_
  refine wp_region_lit ?_
  refine st_value (v := (.bool false)) (by rfl) (run_eql_int_f (.tmp 25) (.const (.int .u64 7)) rfl rfl rfl (by decide) w2) ?_
  simp only [nf0, nf1, nf2, nf3, nf4]
  refine st_mv (.bool false) ?_
  simp only [nf0, nf1, nf2, nf3, nf4]
  refine wpList_nil ?_
  show Code.wp _ _ _ _ _
  refine wp_cond_false rfl ?_
  refine wp_skip ?_
  show Code.wp _ _ _ _ _
  refine wp_seq ?_
  refine wp_region_lit ?_
  refine st_mv (.int .i64 0) ?_
  simp only [nf0, nf1, nf2, nf3, nf4]
  refine wpList_nil ?_
  show Code.wp _ _ _ _ _
  refine wp_seq ?_
  refine wp_region_lit ?_
  refine st_mv (.bool false) ?_
  simp only [nf0, nf1, nf2, nf3, nf4]
  refine wpList_nil ?_
  show Code.wp _ _ _ _ _
  refine wp_seq ?_
  refine wp_seq ?_
  refine wp_region_lit ?_
  refine st_value (v := (.pointer (some ⟨g1, 0, none⟩))) (by rfl) (run_fieldA (.tmp 7) rfl s613_fld_40_0 rfl rfl w2) ?_
  simp only [nf0, nf1, nf2, nf3, nf4]
  refine st_value (v := (.int .u64 (kn : Int))) (by rfl) (run_loadB (.tmp 100) rfl s613_one_38 rfl B3 rfl) ?_
  simp only [nf0, nf1, nf2, nf3, nf4]
  refine st_value (v := (.int .u64 6)) (by rfl) (run_remC (.tmp 101) (.const (.int .u64 8)) (k := .u64) (m := kn) (n := 8) rfl rfl rfl (by omega) hk w2) ?_
  simp only [nf0, nf1, nf2, nf3, nf4]
  refine wpList_nil ?_
  show Code.wp _ _ _ _ _
  refine wp_block ?_
  refine wp_seq ?_
  refine wp_region_lit ?_
  refine st_value (v := (.bool false)) (by rfl) (run_eql_int_f (.tmp 102) (.const (.int .u64 4)) rfl rfl rfl (by decide) w2) ?_
  simp only [nf0, nf1, nf2, nf3, nf4]
  refine st_mv (.bool false) ?_
  simp only [nf0, nf1, nf2, nf3, nf4]
  refine wpList_nil ?_
  show Code.wp _ _ _ _ _
  refine wp_cond_false rfl ?_
  refine wp_seq ?_
  refine wp_region_lit ?_
  refine st_value (v := (.bool false)) (by rfl) (run_eql_int_f (.tmp 102) (.const (.int .u64 5)) rfl rfl rfl (by decide) w2) ?_
  simp only [nf0, nf1, nf2, nf3, nf4]
  refine st_mv (.bool false) ?_
  simp only [nf0, nf1, nf2, nf3, nf4]
  refine wpList_nil ?_
  show Code.wp _ _ _ _ _
  refine wp_cond_false rfl ?_
  refine wp_region_lit ?_
  refine st_mv (.pointer (some ⟨r, 0, none⟩)) ?_
  simp only [nf0, nf1, nf2, nf3, nf4]
  refine st_mv (.int .i64 (p : Int)) ?_
  simp only [nf0, nf1, nf2, nf3, nf4]
  refine st_call (by rfl) (s613_run_call_21_2 (.tmp 104) (.tmp 105) rfl rfl rfl _) (take_yes h (p := p) (by omega)) ?_
  rintro _ w10 ⟨rfl, R9, hf11⟩
  simp only [nf0, nf1, nf2, nf3, nf4]
  replace ho := ho.fr hf11 (of2 n1 n2)
  replace B3 := B3.fr hf11 (ni2 n6.symm n7.symm)
  replace bel := fr_call bel hf11 (by simp)
  replace hrd := OwnR.rdI ho
  clear hf11
  clear h
  refine st_mv (.tuple #[.int .i64 (nth xs p), .bool true]) ?_
  simp only [nf0, nf1, nf2, nf3, nf4]
  refine st_mv (.int .i64 (nth xs p)) ?_
  simp only [nf0, nf1, nf2, nf3, nf4]
  refine st_mv (.bool true) ?_
  simp only [nf0, nf1, nf2, nf3, nf4]
  refine st_mv (.int .i64 (nth xs p)) ?_
  simp only [nf0, nf1, nf2, nf3, nf4]
  refine st_mv (.bool true) ?_
  simp only [nf0, nf1, nf2, nf3, nf4]
  refine wpList_nil ?_
  show Code.wp _ _ _ _ _
  refine wp_seq ?_
  refine wp_region_lit ?_
  refine st_mv (.slice A xs.length cap) ?_
  simp only [nf0, nf1, nf2, nf3, nf4]
  refine st_mv (.int .i64 (p : Int)) ?_
  simp only [nf0, nf1, nf2, nf3, nf4]
  refine st_call1 (v := (.tuple #[.int .i64 (nth xs p), .bool true])) (by rfl) (s613_run_call_26_2 (.tmp 127) (.tmp 128) rfl rfl rfl _) (taken_yes A xs cap w10 (p := p) (by omega) (by omega) (hrd)) ?_
  intro w12 hb13
  simp only [nf0, nf1, nf2, nf3, nf4]
  replace R9 := R9.below hb13
  replace ho := ho.same hb13
  replace hrd := hrd.same hb13
  replace B3 := B3.below hb13
  replace bel := fr_step bel hb13
  clear hb13
  refine st_mv (.tuple #[.int .i64 (nth xs p), .bool true]) ?_
  simp only [nf0, nf1, nf2, nf3, nf4]
  refine st_mv (.int .i64 (nth xs p)) ?_
  simp only [nf0, nf1, nf2, nf3, nf4]
  refine st_mv (.bool true) ?_
  simp only [nf0, nf1, nf2, nf3, nf4]
  refine st_mv (.int .i64 (nth xs p)) ?_
  simp only [nf0, nf1, nf2, nf3, nf4]
  refine st_mv (.bool true) ?_
  simp only [nf0, nf1, nf2, nf3, nf4]
  refine wpList_nil ?_
  show Code.wp _ _ _ _ _
  refine wp_seq ?_
  refine wp_seq ?_
  refine wp_region_lit ?_
  refine st_mv (.bool true) ?_
  simp only [nf0, nf1, nf2, nf3, nf4]
  refine wpList_nil ?_
  show Code.wp _ _ _ _ _
  refine wp_cond_true rfl ?_
  refine wp_region_lit ?_
  refine st_mv (.slice A xs.length cap) ?_
  simp only [nf0, nf1, nf2, nf3, nf4]
  refine st_mv (.int .i64 (p : Int)) ?_
  simp only [nf0, nf1, nf2, nf3, nf4]
  refine st_call (by rfl) (s613_run_call_27_2 (.tmp 133) (.tmp 134) rfl rfl rfl _) (refWithout_calls A xs cap p hcap (by omega) (by omega) (by omega) w12 hrd) ?_
  rintro v14 w16 ⟨O15, hf17⟩
  simp only [nf0, nf1, nf2, nf3, nf4]
  have n18 : Off v14 r := OwnR.offLt O15 R9.ltr
  have n19 : Off v14 b := OwnR.offLt O15 R9.ltb
  have n20 := O15.offLow2 ho
  have n21 := O15.offLow B3
  have O15_ := fun k hk => (O15.lt k hk).1
  replace O15 := O15.lower bel.size
  replace R9 := R9.below hf17
  replace ho := ho.same hf17
  replace hrd := hrd.same hf17
  replace B3 := B3.below hf17
  replace bel := fr_step bel hf17
  clear hf17
  refine st_mv v14 ?_
  simp only [nf0, nf1, nf2, nf3, nf4]
  refine wpList_nil ?_
  show Code.wp _ _ _ _ _
  refine wp_seq ?_
  refine wp_region_lit ?_
  refine st_mv v14 ?_
  simp only [nf0, nf1, nf2, nf3, nf4]
  refine st_mv (.int .i64 (nth xs p)) ?_
  simp only [nf0, nf1, nf2, nf3, nf4]
  refine st_mv (.int .i64 (nth xs p)) ?_
  simp only [nf0, nf1, nf2, nf3, nf4]
  refine st_value (v := (.bool true)) (by rfl) (run_eql_int_t (.tmp 137) (.tmp 138) rfl rfl rfl rfl w16) ?_
  simp only [nf0, nf1, nf2, nf3, nf4]
  refine st_mv (.bool true) ?_
  simp only [nf0, nf1, nf2, nf3, nf4]
  refine st_mv (.bool true) ?_
  simp only [nf0, nf1, nf2, nf3, nf4]
  refine st_mv (.bool true) ?_
  simp only [nf0, nf1, nf2, nf3, nf4]
  refine st_value (v := (.bool true)) (by rfl) (runm_eql_bool (.tmp 141) (.tmp 142) rfl Try.underlying4 (b := true) (c := true) rfl rfl w16) ?_
  simp only [nf0, nf1, nf2, nf3, nf4]
  refine st_mv (.bool true) ?_
  simp only [nf0, nf1, nf2, nf3, nf4]
  refine st_mv v14 ?_
  simp only [nf0, nf1, nf2, nf3, nf4]
  refine st_mv (.bool true) ?_
  simp only [nf0, nf1, nf2, nf3, nf4]
  refine wpList_nil ?_
  show Code.wp _ _ _ _ _
  refine wp_ret ?_
  first | show bodyPost _ _ _ _ _ _ | (simp only [Exit.then, Exit.inBlock]; show bodyPost _ _ _ _ _ _)
  exact bodyPost_ret (results_tmp2 rfl _ _ _) rfl ⟨_, rfl, _, _, rfl, R9, O15.lower hB, .inr (fun k hk => Nat.le_trans (Nat.le_refl _) (O15.lt k hk).1), bel⟩
set_option maxRecDepth 100000 in
set_option maxHeartbeats 4000000 in
theorem do_6_no {w : World} {r b N B cap kn : Nat} {A : Option Addr} {xs : List Int} (h : Rg w r b N xs) (ho : OwnR w B 3 (eInt .i64) (.slice A xs.length cap) xs) (hcap : xs.length ≤ cap) (hB : B ≤ w.heap.size) (n1 : Off (.slice A xs.length cap) r) (n2 : Off (.slice A xs.length cap) b) {i : Int} (hk : kn % 8 = 6) (hi : i < 0 ∨ (xs.length : Int) ≤ i) (x : Int) : Calls Try.prog 18 #[.pointer (some ⟨r, 0, none⟩), .slice A xs.length cap, .int .i64 (N : Int), .agg #[.int .u64 (kn : Int), .int .i64 i, .int .i64 x]] w fun e w' => ∃ u, e = .returned u ∧ Done w w' r b N B (.slice A xs.length cap) u := by
  have bel : Fr [r, b] w w := Fr.refl _ _
  have hne := h.nerb
  have hle := h.le
  have hrd := OwnR.rdI ho
  go_enter Try.func18, Try.ntmps18
  refine wp_seq ?_
  refine wp_region_lit ?_
  refine st_new (cs := #[.int .u64 (kn : Int), .int .i64 i, .int .i64 x]) (t := 40) (by rfl) (run_boxV (.tmp 3) rfl (v := (.agg #[.int .u64 (kn : Int), .int .i64 i, .int .i64 x])) rfl rfl _) ?_
  intro g1 w2 B3 hb4 lo5
  simp only [nf0, nf1, nf2, nf3, nf4]
  have n6 : r ≠ g1 := Nat.ne_of_lt (Nat.lt_of_lt_of_le h.ltr lo5)
  have n7 : b ≠ g1 := Nat.ne_of_lt (Nat.lt_of_lt_of_le h.ltb lo5)
  have n8 := ho.off lo5
  replace lo5 := low_fr bel lo5
  replace h := h.below hb4
  replace ho := ho.same hb4
  replace hrd := hrd.same hb4
  replace bel := fr_step bel hb4
  clear hb4
  refine st_mv (.slice none 0 0) ?_
  simp only [nf0, nf1, nf2, nf3, nf4]
  refine st_mv (.bool false) ?_
  simp only [nf0, nf1, nf2, nf3, nf4]
  refine wpList_nil ?_
  show Code.wp _ _ _ _ _
  refine wp_seq ?_
  refine wp_region_lit ?_
  refine st_value (v := (.pointer (some ⟨g1, 1, none⟩))) (by rfl) (run_fieldA (.tmp 7) rfl s614_fld_40_1 rfl rfl w2) ?_
  simp only [nf0, nf1, nf2, nf3, nf4]
  refine st_value (v := (.int .i64 i)) (by rfl) (run_loadB (.tmp 21) rfl s614_one_3 rfl B3 rfl) ?_
  simp only [nf0, nf1, nf2, nf3, nf4]
  refine st_mv (.int .i64 i) ?_
  simp only [nf0, nf1, nf2, nf3, nf4]
  refine wpList_nil ?_
  show Code.wp _ _ _ _ _
  refine wp_seq ?_
  refine wp_seq ?_
  refine wp_region_lit ?_
  refine st_value (v := (.pointer (some ⟨g1, 0, none⟩))) (by rfl) (run_fieldA (.tmp 7) rfl s614_fld_40_0 rfl rfl w2) ?_
  simp only [nf0, nf1, nf2, nf3, nf4]
  refine st_value (v := (.int .u64 (kn : Int))) (by rfl) (run_loadB (.tmp 23) rfl s614_one_38 rfl B3 rfl) ?_
  simp only [nf0, nf1, nf2, nf3, nf4]
  refine st_value (v := (.int .u64 6)) (by rfl) (run_remC (.tmp 24) (.const (.int .u64 8)) (k := .u64) (m := kn) (n := 8) rfl rfl rfl (by omega) hk w2) ?_
  simp only [nf0, nf1, nf2, nf3, nf4]
  refine wpList_nil ?_
  show Code.wp _ _ _ _ _
  refine wp_block ?_
  refine wp_seq ?_
  refine wp_seq ?_
  refine wp_region_lit ?_
  refine st_value (v := (.bool false)) (by rfl) (run_eql_int_f (.tmp 25) (.const (.int .u64 0)) rfl rfl rfl (by decide) w2) ?_
  simp only [nf0, nf1, nf2, nf3, nf4]
  refine st_mv (.bool false) ?_
  simp only [nf0, nf1, nf2, nf3, nf4]
  refine wpList_nil ?_
  show Code.wp _ _ _ _ _
  refine wp_cond_false rfl ?_
  refine wp_seq ?_
  refine wp_region_lit ?_
  refine st_value (v := (.bool false)) (by rfl) (run_eql_int_f (.tmp 25) (.const (.int .u64 1)) rfl rfl rfl (by decide) w2) ?_
  simp only [nf0, nf1, nf2, nf3, nf4]
  refine st_mv (.bool false) ?_
  simp only [nf0, nf1, nf2, nf3, nf4]
  refine wpList_nil ?_
  show Code.wp _ _ _ _ _
  refine wp_cond_false rfl ?_
  refine wp_seq ?_
  refine wp_region_lit ?_
  refine st_value (v := (.bool false)) (by rfl) (run_eql_int_f (.tmp 25) (.const (.int .u64 2)) rfl rfl rfl (by decide) w2) ?_
  simp only [nf0, nf1, nf2, nf3, nf4]
  refine st_mv (.bool false) ?_
  simp only [nf0, nf1, nf2, nf3, nf4]
  refine wpList_nil ?_
  show Code.wp _ _ _ _ _
  refine wp_cond_false rfl ?_
  refine wp_region_lit ?_
  refine st_value (v := (.bool false)) (by rfl) (run_eql_int_f (.tmp 25) (.const (.int .u64 3)) rfl rfl rfl (by decide) w2) ?_
  simp only [nf0, nf1, nf2, nf3, nf4]
  refine st_mv (.bool false) ?_
  simp only [nf0, nf1, nf2, nf3, nf4]
  refine wpList_nil ?_
  show Code.wp _ _ _ _ _
  refine wp_cond_false rfl ?_
  refine wp_seq ?_
  refine wp_region_lit ?_
  refine st_value (v := (.bool false)) (by rfl) (run_eql_int_f (.tmp 25) (.const (.int .u64 7)) rfl rfl rfl (by decide) w2) ?_
  simp only [nf0, nf1, nf2, nf3, nf4]
  refine st_mv (.bool false) ?_
  simp only [nf0, nf1, nf2, nf3, nf4]
  refine wpList_nil ?_
  show Code.wp _ _ _ _ _
  refine wp_cond_false rfl ?_
  refine wp_skip ?_
  show Code.wp _ _ _ _ _
  refine wp_seq ?_
  refine wp_region_lit ?_
  refine st_mv (.int .i64 0) ?_
  simp only [nf0, nf1, nf2, nf3, nf4]
  refine wpList_nil ?_
  show Code.wp _ _ _ _ _
  refine wp_seq ?_
  refine wp_region_lit ?_
  refine st_mv (.bool false) ?_
  simp only [nf0, nf1, nf2, nf3, nf4]
  refine wpList_nil ?_
  show Code.wp _ _ _ _ _
  refine wp_seq ?_
  refine wp_seq ?_
  refine wp_region_lit ?_
  refine st_value (v := (.pointer (some ⟨g1, 0, none⟩))) (by rfl) (run_fieldA (.tmp 7) rfl s614_fld_40_0 rfl rfl w2) ?_
  simp only [nf0, nf1, nf2, nf3, nf4]
  refine st_value (v := (.int .u64 (kn : Int))) (by rfl) (run_loadB (.tmp 100) rfl s614_one_38 rfl B3 rfl) ?_
  simp only [nf0, nf1, nf2, nf3, nf4]
  refine st_value (v := (.int .u64 6)) (by rfl) (run_remC (.tmp 101) (.const (.int .u64 8)) (k := .u64) (m := kn) (n := 8) rfl rfl rfl (by omega) hk w2) ?_
  simp only [nf0, nf1, nf2, nf3, nf4]
  refine wpList_nil ?_
  show Code.wp _ _ _ _ _
  refine wp_block ?_
  refine wp_seq ?_
  refine wp_region_lit ?_
  refine st_value (v := (.bool false)) (by rfl) (run_eql_int_f (.tmp 102) (.const (.int .u64 4)) rfl rfl rfl (by decide) w2) ?_
  simp only [nf0, nf1, nf2, nf3, nf4]
  refine st_mv (.bool false) ?_
  simp only [nf0, nf1, nf2, nf3, nf4]
  refine wpList_nil ?_
  show Code.wp _ _ _ _ _
  refine wp_cond_false rfl ?_
  refine wp_seq ?_
  refine wp_region_lit ?_
  refine st_value (v := (.bool false)) (by rfl) (run_eql_int_f (.tmp 102) (.const (.int .u64 5)) rfl rfl rfl (by decide) w2) ?_
  simp only [nf0, nf1, nf2, nf3, nf4]
  refine st_mv (.bool false) ?_
  simp only [nf0, nf1, nf2, nf3, nf4]
  refine wpList_nil ?_
  show Code.wp _ _ _ _ _
  refine wp_cond_false rfl ?_
  refine wp_region_lit ?_
  refine st_mv (.pointer (some ⟨r, 0, none⟩)) ?_
  simp only [nf0, nf1, nf2, nf3, nf4]
  refine st_mv (.int .i64 i) ?_
  simp only [nf0, nf1, nf2, nf3, nf4]
  refine st_call (by rfl) (s614_run_call_21_2 (.tmp 104) (.tmp 105) rfl rfl rfl _) (take_no h (i := i) (by omega)) ?_
  rintro _ w10 ⟨rfl, R9, hf11⟩
  simp only [nf0, nf1, nf2, nf3, nf4]
  replace ho := ho.fr hf11 (of2 n1 n2)
  replace B3 := B3.fr hf11 (ni2 n6.symm n7.symm)
  replace bel := fr_call bel hf11 (by simp)
  replace hrd := OwnR.rdI ho
  clear hf11
  clear h
  refine st_mv (.tuple #[.int .i64 0, .bool false]) ?_
  simp only [nf0, nf1, nf2, nf3, nf4]
  refine st_mv (.int .i64 0) ?_
  simp only [nf0, nf1, nf2, nf3, nf4]
  refine st_mv (.bool false) ?_
  simp only [nf0, nf1, nf2, nf3, nf4]
  refine st_mv (.int .i64 0) ?_
  simp only [nf0, nf1, nf2, nf3, nf4]
  refine st_mv (.bool false) ?_
  simp only [nf0, nf1, nf2, nf3, nf4]
  refine wpList_nil ?_
  show Code.wp _ _ _ _ _
  refine wp_seq ?_
  refine wp_region_lit ?_
  refine st_mv (.slice A xs.length cap) ?_
  simp only [nf0, nf1, nf2, nf3, nf4]
  refine st_mv (.int .i64 i) ?_
  simp only [nf0, nf1, nf2, nf3, nf4]
  refine st_call1 (v := (.tuple #[.int .i64 0, .bool false])) (by rfl) (s614_run_call_26_2 (.tmp 127) (.tmp 128) rfl rfl rfl _) (taken_no (A := A) xs cap (i := i) (by omega) w10) ?_
  intro w12 hb13
  simp only [nf0, nf1, nf2, nf3, nf4]
  replace R9 := R9.below hb13
  replace ho := ho.same hb13
  replace hrd := hrd.same hb13
  replace B3 := B3.below hb13
  replace bel := fr_step bel hb13
  clear hb13
  refine st_mv (.tuple #[.int .i64 0, .bool false]) ?_
  simp only [nf0, nf1, nf2, nf3, nf4]
  refine st_mv (.int .i64 0) ?_
  simp only [nf0, nf1, nf2, nf3, nf4]
  refine st_mv (.bool false) ?_
  simp only [nf0, nf1, nf2, nf3, nf4]
  refine st_mv (.int .i64 0) ?_
  simp only [nf0, nf1, nf2, nf3, nf4]
  refine st_mv (.bool false) ?_
  simp only [nf0, nf1, nf2, nf3, nf4]
  refine wpList_nil ?_
  show Code.wp _ _ _ _ _
  refine wp_seq ?_
  refine wp_seq ?_
  refine wp_region_lit ?_
  refine st_mv (.bool false) ?_
  simp only [nf0, nf1, nf2, nf3, nf4]
  refine wpList_nil ?_
  show Code.wp _ _ _ _ _
  refine wp_cond_false rfl ?_
  refine wp_skip ?_
  show Code.wp _ _ _ _ _
  refine wp_seq ?_
  refine wp_region_lit ?_
  refine st_mv (.slice A xs.length cap) ?_
  simp only [nf0, nf1, nf2, nf3, nf4]
  refine st_mv (.int .i64 0) ?_
  simp only [nf0, nf1, nf2, nf3, nf4]
  refine st_mv (.int .i64 0) ?_
  simp only [nf0, nf1, nf2, nf3, nf4]
  refine st_value (v := (.bool true)) (by rfl) (run_eql_int_t (.tmp 137) (.tmp 138) rfl rfl rfl rfl w12) ?_
  simp only [nf0, nf1, nf2, nf3, nf4]
  refine st_mv (.bool true) ?_
  simp only [nf0, nf1, nf2, nf3, nf4]
  refine st_mv (.bool false) ?_
  simp only [nf0, nf1, nf2, nf3, nf4]
  refine st_mv (.bool false) ?_
  simp only [nf0, nf1, nf2, nf3, nf4]
  refine st_value (v := (.bool true)) (by rfl) (runm_eql_bool (.tmp 141) (.tmp 142) rfl Try.underlying4 (b := false) (c := false) rfl rfl w12) ?_
  simp only [nf0, nf1, nf2, nf3, nf4]
  refine st_mv (.bool true) ?_
  simp only [nf0, nf1, nf2, nf3, nf4]
  refine st_mv (.slice A xs.length cap) ?_
  simp only [nf0, nf1, nf2, nf3, nf4]
  refine st_mv (.bool true) ?_
  simp only [nf0, nf1, nf2, nf3, nf4]
  refine wpList_nil ?_
  show Code.wp _ _ _ _ _
  refine wp_ret ?_
  first | show bodyPost _ _ _ _ _ _ | (simp only [Exit.then, Exit.inBlock]; show bodyPost _ _ _ _ _ _)
  exact bodyPost_ret (results_tmp2 rfl _ _ _) rfl ⟨_, rfl, _, _, rfl, R9, ho, .inl rfl, bel⟩
set_option maxRecDepth 100000 in
set_option maxHeartbeats 4000000 in
theorem do_7_yes {w : World} {r b N B cap kn : Nat} {A : Option Addr} {xs : List Int} (h : Rg w r b N xs) (ho : OwnR w B 3 (eInt .i64) (.slice A xs.length cap) xs) (hcap : xs.length ≤ cap) (hB : B ≤ w.heap.size) (n1 : Off (.slice A xs.length cap) r) (n2 : Off (.slice A xs.length cap) b) (hk : kn % 8 = 7) {p : Nat} (hp : p < xs.length)  (x : Int) : Calls Try.prog 18 #[.pointer (some ⟨r, 0, none⟩), .slice A xs.length cap, .int .i64 (N : Int), .agg #[.int .u64 (kn : Int), .int .i64 (p : Int), .int .i64 x]] w fun e w' => ∃ u, e = .returned u ∧ Done w w' r b N B (.slice A xs.length cap) u := by
  have bel : Fr [r, b] w w := Fr.refl _ _
  have hne := h.nerb
  have hle := h.le
  have hrd := OwnR.rdI ho
  go_enter Try.func18, Try.ntmps18
  refine wp_seq ?_
  refine wp_region_lit ?_
  refine st_new (cs := #[.int .u64 (kn : Int), .int .i64 (p : Int), .int .i64 x]) (t := 40) (by rfl) (run_boxV (.tmp 3) rfl (v := (.agg #[.int .u64 (kn : Int), .int .i64 (p : Int), .int .i64 x])) rfl rfl _) ?_
  intro g1 w2 B3 hb4 lo5
  simp only [nf0, nf1, nf2, nf3, nf4]
  have n6 : r ≠ g1 := Nat.ne_of_lt (Nat.lt_of_lt_of_le h.ltr lo5)
  have n7 : b ≠ g1 := Nat.ne_of_lt (Nat.lt_of_lt_of_le h.ltb lo5)
  have n8 := ho.off lo5
  replace lo5 := low_fr bel lo5
  replace h := h.below hb4
  replace ho := ho.same hb4
  replace hrd := hrd.same hb4
  replace bel := fr_step bel hb4
  clear hb4
  refine st_mv (.slice none 0 0) ?_
  simp only [nf0, nf1, nf2, nf3, nf4]
  refine st_mv (.bool false) ?_
  simp only [nf0, nf1, nf2, nf3, nf4]
  refine wpList_nil ?_
  show Code.wp _ _ _ _ _
  refine wp_seq ?_
  refine wp_region_lit ?_
  refine st_value (v := (.pointer (some ⟨g1, 1, none⟩))) (by rfl) (run_fieldA (.tmp 7) rfl s715_fld_40_1 rfl rfl w2) ?_
  simp only [nf0, nf1, nf2, nf3, nf4]
  refine st_value (v := (.int .i64 (p : Int))) (by rfl) (run_loadB (.tmp 21) rfl s715_one_3 rfl B3 rfl) ?_
  simp only [nf0, nf1, nf2, nf3, nf4]
  refine st_mv (.int .i64 (p : Int)) ?_
  simp only [nf0, nf1, nf2, nf3, nf4]
  refine wpList_nil ?_
  show Code.wp _ _ _ _ _
  refine wp_seq ?_
  refine wp_seq ?_
  refine wp_region_lit ?_
  refine st_value (v := (.pointer (some ⟨g1, 0, none⟩))) (by rfl) (run_fieldA (.tmp 7) rfl s715_fld_40_0 rfl rfl w2) ?_
  simp only [nf0, nf1, nf2, nf3, nf4]
  refine st_value (v := (.int .u64 (kn : Int))) (by rfl) (run_loadB (.tmp 23) rfl s715_one_38 rfl B3 rfl) ?_
  simp only [nf0, nf1, nf2, nf3, nf4]
  refine st_value (v := (.int .u64 7)) (by rfl) (run_remC (.tmp 24) (.const (.int .u64 8)) (k := .u64) (m := kn) (n := 8) rfl rfl rfl (by omega) hk w2) ?_
  simp only [nf0, nf1, nf2, nf3, nf4]
  refine wpList_nil ?_
  show Code.wp _ _ _ _ _
  refine wp_block ?_
  refine wp_seq ?_
  refine wp_seq ?_
  refine wp_region_lit ?_
  refine st_value (v := (.bool false)) (by rfl) (run_eql_int_f (.tmp 25) (.const (.int .u64 0)) rfl rfl rfl (by decide) w2) ?_
  simp only [nf0, nf1, nf2, nf3, nf4]
  refine st_mv (.bool false) ?_
  simp only [nf0, nf1, nf2, nf3, nf4]
  refine wpList_nil ?_
  show Code.wp _ _ _ _ _
  refine wp_cond_false rfl ?_
  refine wp_seq ?_
  refine wp_region_lit ?_
  refine st_value (v := (.bool false)) (by rfl) (run_eql_int_f (.tmp 25) (.const (.int .u64 1)) rfl rfl rfl (by decide) w2) ?_
  simp only [nf0, nf1, nf2, nf3, nf4]
  refine st_mv (.bool false) ?_
  simp only [nf0, nf1, nf2, nf3, nf4]
  refine wpList_nil ?_
  show Code.wp _ _ _ _ _
  refine wp_cond_false rfl ?_
  refine wp_seq ?_
  refine wp_region_lit ?_
  refine st_value (v := (.bool false)) (by rfl) (run_eql_int_f (.tmp 25) (.const (.int .u64 2)) rfl rfl rfl (by decide) w2) ?_
  simp only [nf0, nf1, nf2, nf3, nf4]
  refine st_mv (.bool false) ?_
  simp only [nf0, nf1, nf2, nf3, nf4]
  refine wpList_nil ?_
  show Code.wp _ _ _ _ _
  refine wp_cond_false rfl ?_
  refine wp_region_lit ?_
  refine st_value (v := (.bool false)) (by rfl) (run_eql_int_f (.tmp 25) (.const (.int .u64 3)) rfl rfl rfl (by decide) w2) ?_
  simp only [nf0, nf1, nf2, nf3, nf4]
  refine st_mv (.bool false) ?_
  simp only [nf0, nf1, nf2, nf3, nf4]
  refine wpList_nil ?_
  show Code.wp _ _ _ _ _
  refine wp_cond_false rfl ?_
  refine wp_seq ?_
  refine wp_region_lit ?_
  refine st_value (v := (.bool true)) (by rfl) (run_eql_int_t (.tmp 25) (.const (.int .u64 7)) rfl rfl rfl rfl w2) ?_
  simp only [nf0, nf1, nf2, nf3, nf4]
  refine st_mv (.bool true) ?_
  simp only [nf0, nf1, nf2, nf3, nf4]
  refine wpList_nil ?_
  show Code.wp _ _ _ _ _
  refine wp_cond_true rfl ?_
  refine wp_seq ?_
  refine wp_region_lit ?_
  refine st_mv (.pointer (some ⟨r, 0, none⟩)) ?_
  simp only [nf0, nf1, nf2, nf3, nf4]
  refine st_mv (.int .i64 (p : Int)) ?_
  simp only [nf0, nf1, nf2, nf3, nf4]
  refine st_call (by rfl) (s715_run_call_20_2 (.tmp 80) (.tmp 81) rfl rfl rfl _) (at_yes h (p := p) (by omega)) ?_
  rintro _ w10 ⟨rfl, hf11⟩
  simp only [nf0, nf1, nf2, nf3, nf4]
  replace h := h.below hf11
  replace ho := ho.same hf11
  replace hrd := hrd.same hf11
  replace B3 := B3.below hf11
  replace bel := fr_step bel hf11
  clear hf11
  refine st_mv (.tuple #[.int .i64 (nth xs p), .bool true]) ?_
  simp only [nf0, nf1, nf2, nf3, nf4]
  refine st_mv (.int .i64 (nth xs p)) ?_
  simp only [nf0, nf1, nf2, nf3, nf4]
  refine st_mv (.bool true) ?_
  simp only [nf0, nf1, nf2, nf3, nf4]
  refine st_mv (.int .i64 (nth xs p)) ?_
  simp only [nf0, nf1, nf2, nf3, nf4]
  refine st_mv (.bool true) ?_
  simp only [nf0, nf1, nf2, nf3, nf4]
  refine wpList_nil ?_
  show Code.wp _ _ _ _ _
  refine wp_seq ?_
  refine wp_region_lit ?_
  refine st_mv (.slice A xs.length cap) ?_
  simp only [nf0, nf1, nf2, nf3, nf4]
  refine st_mv (.int .i64 (p : Int)) ?_
  simp only [nf0, nf1, nf2, nf3, nf4]
  refine st_call1 (v := (.tuple #[.int .i64 (nth xs p), .bool true])) (by rfl) (s715_run_call_26_2 (.tmp 86) (.tmp 87) rfl rfl rfl _) (taken_yes A xs cap w10 (p := p) (by omega) (by omega) (hrd)) ?_
  intro w12 hb13
  simp only [nf0, nf1, nf2, nf3, nf4]
  replace h := h.below hb13
  replace ho := ho.same hb13
  replace hrd := hrd.same hb13
  replace B3 := B3.below hb13
  replace bel := fr_step bel hb13
  clear hb13
  refine st_mv (.tuple #[.int .i64 (nth xs p), .bool true]) ?_
  simp only [nf0, nf1, nf2, nf3, nf4]
  refine st_mv (.int .i64 (nth xs p)) ?_
  simp only [nf0, nf1, nf2, nf3, nf4]
  refine st_mv (.bool true) ?_
  simp only [nf0, nf1, nf2, nf3, nf4]
  refine st_mv (.int .i64 (nth xs p)) ?_
  simp only [nf0, nf1, nf2, nf3, nf4]
  refine st_mv (.bool true) ?_
  simp only [nf0, nf1, nf2, nf3, nf4]
  refine wpList_nil ?_
  show Code.wp _ _ _ _ _
  refine wp_seq ?_
  refine wp_region_lit ?_
  refine st_mv (.slice A xs.length cap) ?_
  simp only [nf0, nf1, nf2, nf3, nf4]
  refine st_mv (.int .i64 (nth xs p)) ?_
  simp only [nf0, nf1, nf2, nf3, nf4]
  refine st_mv (.int .i64 (nth xs p)) ?_
  simp only [nf0, nf1, nf2, nf3, nf4]
  refine st_value (v := (.bool true)) (by rfl) (run_eql_int_t (.tmp 92) (.tmp 93) rfl rfl rfl rfl w12) ?_
  simp only [nf0, nf1, nf2, nf3, nf4]
  refine st_mv (.bool true) ?_
  simp only [nf0, nf1, nf2, nf3, nf4]
  refine st_mv (.bool true) ?_
  simp only [nf0, nf1, nf2, nf3, nf4]
  refine st_mv (.bool true) ?_
  simp only [nf0, nf1, nf2, nf3, nf4]
  refine st_value (v := (.bool true)) (by rfl) (runm_eql_bool (.tmp 96) (.tmp 97) rfl Try.underlying4 (b := true) (c := true) rfl rfl w12) ?_
  simp only [nf0, nf1, nf2, nf3, nf4]
  refine st_mv (.bool true) ?_
  simp only [nf0, nf1, nf2, nf3, nf4]
  refine st_mv (.slice A xs.length cap) ?_
  simp only [nf0, nf1, nf2, nf3, nf4]
  refine st_mv (.bool true) ?_
  simp only [nf0, nf1, nf2, nf3, nf4]
  refine wpList_nil ?_
  show Code.wp _ _ _ _ _
  refine wp_ret ?_
  first | show bodyPost _ _ _ _ _ _ | (simp only [Exit.then, Exit.inBlock]; show bodyPost _ _ _ _ _ _)
  exact bodyPost_ret (results_tmp2 rfl _ _ _) rfl ⟨_, rfl, _, _, rfl, h, ho, .inl rfl, bel⟩
set_option maxRecDepth 100000 in
set_option maxHeartbeats 4000000 in
theorem do_7_no {w : World} {r b N B cap kn : Nat} {A : Option Addr} {xs : List Int} (h : Rg w r b N xs) (ho : OwnR w B 3 (eInt .i64) (.slice A xs.length cap) xs) (hcap : xs.length ≤ cap) (hB : B ≤ w.heap.size) (n1 : Off (.slice A xs.length cap) r) (n2 : Off (.slice A xs.length cap) b) {i : Int} (hk : kn % 8 = 7) (hi : i < 0 ∨ (xs.length : Int) ≤ i) (x : Int) : Calls Try.prog 18 #[.pointer (some ⟨r, 0, none⟩), .slice A xs.length cap, .int .i64 (N : Int), .agg #[.int .u64 (kn : Int), .int .i64 i, .int .i64 x]] w fun e w' => ∃ u, e = .returned u ∧ Done w w' r b N B (.slice A xs.length cap) u := by
  have bel : Fr [r, b] w w := Fr.refl _ _
  have hne := h.nerb
  have hle := h.le
  have hrd := OwnR.rdI ho
  go_enter Try.func18, Try.ntmps18
  refine wp_seq ?_
  refine wp_region_lit ?_
  refine st_new (cs := #[.int .u64 (kn : Int), .int .i64 i, .int .i64 x]) (t := 40) (by rfl) (run_boxV (.tmp 3) rfl (v := (.agg #[.int .u64 (kn : Int), .int .i64 i, .int .i64 x])) rfl rfl _) ?_
  intro g1 w2 B3 hb4 lo5
  simp only [nf0, nf1, nf2, nf3, nf4]
  have n6 : r ≠ g1 := Nat.ne_of_lt (Nat.lt_of_lt_of_le h.ltr lo5)
  have n7 : b ≠ g1 := Nat.ne_of_lt (Nat.lt_of_lt_of_le h.ltb lo5)
  have n8 := ho.off lo5
  replace lo5 := low_fr bel lo5
  replace h := h.below hb4
  replace ho := ho.same hb4
  replace hrd := hrd.same hb4
  replace bel := fr_step bel hb4
  clear hb4
  refine st_mv (.slice none 0 0) ?_
  simp only [nf0, nf1, nf2, nf3, nf4]
  refine st_mv (.bool false) ?_
  simp only [nf0, nf1, nf2, nf3, nf4]
  refine wpList_nil ?_
  show Code.wp _ _ _ _ _
  refine wp_seq ?_
  refine wp_region_lit ?_
  refine st_value (v := (.pointer (some ⟨g1, 1, none⟩))) (by rfl) (run_fieldA (.tmp 7) rfl s716_fld_40_1 rfl rfl w2) ?_
  simp only [nf0, nf1, nf2, nf3, nf4]
  refine st_value (v := (.int .i64 i)) (by rfl) (run_loadB (.tmp 21) rfl s716_one_3 rfl B3 rfl) ?_
  simp only [nf0, nf1, nf2, nf3, nf4]
  refine st_mv (.int .i64 i) ?_
  simp only [nf0, nf1, nf2, nf3, nf4]
  refine wpList_nil ?_
  show Code.wp _ _ _ _ _
  refine wp_seq ?_
  refine wp_seq ?_
  refine wp_region_lit ?_
  refine st_value (v := (.pointer (some ⟨g1, 0, none⟩))) (by rfl) (run_fieldA (.tmp 7) rfl s716_fld_40_0 rfl rfl w2) ?_
  simp only [nf0, nf1, nf2, nf3, nf4]
  refine st_value (v := (.int .u64 (kn : Int))) (by rfl) (run_loadB (.tmp 23) rfl s716_one_38 rfl B3 rfl) ?_
  simp only [nf0, nf1, nf2, nf3, nf4]
  refine st_value (v := (.int .u64 7)) (by rfl) (run_remC (.tmp 24) (.const (.int .u64 8)) (k := .u64) (m := kn) (n := 8) rfl rfl rfl (by omega) hk w2) ?_
  simp only [nf0, nf1, nf2, nf3, nf4]
  refine wpList_nil ?_
  show Code.wp _ _ _ _ _
  refine wp_block ?_
  refine wp_seq ?_
  refine wp_seq ?_
  refine wp_region_lit ?_
  refine st_value (v := (.bool false)) (by rfl) (run_eql_int_f (.tmp 25) (.const (.int .u64 0)) rfl rfl rfl (by decide) w2) ?_
  simp only [nf0, nf1, nf2, nf3, nf4]
  refine st_mv (.bool false) ?_
  simp only [nf0, nf1, nf2, nf3, nf4]
  refine wpList_nil ?_
  show Code.wp _ _ _ _ _
  refine wp_cond_false rfl ?_
  refine wp_seq ?_
  refine wp_region_lit ?_
  refine st_value (v := (.bool false)) (by rfl) (run_eql_int_f (.tmp 25) (.const (.int .u64 1)) rfl rfl rfl (by decide) w2) ?_
  simp only [nf0, nf1, nf2, nf3, nf4]
  refine st_mv (.bool false) ?_
  simp only [nf0, nf1, nf2, nf3, nf4]
  refine wpList_nil ?_
  show Code.wp _ _ _ _ _
  refine wp_cond_false rfl ?_
  refine wp_seq ?_
  refine wp_region_lit ?_
  refine st_value (v := (.bool false)) (by rfl) (run_eql_int_f (.tmp 25) (.const (.int .u64 2)) rfl rfl rfl (by decide) w2) ?_
  simp only [nf0, nf1, nf2, nf3, nf4]
  refine st_mv (.bool false) ?_
  simp only [nf0, nf1, nf2, nf3, nf4]
  refine wpList_nil ?_
  show Code.wp _ _ _ _ _
  refine wp_cond_false rfl ?_
  refine wp_region_lit ?_
  refine st_value (v := (.bool false)) (by rfl) (run_eql_int_f (.tmp 25) (.const (.int .u64 3)) rfl rfl rfl (by decide) w2) ?_
  simp only [nf0, nf1, nf2, nf3, nf4]
  refine st_mv (.bool false) ?_
  simp only [nf0, nf1, nf2, nf3, nf4]
  refine wpList_nil ?_
  show Code.wp _ _ _ _ _
  refine wp_cond_false rfl ?_
  refine wp_seq ?_
  refine wp_region_lit ?_
  refine st_value (v := (.bool true)) (by rfl) (run_eql_int_t (.tmp 25) (.const (.int .u64 7)) rfl rfl rfl rfl w2) ?_
  simp only [nf0, nf1, nf2, nf3, nf4]
  refine st_mv (.bool true) ?_
  simp only [nf0, nf1, nf2, nf3, nf4]
  refine wpList_nil ?_
  show Code.wp _ _ _ _ _
  refine wp_cond_true rfl ?_
  refine wp_seq ?_
  refine wp_region_lit ?_
  refine st_mv (.pointer (some ⟨r, 0, none⟩)) ?_
  simp only [nf0, nf1, nf2, nf3, nf4]
  refine st_mv (.int .i64 i) ?_
  simp only [nf0, nf1, nf2, nf3, nf4]
  refine st_call (by rfl) (s716_run_call_20_2 (.tmp 80) (.tmp 81) rfl rfl rfl _) (at_no h (i := i) (by omega)) ?_
  rintro _ w10 ⟨rfl, hf11⟩
  simp only [nf0, nf1, nf2, nf3, nf4]
  replace h := h.below hf11
  replace ho := ho.same hf11
  replace hrd := hrd.same hf11
  replace B3 := B3.below hf11
  replace bel := fr_step bel hf11
  clear hf11
  refine st_mv (.tuple #[.int .i64 0, .bool false]) ?_
  simp only [nf0, nf1, nf2, nf3, nf4]
  refine st_mv (.int .i64 0) ?_
  simp only [nf0, nf1, nf2, nf3, nf4]
  refine st_mv (.bool false) ?_
  simp only [nf0, nf1, nf2, nf3, nf4]
  refine st_mv (.int .i64 0) ?_
  simp only [nf0, nf1, nf2, nf3, nf4]
  refine st_mv (.bool false) ?_
  simp only [nf0, nf1, nf2, nf3, nf4]
  refine wpList_nil ?_
  show Code.wp _ _ _ _ _
  refine wp_seq ?_
  refine wp_region_lit ?_
  refine st_mv (.slice A xs.length cap) ?_
  simp only [nf0, nf1, nf2, nf3, nf4]
  refine st_mv (.int .i64 i) ?_
  simp only [nf0, nf1, nf2, nf3, nf4]
  refine st_call1 (v := (.tuple #[.int .i64 0, .bool false])) (by rfl) (s716_run_call_26_2 (.tmp 86) (.tmp 87) rfl rfl rfl _) (taken_no (A := A) xs cap (i := i) (by omega) w10) ?_
  intro w12 hb13
  simp only [nf0, nf1, nf2, nf3, nf4]
  replace h := h.below hb13
  replace ho := ho.same hb13
  replace hrd := hrd.same hb13
  replace B3 := B3.below hb13
  replace bel := fr_step bel hb13
  clear hb13
  refine st_mv (.tuple #[.int .i64 0, .bool false]) ?_
  simp only [nf0, nf1, nf2, nf3, nf4]
  refine st_mv (.int .i64 0) ?_
  simp only [nf0, nf1, nf2, nf3, nf4]
  refine st_mv (.bool false) ?_
  simp only [nf0, nf1, nf2, nf3, nf4]
  refine st_mv (.int .i64 0) ?_
  simp only [nf0, nf1, nf2, nf3, nf4]
  refine st_mv (.bool false) ?_
  simp only [nf0, nf1, nf2, nf3, nf4]
  refine wpList_nil ?_
  show Code.wp _ _ _ _ _
  refine wp_seq ?_
  refine wp_region_lit ?_
  refine st_mv (.slice A xs.length cap) ?_
  simp only [nf0, nf1, nf2, nf3, nf4]
  refine st_mv (.int .i64 0) ?_
  simp only [nf0, nf1, nf2, nf3, nf4]
  refine st_mv (.int .i64 0) ?_
  simp only [nf0, nf1, nf2, nf3, nf4]
  refine st_value (v := (.bool true)) (by rfl) (run_eql_int_t (.tmp 92) (.tmp 93) rfl rfl rfl rfl w12) ?_
  simp only [nf0, nf1, nf2, nf3, nf4]
  refine st_mv (.bool true) ?_
  simp only [nf0, nf1, nf2, nf3, nf4]
  refine st_mv (.bool false) ?_
  simp only [nf0, nf1, nf2, nf3, nf4]
  refine st_mv (.bool false) ?_
  simp only [nf0, nf1, nf2, nf3, nf4]
  refine st_value (v := (.bool true)) (by rfl) (runm_eql_bool (.tmp 96) (.tmp 97) rfl Try.underlying4 (b := false) (c := false) rfl rfl w12) ?_
  simp only [nf0, nf1, nf2, nf3, nf4]
  refine st_mv (.bool true) ?_
  simp only [nf0, nf1, nf2, nf3, nf4]
  refine st_mv (.slice A xs.length cap) ?_
  simp only [nf0, nf1, nf2, nf3, nf4]
  refine st_mv (.bool true) ?_
  simp only [nf0, nf1, nf2, nf3, nf4]
  refine wpList_nil ?_
  show Code.wp _ _ _ _ _
  refine wp_ret ?_
  first | show bodyPost _ _ _ _ _ _ | (simp only [Exit.then, Exit.inBlock]; show bodyPost _ _ _ _ _ _)
  exact bodyPost_ret (results_tmp2 rfl _ _ _) rfl ⟨_, rfl, _, _, rfl, h, ho, .inl rfl, bel⟩
end Go.Proofs.Ytdhhcjhinpmeeaa

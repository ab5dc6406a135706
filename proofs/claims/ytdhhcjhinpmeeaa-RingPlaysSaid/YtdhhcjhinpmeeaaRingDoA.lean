/- One thing that is done to a row and to a list: Back. -/
import Derived.Test.YtdhhcjhinpmeeaaRingDone
namespace Go.Proofs.Ytdhhcjhinpmeeaa
open Go.RowKit Go.WideShapes Go.ChangeShapes
set_option linter.unusedSimpArgs false
set_option linter.unusedVariables false

theorem s00_fld_40_1 : FieldAt Try.prog 40 1 1 := fieldAt_of (s := 0) Try.underlying40 (by kernel_rfl)
theorem s00_one_3 : One Try.prog 3 := one_of Try.underlying3 rfl (by kernel_rfl)
theorem s00_fld_40_0 : FieldAt Try.prog 40 0 0 := fieldAt_of (s := 0) Try.underlying40 (by kernel_rfl)
theorem s00_one_38 : One Try.prog 38 := one_of Try.underlying38 rfl (by kernel_rfl)
theorem s00_fld_40_2 : FieldAt Try.prog 40 2 2 := fieldAt_of (s := 0) Try.underlying40 (by kernel_rfl)
theorem s00_run_call_10_2 {o : Oper} {a : Act} (x0 : Operand) (x1 : Operand) {ts : Array TypeId} (ho : o.op = .call { callee := .value (.func 10), args := #[x0, x1], argTypes := ts }) {v0 : Value} (h0 : a.eval x0 = v0) {v1 : Value} (h1 : a.eval x1 = v1) (W : World) : (execOp a.eval o).run Try.prog W = .ok (.enter 10 #[v0, v1]) W := by
  unfold execOp
  simp only [ho]
  subst h0 h1
  go_simp
theorem s00_run_call_25_3 {o : Oper} {a : Act} (x0 : Operand) (x1 : Operand) (x2 : Operand) {ts : Array TypeId} (ho : o.op = .call { callee := .value (.func 25), args := #[x0, x1, x2], argTypes := ts }) {v0 : Value} (h0 : a.eval x0 = v0) {v1 : Value} (h1 : a.eval x1 = v1) {v2 : Value} (h2 : a.eval x2 = v2) (W : World) : (execOp a.eval o).run Try.prog W = .ok (.enter 25 #[v0, v1, v2]) W := by
  unfold execOp
  simp only [ho]
  subst h0 h1 h2
  go_simp
theorem s01_fld_40_1 : FieldAt Try.prog 40 1 1 := fieldAt_of (s := 0) Try.underlying40 (by kernel_rfl)
theorem s01_one_3 : One Try.prog 3 := one_of Try.underlying3 rfl (by kernel_rfl)
theorem s01_fld_40_0 : FieldAt Try.prog 40 0 0 := fieldAt_of (s := 0) Try.underlying40 (by kernel_rfl)
theorem s01_one_38 : One Try.prog 38 := one_of Try.underlying38 rfl (by kernel_rfl)
theorem s01_fld_40_2 : FieldAt Try.prog 40 2 2 := fieldAt_of (s := 0) Try.underlying40 (by kernel_rfl)
theorem s01_run_call_10_2 {o : Oper} {a : Act} (x0 : Operand) (x1 : Operand) {ts : Array TypeId} (ho : o.op = .call { callee := .value (.func 10), args := #[x0, x1], argTypes := ts }) {v0 : Value} (h0 : a.eval x0 = v0) {v1 : Value} (h1 : a.eval x1 = v1) (W : World) : (execOp a.eval o).run Try.prog W = .ok (.enter 10 #[v0, v1]) W := by
  unfold execOp
  simp only [ho]
  subst h0 h1
  go_simp
theorem s12_fld_40_1 : FieldAt Try.prog 40 1 1 := fieldAt_of (s := 0) Try.underlying40 (by kernel_rfl)
theorem s12_one_3 : One Try.prog 3 := one_of Try.underlying3 rfl (by kernel_rfl)
theorem s12_fld_40_0 : FieldAt Try.prog 40 0 0 := fieldAt_of (s := 0) Try.underlying40 (by kernel_rfl)
theorem s12_one_38 : One Try.prog 38 := one_of Try.underlying38 rfl (by kernel_rfl)
theorem s12_fld_40_2 : FieldAt Try.prog 40 2 2 := fieldAt_of (s := 0) Try.underlying40 (by kernel_rfl)
theorem s12_run_call_10_2 {o : Oper} {a : Act} (x0 : Operand) (x1 : Operand) {ts : Array TypeId} (ho : o.op = .call { callee := .value (.func 10), args := #[x0, x1], argTypes := ts }) {v0 : Value} (h0 : a.eval x0 = v0) {v1 : Value} (h1 : a.eval x1 = v1) (W : World) : (execOp a.eval o).run Try.prog W = .ok (.enter 10 #[v0, v1]) W := by
  unfold execOp
  simp only [ho]
  subst h0 h1
  go_simp
theorem s12_run_call_25_3 {o : Oper} {a : Act} (x0 : Operand) (x1 : Operand) (x2 : Operand) {ts : Array TypeId} (ho : o.op = .call { callee := .value (.func 25), args := #[x0, x1, x2], argTypes := ts }) {v0 : Value} (h0 : a.eval x0 = v0) {v1 : Value} (h1 : a.eval x1 = v1) {v2 : Value} (h2 : a.eval x2 = v2) (W : World) : (execOp a.eval o).run Try.prog W = .ok (.enter 25 #[v0, v1, v2]) W := by
  unfold execOp
  simp only [ho]
  subst h0 h1 h2
  go_simp
theorem s13_fld_40_1 : FieldAt Try.prog 40 1 1 := fieldAt_of (s := 0) Try.underlying40 (by kernel_rfl)
theorem s13_one_3 : One Try.prog 3 := one_of Try.underlying3 rfl (by kernel_rfl)
theorem s13_fld_40_0 : FieldAt Try.prog 40 0 0 := fieldAt_of (s := 0) Try.underlying40 (by kernel_rfl)
theorem s13_one_38 : One Try.prog 38 := one_of Try.underlying38 rfl (by kernel_rfl)
theorem s13_fld_40_2 : FieldAt Try.prog 40 2 2 := fieldAt_of (s := 0) Try.underlying40 (by kernel_rfl)
theorem s13_run_call_10_2 {o : Oper} {a : Act} (x0 : Operand) (x1 : Operand) {ts : Array TypeId} (ho : o.op = .call { callee := .value (.func 10), args := #[x0, x1], argTypes := ts }) {v0 : Value} (h0 : a.eval x0 = v0) {v1 : Value} (h1 : a.eval x1 = v1) (W : World) : (execOp a.eval o).run Try.prog W = .ok (.enter 10 #[v0, v1]) W := by
  unfold execOp
  simp only [ho]
  subst h0 h1
  go_simp

attribute [local irreducible] Go.wpList Go.Code.wp
set_option maxRecDepth 100000 in
set_option maxHeartbeats 4000000 in
theorem do_0_yes {w : World} {r b N B cap kn : Nat} {A : Option Addr} {xs : List Int} (h : Rg w r b N xs) (ho : OwnR w B 3 (eInt .i64) (.slice A xs.length cap) xs) (hcap : xs.length ≤ cap) (hB : B ≤ w.heap.size) (n1 : Off (.slice A xs.length cap) r) (n2 : Off (.slice A xs.length cap) b) (hk : kn % 8 = 0) (hl : xs.length < N)  (i : Int) (x : Int) : Calls Try.prog 18 #[.pointer (some ⟨r, 0, none⟩), .slice A xs.length cap, .int .i64 (N : Int), .agg #[.int .u64 (kn : Int), .int .i64 i, .int .i64 x]] w fun e w' => ∃ u, e = .returned u ∧ Done w w' r b N B (.slice A xs.length cap) u := by
  have bel : Fr [r, b] w w := Fr.refl _ _
  have hne := h.nerb
  have hle := h.le
  have hrd := OwnR.rdI ho
  go_enter Try.func18, Try.ntmps18
  refine wp_seq ?_
  refine wp_region_lit ?_
  refine st_new (cs := #[.int .u64 (kn : Int), .int .i64 i, .int .i64 x]) (t := 40) (by rfl) (run_boxV (.tmp 3) rfl (v := (.agg #[.int .u64 (kn : Int), .int .i64 i, .int .i64 x])) rfl rfl _) ?_
  intro g1 w2 B3 hb4 lo5
  simp only [nf0, nf1, nf2, nf3, nf4]
  have n6 : r ≠ g1 := Nat.ne_of_lt (Nat.lt_of_lt_of_le h.ltr lo5)
  have n7 : b ≠ g1 := Nat.ne_of_lt (Nat.lt_of_lt_of_le h.ltb lo5)
  have n8 := ho.off lo5
  replace lo5 := low_fr bel lo5
  replace h := h.below hb4
  replace ho := ho.same hb4
  replace hrd := hrd.same hb4
  replace bel := fr_step bel hb4
  clear hb4
  refine st_mv (.slice none 0 0) ?_
  simp only [nf0, nf1, nf2, nf3, nf4]
  refine st_mv (.bool false) ?_
  simp only [nf0, nf1, nf2, nf3, nf4]
  refine wpList_nil ?_
  show Code.wp _ _ _ _ _
  refine wp_seq ?_
  refine wp_region_lit ?_
  refine st_value (v := (.pointer (some ⟨g1, 1, none⟩))) (by rfl) (run_fieldA (.tmp 7) rfl s00_fld_40_1 rfl rfl w2) ?_
  simp only [nf0, nf1, nf2, nf3, nf4]
  refine st_value (v := (.int .i64 i)) (by rfl) (run_loadB (.tmp 21) rfl s00_one_3 rfl B3 rfl) ?_
  simp only [nf0, nf1, nf2, nf3, nf4]
  refine st_mv (.int .i64 i) ?_
  simp only [nf0, nf1, nf2, nf3, nf4]
  refine wpList_nil ?_
  show Code.wp _ _ _ _ _
  refine wp_seq ?_
  refine wp_seq ?_
  refine wp_region_lit ?_
  refine st_value (v := (.pointer (some ⟨g1, 0, none⟩))) (by rfl) (run_fieldA (.tmp 7) rfl s00_fld_40_0 rfl rfl w2) ?_
  simp only [nf0, nf1, nf2, nf3, nf4]
  refine st_value (v := (.int .u64 (kn : Int))) (by rfl) (run_loadB (.tmp 23) rfl s00_one_38 rfl B3 rfl) ?_
  simp only [nf0, nf1, nf2, nf3, nf4]
  refine st_value (v := (.int .u64 0)) (by rfl) (run_remC (.tmp 24) (.const (.int .u64 8)) (k := .u64) (m := kn) (n := 8) rfl rfl rfl (by omega) hk w2) ?_
  simp only [nf0, nf1, nf2, nf3, nf4]
  refine wpList_nil ?_
  show Code.wp _ _ _ _ _
  refine wp_block ?_
  refine wp_seq ?_
  refine wp_seq ?_
  refine wp_region_lit ?_
  refine st_value (v := (.bool true)) (by rfl) (run_eql_int_t (.tmp 25) (.const (.int .u64 0)) rfl rfl rfl rfl w2) ?_
  simp only [nf0, nf1, nf2, nf3, nf4]
  refine st_mv (.bool true) ?_
  simp only [nf0, nf1, nf2, nf3, nf4]
  refine wpList_nil ?_
  show Code.wp _ _ _ _ _
  refine wp_cond_true rfl ?_
  refine wp_skip ?_
  show Code.wp _ _ _ _ _
  refine wp_cond_true rfl ?_
  refine wp_seq ?_
  refine wp_region_lit ?_
  refine st_mv (.bool false) ?_
  simp only [nf0, nf1, nf2, nf3, nf4]
  refine wpList_nil ?_
  show Code.wp _ _ _ _ _
  refine wp_seq ?_
  refine wp_seq ?_
  refine wp_region_lit ?_
  refine st_value (v := (.pointer (some ⟨g1, 0, none⟩))) (by rfl) (run_fieldA (.tmp 7) rfl s00_fld_40_0 rfl rfl w2) ?_
  simp only [nf0, nf1, nf2, nf3, nf4]
  refine st_value (v := (.int .u64 (kn : Int))) (by rfl) (run_loadB (.tmp 31) rfl s00_one_38 rfl B3 rfl) ?_
  simp only [nf0, nf1, nf2, nf3, nf4]
  refine st_value (v := (.int .u64 0)) (by rfl) (run_remC (.tmp 32) (.const (.int .u64 8)) (k := .u64) (m := kn) (n := 8) rfl rfl rfl (by omega) hk w2) ?_
  simp only [nf0, nf1, nf2, nf3, nf4]
  refine wpList_nil ?_
  show Code.wp _ _ _ _ _
  refine wp_block ?_
  refine wp_seq ?_
  refine wp_region_lit ?_
  refine st_value (v := (.bool false)) (by rfl) (run_eql_int_f (.tmp 33) (.const (.int .u64 2)) rfl rfl rfl (by decide) w2) ?_
  simp only [nf0, nf1, nf2, nf3, nf4]
  refine st_mv (.bool false) ?_
  simp only [nf0, nf1, nf2, nf3, nf4]
  refine wpList_nil ?_
  show Code.wp _ _ _ _ _
  refine wp_cond_false rfl ?_
  refine wp_seq ?_
  refine wp_region_lit ?_
  refine st_value (v := (.bool false)) (by rfl) (run_eql_int_f (.tmp 33) (.const (.int .u64 3)) rfl rfl rfl (by decide) w2) ?_
  simp only [nf0, nf1, nf2, nf3, nf4]
  refine st_mv (.bool false) ?_
  simp only [nf0, nf1, nf2, nf3, nf4]
  refine wpList_nil ?_
  show Code.wp _ _ _ _ _
  refine wp_cond_false rfl ?_
  refine wp_seq ?_
  refine wp_region_lit ?_
  refine st_mv (.slice A xs.length cap) ?_
  simp only [nf0, nf1, nf2, nf3, nf4]
  refine st_value (v := (.int .i64 (xs.length : Int))) (by rfl) (run_len (.tmp 34) rfl ⟨_, Try.underlying22⟩ rfl w2) ?_
  simp only [nf0, nf1, nf2, nf3, nf4]
  refine st_mv (.int .i64 (xs.length : Int)) ?_
  simp only [nf0, nf1, nf2, nf3, nf4]
  refine wpList_nil ?_
  show Code.wp _ _ _ _ _
  refine wp_region_lit ?_
  refine st_mv (.pointer (some ⟨r, 0, none⟩)) ?_
  simp only [nf0, nf1, nf2, nf3, nf4]
  refine st_value (v := (.pointer (some ⟨g1, 2, none⟩))) (by rfl) (run_fieldA (.tmp 7) rfl s00_fld_40_2 rfl rfl w2) ?_
  simp only [nf0, nf1, nf2, nf3, nf4]
  refine st_value (v := (.int .i64 x)) (by rfl) (run_loadB (.tmp 37) rfl s00_one_3 rfl B3 rfl) ?_
  simp only [nf0, nf1, nf2, nf3, nf4]
  refine st_call (by rfl) (s00_run_call_10_2 (.tmp 36) (.tmp 38) rfl rfl rfl _) (back_yes h (by omega) x) ?_
  rintro _ w10 ⟨rfl, R9, hf11⟩
  simp only [nf0, nf1, nf2, nf3, nf4]
  replace ho := ho.fr hf11 (of2 n1 n2)
  replace B3 := B3.fr hf11 (ni2 n6.symm n7.symm)
  replace bel := fr_call bel hf11 (by simp)
  replace hrd := OwnR.rdI ho
  clear hf11
  clear h
  refine st_mv (.bool true) ?_
  simp only [nf0, nf1, nf2, nf3, nf4]
  refine wpList_nil ?_
  show Code.wp _ _ _ _ _
  refine wp_seq ?_
  cases hg12 : decide ((xs.length : Int) < (N : Int))
  · have hp13 := of_decide_eq_false hg12
    exfalso
    omega
  have hp14 := of_decide_eq_true hg12
  cases hg15 : decide (0 ≤ (xs.length : Int))
  · have hp16 := of_decide_eq_false hg15
    exfalso
    omega
  have hp17 := of_decide_eq_true hg15
  refine wp_region_lit ?_
  refine st_mv (.slice A xs.length cap) ?_
  simp only [nf0, nf1, nf2, nf3, nf4]
  refine st_value (v := (.int .i64 (xs.length : Int))) (by rfl) (run_len (.tmp 53) rfl ⟨_, Try.underlying22⟩ rfl w10) ?_
  simp only [nf0, nf1, nf2, nf3, nf4]
  refine st_mv (.int .i64 (N : Int)) ?_
  simp only [nf0, nf1, nf2, nf3, nf4]
  refine st_value (v := (.bool true)) (by rfl) ((run_lss (.tmp 54) (.tmp 55) rfl rfl rfl w10).trans (by rw [hg12])) ?_
  simp only [nf0, nf1, nf2, nf3, nf4]
  refine st_mv (.bool true) ?_
  simp only [nf0, nf1, nf2, nf3, nf4]
  refine st_mv (.int .i64 (xs.length : Int)) ?_
  simp only [nf0, nf1, nf2, nf3, nf4]
  refine st_value (v := (.bool true)) (by rfl) ((run_geq (.tmp 58) (.const (.int .i64 0)) rfl rfl rfl w10).trans (by rw [hg15])) ?_
  simp only [nf0, nf1, nf2, nf3, nf4]
  refine st_mv (.bool true) ?_
  simp only [nf0, nf1, nf2, nf3, nf4]
  refine st_mv (.bool true) ?_
  simp only [nf0, nf1, nf2, nf3, nf4]
  refine st_mv (.int .i64 (xs.length : Int)) ?_
  simp only [nf0, nf1, nf2, nf3, nf4]
  refine st_mv (.slice A xs.length cap) ?_
  simp only [nf0, nf1, nf2, nf3, nf4]
  refine st_value (v := (.int .i64 (xs.length : Int))) (by rfl) (run_len (.tmp 63) rfl ⟨_, Try.underlying22⟩ rfl w10) ?_
  simp only [nf0, nf1, nf2, nf3, nf4]
  refine st_value (v := (.bool (decide ((xs.length : Int) ≤ (xs.length : Int))))) (by rfl) (run_leq (.tmp 62) (.tmp 64) rfl rfl rfl w10) ?_
  simp only [nf0, nf1, nf2, nf3, nf4]
  refine st_mv (.bool (decide ((xs.length : Int) ≤ (xs.length : Int)))) ?_
  simp only [nf0, nf1, nf2, nf3, nf4]
  refine st_mv (.bool (decide ((xs.length : Int) ≤ (xs.length : Int)))) ?_
  simp only [nf0, nf1, nf2, nf3, nf4]
  refine wpList_nil ?_
  show Code.wp _ _ _ _ _
  refine wp_seq ?_
  refine wp_seq ?_
  refine wp_region_lit ?_
  refine st_mv (.bool (decide ((xs.length : Int) ≤ (xs.length : Int)))) ?_
  simp only [nf0, nf1, nf2, nf3, nf4]
  refine wpList_nil ?_
  show Code.wp _ _ _ _ _
  cases hg18 : decide ((xs.length : Int) ≤ (xs.length : Int))
  · have hp19 := of_decide_eq_false hg18
    exfalso
    omega
  have hp20 := of_decide_eq_true hg18
  refine wp_cond_true rfl ?_
  refine wp_region_lit ?_
  refine st_mv (.slice A xs.length cap) ?_
  simp only [nf0, nf1, nf2, nf3, nf4]
  refine st_mv (.int .i64 (xs.length : Int)) ?_
  simp only [nf0, nf1, nf2, nf3, nf4]
  refine st_value (v := (.pointer (some ⟨g1, 2, none⟩))) (by rfl) (run_fieldA (.tmp 7) rfl s00_fld_40_2 rfl rfl w10) ?_
  simp only [nf0, nf1, nf2, nf3, nf4]
  refine st_value (v := (.int .i64 x)) (by rfl) (run_loadB (.tmp 70) rfl s00_one_3 rfl B3 rfl) ?_
  simp only [nf0, nf1, nf2, nf3, nf4]
  refine st_call (by rfl) (s00_run_call_25_3 (.tmp 68) (.tmp 69) (.tmp 71) rfl rfl rfl rfl _) (refPut_calls A xs cap xs.length hcap (by omega) (by omega) (by omega) x w10 hrd) ?_
  rintro v21 w23 ⟨O22, hf24⟩
  simp only [nf0, nf1, nf2, nf3, nf4]
  have n25 : Off v21 r := OwnR.offLt O22 R9.ltr
  have n26 : Off v21 b := OwnR.offLt O22 R9.ltb
  have n27 := O22.offLow2 ho
  have n28 := O22.offLow B3
  have O22_ := fun k hk => (O22.lt k hk).1
  replace O22 := O22.lower bel.size
  replace R9 := R9.below hf24
  replace ho := ho.same hf24
  replace hrd := hrd.same hf24
  replace B3 := B3.below hf24
  replace bel := fr_step bel hf24
  clear hf24
  refine st_mv v21 ?_
  simp only [nf0, nf1, nf2, nf3, nf4]
  refine wpList_nil ?_
  show Code.wp _ _ _ _ _
  refine wp_seq ?_
  refine wp_region_lit ?_
  refine st_mv v21 ?_
  simp only [nf0, nf1, nf2, nf3, nf4]
  refine st_mv (.bool true) ?_
  simp only [nf0, nf1, nf2, nf3, nf4]
  refine st_mv (.bool true) ?_
  simp only [nf0, nf1, nf2, nf3, nf4]
  refine st_value (v := (.bool true)) (by rfl) (runm_eql_bool (.tmp 74) (.tmp 75) rfl Try.underlying4 (b := true) (c := true) rfl rfl w23) ?_
  simp only [nf0, nf1, nf2, nf3, nf4]
  refine st_mv v21 ?_
  simp only [nf0, nf1, nf2, nf3, nf4]
  refine st_mv (.bool true) ?_
  simp only [nf0, nf1, nf2, nf3, nf4]
  refine wpList_nil ?_
  show Code.wp _ _ _ _ _
  refine wp_ret ?_
  first | show bodyPost _ _ _ _ _ _ | (simp only [Exit.then, Exit.inBlock]; show bodyPost _ _ _ _ _ _)
  exact bodyPost_ret (results_tmp2 rfl _ _ _) rfl ⟨_, rfl, _, _, rfl, (by have h := R9; rw [← ins_end] at h; exact h), O22.lower hB, .inr (fun k hk => Nat.le_trans (Nat.le_refl _) (O22.lt k hk).1), bel⟩
set_option maxRecDepth 100000 in
set_option maxHeartbeats 4000000 in
theorem do_0_no {w : World} {r b N B cap kn : Nat} {A : Option Addr} {xs : List Int} (h : Rg w r b N xs) (ho : OwnR w B 3 (eInt .i64) (.slice A xs.length cap) xs) (hcap : xs.length ≤ cap) (hB : B ≤ w.heap.size) (n1 : Off (.slice A xs.length cap) r) (n2 : Off (.slice A xs.length cap) b) (hk : kn % 8 = 0) (hl : N ≤ xs.length)  (i : Int) (x : Int) : Calls Try.prog 18 #[.pointer (some ⟨r, 0, none⟩), .slice A xs.length cap, .int .i64 (N : Int), .agg #[.int .u64 (kn : Int), .int .i64 i, .int .i64 x]] w fun e w' => ∃ u, e = .returned u ∧ Done w w' r b N B (.slice A xs.length cap) u := by
  have bel : Fr [r, b] w w := Fr.refl _ _
  have hne := h.nerb
  have hle := h.le
  have hrd := OwnR.rdI ho
  go_enter Try.func18, Try.ntmps18
  refine wp_seq ?_
  refine wp_region_lit ?_
  refine st_new (cs := #[.int .u64 (kn : Int), .int .i64 i, .int .i64 x]) (t := 40) (by rfl) (run_boxV (.tmp 3) rfl (v := (.agg #[.int .u64 (kn : Int), .int .i64 i, .int .i64 x])) rfl rfl _) ?_
  intro g1 w2 B3 hb4 lo5
  simp only [nf0, nf1, nf2, nf3, nf4]
  have n6 : r ≠ g1 := Nat.ne_of_lt (Nat.lt_of_lt_of_le h.ltr lo5)
  have n7 : b ≠ g1 := Nat.ne_of_lt (Nat.lt_of_lt_of_le h.ltb lo5)
  have n8 := ho.off lo5
  replace lo5 := low_fr bel lo5
  replace h := h.below hb4
  replace ho := ho.same hb4
  replace hrd := hrd.same hb4
  replace bel := fr_step bel hb4
  clear hb4
  refine st_mv (.slice none 0 0) ?_
  simp only [nf0, nf1, nf2, nf3, nf4]
  refine st_mv (.bool false) ?_
  simp only [nf0, nf1, nf2, nf3, nf4]
  refine wpList_nil ?_
  show Code.wp _ _ _ _ _
  refine wp_seq ?_
  refine wp_region_lit ?_
  refine st_value (v := (.pointer (some ⟨g1, 1, none⟩))) (by rfl) (run_fieldA (.tmp 7) rfl s01_fld_40_1 rfl rfl w2) ?_
  simp only [nf0, nf1, nf2, nf3, nf4]
  refine st_value (v := (.int .i64 i)) (by rfl) (run_loadB (.tmp 21) rfl s01_one_3 rfl B3 rfl) ?_
  simp only [nf0, nf1, nf2, nf3, nf4]
  refine st_mv (.int .i64 i) ?_
  simp only [nf0, nf1, nf2, nf3, nf4]
  refine wpList_nil ?_
  show Code.wp _ _ _ _ _
  refine wp_seq ?_
  refine wp_seq ?_
  refine wp_region_lit ?_
  refine st_value (v := (.pointer (some ⟨g1, 0, none⟩))) (by rfl) (run_fieldA (.tmp 7) rfl s01_fld_40_0 rfl rfl w2) ?_
  simp only [nf0, nf1, nf2, nf3, nf4]
  refine st_value (v := (.int .u64 (kn : Int))) (by rfl) (run_loadB (.tmp 23) rfl s01_one_38 rfl B3 rfl) ?_
  simp only [nf0, nf1, nf2, nf3, nf4]
  refine st_value (v := (.int .u64 0)) (by rfl) (run_remC (.tmp 24) (.const (.int .u64 8)) (k := .u64) (m := kn) (n := 8) rfl rfl rfl (by omega) hk w2) ?_
  simp only [nf0, nf1, nf2, nf3, nf4]
  refine wpList_nil ?_
  show Code.wp _ _ _ _ _
  refine wp_block ?_
  refine wp_seq ?_
  refine wp_seq ?_
  refine wp_region_lit ?_
  refine st_value (v := (.bool true)) (by rfl) (run_eql_int_t (.tmp 25) (.const (.int .u64 0)) rfl rfl rfl rfl w2) ?_
  simp only [nf0, nf1, nf2, nf3, nf4]
  refine st_mv (.bool true) ?_
  simp only [nf0, nf1, nf2, nf3, nf4]
  refine wpList_nil ?_
  show Code.wp _ _ _ _ _
  refine wp_cond_true rfl ?_
  refine wp_skip ?_
  show Code.wp _ _ _ _ _
  refine wp_cond_true rfl ?_
  refine wp_seq ?_
  refine wp_region_lit ?_
  refine st_mv (.bool false) ?_
  simp only [nf0, nf1, nf2, nf3, nf4]
  refine wpList_nil ?_
  show Code.wp _ _ _ _ _
  refine wp_seq ?_
  refine wp_seq ?_
  refine wp_region_lit ?_
  refine st_value (v := (.pointer (some ⟨g1, 0, none⟩))) (by rfl) (run_fieldA (.tmp 7) rfl s01_fld_40_0 rfl rfl w2) ?_
  simp only [nf0, nf1, nf2, nf3, nf4]
  refine st_value (v := (.int .u64 (kn : Int))) (by rfl) (run_loadB (.tmp 31) rfl s01_one_38 rfl B3 rfl) ?_
  simp only [nf0, nf1, nf2, nf3, nf4]
  refine st_value (v := (.int .u64 0)) (by rfl) (run_remC (.tmp 32) (.const (.int .u64 8)) (k := .u64) (m := kn) (n := 8) rfl rfl rfl (by omega) hk w2) ?_
  simp only [nf0, nf1, nf2, nf3, nf4]
  refine wpList_nil ?_
  show Code.wp _ _ _ _ _
  refine wp_block ?_
  refine wp_seq ?_
  refine wp_region_lit ?_
  refine st_value (v := (.bool false)) (by rfl) (run_eql_int_f (.tmp 33) (.const (.int .u64 2)) rfl rfl rfl (by decide) w2) ?_
  simp only [nf0, nf1, nf2, nf3, nf4]
  refine st_mv (.bool false) ?_
  simp only [nf0, nf1, nf2, nf3, nf4]
  refine wpList_nil ?_
  show Code.wp _ _ _ _ _
  refine wp_cond_false rfl ?_
  refine wp_seq ?_
  refine wp_region_lit ?_
  refine st_value (v := (.bool false)) (by rfl) (run_eql_int_f (.tmp 33) (.const (.int .u64 3)) rfl rfl rfl (by decide) w2) ?_
  simp only [nf0, nf1, nf2, nf3, nf4]
  refine st_mv (.bool false) ?_
  simp only [nf0, nf1, nf2, nf3, nf4]
  refine wpList_nil ?_
  show Code.wp _ _ _ _ _
  refine wp_cond_false rfl ?_
  refine wp_seq ?_
  refine wp_region_lit ?_
  refine st_mv (.slice A xs.length cap) ?_
  simp only [nf0, nf1, nf2, nf3, nf4]
  refine st_value (v := (.int .i64 (xs.length : Int))) (by rfl) (run_len (.tmp 34) rfl ⟨_, Try.underlying22⟩ rfl w2) ?_
  simp only [nf0, nf1, nf2, nf3, nf4]
  refine st_mv (.int .i64 (xs.length : Int)) ?_
  simp only [nf0, nf1, nf2, nf3, nf4]
  refine wpList_nil ?_
  show Code.wp _ _ _ _ _
  refine wp_region_lit ?_
  refine st_mv (.pointer (some ⟨r, 0, none⟩)) ?_
  simp only [nf0, nf1, nf2, nf3, nf4]
  refine st_value (v := (.pointer (some ⟨g1, 2, none⟩))) (by rfl) (run_fieldA (.tmp 7) rfl s01_fld_40_2 rfl rfl w2) ?_
  simp only [nf0, nf1, nf2, nf3, nf4]
  refine st_value (v := (.int .i64 x)) (by rfl) (run_loadB (.tmp 37) rfl s01_one_3 rfl B3 rfl) ?_
  simp only [nf0, nf1, nf2, nf3, nf4]
  refine st_call (by rfl) (s01_run_call_10_2 (.tmp 36) (.tmp 38) rfl rfl rfl _) (back_no h (by omega) x) ?_
  rintro _ w10 ⟨rfl, R9, hf11⟩
  simp only [nf0, nf1, nf2, nf3, nf4]
  replace ho := ho.fr hf11 (of2 n1 n2)
  replace B3 := B3.fr hf11 (ni2 n6.symm n7.symm)
  replace bel := fr_call bel hf11 (by simp)
  replace hrd := OwnR.rdI ho
  clear hf11
  clear h
  refine st_mv (.bool false) ?_
  simp only [nf0, nf1, nf2, nf3, nf4]
  refine wpList_nil ?_
  show Code.wp _ _ _ _ _
  refine wp_seq ?_
  cases hg12 : decide ((xs.length : Int) < (N : Int))
  rotate_left
  · have hp14 := of_decide_eq_true hg12
    exfalso
    omega
  have hp13 := of_decide_eq_false hg12
  refine wp_region_lit ?_
  refine st_mv (.slice A xs.length cap) ?_
  simp only [nf0, nf1, nf2, nf3, nf4]
  refine st_value (v := (.int .i64 (xs.length : Int))) (by rfl) (run_len (.tmp 53) rfl ⟨_, Try.underlying22⟩ rfl w10) ?_
  simp only [nf0, nf1, nf2, nf3, nf4]
  refine st_mv (.int .i64 (N : Int)) ?_
  simp only [nf0, nf1, nf2, nf3, nf4]
  refine st_value (v := (.bool false)) (by rfl) ((run_lss (.tmp 54) (.tmp 55) rfl rfl rfl w10).trans (by rw [hg12])) ?_
  simp only [nf0, nf1, nf2, nf3, nf4]
  refine st_mv (.bool false) ?_
  simp only [nf0, nf1, nf2, nf3, nf4]
  refine st_nob (j := 4) (t := 57) (c := false) rfl rfl rfl rfl rfl ?_
  simp only [nf0, nf1, nf2, nf3, nf4]
  refine st_nob (j := 4) (t := 57) (c := false) rfl rfl rfl rfl rfl ?_
  simp only [nf0, nf1, nf2, nf3, nf4]
  refine st_mv (.bool false) ?_
  simp only [nf0, nf1, nf2, nf3, nf4]
  refine st_mv (.bool false) ?_
  simp only [nf0, nf1, nf2, nf3, nf4]
  refine st_nob (j := 8) (t := 61) (c := false) rfl rfl rfl rfl rfl ?_
  simp only [nf0, nf1, nf2, nf3, nf4]
  refine st_nob (j := 8) (t := 61) (c := false) rfl rfl rfl rfl rfl ?_
  simp only [nf0, nf1, nf2, nf3, nf4]
  refine st_nob (j := 8) (t := 61) (c := false) rfl rfl rfl rfl rfl ?_
  simp only [nf0, nf1, nf2, nf3, nf4]
  refine st_nob (j := 8) (t := 61) (c := false) rfl rfl rfl rfl rfl ?_
  simp only [nf0, nf1, nf2, nf3, nf4]
  refine st_mv (.bool false) ?_
  simp only [nf0, nf1, nf2, nf3, nf4]
  refine st_mv (.bool false) ?_
  simp only [nf0, nf1, nf2, nf3, nf4]
  refine wpList_nil ?_
  show Code.wp _ _ _ _ _
  refine wp_seq ?_
  refine wp_seq ?_
  refine wp_region_lit ?_
  refine st_mv (.bool false) ?_
  simp only [nf0, nf1, nf2, nf3, nf4]
  refine wpList_nil ?_
  show Code.wp _ _ _ _ _
  refine wp_cond_false rfl ?_
  refine wp_skip ?_
  show Code.wp _ _ _ _ _
  refine wp_seq ?_
  refine wp_region_lit ?_
  refine st_mv (.slice A xs.length cap) ?_
  simp only [nf0, nf1, nf2, nf3, nf4]
  refine st_mv (.bool false) ?_
  simp only [nf0, nf1, nf2, nf3, nf4]
  refine st_mv (.bool false) ?_
  simp only [nf0, nf1, nf2, nf3, nf4]
  refine st_value (v := (.bool true)) (by rfl) (runm_eql_bool (.tmp 74) (.tmp 75) rfl Try.underlying4 (b := false) (c := false) rfl rfl w10) ?_
  simp only [nf0, nf1, nf2, nf3, nf4]
  refine st_mv (.slice A xs.length cap) ?_
  simp only [nf0, nf1, nf2, nf3, nf4]
  refine st_mv (.bool true) ?_
  simp only [nf0, nf1, nf2, nf3, nf4]
  refine wpList_nil ?_
  show Code.wp _ _ _ _ _
  refine wp_ret ?_
  first | show bodyPost _ _ _ _ _ _ | (simp only [Exit.then, Exit.inBlock]; show bodyPost _ _ _ _ _ _)
  exact bodyPost_ret (results_tmp2 rfl _ _ _) rfl ⟨_, rfl, _, _, rfl, R9, ho, .inl rfl, bel⟩
set_option maxRecDepth 100000 in
set_option maxHeartbeats 4000000 in
theorem do_1_yes {w : World} {r b N B cap kn : Nat} {A : Option Addr} {xs : List Int} (h : Rg w r b N xs) (ho : OwnR w B 3 (eInt .i64) (.slice A xs.length cap) xs) (hcap : xs.length ≤ cap) (hB : B ≤ w.heap.size) (n1 : Off (.slice A xs.length cap) r) (n2 : Off (.slice A xs.length cap) b) (hk : kn % 8 = 1) (hl : xs.length < N)  (i : Int) (x : Int) : Calls Try.prog 18 #[.pointer (some ⟨r, 0, none⟩), .slice A xs.length cap, .int .i64 (N : Int), .agg #[.int .u64 (kn : Int), .int .i64 i, .int .i64 x]] w fun e w' => ∃ u, e = .returned u ∧ Done w w' r b N B (.slice A xs.length cap) u := by
  have bel : Fr [r, b] w w := Fr.refl _ _
  have hne := h.nerb
  have hle := h.le
  have hrd := OwnR.rdI ho
  go_enter Try.func18, Try.ntmps18
  refine wp_seq ?_
  refine wp_region_lit ?_
  refine st_new (cs := #[.int .u64 (kn : Int), .int .i64 i, .int .i64 x]) (t := 40) (by rfl) (run_boxV (.tmp 3) rfl (v := (.agg #[.int .u64 (kn : Int), .int .i64 i, .int .i64 x])) rfl rfl _) ?_
  intro g1 w2 B3 hb4 lo5
  simp only [nf0, nf1, nf2, nf3, nf4]
  have n6 : r ≠ g1 := Nat.ne_of_lt (Nat.lt_of_lt_of_le h.ltr lo5)
  have n7 : b ≠ g1 := Nat.ne_of_lt (Nat.lt_of_lt_of_le h.ltb lo5)
  have n8 := ho.off lo5
  replace lo5 := low_fr bel lo5
  replace h := h.below hb4
  replace ho := ho.same hb4
  replace hrd := hrd.same hb4
  replace bel := fr_step bel hb4
  clear hb4
  refine st_mv (.slice none 0 0) ?_
  simp only [nf0, nf1, nf2, nf3, nf4]
  refine st_mv (.bool false) ?_
  simp only [nf0, nf1, nf2, nf3, nf4]
  refine wpList_nil ?_
  show Code.wp _ _ _ _ _
  refine wp_seq ?_
  refine wp_region_lit ?_
  refine st_value (v := (.pointer (some ⟨g1, 1, none⟩))) (by rfl) (run_fieldA (.tmp 7) rfl s12_fld_40_1 rfl rfl w2) ?_
  simp only [nf0, nf1, nf2, nf3, nf4]
  refine st_value (v := (.int .i64 i)) (by rfl) (run_loadB (.tmp 21) rfl s12_one_3 rfl B3 rfl) ?_
  simp only [nf0, nf1, nf2, nf3, nf4]
  refine st_mv (.int .i64 i) ?_
  simp only [nf0, nf1, nf2, nf3, nf4]
  refine wpList_nil ?_
  show Code.wp _ _ _ _ _
  refine wp_seq ?_
  refine wp_seq ?_
  refine wp_region_lit ?_
  refine st_value (v := (.pointer (some ⟨g1, 0, none⟩))) (by rfl) (run_fieldA (.tmp 7) rfl s12_fld_40_0 rfl rfl w2) ?_
  simp only [nf0, nf1, nf2, nf3, nf4]
  refine st_value (v := (.int .u64 (kn : Int))) (by rfl) (run_loadB (.tmp 23) rfl s12_one_38 rfl B3 rfl) ?_
  simp only [nf0, nf1, nf2, nf3, nf4]
  refine st_value (v := (.int .u64 1)) (by rfl) (run_remC (.tmp 24) (.const (.int .u64 8)) (k := .u64) (m := kn) (n := 8) rfl rfl rfl (by omega) hk w2) ?_
  simp only [nf0, nf1, nf2, nf3, nf4]
  refine wpList_nil ?_
  show Code.wp _ _ _ _ _
  refine wp_block ?_
  refine wp_seq ?_
  refine wp_seq ?_
  refine wp_region_lit ?_
  refine st_value (v := (.bool false)) (by rfl) (run_eql_int_f (.tmp 25) (.const (.int .u64 0)) rfl rfl rfl (by decide) w2) ?_
  simp only [nf0, nf1, nf2, nf3, nf4]
  refine st_mv (.bool false) ?_
  simp only [nf0, nf1, nf2, nf3, nf4]
  refine wpList_nil ?_
  show Code.wp _ _ _ _ _
  refine wp_cond_false rfl ?_
  refine wp_seq ?_
  refine wp_region_lit ?_
  refine st_value (v := (.bool true)) (by rfl) (run_eql_int_t (.tmp 25) (.const (.int .u64 1)) rfl rfl rfl rfl w2) ?_
  simp only [nf0, nf1, nf2, nf3, nf4]
  refine st_mv (.bool true) ?_
  simp only [nf0, nf1, nf2, nf3, nf4]
  refine wpList_nil ?_
  show Code.wp _ _ _ _ _
  refine wp_cond_true rfl ?_
  refine wp_skip ?_
  show Code.wp _ _ _ _ _
  refine wp_cond_true rfl ?_
  refine wp_seq ?_
  refine wp_region_lit ?_
  refine st_mv (.bool false) ?_
  simp only [nf0, nf1, nf2, nf3, nf4]
  refine wpList_nil ?_
  show Code.wp _ _ _ _ _
  refine wp_seq ?_
  refine wp_seq ?_
  refine wp_region_lit ?_
  refine st_value (v := (.pointer (some ⟨g1, 0, none⟩))) (by rfl) (run_fieldA (.tmp 7) rfl s12_fld_40_0 rfl rfl w2) ?_
  simp only [nf0, nf1, nf2, nf3, nf4]
  refine st_value (v := (.int .u64 (kn : Int))) (by rfl) (run_loadB (.tmp 31) rfl s12_one_38 rfl B3 rfl) ?_
  simp only [nf0, nf1, nf2, nf3, nf4]
  refine st_value (v := (.int .u64 1)) (by rfl) (run_remC (.tmp 32) (.const (.int .u64 8)) (k := .u64) (m := kn) (n := 8) rfl rfl rfl (by omega) hk w2) ?_
  simp only [nf0, nf1, nf2, nf3, nf4]
  refine wpList_nil ?_
  show Code.wp _ _ _ _ _
  refine wp_block ?_
  refine wp_seq ?_
  refine wp_region_lit ?_
  refine st_value (v := (.bool false)) (by rfl) (run_eql_int_f (.tmp 33) (.const (.int .u64 2)) rfl rfl rfl (by decide) w2) ?_
  simp only [nf0, nf1, nf2, nf3, nf4]
  refine st_mv (.bool false) ?_
  simp only [nf0, nf1, nf2, nf3, nf4]
  refine wpList_nil ?_
  show Code.wp _ _ _ _ _
  refine wp_cond_false rfl ?_
  refine wp_seq ?_
  refine wp_region_lit ?_
  refine st_value (v := (.bool false)) (by rfl) (run_eql_int_f (.tmp 33) (.const (.int .u64 3)) rfl rfl rfl (by decide) w2) ?_
  simp only [nf0, nf1, nf2, nf3, nf4]
  refine st_mv (.bool false) ?_
  simp only [nf0, nf1, nf2, nf3, nf4]
  refine wpList_nil ?_
  show Code.wp _ _ _ _ _
  refine wp_cond_false rfl ?_
  refine wp_seq ?_
  refine wp_region_lit ?_
  refine st_mv (.slice A xs.length cap) ?_
  simp only [nf0, nf1, nf2, nf3, nf4]
  refine st_value (v := (.int .i64 (xs.length : Int))) (by rfl) (run_len (.tmp 34) rfl ⟨_, Try.underlying22⟩ rfl w2) ?_
  simp only [nf0, nf1, nf2, nf3, nf4]
  refine st_mv (.int .i64 (xs.length : Int)) ?_
  simp only [nf0, nf1, nf2, nf3, nf4]
  refine wpList_nil ?_
  show Code.wp _ _ _ _ _
  refine wp_region_lit ?_
  refine st_mv (.pointer (some ⟨r, 0, none⟩)) ?_
  simp only [nf0, nf1, nf2, nf3, nf4]
  refine st_value (v := (.pointer (some ⟨g1, 2, none⟩))) (by rfl) (run_fieldA (.tmp 7) rfl s12_fld_40_2 rfl rfl w2) ?_
  simp only [nf0, nf1, nf2, nf3, nf4]
  refine st_value (v := (.int .i64 x)) (by rfl) (run_loadB (.tmp 37) rfl s12_one_3 rfl B3 rfl) ?_
  simp only [nf0, nf1, nf2, nf3, nf4]
  refine st_call (by rfl) (s12_run_call_10_2 (.tmp 36) (.tmp 38) rfl rfl rfl _) (back_yes h (by omega) x) ?_
  rintro _ w10 ⟨rfl, R9, hf11⟩
  simp only [nf0, nf1, nf2, nf3, nf4]
  replace ho := ho.fr hf11 (of2 n1 n2)
  replace B3 := B3.fr hf11 (ni2 n6.symm n7.symm)
  replace bel := fr_call bel hf11 (by simp)
  replace hrd := OwnR.rdI ho
  clear hf11
  clear h
  refine st_mv (.bool true) ?_
  simp only [nf0, nf1, nf2, nf3, nf4]
  refine wpList_nil ?_
  show Code.wp _ _ _ _ _
  refine wp_seq ?_
  cases hg12 : decide ((xs.length : Int) < (N : Int))
  · have hp13 := of_decide_eq_false hg12
    exfalso
    omega
  have hp14 := of_decide_eq_true hg12
  cases hg15 : decide (0 ≤ (xs.length : Int))
  · have hp16 := of_decide_eq_false hg15
    exfalso
    omega
  have hp17 := of_decide_eq_true hg15
  refine wp_region_lit ?_
  refine st_mv (.slice A xs.length cap) ?_
  simp only [nf0, nf1, nf2, nf3, nf4]
  refine st_value (v := (.int .i64 (xs.length : Int))) (by rfl) (run_len (.tmp 53) rfl ⟨_, Try.underlying22⟩ rfl w10) ?_
  simp only [nf0, nf1, nf2, nf3, nf4]
  refine st_mv (.int .i64 (N : Int)) ?_
  simp only [nf0, nf1, nf2, nf3, nf4]
  refine st_value (v := (.bool true)) (by rfl) ((run_lss (.tmp 54) (.tmp 55) rfl rfl rfl w10).trans (by rw [hg12])) ?_
  simp only [nf0, nf1, nf2, nf3, nf4]
  refine st_mv (.bool true) ?_
  simp only [nf0, nf1, nf2, nf3, nf4]
  refine st_mv (.int .i64 (xs.length : Int)) ?_
  simp only [nf0, nf1, nf2, nf3, nf4]
  refine st_value (v := (.bool true)) (by rfl) ((run_geq (.tmp 58) (.const (.int .i64 0)) rfl rfl rfl w10).trans (by rw [hg15])) ?_
  simp only [nf0, nf1, nf2, nf3, nf4]
  refine st_mv (.bool true) ?_
  simp only [nf0, nf1, nf2, nf3, nf4]
  refine st_mv (.bool true) ?_
  simp only [nf0, nf1, nf2, nf3, nf4]
  refine st_mv (.int .i64 (xs.length : Int)) ?_
  simp only [nf0, nf1, nf2, nf3, nf4]
  refine st_mv (.slice A xs.length cap) ?_
  simp only [nf0, nf1, nf2, nf3, nf4]
  refine st_value (v := (.int .i64 (xs.length : Int))) (by rfl) (run_len (.tmp 63) rfl ⟨_, Try.underlying22⟩ rfl w10) ?_
  simp only [nf0, nf1, nf2, nf3, nf4]
  refine st_value (v := (.bool (decide ((xs.length : Int) ≤ (xs.length : Int))))) (by rfl) (run_leq (.tmp 62) (.tmp 64) rfl rfl rfl w10) ?_
  simp only [nf0, nf1, nf2, nf3, nf4]
  refine st_mv (.bool (decide ((xs.length : Int) ≤ (xs.length : Int)))) ?_
  simp only [nf0, nf1, nf2, nf3, nf4]
  refine st_mv (.bool (decide ((xs.length : Int) ≤ (xs.length : Int)))) ?_
  simp only [nf0, nf1, nf2, nf3, nf4]
  refine wpList_nil ?_
  show Code.wp _ _ _ _ _
  refine wp_seq ?_
  refine wp_seq ?_
  refine wp_region_lit ?_
  refine st_mv (.bool (decide ((xs.length : Int) ≤ (xs.length : Int)))) ?_
  simp only [nf0, nf1, nf2, nf3, nf4]
  refine wpList_nil ?_
  show Code.wp _ _ _ _ _
  cases hg18 : decide ((xs.length : Int) ≤ (xs.length : Int))
  · have hp19 := of_decide_eq_false hg18
    exfalso
    omega
  have hp20 := of_decide_eq_true hg18
  refine wp_cond_true rfl ?_
  refine wp_region_lit ?_
  refine st_mv (.slice A xs.length cap) ?_
  simp only [nf0, nf1, nf2, nf3, nf4]
  refine st_mv (.int .i64 (xs.length : Int)) ?_
  simp only [nf0, nf1, nf2, nf3, nf4]
  refine st_value (v := (.pointer (some ⟨g1, 2, none⟩))) (by rfl) (run_fieldA (.tmp 7) rfl s12_fld_40_2 rfl rfl w10) ?_
  simp only [nf0, nf1, nf2, nf3, nf4]
  refine st_value (v := (.int .i64 x)) (by rfl) (run_loadB (.tmp 70) rfl s12_one_3 rfl B3 rfl) ?_
  simp only [nf0, nf1, nf2, nf3, nf4]
  refine st_call (by rfl) (s12_run_call_25_3 (.tmp 68) (.tmp 69) (.tmp 71) rfl rfl rfl rfl _) (refPut_calls A xs cap xs.length hcap (by omega) (by omega) (by omega) x w10 hrd) ?_
  rintro v21 w23 ⟨O22, hf24⟩
  simp only [nf0, nf1, nf2, nf3, nf4]
  have n25 : Off v21 r := OwnR.offLt O22 R9.ltr
  have n26 : Off v21 b := OwnR.offLt O22 R9.ltb
  have n27 := O22.offLow2 ho
  have n28 := O22.offLow B3
  have O22_ := fun k hk => (O22.lt k hk).1
  replace O22 := O22.lower bel.size
  replace R9 := R9.below hf24
  replace ho := ho.same hf24
  replace hrd := hrd.same hf24
  replace B3 := B3.below hf24
  replace bel := fr_step bel hf24
  clear hf24
  refine st_mv v21 ?_
  simp only [nf0, nf1, nf2, nf3, nf4]
  refine wpList_nil ?_
  show Code.wp _ _ _ _ _
  refine wp_seq ?_
  refine wp_region_lit ?_
  refine st_mv v21 ?_
  simp only [nf0, nf1, nf2, nf3, nf4]
  refine st_mv (.bool true) ?_
  simp only [nf0, nf1, nf2, nf3, nf4]
  refine st_mv (.bool true) ?_
  simp only [nf0, nf1, nf2, nf3, nf4]
  refine st_value (v := (.bool true)) (by rfl) (runm_eql_bool (.tmp 74) (.tmp 75) rfl Try.underlying4 (b := true) (c := true) rfl rfl w23) ?_
  simp only [nf0, nf1, nf2, nf3, nf4]
  refine st_mv v21 ?_
  simp only [nf0, nf1, nf2, nf3, nf4]
  refine st_mv (.bool true) ?_
  simp only [nf0, nf1, nf2, nf3, nf4]
  refine wpList_nil ?_
  show Code.wp _ _ _ _ _
  refine wp_ret ?_
  first | show bodyPost _ _ _ _ _ _ | (simp only [Exit.then, Exit.inBlock]; show bodyPost _ _ _ _ _ _)
  exact bodyPost_ret (results_tmp2 rfl _ _ _) rfl ⟨_, rfl, _, _, rfl, (by have h := R9; rw [← ins_end] at h; exact h), O22.lower hB, .inr (fun k hk => Nat.le_trans (Nat.le_refl _) (O22.lt k hk).1), bel⟩
set_option maxRecDepth 100000 in
set_option maxHeartbeats 4000000 in
theorem do_1_no {w : World} {r b N B cap kn : Nat} {A : Option Addr} {xs : List Int} (h : Rg w r b N xs) (ho : OwnR w B 3 (eInt .i64) (.slice A xs.length cap) xs) (hcap : xs.length ≤ cap) (hB : B ≤ w.heap.size) (n1 : Off (.slice A xs.length cap) r) (n2 : Off (.slice A xs.length cap) b) (hk : kn % 8 = 1) (hl : N ≤ xs.length)  (i : Int) (x : Int) : Calls Try.prog 18 #[.pointer (some ⟨r, 0, none⟩), .slice A xs.length cap, .int .i64 (N : Int), .agg #[.int .u64 (kn : Int), .int .i64 i, .int .i64 x]] w fun e w' => ∃ u, e = .returned u ∧ Done w w' r b N B (.slice A xs.length cap) u := by
  have bel : Fr [r, b] w w := Fr.refl _ _
  have hne := h.nerb
  have hle := h.le
  have hrd := OwnR.rdI ho
  go_enter Try.func18, Try.ntmps18
  refine wp_seq ?_
  refine wp_region_lit ?_
  refine st_new (cs := #[.int .u64 (kn : Int), .int .i64 i, .int .i64 x]) (t := 40) (by rfl) (run_boxV (.tmp 3) rfl (v := (.agg #[.int .u64 (kn : Int), .int .i64 i, .int .i64 x])) rfl rfl _) ?_
  intro g1 w2 B3 hb4 lo5
  simp only [nf0, nf1, nf2, nf3, nf4]
  have n6 : r ≠ g1 := Nat.ne_of_lt (Nat.lt_of_lt_of_le h.ltr lo5)
  have n7 : b ≠ g1 := Nat.ne_of_lt (Nat.lt_of_lt_of_le h.ltb lo5)
  have n8 := ho.off lo5
  replace lo5 := low_fr bel lo5
  replace h := h.below hb4
  replace ho := ho.same hb4
  replace hrd := hrd.same hb4
  replace bel := fr_step bel hb4
  clear hb4
  refine st_mv (.slice none 0 0) ?_
  simp only [nf0, nf1, nf2, nf3, nf4]
  refine st_mv (.bool false) ?_
  simp only [nf0, nf1, nf2, nf3, nf4]
  refine wpList_nil ?_
  show Code.wp _ _ _ _ _
  refine wp_seq ?_
  refine wp_region_lit ?_
  refine st_value (v := (.pointer (some ⟨g1, 1, none⟩))) (by rfl) (run_fieldA (.tmp 7) rfl s13_fld_40_1 rfl rfl w2) ?_
  simp only [nf0, nf1, nf2, nf3, nf4]
  refine st_value (v := (.int .i64 i)) (by rfl) (run_loadB (.tmp 21) rfl s13_one_3 rfl B3 rfl) ?_
  simp only [nf0, nf1, nf2, nf3, nf4]
  refine st_mv (.int .i64 i) ?_
  simp only [nf0, nf1, nf2, nf3, nf4]
  refine wpList_nil ?_
  show Code.wp _ _ _ _ _
  refine wp_seq ?_
  refine wp_seq ?_
  refine wp_region_lit ?_
  refine st_value (v := (.pointer (some ⟨g1, 0, none⟩))) (by rfl) (run_fieldA (.tmp 7) rfl s13_fld_40_0 rfl rfl w2) ?_
  simp only [nf0, nf1, nf2, nf3, nf4]
  refine st_value (v := (.int .u64 (kn : Int))) (by rfl) (run_loadB (.tmp 23) rfl s13_one_38 rfl B3 rfl) ?_
  simp only [nf0, nf1, nf2, nf3, nf4]
  refine st_value (v := (.int .u64 1)) (by rfl) (run_remC (.tmp 24) (.const (.int .u64 8)) (k := .u64) (m := kn) (n := 8) rfl rfl rfl (by omega) hk w2) ?_
  simp only [nf0, nf1, nf2, nf3, nf4]
  refine wpList_nil ?_
  show Code.wp _ _ _ _ _
  refine wp_block ?_
  refine wp_seq ?_
  refine wp_seq ?_
  refine wp_region_lit ?_
  refine st_value (v := (.bool false)) (by rfl) (run_eql_int_f (.tmp 25) (.const (.int .u64 0)) rfl rfl rfl (by decide) w2) ?_
  simp only [nf0, nf1, nf2, nf3, nf4]
  refine st_mv (.bool false) ?_
  simp only [nf0, nf1, nf2, nf3, nf4]
  refine wpList_nil ?_
  show Code.wp _ _ _ _ _
  refine wp_cond_false rfl ?_
  refine wp_seq ?_
  refine wp_region_lit ?_
  refine st_value (v := (.bool true)) (by rfl) (run_eql_int_t (.tmp 25) (.const (.int .u64 1)) rfl rfl rfl rfl w2) ?_
  simp only [nf0, nf1, nf2, nf3, nf4]
  refine st_mv (.bool true) ?_
  simp only [nf0, nf1, nf2, nf3, nf4]
  refine wpList_nil ?_
  show Code.wp _ _ _ _ _
  refine wp_cond_true rfl ?_
  refine wp_skip ?_
  show Code.wp _ _ _ _ _
  refine wp_cond_true rfl ?_
  refine wp_seq ?_
  refine wp_region_lit ?_
  refine st_mv (.bool false) ?_
  simp only [nf0, nf1, nf2, nf3, nf4]
  refine wpList_nil ?_
  show Code.wp _ _ _ _ _
  refine wp_seq ?_
  refine wp_seq ?_
  refine wp_region_lit ?_
  refine st_value (v := (.pointer (some ⟨g1, 0, none⟩))) (by rfl) (run_fieldA (.tmp 7) rfl s13_fld_40_0 rfl rfl w2) ?_
  simp only [nf0, nf1, nf2, nf3, nf4]
  refine st_value (v := (.int .u64 (kn : Int))) (by rfl) (run_loadB (.tmp 31) rfl s13_one_38 rfl B3 rfl) ?_
  simp only [nf0, nf1, nf2, nf3, nf4]
  refine st_value (v := (.int .u64 1)) (by rfl) (run_remC (.tmp 32) (.const (.int .u64 8)) (k := .u64) (m := kn) (n := 8) rfl rfl rfl (by omega) hk w2) ?_
  simp only [nf0, nf1, nf2, nf3, nf4]
  refine wpList_nil ?_
  show Code.wp _ _ _ _ _
  refine wp_block ?_
  refine wp_seq ?_
  refine wp_region_lit ?_
  refine st_value (v := (.bool false)) (by rfl) (run_eql_int_f (.tmp 33) (.const (.int .u64 2)) rfl rfl rfl (by decide) w2) ?_
  simp only [nf0, nf1, nf2, nf3, nf4]
  refine st_mv (.bool false) ?_
  simp only [nf0, nf1, nf2, nf3, nf4]
  refine wpList_nil ?_
  show Code.wp _ _ _ _ _
  refine wp_cond_false rfl ?_
  refine wp_seq ?_
  refine wp_region_lit ?_
  refine st_value (v := (.bool false)) (by rfl) (run_eql_int_f (.tmp 33) (.const (.int .u64 3)) rfl rfl rfl (by decide) w2) ?_
  simp only [nf0, nf1, nf2, nf3, nf4]
  refine st_mv (.bool false) ?_
  simp only [nf0, nf1, nf2, nf3, nf4]
  refine wpList_nil ?_
  show Code.wp _ _ _ _ _
  refine wp_cond_false rfl ?_
  refine wp_seq ?_
  refine wp_region_lit ?_
  refine st_mv (.slice A xs.length cap) ?_
  simp only [nf0, nf1, nf2, nf3, nf4]
  refine st_value (v := (.int .i64 (xs.length : Int))) (by rfl) (run_len (.tmp 34) rfl ⟨_, Try.underlying22⟩ rfl w2) ?_
  simp only [nf0, nf1, nf2, nf3, nf4]
  refine st_mv (.int .i64 (xs.length : Int)) ?_
  simp only [nf0, nf1, nf2, nf3, nf4]
  refine wpList_nil ?_
  show Code.wp _ _ _ _ _
  refine wp_region_lit ?_
  refine st_mv (.pointer (some ⟨r, 0, none⟩)) ?_
  simp only [nf0, nf1, nf2, nf3, nf4]
  refine st_value (v := (.pointer (some ⟨g1, 2, none⟩))) (by rfl) (run_fieldA (.tmp 7) rfl s13_fld_40_2 rfl rfl w2) ?_
  simp only [nf0, nf1, nf2, nf3, nf4]
  refine st_value (v := (.int .i64 x)) (by rfl) (run_loadB (.tmp 37) rfl s13_one_3 rfl B3 rfl) ?_
  simp only [nf0, nf1, nf2, nf3, nf4]
  refine st_call (by rfl) (s13_run_call_10_2 (.tmp 36) (.tmp 38) rfl rfl rfl _) (back_no h (by omega) x) ?_
  rintro _ w10 ⟨rfl, R9, hf11⟩
  simp only [nf0, nf1, nf2, nf3, nf4]
  replace ho := ho.fr hf11 (of2 n1 n2)
  replace B3 := B3.fr hf11 (ni2 n6.symm n7.symm)
  replace bel := fr_call bel hf11 (by simp)
  replace hrd := OwnR.rdI ho
  clear hf11
  clear h
  refine st_mv (.bool false) ?_
  simp only [nf0, nf1, nf2, nf3, nf4]
  refine wpList_nil ?_
  show Code.wp _ _ _ _ _
  refine wp_seq ?_
  cases hg12 : decide ((xs.length : Int) < (N : Int))
  rotate_left
  · have hp14 := of_decide_eq_true hg12
    exfalso
    omega
  have hp13 := of_decide_eq_false hg12
  refine wp_region_lit ?_
  refine st_mv (.slice A xs.length cap) ?_
  simp only [nf0, nf1, nf2, nf3, nf4]
  refine st_value (v := (.int .i64 (xs.length : Int))) (by rfl) (run_len (.tmp 53) rfl ⟨_, Try.underlying22⟩ rfl w10) ?_
  simp only [nf0, nf1, nf2, nf3, nf4]
  refine st_mv (.int .i64 (N : Int)) ?_
  simp only [nf0, nf1, nf2, nf3, nf4]
  refine st_value (v := (.bool false)) (by rfl) ((run_lss (.tmp 54) (.tmp 55) rfl rfl rfl w10).trans (by rw [hg12])) ?_
  simp only [nf0, nf1, nf2, nf3, nf4]
  refine st_mv (.bool false) ?_
  simp only [nf0, nf1, nf2, nf3, nf4]
  refine st_nob (j := 4) (t := 57) (c := false) rfl rfl rfl rfl rfl ?_
  simp only [nf0, nf1, nf2, nf3, nf4]
  refine st_nob (j := 4) (t := 57) (c := false) rfl rfl rfl rfl rfl ?_
  simp only [nf0, nf1, nf2, nf3, nf4]
  refine st_mv (.bool false) ?_
  simp only [nf0, nf1, nf2, nf3, nf4]
  refine st_mv (.bool false) ?_
  simp only [nf0, nf1, nf2, nf3, nf4]
  refine st_nob (j := 8) (t := 61) (c := false) rfl rfl rfl rfl rfl ?_
  simp only [nf0, nf1, nf2, nf3, nf4]
  refine st_nob (j := 8) (t := 61) (c := false) rfl rfl rfl rfl rfl ?_
  simp only [nf0, nf1, nf2, nf3, nf4]
  refine st_nob (j := 8) (t := 61) (c := false) rfl rfl rfl rfl rfl ?_
  simp only [nf0, nf1, nf2, nf3, nf4]
  refine st_nob (j := 8) (t := 61) (c := false) rfl rfl rfl rfl rfl ?_
  simp only [nf0, nf1, nf2, nf3, nf4]
  refine st_mv (.bool false) ?_
  simp only [nf0, nf1, nf2, nf3, nf4]
  refine st_mv (.bool false) ?_
  simp only [nf0, nf1, nf2, nf3, nf4]
  refine wpList_nil ?_
  show Code.wp _ _ _ _ _
  refine wp_seq ?_
  refine wp_seq ?_
  refine wp_region_lit ?_
  refine st_mv (.bool false) ?_
  simp only [nf0, nf1, nf2, nf3, nf4]
  refine wpList_nil ?_
  show Code.wp _ _ _ _ _
  refine wp_cond_false rfl ?_
  refine wp_skip ?_
  show Code.wp _ _ _ _ _
  refine wp_seq ?_
  refine wp_region_lit ?_
  refine st_mv (.slice A xs.length cap) ?_
  simp only [nf0, nf1, nf2, nf3, nf4]
  refine st_mv (.bool false) ?_
  simp only [nf0, nf1, nf2, nf3, nf4]
  refine st_mv (.bool false) ?_
  simp only [nf0, nf1, nf2, nf3, nf4]
  refine st_value (v := (.bool true)) (by rfl) (runm_eql_bool (.tmp 74) (.tmp 75) rfl Try.underlying4 (b := false) (c := false) rfl rfl w10) ?_
  simp only [nf0, nf1, nf2, nf3, nf4]
  refine st_mv (.slice A xs.length cap) ?_
  simp only [nf0, nf1, nf2, nf3, nf4]
  refine st_mv (.bool true) ?_
  simp only [nf0, nf1, nf2, nf3, nf4]
  refine wpList_nil ?_
  show Code.wp _ _ _ _ _
  refine wp_ret ?_
  first | show bodyPost _ _ _ _ _ _ | (simp only [Exit.then, Exit.inBlock]; show bodyPost _ _ _ _ _ _)
  exact bodyPost_ret (results_tmp2 rfl _ _ _) rfl ⟨_, rfl, _, _, rfl, R9, ho, .inl rfl, bel⟩
end Go.Proofs.Ytdhhcjhinpmeeaa

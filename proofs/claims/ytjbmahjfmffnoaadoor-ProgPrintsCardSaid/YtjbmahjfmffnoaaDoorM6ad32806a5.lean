/- Lemmas that the chapter's laws rest on: PgCheck, Bld, BldW, BldS, PgPrint, PgSame. -/
import Derived.Test.YtjbmahjfmffnoaaDoorMc4750e884d
import Derived.Lib.Builder
import Derived.Lib.AppendStr
import Derived.Lib.UnsafeStr
import Derived.Laws.Externs
/- prog.Check. -/
namespace Go.Proofs.YtjbmahjfmffnoaaDoor
open Go.RowKit Go.WideShapes Go.ChangeShapes
set_option linter.unusedSimpArgs false
set_option linter.unusedVariables false

theorem c_fld_35_0 : FieldAt Tryd.prog 35 0 0 := fieldAt_of (s := 0) Tryd.underlying35 (by kernel_rfl)
theorem c_one_3 : One Tryd.prog 3 := one_of Tryd.underlying3 rfl (by kernel_rfl)
theorem c_fld_35_3 : FieldAt Tryd.prog 35 3 3 := fieldAt_of (s := 0) Tryd.underlying35 (by kernel_rfl)
theorem c_one_21 : One Tryd.prog 21 := one_of Tryd.underlying21 rfl (by kernel_rfl)
theorem c_zero_56 : ZeroOf Tryd.prog 56 #[.bool false, .bool false, .bool false] := zeroOf (z := .agg #[.bool false, .bool false, .bool false]) (by kernel_rfl) rfl
theorem c_fld_56_0 : FieldAt Tryd.prog 56 0 0 := fieldAt_of (s := 0) Tryd.underlying56 (by kernel_rfl)
theorem c_one_4 : One Tryd.prog 4 := one_of Tryd.underlying4 rfl (by kernel_rfl)
theorem c_fld_35_1 : FieldAt Tryd.prog 35 1 1 := fieldAt_of (s := 0) Tryd.underlying35 (by kernel_rfl)
theorem c_fld_56_1 : FieldAt Tryd.prog 56 1 1 := fieldAt_of (s := 0) Tryd.underlying56 (by kernel_rfl)
theorem c_fld_35_2 : FieldAt Tryd.prog 35 2 2 := fieldAt_of (s := 0) Tryd.underlying35 (by kernel_rfl)
theorem c_run_call_8_1 {o : Oper} {a : Act} (x0 : Operand) {ts : Array TypeId} (ho : o.op = .call { callee := .value (.func 8), args := #[x0], argTypes := ts }) {v0 : Value} (h0 : a.eval x0 = v0) (W : World) : (execOp a.eval o).run Tryd.prog W = .ok (.enter 8 #[v0]) W := by
  unfold execOp
  simp only [ho]
  subst h0
  go_simp
theorem c_run_call_28_1 {o : Oper} {a : Act} (x0 : Operand) {ts : Array TypeId} (ho : o.op = .call { callee := .value (.func 28), args := #[x0], argTypes := ts }) {v0 : Value} (h0 : a.eval x0 = v0) (W : World) : (execOp a.eval o).run Tryd.prog W = .ok (.enter 28 #[v0]) W := by
  unfold execOp
  simp only [ho]
  subst h0
  go_simp
theorem c_run_call_29_2 {o : Oper} {a : Act} (x0 : Operand) (x1 : Operand) {ts : Array TypeId} (ho : o.op = .call { callee := .value (.func 29), args := #[x0, x1], argTypes := ts }) {v0 : Value} (h0 : a.eval x0 = v0) {v1 : Value} (h1 : a.eval x1 = v1) (W : World) : (execOp a.eval o).run Tryd.prog W = .ok (.enter 29 #[v0, v1]) W := by
  unfold execOp
  simp only [ho]
  subst h0 h1
  go_simp
theorem c_run_call_30_2 {o : Oper} {a : Act} (x0 : Operand) (x1 : Operand) {ts : Array TypeId} (ho : o.op = .call { callee := .value (.func 30), args := #[x0, x1], argTypes := ts }) {v0 : Value} (h0 : a.eval x0 = v0) {v1 : Value} (h1 : a.eval x1 = v1) (W : World) : (execOp a.eval o).run Tryd.prog W = .ok (.enter 30 #[v0, v1]) W := by
  unfold execOp
  simp only [ho]
  subst h0 h1
  go_simp
theorem c_fld_24_0 : FieldAt Tryd.prog 24 0 0 := fieldAt_of (s := 0) Tryd.underlying24 (by kernel_rfl)
theorem c_fld_24_1 : FieldAt Tryd.prog 24 1 1 := fieldAt_of (s := 0) Tryd.underlying24 (by kernel_rfl)
theorem c_one_22 : One Tryd.prog 22 := one_of Tryd.underlying22 rfl (by kernel_rfl)
theorem c_zero_35 : ZeroOf Tryd.prog 35 #[.int .i64 0, .int .i64 0, .int .i64 0, .int .i32 0] := zeroOf (z := .agg #[.int .i64 0, .int .i64 0, .int .i64 0, .int .i32 0]) (by kernel_rfl) rfl
theorem c_run_call_15_2 {o : Oper} {a : Act} (x0 : Operand) (x1 : Operand) {ts : Array TypeId} (ho : o.op = .call { callee := .value (.func 15), args := #[x0, x1], argTypes := ts }) {v0 : Value} (h0 : a.eval x0 = v0) {v1 : Value} (h1 : a.eval x1 = v1) (W : World) : (execOp a.eval o).run Tryd.prog W = .ok (.enter 15 #[v0, v1]) W := by
  unfold execOp
  simp only [ho]
  subst h0 h1
  go_simp
theorem Reads.cellE {α : Type} {E : Enc α} {w : World} {b off i j : Nat} {xs : List α} {u : α} {v : Value} (h : Reads w (some ⟨b, off, none⟩) (E.all xs)) (hu : xs[i]? = some u) (hv : (E.enc u)[j]? = some v) : w.cell? ⟨b, off + i * E.sz + j, none⟩ = some v := by
  have hj : j < E.sz := by rw [← E.len u]; exact (List.getElem?_eq_some_iff.1 hv).1
  obtain ⟨b', off', e, hc⟩ := h (i * E.sz + j) v (by rw [E.all_get xs i j u hu hj]; exact hv)
  injection e with e; injection e with e1 e2; subst e1 e2
  rw [Nat.add_assoc]
  exact hc
section
variable {P : Program} {o : Oper} {a : Act} (x y : Operand) {t : TypeId} {W : World}
theorem run_loadC (ho : o.op = .load t x) (T : One P t) {b k : Nat} (hx : a.eval x = .pointer (some ⟨b, k, none⟩)) {v : Value} (hc : W.cell? ⟨b, k, none⟩ = some v) : (execOp a.eval o).run P W = .ok (.value v) W := by
  obtain ⟨d, z, h1, h2, h3, h4⟩ := T
  exact run_load1 x ho h1 (by cases d <;> first | rfl | cases h2) ⟨z, h3, h4⟩ hx hc
end
theorem run_conv_i32_i64 {P : Program} {o : Oper} {a : Act} {t t' : TypeId} (x : Operand) {z : Int} (ho : o.op = .convert t t' x) (ht : P.underlying t = some (.int .i32)) (ht' : P.underlying t' = some (.int .i64)) (hx : a.eval x = .int .i32 z) (hz : -9223372036854775808 ≤ z ∧ z ≤ 9223372036854775807) (W : World) : (execOp a.eval o).run P W = .ok (.value (.int .i64 z)) W := by
  have h1 := IntWalk.i64_in z hz
  unfold execOp; simp only [ho, hx]
  simp [convert, run_underlying ht, run_underlying ht', go_sem, h1]

attribute [local irreducible] Go.wpList Go.Code.wp
set_option maxRecDepth 100000 in
set_option maxHeartbeats 4000000 in
theorem numE_at (p : TIns) (hp : okIns p) (n : Int) (w : World) : Calls Tryd.prog 30 #[.agg (eIns.enc p).toArray, .int .i64 n] w fun e w' => e = .returned (.int .i64 (numE p.1 p.2.2.2 n)) ∧ Below w.heap.size w w' := by
  have bel : Below w.heap.size w w := Below.refl _ _
  go_enter Tryd.func30, Tryd.ntmps30
  refine wp_seq ?_
  refine wp_region_lit ?_
  refine st_new (cs := #[.int .i64 p.1, .int .i64 p.2.1, .int .i64 p.2.2.1, .int .i32 p.2.2.2]) (t := 35) (by rfl) (run_boxV (.tmp 0) rfl (v := (.agg #[.int .i64 p.1, .int .i64 p.2.1, .int .i64 p.2.2.1, .int .i32 p.2.2.2])) rfl rfl _) ?_
  intro g1 w2 B3 hb4 lo5
  simp only [nf0, nf1, nf2, nf3, nf4]
  replace lo5 := low_le bel lo5
  replace bel := bl_step bel hb4
  clear hb4
  refine st_mv (.int .i64 0) ?_
  simp only [nf0, nf1, nf2, nf3, nf4]
  refine wpList_nil ?_
  show Code.wp _ _ _ _ _
  refine wp_seq ?_
  refine wp_region_lit ?_
  refine st_mv (.int .i32 0) ?_
  simp only [nf0, nf1, nf2, nf3, nf4]
  refine wpList_nil ?_
  show Code.wp _ _ _ _ _
  refine wp_seq ?_
  refine wp_seq ?_
  refine wp_region_lit ?_
  refine st_value (v := (.pointer (some ⟨g1, 0, none⟩))) (by rfl) (run_fieldA (.tmp 2) rfl c_fld_35_0 rfl rfl w2) ?_
  simp only [nf0, nf1, nf2, nf3, nf4]
  refine st_value (v := (.int .i64 p.1)) (by rfl) (run_loadB (.tmp 6) rfl c_one_3 rfl B3 rfl) ?_
  simp only [nf0, nf1, nf2, nf3, nf4]
  refine wpList_nil ?_
  show Code.wp _ _ _ _ _
  refine wp_block ?_
  refine wp_seq ?_
  refine wp_region_lit ?_
  refine st_value (v := (.bool (decide (p.1 = 1)))) (by rfl) (run_eql_int (.tmp 7) (.const (.int .i64 1)) rfl rfl rfl w2) ?_
  simp only [nf0, nf1, nf2, nf3, nf4]
  refine st_mv (.bool (decide (p.1 = 1))) ?_
  simp only [nf0, nf1, nf2, nf3, nf4]
  refine wpList_nil ?_
  show Code.wp _ _ _ _ _
  cases hg6 : decide (p.1 = 1)
  rotate_left
  · have hp68 := of_decide_eq_true hg6
    refine wp_cond_true rfl ?_
    refine wp_seq ?_
    refine wp_region_lit ?_
    refine st_mv (.int .i64 0) ?_
    simp only [nf0, nf1, nf2, nf3, nf4]
    refine wpList_nil ?_
    show Code.wp _ _ _ _ _
    refine wp_ret ?_
    first | show bodyPost _ _ _ _ _ _ | (simp only [Exit.then, Exit.inBlock]; show bodyPost _ _ _ _ _ _)
    have hE : numE p.1 p.2.2.2 n = 0 := by unfold numE; (repeat' split) <;> omega
    exact bodyPost_ret (results_tmp rfl _ _ _) rfl ⟨by rw [hE]; rfl, bel⟩
  have hp7 := of_decide_eq_false hg6
  refine wp_cond_false rfl ?_
  refine wp_seq ?_
  refine wp_seq ?_
  refine wp_region_lit ?_
  refine st_value (v := (.bool (decide (p.1 = 4)))) (by rfl) (run_eql_int (.tmp 7) (.const (.int .i64 4)) rfl rfl rfl w2) ?_
  simp only [nf0, nf1, nf2, nf3, nf4]
  refine st_mv (.bool (decide (p.1 = 4))) ?_
  simp only [nf0, nf1, nf2, nf3, nf4]
  refine wpList_nil ?_
  show Code.wp _ _ _ _ _
  cases hg8 : decide (p.1 = 4)
  rotate_left
  · have hp61 := of_decide_eq_true hg8
    refine wp_cond_true rfl ?_
    refine wp_skip ?_
    show Code.wp _ _ _ _ _
    refine wp_cond_true rfl ?_
    refine wp_seq ?_
    refine wp_seq ?_
    cases hg62 : decide (p.2.2.2 < 0)
    rotate_left
    · have hp67 := of_decide_eq_true hg62
      refine wp_region_lit ?_
      refine st_value (v := (.pointer (some ⟨g1, 3, none⟩))) (by rfl) (run_fieldA (.tmp 2) rfl c_fld_35_3 rfl rfl w2) ?_
      simp only [nf0, nf1, nf2, nf3, nf4]
      refine st_value (v := (.int .i32 p.2.2.2)) (by rfl) (run_loadB (.tmp 13) rfl c_one_21 rfl B3 rfl) ?_
      simp only [nf0, nf1, nf2, nf3, nf4]
      refine st_value (v := (.bool true)) (by rfl) ((run_lss (.tmp 14) (.const (.int .i32 0)) rfl rfl rfl w2).trans (by rw [hg62])) ?_
      simp only [nf0, nf1, nf2, nf3, nf4]
      refine st_mv (.bool true) ?_
      simp only [nf0, nf1, nf2, nf3, nf4]
      refine st_nob (j := 3) (t := 16) (c := true) rfl rfl rfl rfl rfl ?_
      simp only [nf0, nf1, nf2, nf3, nf4]
      refine st_nob (j := 3) (t := 16) (c := true) rfl rfl rfl rfl rfl ?_
      simp only [nf0, nf1, nf2, nf3, nf4]
      refine st_nob (j := 3) (t := 16) (c := true) rfl rfl rfl rfl rfl ?_
      simp only [nf0, nf1, nf2, nf3, nf4]
      refine st_nob (j := 3) (t := 16) (c := true) rfl rfl rfl rfl rfl ?_
      simp only [nf0, nf1, nf2, nf3, nf4]
      refine st_nob (j := 3) (t := 16) (c := true) rfl rfl rfl rfl rfl ?_
      simp only [nf0, nf1, nf2, nf3, nf4]
      refine st_mv (.bool true) ?_
      simp only [nf0, nf1, nf2, nf3, nf4]
      refine wpList_nil ?_
      show Code.wp _ _ _ _ _
      refine wp_cond_true rfl ?_
      refine wp_seq ?_
      refine wp_region_lit ?_
      refine st_mv (.int .i64 32) ?_
      simp only [nf0, nf1, nf2, nf3, nf4]
      refine wpList_nil ?_
      show Code.wp _ _ _ _ _
      refine wp_ret ?_
      first | show bodyPost _ _ _ _ _ _ | (simp only [Exit.then, Exit.inBlock]; show bodyPost _ _ _ _ _ _)
      have hE : numE p.1 p.2.2.2 n = 32 := by unfold numE; (repeat' split) <;> omega
      exact bodyPost_ret (results_tmp rfl _ _ _) rfl ⟨by rw [hE]; rfl, bel⟩
    have hp63 := of_decide_eq_false hg62
    refine wp_region_lit ?_
    refine st_value (v := (.pointer (some ⟨g1, 3, none⟩))) (by rfl) (run_fieldA (.tmp 2) rfl c_fld_35_3 rfl rfl w2) ?_
    simp only [nf0, nf1, nf2, nf3, nf4]
    refine st_value (v := (.int .i32 p.2.2.2)) (by rfl) (run_loadB (.tmp 13) rfl c_one_21 rfl B3 rfl) ?_
    simp only [nf0, nf1, nf2, nf3, nf4]
    refine st_value (v := (.bool false)) (by rfl) ((run_lss (.tmp 14) (.const (.int .i32 0)) rfl rfl rfl w2).trans (by rw [hg62])) ?_
    simp only [nf0, nf1, nf2, nf3, nf4]
    refine st_mv (.bool false) ?_
    simp only [nf0, nf1, nf2, nf3, nf4]
    refine st_value (v := (.pointer (some ⟨g1, 3, none⟩))) (by rfl) (run_fieldA (.tmp 2) rfl c_fld_35_3 rfl rfl w2) ?_
    simp only [nf0, nf1, nf2, nf3, nf4]
    refine st_value (v := (.int .i32 p.2.2.2)) (by rfl) (run_loadB (.tmp 17) rfl c_one_21 rfl B3 rfl) ?_
    simp only [nf0, nf1, nf2, nf3, nf4]
    refine st_value (v := (.int .i64 p.2.2.2)) (by rfl) (run_conv_i32_i64 (.tmp 18) rfl Tryd.underlying21 Tryd.underlying3 (z := p.2.2.2) rfl (by have h_ := hp.2.2.2; omega) w2) ?_
    simp only [nf0, nf1, nf2, nf3, nf4]
    refine st_mv (.int .i64 n) ?_
    simp only [nf0, nf1, nf2, nf3, nf4]
    refine st_value (v := (.bool (decide (n ≤ p.2.2.2)))) (by rfl) (run_geq (.tmp 19) (.tmp 20) rfl rfl rfl w2) ?_
    simp only [nf0, nf1, nf2, nf3, nf4]
    refine st_mv (.bool (decide (n ≤ p.2.2.2))) ?_
    simp only [nf0, nf1, nf2, nf3, nf4]
    refine wpList_nil ?_
    show Code.wp _ _ _ _ _
    cases hg64 : decide (n ≤ p.2.2.2)
    rotate_left
    · have hp66 := of_decide_eq_true hg64
      refine wp_cond_true rfl ?_
      refine wp_seq ?_
      refine wp_region_lit ?_
      refine st_mv (.int .i64 32) ?_
      simp only [nf0, nf1, nf2, nf3, nf4]
      refine wpList_nil ?_
      show Code.wp _ _ _ _ _
      refine wp_ret ?_
      first | show bodyPost _ _ _ _ _ _ | (simp only [Exit.then, Exit.inBlock]; show bodyPost _ _ _ _ _ _)
      have hE : numE p.1 p.2.2.2 n = 32 := by unfold numE; (repeat' split) <;> omega
      exact bodyPost_ret (results_tmp rfl _ _ _) rfl ⟨by rw [hE]; rfl, bel⟩
    have hp65 := of_decide_eq_false hg64
    refine wp_cond_false rfl ?_
    refine wp_skip ?_
    show Code.wp _ _ _ _ _
    refine wp_seq ?_
    refine wp_region_lit ?_
    refine st_mv (.int .i64 0) ?_
    simp only [nf0, nf1, nf2, nf3, nf4]
    refine wpList_nil ?_
    show Code.wp _ _ _ _ _
    refine wp_ret ?_
    first | show bodyPost _ _ _ _ _ _ | (simp only [Exit.then, Exit.inBlock]; show bodyPost _ _ _ _ _ _)
    have hE : numE p.1 p.2.2.2 n = 0 := by unfold numE; (repeat' split) <;> omega
    exact bodyPost_ret (results_tmp rfl _ _ _) rfl ⟨by rw [hE]; rfl, bel⟩
  have hp9 := of_decide_eq_false hg8
  refine wp_cond_false rfl ?_
  refine wp_region_lit ?_
  refine st_value (v := (.bool (decide (p.1 = 5)))) (by rfl) (run_eql_int (.tmp 7) (.const (.int .i64 5)) rfl rfl rfl w2) ?_
  simp only [nf0, nf1, nf2, nf3, nf4]
  refine st_mv (.bool (decide (p.1 = 5))) ?_
  simp only [nf0, nf1, nf2, nf3, nf4]
  refine wpList_nil ?_
  show Code.wp _ _ _ _ _
  cases hg10 : decide (p.1 = 5)
  rotate_left
  · have hp54 := of_decide_eq_true hg10
    refine wp_cond_true rfl ?_
    refine wp_seq ?_
    refine wp_seq ?_
    cases hg55 : decide (p.2.2.2 < 0)
    rotate_left
    · have hp60 := of_decide_eq_true hg55
      refine wp_region_lit ?_
      refine st_value (v := (.pointer (some ⟨g1, 3, none⟩))) (by rfl) (run_fieldA (.tmp 2) rfl c_fld_35_3 rfl rfl w2) ?_
      simp only [nf0, nf1, nf2, nf3, nf4]
      refine st_value (v := (.int .i32 p.2.2.2)) (by rfl) (run_loadB (.tmp 13) rfl c_one_21 rfl B3 rfl) ?_
      simp only [nf0, nf1, nf2, nf3, nf4]
      refine st_value (v := (.bool true)) (by rfl) ((run_lss (.tmp 14) (.const (.int .i32 0)) rfl rfl rfl w2).trans (by rw [hg55])) ?_
      simp only [nf0, nf1, nf2, nf3, nf4]
      refine st_mv (.bool true) ?_
      simp only [nf0, nf1, nf2, nf3, nf4]
      refine st_nob (j := 3) (t := 16) (c := true) rfl rfl rfl rfl rfl ?_
      simp only [nf0, nf1, nf2, nf3, nf4]
      refine st_nob (j := 3) (t := 16) (c := true) rfl rfl rfl rfl rfl ?_
      simp only [nf0, nf1, nf2, nf3, nf4]
      refine st_nob (j := 3) (t := 16) (c := true) rfl rfl rfl rfl rfl ?_
      simp only [nf0, nf1, nf2, nf3, nf4]
      refine st_nob (j := 3) (t := 16) (c := true) rfl rfl rfl rfl rfl ?_
      simp only [nf0, nf1, nf2, nf3, nf4]
      refine st_nob (j := 3) (t := 16) (c := true) rfl rfl rfl rfl rfl ?_
      simp only [nf0, nf1, nf2, nf3, nf4]
      refine st_mv (.bool true) ?_
      simp only [nf0, nf1, nf2, nf3, nf4]
      refine wpList_nil ?_
      show Code.wp _ _ _ _ _
      refine wp_cond_true rfl ?_
      refine wp_seq ?_
      refine wp_region_lit ?_
      refine st_mv (.int .i64 32) ?_
      simp only [nf0, nf1, nf2, nf3, nf4]
      refine wpList_nil ?_
      show Code.wp _ _ _ _ _
      refine wp_ret ?_
      first | show bodyPost _ _ _ _ _ _ | (simp only [Exit.then, Exit.inBlock]; show bodyPost _ _ _ _ _ _)
      have hE : numE p.1 p.2.2.2 n = 32 := by unfold numE; (repeat' split) <;> omega
      exact bodyPost_ret (results_tmp rfl _ _ _) rfl ⟨by rw [hE]; rfl, bel⟩
    have hp56 := of_decide_eq_false hg55
    refine wp_region_lit ?_
    refine st_value (v := (.pointer (some ⟨g1, 3, none⟩))) (by rfl) (run_fieldA (.tmp 2) rfl c_fld_35_3 rfl rfl w2) ?_
    simp only [nf0, nf1, nf2, nf3, nf4]
    refine st_value (v := (.int .i32 p.2.2.2)) (by rfl) (run_loadB (.tmp 13) rfl c_one_21 rfl B3 rfl) ?_
    simp only [nf0, nf1, nf2, nf3, nf4]
    refine st_value (v := (.bool false)) (by rfl) ((run_lss (.tmp 14) (.const (.int .i32 0)) rfl rfl rfl w2).trans (by rw [hg55])) ?_
    simp only [nf0, nf1, nf2, nf3, nf4]
    refine st_mv (.bool false) ?_
    simp only [nf0, nf1, nf2, nf3, nf4]
    refine st_value (v := (.pointer (some ⟨g1, 3, none⟩))) (by rfl) (run_fieldA (.tmp 2) rfl c_fld_35_3 rfl rfl w2) ?_
    simp only [nf0, nf1, nf2, nf3, nf4]
    refine st_value (v := (.int .i32 p.2.2.2)) (by rfl) (run_loadB (.tmp 17) rfl c_one_21 rfl B3 rfl) ?_
    simp only [nf0, nf1, nf2, nf3, nf4]
    refine st_value (v := (.int .i64 p.2.2.2)) (by rfl) (run_conv_i32_i64 (.tmp 18) rfl Tryd.underlying21 Tryd.underlying3 (z := p.2.2.2) rfl (by have h_ := hp.2.2.2; omega) w2) ?_
    simp only [nf0, nf1, nf2, nf3, nf4]
    refine st_mv (.int .i64 n) ?_
    simp only [nf0, nf1, nf2, nf3, nf4]
    refine st_value (v := (.bool (decide (n ≤ p.2.2.2)))) (by rfl) (run_geq (.tmp 19) (.tmp 20) rfl rfl rfl w2) ?_
    simp only [nf0, nf1, nf2, nf3, nf4]
    refine st_mv (.bool (decide (n ≤ p.2.2.2))) ?_
    simp only [nf0, nf1, nf2, nf3, nf4]
    refine wpList_nil ?_
    show Code.wp _ _ _ _ _
    cases hg57 : decide (n ≤ p.2.2.2)
    rotate_left
    · have hp59 := of_decide_eq_true hg57
      refine wp_cond_true rfl ?_
      refine wp_seq ?_
      refine wp_region_lit ?_
      refine st_mv (.int .i64 32) ?_
      simp only [nf0, nf1, nf2, nf3, nf4]
      refine wpList_nil ?_
      show Code.wp _ _ _ _ _
      refine wp_ret ?_
      first | show bodyPost _ _ _ _ _ _ | (simp only [Exit.then, Exit.inBlock]; show bodyPost _ _ _ _ _ _)
      have hE : numE p.1 p.2.2.2 n = 32 := by unfold numE; (repeat' split) <;> omega
      exact bodyPost_ret (results_tmp rfl _ _ _) rfl ⟨by rw [hE]; rfl, bel⟩
    have hp58 := of_decide_eq_false hg57
    refine wp_cond_false rfl ?_
    refine wp_skip ?_
    show Code.wp _ _ _ _ _
    refine wp_seq ?_
    refine wp_region_lit ?_
    refine st_mv (.int .i64 0) ?_
    simp only [nf0, nf1, nf2, nf3, nf4]
    refine wpList_nil ?_
    show Code.wp _ _ _ _ _
    refine wp_ret ?_
    first | show bodyPost _ _ _ _ _ _ | (simp only [Exit.then, Exit.inBlock]; show bodyPost _ _ _ _ _ _)
    have hE : numE p.1 p.2.2.2 n = 0 := by unfold numE; (repeat' split) <;> omega
    exact bodyPost_ret (results_tmp rfl _ _ _) rfl ⟨by rw [hE]; rfl, bel⟩
  have hp11 := of_decide_eq_false hg10
  refine wp_cond_false rfl ?_
  refine wp_seq ?_
  refine wp_seq ?_
  refine wp_region_lit ?_
  refine st_value (v := (.bool (decide (p.1 = 7)))) (by rfl) (run_eql_int (.tmp 7) (.const (.int .i64 7)) rfl rfl rfl w2) ?_
  simp only [nf0, nf1, nf2, nf3, nf4]
  refine st_mv (.bool (decide (p.1 = 7))) ?_
  simp only [nf0, nf1, nf2, nf3, nf4]
  refine wpList_nil ?_
  show Code.wp _ _ _ _ _
  cases hg12 : decide (p.1 = 7)
  rotate_left
  · have hp47 := of_decide_eq_true hg12
    refine wp_cond_true rfl ?_
    refine wp_skip ?_
    show Code.wp _ _ _ _ _
    refine wp_cond_true rfl ?_
    refine wp_region_lit ?_
    refine st_mv (.int .i32 15) ?_
    simp only [nf0, nf1, nf2, nf3, nf4]
    refine wpList_nil ?_
    show Code.wp _ _ _ _ _
    refine wp_seq ?_
    refine wp_seq ?_
    cases hg48 : decide (p.2.2.2 < 0)
    rotate_left
    · have hp53 := of_decide_eq_true hg48
      refine wp_region_lit ?_
      refine st_value (v := (.pointer (some ⟨g1, 3, none⟩))) (by rfl) (run_fieldA (.tmp 2) rfl c_fld_35_3 rfl rfl w2) ?_
      simp only [nf0, nf1, nf2, nf3, nf4]
      refine st_value (v := (.int .i32 p.2.2.2)) (by rfl) (run_loadB (.tmp 29) rfl c_one_21 rfl B3 rfl) ?_
      simp only [nf0, nf1, nf2, nf3, nf4]
      refine st_value (v := (.bool true)) (by rfl) ((run_lss (.tmp 30) (.const (.int .i32 0)) rfl rfl rfl w2).trans (by rw [hg48])) ?_
      simp only [nf0, nf1, nf2, nf3, nf4]
      refine st_mv (.bool true) ?_
      simp only [nf0, nf1, nf2, nf3, nf4]
      refine st_nob (j := 3) (t := 32) (c := true) rfl rfl rfl rfl rfl ?_
      simp only [nf0, nf1, nf2, nf3, nf4]
      refine st_nob (j := 3) (t := 32) (c := true) rfl rfl rfl rfl rfl ?_
      simp only [nf0, nf1, nf2, nf3, nf4]
      refine st_nob (j := 3) (t := 32) (c := true) rfl rfl rfl rfl rfl ?_
      simp only [nf0, nf1, nf2, nf3, nf4]
      refine st_nob (j := 3) (t := 32) (c := true) rfl rfl rfl rfl rfl ?_
      simp only [nf0, nf1, nf2, nf3, nf4]
      refine st_mv (.bool true) ?_
      simp only [nf0, nf1, nf2, nf3, nf4]
      refine wpList_nil ?_
      show Code.wp _ _ _ _ _
      refine wp_cond_true rfl ?_
      refine wp_seq ?_
      refine wp_region_lit ?_
      refine st_mv (.int .i64 26) ?_
      simp only [nf0, nf1, nf2, nf3, nf4]
      refine wpList_nil ?_
      show Code.wp _ _ _ _ _
      refine wp_ret ?_
      first | show bodyPost _ _ _ _ _ _ | (simp only [Exit.then, Exit.inBlock]; show bodyPost _ _ _ _ _ _)
      have hE : numE p.1 p.2.2.2 n = 26 := by unfold numE; (repeat' split) <;> omega
      exact bodyPost_ret (results_tmp rfl _ _ _) rfl ⟨by rw [hE]; rfl, bel⟩
    have hp49 := of_decide_eq_false hg48
    refine wp_region_lit ?_
    refine st_value (v := (.pointer (some ⟨g1, 3, none⟩))) (by rfl) (run_fieldA (.tmp 2) rfl c_fld_35_3 rfl rfl w2) ?_
    simp only [nf0, nf1, nf2, nf3, nf4]
    refine st_value (v := (.int .i32 p.2.2.2)) (by rfl) (run_loadB (.tmp 29) rfl c_one_21 rfl B3 rfl) ?_
    simp only [nf0, nf1, nf2, nf3, nf4]
    refine st_value (v := (.bool false)) (by rfl) ((run_lss (.tmp 30) (.const (.int .i32 0)) rfl rfl rfl w2).trans (by rw [hg48])) ?_
    simp only [nf0, nf1, nf2, nf3, nf4]
    refine st_mv (.bool false) ?_
    simp only [nf0, nf1, nf2, nf3, nf4]
    refine st_value (v := (.pointer (some ⟨g1, 3, none⟩))) (by rfl) (run_fieldA (.tmp 2) rfl c_fld_35_3 rfl rfl w2) ?_
    simp only [nf0, nf1, nf2, nf3, nf4]
    refine st_value (v := (.int .i32 p.2.2.2)) (by rfl) (run_loadB (.tmp 33) rfl c_one_21 rfl B3 rfl) ?_
    simp only [nf0, nf1, nf2, nf3, nf4]
    refine st_mv (.int .i32 15) ?_
    simp only [nf0, nf1, nf2, nf3, nf4]
    refine st_value (v := (.bool (decide (15 < p.2.2.2)))) (by rfl) (run_gtr (.tmp 34) (.tmp 35) rfl rfl rfl w2) ?_
    simp only [nf0, nf1, nf2, nf3, nf4]
    refine st_mv (.bool (decide (15 < p.2.2.2))) ?_
    simp only [nf0, nf1, nf2, nf3, nf4]
    refine wpList_nil ?_
    show Code.wp _ _ _ _ _
    cases hg50 : decide (15 < p.2.2.2)
    rotate_left
    · have hp52 := of_decide_eq_true hg50
      refine wp_cond_true rfl ?_
      refine wp_seq ?_
      refine wp_region_lit ?_
      refine st_mv (.int .i64 26) ?_
      simp only [nf0, nf1, nf2, nf3, nf4]
      refine wpList_nil ?_
      show Code.wp _ _ _ _ _
      refine wp_ret ?_
      first | show bodyPost _ _ _ _ _ _ | (simp only [Exit.then, Exit.inBlock]; show bodyPost _ _ _ _ _ _)
      have hE : numE p.1 p.2.2.2 n = 26 := by unfold numE; (repeat' split) <;> omega
      exact bodyPost_ret (results_tmp rfl _ _ _) rfl ⟨by rw [hE]; rfl, bel⟩
    have hp51 := of_decide_eq_false hg50
    refine wp_cond_false rfl ?_
    refine wp_skip ?_
    show Code.wp _ _ _ _ _
    refine wp_seq ?_
    refine wp_region_lit ?_
    refine st_mv (.int .i64 0) ?_
    simp only [nf0, nf1, nf2, nf3, nf4]
    refine wpList_nil ?_
    show Code.wp _ _ _ _ _
    refine wp_ret ?_
    first | show bodyPost _ _ _ _ _ _ | (simp only [Exit.then, Exit.inBlock]; show bodyPost _ _ _ _ _ _)
    have hE : numE p.1 p.2.2.2 n = 0 := by unfold numE; (repeat' split) <;> omega
    exact bodyPost_ret (results_tmp rfl _ _ _) rfl ⟨by rw [hE]; rfl, bel⟩
  have hp13 := of_decide_eq_false hg12
  refine wp_cond_false rfl ?_
  refine wp_region_lit ?_
  refine st_value (v := (.bool (decide (p.1 = 12)))) (by rfl) (run_eql_int (.tmp 7) (.const (.int .i64 12)) rfl rfl rfl w2) ?_
  simp only [nf0, nf1, nf2, nf3, nf4]
  refine st_mv (.bool (decide (p.1 = 12))) ?_
  simp only [nf0, nf1, nf2, nf3, nf4]
  refine wpList_nil ?_
  show Code.wp _ _ _ _ _
  cases hg14 : decide (p.1 = 12)
  rotate_left
  · have hp40 := of_decide_eq_true hg14
    refine wp_cond_true rfl ?_
    refine wp_region_lit ?_
    refine st_mv (.int .i32 15) ?_
    simp only [nf0, nf1, nf2, nf3, nf4]
    refine wpList_nil ?_
    show Code.wp _ _ _ _ _
    refine wp_seq ?_
    refine wp_seq ?_
    cases hg41 : decide (p.2.2.2 < 0)
    rotate_left
    · have hp46 := of_decide_eq_true hg41
      refine wp_region_lit ?_
      refine st_value (v := (.pointer (some ⟨g1, 3, none⟩))) (by rfl) (run_fieldA (.tmp 2) rfl c_fld_35_3 rfl rfl w2) ?_
      simp only [nf0, nf1, nf2, nf3, nf4]
      refine st_value (v := (.int .i32 p.2.2.2)) (by rfl) (run_loadB (.tmp 29) rfl c_one_21 rfl B3 rfl) ?_
      simp only [nf0, nf1, nf2, nf3, nf4]
      refine st_value (v := (.bool true)) (by rfl) ((run_lss (.tmp 30) (.const (.int .i32 0)) rfl rfl rfl w2).trans (by rw [hg41])) ?_
      simp only [nf0, nf1, nf2, nf3, nf4]
      refine st_mv (.bool true) ?_
      simp only [nf0, nf1, nf2, nf3, nf4]
      refine st_nob (j := 3) (t := 32) (c := true) rfl rfl rfl rfl rfl ?_
      simp only [nf0, nf1, nf2, nf3, nf4]
      refine st_nob (j := 3) (t := 32) (c := true) rfl rfl rfl rfl rfl ?_
      simp only [nf0, nf1, nf2, nf3, nf4]
      refine st_nob (j := 3) (t := 32) (c := true) rfl rfl rfl rfl rfl ?_
      simp only [nf0, nf1, nf2, nf3, nf4]
      refine st_nob (j := 3) (t := 32) (c := true) rfl rfl rfl rfl rfl ?_
      simp only [nf0, nf1, nf2, nf3, nf4]
      refine st_mv (.bool true) ?_
      simp only [nf0, nf1, nf2, nf3, nf4]
      refine wpList_nil ?_
      show Code.wp _ _ _ _ _
      refine wp_cond_true rfl ?_
      refine wp_seq ?_
      refine wp_region_lit ?_
      refine st_mv (.int .i64 26) ?_
      simp only [nf0, nf1, nf2, nf3, nf4]
      refine wpList_nil ?_
      show Code.wp _ _ _ _ _
      refine wp_ret ?_
      first | show bodyPost _ _ _ _ _ _ | (simp only [Exit.then, Exit.inBlock]; show bodyPost _ _ _ _ _ _)
      have hE : numE p.1 p.2.2.2 n = 26 := by unfold numE; (repeat' split) <;> omega
      exact bodyPost_ret (results_tmp rfl _ _ _) rfl ⟨by rw [hE]; rfl, bel⟩
    have hp42 := of_decide_eq_false hg41
    refine wp_region_lit ?_
    refine st_value (v := (.pointer (some ⟨g1, 3, none⟩))) (by rfl) (run_fieldA (.tmp 2) rfl c_fld_35_3 rfl rfl w2) ?_
    simp only [nf0, nf1, nf2, nf3, nf4]
    refine st_value (v := (.int .i32 p.2.2.2)) (by rfl) (run_loadB (.tmp 29) rfl c_one_21 rfl B3 rfl) ?_
    simp only [nf0, nf1, nf2, nf3, nf4]
    refine st_value (v := (.bool false)) (by rfl) ((run_lss (.tmp 30) (.const (.int .i32 0)) rfl rfl rfl w2).trans (by rw [hg41])) ?_
    simp only [nf0, nf1, nf2, nf3, nf4]
    refine st_mv (.bool false) ?_
    simp only [nf0, nf1, nf2, nf3, nf4]
    refine st_value (v := (.pointer (some ⟨g1, 3, none⟩))) (by rfl) (run_fieldA (.tmp 2) rfl c_fld_35_3 rfl rfl w2) ?_
    simp only [nf0, nf1, nf2, nf3, nf4]
    refine st_value (v := (.int .i32 p.2.2.2)) (by rfl) (run_loadB (.tmp 33) rfl c_one_21 rfl B3 rfl) ?_
    simp only [nf0, nf1, nf2, nf3, nf4]
    refine st_mv (.int .i32 15) ?_
    simp only [nf0, nf1, nf2, nf3, nf4]
    refine st_value (v := (.bool (decide (15 < p.2.2.2)))) (by rfl) (run_gtr (.tmp 34) (.tmp 35) rfl rfl rfl w2) ?_
    simp only [nf0, nf1, nf2, nf3, nf4]
    refine st_mv (.bool (decide (15 < p.2.2.2))) ?_
    simp only [nf0, nf1, nf2, nf3, nf4]
    refine wpList_nil ?_
    show Code.wp _ _ _ _ _
    cases hg43 : decide (15 < p.2.2.2)
    rotate_left
    · have hp45 := of_decide_eq_true hg43
      refine wp_cond_true rfl ?_
      refine wp_seq ?_
      refine wp_region_lit ?_
      refine st_mv (.int .i64 26) ?_
      simp only [nf0, nf1, nf2, nf3, nf4]
      refine wpList_nil ?_
      show Code.wp _ _ _ _ _
      refine wp_ret ?_
      first | show bodyPost _ _ _ _ _ _ | (simp only [Exit.then, Exit.inBlock]; show bodyPost _ _ _ _ _ _)
      have hE : numE p.1 p.2.2.2 n = 26 := by unfold numE; (repeat' split) <;> omega
      exact bodyPost_ret (results_tmp rfl _ _ _) rfl ⟨by rw [hE]; rfl, bel⟩
    have hp44 := of_decide_eq_false hg43
    refine wp_cond_false rfl ?_
    refine wp_skip ?_
    show Code.wp _ _ _ _ _
    refine wp_seq ?_
    refine wp_region_lit ?_
    refine st_mv (.int .i64 0) ?_
    simp only [nf0, nf1, nf2, nf3, nf4]
    refine wpList_nil ?_
    show Code.wp _ _ _ _ _
    refine wp_ret ?_
    first | show bodyPost _ _ _ _ _ _ | (simp only [Exit.then, Exit.inBlock]; show bodyPost _ _ _ _ _ _)
    have hE : numE p.1 p.2.2.2 n = 0 := by unfold numE; (repeat' split) <;> omega
    exact bodyPost_ret (results_tmp rfl _ _ _) rfl ⟨by rw [hE]; rfl, bel⟩
  have hp15 := of_decide_eq_false hg14
  refine wp_cond_false rfl ?_
  refine wp_seq ?_
  refine wp_seq ?_
  refine wp_region_lit ?_
  refine st_value (v := (.bool (decide (p.1 = 9)))) (by rfl) (run_eql_int (.tmp 7) (.const (.int .i64 9)) rfl rfl rfl w2) ?_
  simp only [nf0, nf1, nf2, nf3, nf4]
  refine st_mv (.bool (decide (p.1 = 9))) ?_
  simp only [nf0, nf1, nf2, nf3, nf4]
  refine wpList_nil ?_
  show Code.wp _ _ _ _ _
  cases hg16 : decide (p.1 = 9)
  rotate_left
  · have hp33 := of_decide_eq_true hg16
    refine wp_cond_true rfl ?_
    refine wp_skip ?_
    show Code.wp _ _ _ _ _
    refine wp_cond_true rfl ?_
    refine wp_region_lit ?_
    refine st_mv (.int .i32 15) ?_
    simp only [nf0, nf1, nf2, nf3, nf4]
    refine wpList_nil ?_
    show Code.wp _ _ _ _ _
    refine wp_seq ?_
    refine wp_seq ?_
    cases hg34 : decide (p.2.2.2 < 0)
    rotate_left
    · have hp39 := of_decide_eq_true hg34
      refine wp_region_lit ?_
      refine st_value (v := (.pointer (some ⟨g1, 3, none⟩))) (by rfl) (run_fieldA (.tmp 2) rfl c_fld_35_3 rfl rfl w2) ?_
      simp only [nf0, nf1, nf2, nf3, nf4]
      refine st_value (v := (.int .i32 p.2.2.2)) (by rfl) (run_loadB (.tmp 29) rfl c_one_21 rfl B3 rfl) ?_
      simp only [nf0, nf1, nf2, nf3, nf4]
      refine st_value (v := (.bool true)) (by rfl) ((run_lss (.tmp 30) (.const (.int .i32 0)) rfl rfl rfl w2).trans (by rw [hg34])) ?_
      simp only [nf0, nf1, nf2, nf3, nf4]
      refine st_mv (.bool true) ?_
      simp only [nf0, nf1, nf2, nf3, nf4]
      refine st_nob (j := 3) (t := 32) (c := true) rfl rfl rfl rfl rfl ?_
      simp only [nf0, nf1, nf2, nf3, nf4]
      refine st_nob (j := 3) (t := 32) (c := true) rfl rfl rfl rfl rfl ?_
      simp only [nf0, nf1, nf2, nf3, nf4]
      refine st_nob (j := 3) (t := 32) (c := true) rfl rfl rfl rfl rfl ?_
      simp only [nf0, nf1, nf2, nf3, nf4]
      refine st_nob (j := 3) (t := 32) (c := true) rfl rfl rfl rfl rfl ?_
      simp only [nf0, nf1, nf2, nf3, nf4]
      refine st_mv (.bool true) ?_
      simp only [nf0, nf1, nf2, nf3, nf4]
      refine wpList_nil ?_
      show Code.wp _ _ _ _ _
      refine wp_cond_true rfl ?_
      refine wp_seq ?_
      refine wp_region_lit ?_
      refine st_mv (.int .i64 26) ?_
      simp only [nf0, nf1, nf2, nf3, nf4]
      refine wpList_nil ?_
      show Code.wp _ _ _ _ _
      refine wp_ret ?_
      first | show bodyPost _ _ _ _ _ _ | (simp only [Exit.then, Exit.inBlock]; show bodyPost _ _ _ _ _ _)
      have hE : numE p.1 p.2.2.2 n = 26 := by unfold numE; (repeat' split) <;> omega
      exact bodyPost_ret (results_tmp rfl _ _ _) rfl ⟨by rw [hE]; rfl, bel⟩
    have hp35 := of_decide_eq_false hg34
    refine wp_region_lit ?_
    refine st_value (v := (.pointer (some ⟨g1, 3, none⟩))) (by rfl) (run_fieldA (.tmp 2) rfl c_fld_35_3 rfl rfl w2) ?_
    simp only [nf0, nf1, nf2, nf3, nf4]
    refine st_value (v := (.int .i32 p.2.2.2)) (by rfl) (run_loadB (.tmp 29) rfl c_one_21 rfl B3 rfl) ?_
    simp only [nf0, nf1, nf2, nf3, nf4]
    refine st_value (v := (.bool false)) (by rfl) ((run_lss (.tmp 30) (.const (.int .i32 0)) rfl rfl rfl w2).trans (by rw [hg34])) ?_
    simp only [nf0, nf1, nf2, nf3, nf4]
    refine st_mv (.bool false) ?_
    simp only [nf0, nf1, nf2, nf3, nf4]
    refine st_value (v := (.pointer (some ⟨g1, 3, none⟩))) (by rfl) (run_fieldA (.tmp 2) rfl c_fld_35_3 rfl rfl w2) ?_
    simp only [nf0, nf1, nf2, nf3, nf4]
    refine st_value (v := (.int .i32 p.2.2.2)) (by rfl) (run_loadB (.tmp 33) rfl c_one_21 rfl B3 rfl) ?_
    simp only [nf0, nf1, nf2, nf3, nf4]
    refine st_mv (.int .i32 15) ?_
    simp only [nf0, nf1, nf2, nf3, nf4]
    refine st_value (v := (.bool (decide (15 < p.2.2.2)))) (by rfl) (run_gtr (.tmp 34) (.tmp 35) rfl rfl rfl w2) ?_
    simp only [nf0, nf1, nf2, nf3, nf4]
    refine st_mv (.bool (decide (15 < p.2.2.2))) ?_
    simp only [nf0, nf1, nf2, nf3, nf4]
    refine wpList_nil ?_
    show Code.wp _ _ _ _ _
    cases hg36 : decide (15 < p.2.2.2)
    rotate_left
    · have hp38 := of_decide_eq_true hg36
      refine wp_cond_true rfl ?_
      refine wp_seq ?_
      refine wp_region_lit ?_
      refine st_mv (.int .i64 26) ?_
      simp only [nf0, nf1, nf2, nf3, nf4]
      refine wpList_nil ?_
      show Code.wp _ _ _ _ _
      refine wp_ret ?_
      first | show bodyPost _ _ _ _ _ _ | (simp only [Exit.then, Exit.inBlock]; show bodyPost _ _ _ _ _ _)
      have hE : numE p.1 p.2.2.2 n = 26 := by unfold numE; (repeat' split) <;> omega
      exact bodyPost_ret (results_tmp rfl _ _ _) rfl ⟨by rw [hE]; rfl, bel⟩
    have hp37 := of_decide_eq_false hg36
    refine wp_cond_false rfl ?_
    refine wp_skip ?_
    show Code.wp _ _ _ _ _
    refine wp_seq ?_
    refine wp_region_lit ?_
    refine st_mv (.int .i64 0) ?_
    simp only [nf0, nf1, nf2, nf3, nf4]
    refine wpList_nil ?_
    show Code.wp _ _ _ _ _
    refine wp_ret ?_
    first | show bodyPost _ _ _ _ _ _ | (simp only [Exit.then, Exit.inBlock]; show bodyPost _ _ _ _ _ _)
    have hE : numE p.1 p.2.2.2 n = 0 := by unfold numE; (repeat' split) <;> omega
    exact bodyPost_ret (results_tmp rfl _ _ _) rfl ⟨by rw [hE]; rfl, bel⟩
  have hp17 := of_decide_eq_false hg16
  refine wp_cond_false rfl ?_
  refine wp_region_lit ?_
  refine st_value (v := (.bool (decide (p.1 = 10)))) (by rfl) (run_eql_int (.tmp 7) (.const (.int .i64 10)) rfl rfl rfl w2) ?_
  simp only [nf0, nf1, nf2, nf3, nf4]
  refine st_mv (.bool (decide (p.1 = 10))) ?_
  simp only [nf0, nf1, nf2, nf3, nf4]
  refine wpList_nil ?_
  show Code.wp _ _ _ _ _
  cases hg18 : decide (p.1 = 10)
  · have hp19 := of_decide_eq_false hg18
    refine wp_cond_false rfl ?_
    refine wp_skip ?_
    show Code.wp _ _ _ _ _
    refine wp_seq ?_
    refine wp_seq ?_
    cases hg20 : decide (p.2.2.2 < 0)
    rotate_left
    · have hp25 := of_decide_eq_true hg20
      refine wp_region_lit ?_
      refine st_value (v := (.pointer (some ⟨g1, 3, none⟩))) (by rfl) (run_fieldA (.tmp 2) rfl c_fld_35_3 rfl rfl w2) ?_
      simp only [nf0, nf1, nf2, nf3, nf4]
      refine st_value (v := (.int .i32 p.2.2.2)) (by rfl) (run_loadB (.tmp 29) rfl c_one_21 rfl B3 rfl) ?_
      simp only [nf0, nf1, nf2, nf3, nf4]
      refine st_value (v := (.bool true)) (by rfl) ((run_lss (.tmp 30) (.const (.int .i32 0)) rfl rfl rfl w2).trans (by rw [hg20])) ?_
      simp only [nf0, nf1, nf2, nf3, nf4]
      refine st_mv (.bool true) ?_
      simp only [nf0, nf1, nf2, nf3, nf4]
      refine st_nob (j := 3) (t := 32) (c := true) rfl rfl rfl rfl rfl ?_
      simp only [nf0, nf1, nf2, nf3, nf4]
      refine st_nob (j := 3) (t := 32) (c := true) rfl rfl rfl rfl rfl ?_
      simp only [nf0, nf1, nf2, nf3, nf4]
      refine st_nob (j := 3) (t := 32) (c := true) rfl rfl rfl rfl rfl ?_
      simp only [nf0, nf1, nf2, nf3, nf4]
      refine st_nob (j := 3) (t := 32) (c := true) rfl rfl rfl rfl rfl ?_
      simp only [nf0, nf1, nf2, nf3, nf4]
      refine st_mv (.bool true) ?_
      simp only [nf0, nf1, nf2, nf3, nf4]
      refine wpList_nil ?_
      show Code.wp _ _ _ _ _
      refine wp_cond_true rfl ?_
      refine wp_seq ?_
      refine wp_region_lit ?_
      refine st_mv (.int .i64 26) ?_
      simp only [nf0, nf1, nf2, nf3, nf4]
      refine wpList_nil ?_
      show Code.wp _ _ _ _ _
      refine wp_ret ?_
      first | show bodyPost _ _ _ _ _ _ | (simp only [Exit.then, Exit.inBlock]; show bodyPost _ _ _ _ _ _)
      have hE : numE p.1 p.2.2.2 n = 26 := by unfold numE; (repeat' split) <;> omega
      exact bodyPost_ret (results_tmp rfl _ _ _) rfl ⟨by rw [hE]; rfl, bel⟩
    have hp21 := of_decide_eq_false hg20
    refine wp_region_lit ?_
    refine st_value (v := (.pointer (some ⟨g1, 3, none⟩))) (by rfl) (run_fieldA (.tmp 2) rfl c_fld_35_3 rfl rfl w2) ?_
    simp only [nf0, nf1, nf2, nf3, nf4]
    refine st_value (v := (.int .i32 p.2.2.2)) (by rfl) (run_loadB (.tmp 29) rfl c_one_21 rfl B3 rfl) ?_
    simp only [nf0, nf1, nf2, nf3, nf4]
    refine st_value (v := (.bool false)) (by rfl) ((run_lss (.tmp 30) (.const (.int .i32 0)) rfl rfl rfl w2).trans (by rw [hg20])) ?_
    simp only [nf0, nf1, nf2, nf3, nf4]
    refine st_mv (.bool false) ?_
    simp only [nf0, nf1, nf2, nf3, nf4]
    refine st_value (v := (.pointer (some ⟨g1, 3, none⟩))) (by rfl) (run_fieldA (.tmp 2) rfl c_fld_35_3 rfl rfl w2) ?_
    simp only [nf0, nf1, nf2, nf3, nf4]
    refine st_value (v := (.int .i32 p.2.2.2)) (by rfl) (run_loadB (.tmp 33) rfl c_one_21 rfl B3 rfl) ?_
    simp only [nf0, nf1, nf2, nf3, nf4]
    refine st_mv (.int .i32 0) ?_
    simp only [nf0, nf1, nf2, nf3, nf4]
    refine st_value (v := (.bool (decide (0 < p.2.2.2)))) (by rfl) (run_gtr (.tmp 34) (.tmp 35) rfl rfl rfl w2) ?_
    simp only [nf0, nf1, nf2, nf3, nf4]
    refine st_mv (.bool (decide (0 < p.2.2.2))) ?_
    simp only [nf0, nf1, nf2, nf3, nf4]
    refine wpList_nil ?_
    show Code.wp _ _ _ _ _
    cases hg22 : decide (0 < p.2.2.2)
    rotate_left
    · have hp24 := of_decide_eq_true hg22
      refine wp_cond_true rfl ?_
      refine wp_seq ?_
      refine wp_region_lit ?_
      refine st_mv (.int .i64 26) ?_
      simp only [nf0, nf1, nf2, nf3, nf4]
      refine wpList_nil ?_
      show Code.wp _ _ _ _ _
      refine wp_ret ?_
      first | show bodyPost _ _ _ _ _ _ | (simp only [Exit.then, Exit.inBlock]; show bodyPost _ _ _ _ _ _)
      have hE : numE p.1 p.2.2.2 n = 26 := by unfold numE; (repeat' split) <;> omega
      exact bodyPost_ret (results_tmp rfl _ _ _) rfl ⟨by rw [hE]; rfl, bel⟩
    have hp23 := of_decide_eq_false hg22
    refine wp_cond_false rfl ?_
    refine wp_skip ?_
    show Code.wp _ _ _ _ _
    refine wp_seq ?_
    refine wp_region_lit ?_
    refine st_mv (.int .i64 0) ?_
    simp only [nf0, nf1, nf2, nf3, nf4]
    refine wpList_nil ?_
    show Code.wp _ _ _ _ _
    refine wp_ret ?_
    first | show bodyPost _ _ _ _ _ _ | (simp only [Exit.then, Exit.inBlock]; show bodyPost _ _ _ _ _ _)
    have hE : numE p.1 p.2.2.2 n = 0 := by unfold numE; (repeat' split) <;> omega
    exact bodyPost_ret (results_tmp rfl _ _ _) rfl ⟨by rw [hE]; rfl, bel⟩
  have hp26 := of_decide_eq_true hg18
  refine wp_cond_true rfl ?_
  refine wp_region_lit ?_
  refine st_mv (.int .i32 15) ?_
  simp only [nf0, nf1, nf2, nf3, nf4]
  refine wpList_nil ?_
  show Code.wp _ _ _ _ _
  refine wp_seq ?_
  refine wp_seq ?_
  cases hg27 : decide (p.2.2.2 < 0)
  rotate_left
  · have hp32 := of_decide_eq_true hg27
    refine wp_region_lit ?_
    refine st_value (v := (.pointer (some ⟨g1, 3, none⟩))) (by rfl) (run_fieldA (.tmp 2) rfl c_fld_35_3 rfl rfl w2) ?_
    simp only [nf0, nf1, nf2, nf3, nf4]
    refine st_value (v := (.int .i32 p.2.2.2)) (by rfl) (run_loadB (.tmp 29) rfl c_one_21 rfl B3 rfl) ?_
    simp only [nf0, nf1, nf2, nf3, nf4]
    refine st_value (v := (.bool true)) (by rfl) ((run_lss (.tmp 30) (.const (.int .i32 0)) rfl rfl rfl w2).trans (by rw [hg27])) ?_
    simp only [nf0, nf1, nf2, nf3, nf4]
    refine st_mv (.bool true) ?_
    simp only [nf0, nf1, nf2, nf3, nf4]
    refine st_nob (j := 3) (t := 32) (c := true) rfl rfl rfl rfl rfl ?_
    simp only [nf0, nf1, nf2, nf3, nf4]
    refine st_nob (j := 3) (t := 32) (c := true) rfl rfl rfl rfl rfl ?_
    simp only [nf0, nf1, nf2, nf3, nf4]
    refine st_nob (j := 3) (t := 32) (c := true) rfl rfl rfl rfl rfl ?_
    simp only [nf0, nf1, nf2, nf3, nf4]
    refine st_nob (j := 3) (t := 32) (c := true) rfl rfl rfl rfl rfl ?_
    simp only [nf0, nf1, nf2, nf3, nf4]
    refine st_mv (.bool true) ?_
    simp only [nf0, nf1, nf2, nf3, nf4]
    refine wpList_nil ?_
    show Code.wp _ _ _ _ _
    refine wp_cond_true rfl ?_
    refine wp_seq ?_
    refine wp_region_lit ?_
    refine st_mv (.int .i64 26) ?_
    simp only [nf0, nf1, nf2, nf3, nf4]
    refine wpList_nil ?_
    show Code.wp _ _ _ _ _
    refine wp_ret ?_
    first | show bodyPost _ _ _ _ _ _ | (simp only [Exit.then, Exit.inBlock]; show bodyPost _ _ _ _ _ _)
    have hE : numE p.1 p.2.2.2 n = 26 := by unfold numE; (repeat' split) <;> omega
    exact bodyPost_ret (results_tmp rfl _ _ _) rfl ⟨by rw [hE]; rfl, bel⟩
  have hp28 := of_decide_eq_false hg27
  refine wp_region_lit ?_
  refine st_value (v := (.pointer (some ⟨g1, 3, none⟩))) (by rfl) (run_fieldA (.tmp 2) rfl c_fld_35_3 rfl rfl w2) ?_
  simp only [nf0, nf1, nf2, nf3, nf4]
  refine st_value (v := (.int .i32 p.2.2.2)) (by rfl) (run_loadB (.tmp 29) rfl c_one_21 rfl B3 rfl) ?_
  simp only [nf0, nf1, nf2, nf3, nf4]
  refine st_value (v := (.bool false)) (by rfl) ((run_lss (.tmp 30) (.const (.int .i32 0)) rfl rfl rfl w2).trans (by rw [hg27])) ?_
  simp only [nf0, nf1, nf2, nf3, nf4]
  refine st_mv (.bool false) ?_
  simp only [nf0, nf1, nf2, nf3, nf4]
  refine st_value (v := (.pointer (some ⟨g1, 3, none⟩))) (by rfl) (run_fieldA (.tmp 2) rfl c_fld_35_3 rfl rfl w2) ?_
  simp only [nf0, nf1, nf2, nf3, nf4]
  refine st_value (v := (.int .i32 p.2.2.2)) (by rfl) (run_loadB (.tmp 33) rfl c_one_21 rfl B3 rfl) ?_
  simp only [nf0, nf1, nf2, nf3, nf4]
  refine st_mv (.int .i32 15) ?_
  simp only [nf0, nf1, nf2, nf3, nf4]
  refine st_value (v := (.bool (decide (15 < p.2.2.2)))) (by rfl) (run_gtr (.tmp 34) (.tmp 35) rfl rfl rfl w2) ?_
  simp only [nf0, nf1, nf2, nf3, nf4]
  refine st_mv (.bool (decide (15 < p.2.2.2))) ?_
  simp only [nf0, nf1, nf2, nf3, nf4]
  refine wpList_nil ?_
  show Code.wp _ _ _ _ _
  cases hg29 : decide (15 < p.2.2.2)
  rotate_left
  · have hp31 := of_decide_eq_true hg29
    refine wp_cond_true rfl ?_
    refine wp_seq ?_
    refine wp_region_lit ?_
    refine st_mv (.int .i64 26) ?_
    simp only [nf0, nf1, nf2, nf3, nf4]
    refine wpList_nil ?_
    show Code.wp _ _ _ _ _
    refine wp_ret ?_
    first | show bodyPost _ _ _ _ _ _ | (simp only [Exit.then, Exit.inBlock]; show bodyPost _ _ _ _ _ _)
    have hE : numE p.1 p.2.2.2 n = 26 := by unfold numE; (repeat' split) <;> omega
    exact bodyPost_ret (results_tmp rfl _ _ _) rfl ⟨by rw [hE]; rfl, bel⟩
  have hp30 := of_decide_eq_false hg29
  refine wp_cond_false rfl ?_
  refine wp_skip ?_
  show Code.wp _ _ _ _ _
  refine wp_seq ?_
  refine wp_region_lit ?_
  refine st_mv (.int .i64 0) ?_
  simp only [nf0, nf1, nf2, nf3, nf4]
  refine wpList_nil ?_
  show Code.wp _ _ _ _ _
  refine wp_ret ?_
  first | show bodyPost _ _ _ _ _ _ | (simp only [Exit.then, Exit.inBlock]; show bodyPost _ _ _ _ _ _)
  have hE : numE p.1 p.2.2.2 n = 0 := by unfold numE; (repeat' split) <;> omega
  exact bodyPost_ret (results_tmp rfl _ _ _) rfl ⟨by rw [hE]; rfl, bel⟩
set_option maxRecDepth 100000 in
set_option maxHeartbeats 4000000 in
theorem insE_at (p : TIns) (hp : okIns p) (n : Int) (w : World) : Calls Tryd.prog 15 #[.agg (eIns.enc p).toArray, .int .i64 n] w fun e w' => e = .returned (.int .i64 (insE p n)) ∧ Below w.heap.size w w' := by
  have bel : Below w.heap.size w w := Below.refl _ _
  go_enter Tryd.func15, Tryd.ntmps15
  refine wp_seq ?_
  refine wp_region_lit ?_
  refine st_new (cs := #[.int .i64 p.1, .int .i64 p.2.1, .int .i64 p.2.2.1, .int .i32 p.2.2.2]) (t := 35) (by rfl) (run_boxV (.tmp 0) rfl (v := (.agg #[.int .i64 p.1, .int .i64 p.2.1, .int .i64 p.2.2.1, .int .i32 p.2.2.2])) rfl rfl _) ?_
  intro g1 w2 B3 hb4 lo5
  simp only [nf0, nf1, nf2, nf3, nf4]
  replace lo5 := low_le bel lo5
  replace bel := bl_step bel hb4
  clear hb4
  refine st_mv (.int .i64 0) ?_
  simp only [nf0, nf1, nf2, nf3, nf4]
  refine wpList_nil ?_
  show Code.wp _ _ _ _ _
  refine wp_seq ?_
  refine wp_region_lit ?_
  refine st_value (v := (.pointer (some ⟨g1, 0, none⟩))) (by rfl) (run_fieldA (.tmp 2) rfl c_fld_35_0 rfl rfl w2) ?_
  simp only [nf0, nf1, nf2, nf3, nf4]
  refine st_value (v := (.int .i64 p.1)) (by rfl) (run_loadB (.tmp 6) rfl c_one_3 rfl B3 rfl) ?_
  simp only [nf0, nf1, nf2, nf3, nf4]
  refine st_call1 (v := (.agg #[.bool (shA p.1), .bool (shB p.1), .bool (shN p.1)])) (by rfl) (c_run_call_28_1 (.tmp 7) rfl rfl _) (of_calls p.1 w2) ?_
  intro w6 hb7
  simp only [nf0, nf1, nf2, nf3, nf4]
  replace B3 := B3.below hb7
  replace bel := bl_step bel hb7
  clear hb7
  refine st_new (cs := #[.bool false, .bool false, .bool false]) (t := 56) (by rfl) (run_allocV rfl c_zero_56 _) ?_
  intro g8 w9 B10 hb11 lo12
  simp only [nf0, nf1, nf2, nf3, nf4]
  have n13 := B3.ne lo12
  replace lo12 := low_le bel lo12
  replace B3 := B3.below hb11
  replace bel := bl_step bel hb11
  clear hb11
  refine st_row (by rfl) (run_storeW (.tmp 5) (.tmp 8) rfl (cs := #[.bool (shA p.1), .bool (shB p.1), .bool (shN p.1)]) aggShp rfl rfl B10 rfl (by simp [Value.oneCell'])) B10 ?_
  intro w14 B16 hg15
  simp only [nf0, nf1, nf2, nf3, nf4]
  replace B3 := B3.kept hg15 n13
  replace bel := bl_kept0 bel hg15 lo12
  clear hg15
  clear B10
  refine wpList_nil ?_
  show Code.wp _ _ _ _ _
  refine wp_seq ?_
  refine wp_block ?_
  refine wp_seq ?_
  refine wp_region_lit ?_
  refine st_value (v := (.pointer (some ⟨g1, 0, none⟩))) (by rfl) (run_fieldA (.tmp 2) rfl c_fld_35_0 rfl rfl w14) ?_
  simp only [nf0, nf1, nf2, nf3, nf4]
  refine st_value (v := (.int .i64 p.1)) (by rfl) (run_loadB (.tmp 10) rfl c_one_3 rfl B3 rfl) ?_
  simp only [nf0, nf1, nf2, nf3, nf4]
  refine st_call1 (v := (.string (str (nmP p.1)))) (by rfl) (c_run_call_8_1 (.tmp 11) rfl rfl _) (pname_calls p.1 w14) ?_
  intro w17 hb18
  simp only [nf0, nf1, nf2, nf3, nf4]
  replace B3 := B3.below hb18
  replace B16 := B16.below hb18
  replace bel := bl_step bel hb18
  clear hb18
  refine st_value (v := (.bool (decide ((nmP p.1) = [])))) (by rfl) (run_eql_text (.tmp 12) (.const (.string ⟨#[]⟩)) (l := (nmP p.1)) (m := []) rfl rfl rfl w17) ?_
  simp only [nf0, nf1, nf2, nf3, nf4]
  refine st_mv (.bool (decide ((nmP p.1) = []))) ?_
  simp only [nf0, nf1, nf2, nf3, nf4]
  refine wpList_nil ?_
  show Code.wp _ _ _ _ _
  cases hg19 : decide ((nmP p.1) = [])
  rotate_left
  · have hp37 := of_decide_eq_true hg19
    have hk : ¬ (1 ≤ p.1 ∧ p.1 ≤ 14) := fun h => (nmP_known h).1 (by assumption)
    refine wp_cond_true rfl ?_
    refine wp_seq ?_
    refine wp_region_lit ?_
    refine st_mv (.int .i64 30) ?_
    simp only [nf0, nf1, nf2, nf3, nf4]
    refine wpList_nil ?_
    show Code.wp _ _ _ _ _
    refine wp_ret ?_
    first | show bodyPost _ _ _ _ _ _ | (simp only [Exit.then, Exit.inBlock]; show bodyPost _ _ _ _ _ _)
    have hE : insE p n = 30 := if_neg hk
    exact bodyPost_ret (results_tmp rfl _ _ _) rfl ⟨by rw [hE]; rfl, bel⟩
  have hp20 := of_decide_eq_false hg19
  have hk : 1 ≤ p.1 ∧ p.1 ≤ 14 := Classical.byContradiction fun h => absurd (nmP_unknown h) (by assumption)
  refine wp_cond_false rfl ?_
  refine wp_seq ?_
  cases hg23 : regB (shA p.1) p.2.1
  · have hp24 := trivial
    refine wp_region_lit ?_
    refine st_value (v := (.pointer (some ⟨g8, 0, none⟩))) (by rfl) (run_fieldA (.tmp 5) rfl c_fld_56_0 rfl rfl w17) ?_
    simp only [nf0, nf1, nf2, nf3, nf4]
    refine st_value (v := (.bool (shA p.1))) (by rfl) (run_loadB (.tmp 15) rfl c_one_4 rfl B16 rfl) ?_
    simp only [nf0, nf1, nf2, nf3, nf4]
    refine st_value (v := (.pointer (some ⟨g1, 1, none⟩))) (by rfl) (run_fieldA (.tmp 2) rfl c_fld_35_1 rfl rfl w17) ?_
    simp only [nf0, nf1, nf2, nf3, nf4]
    refine st_value (v := (.int .i64 p.2.1)) (by rfl) (run_loadB (.tmp 17) rfl c_one_3 rfl B3 rfl) ?_
    simp only [nf0, nf1, nf2, nf3, nf4]
    refine st_call1 (v := (.bool false)) (by rfl) (c_run_call_29_2 (.tmp 16) (.tmp 18) rfl rfl rfl _) (by have h_ := isReg_calls (shA p.1) p.2.1 w17; rw [hg23] at h_; exact h_) ?_
    intro w25 hb26
    simp only [nf0, nf1, nf2, nf3, nf4]
    replace B3 := B3.below hb26
    replace B16 := B16.below hb26
    replace bel := bl_step bel hb26
    clear hb26
    refine st_value (v := (.bool true)) (by rfl) (run_not (.tmp 19) rfl (b := false) rfl w25) ?_
    simp only [nf0, nf1, nf2, nf3, nf4]
    refine st_mv (.bool true) ?_
    simp only [nf0, nf1, nf2, nf3, nf4]
    refine st_nob (j := 6) (t := 21) (c := true) rfl rfl rfl rfl rfl ?_
    simp only [nf0, nf1, nf2, nf3, nf4]
    refine st_nob (j := 6) (t := 21) (c := true) rfl rfl rfl rfl rfl ?_
    simp only [nf0, nf1, nf2, nf3, nf4]
    refine st_nob (j := 6) (t := 21) (c := true) rfl rfl rfl rfl rfl ?_
    simp only [nf0, nf1, nf2, nf3, nf4]
    refine st_nob (j := 6) (t := 21) (c := true) rfl rfl rfl rfl rfl ?_
    simp only [nf0, nf1, nf2, nf3, nf4]
    refine st_nob (j := 6) (t := 21) (c := true) rfl rfl rfl rfl rfl ?_
    simp only [nf0, nf1, nf2, nf3, nf4]
    refine st_nob (j := 6) (t := 21) (c := true) rfl rfl rfl rfl rfl ?_
    simp only [nf0, nf1, nf2, nf3, nf4]
    refine st_mv (.bool true) ?_
    simp only [nf0, nf1, nf2, nf3, nf4]
    refine st_mv (.bool true) ?_
    simp only [nf0, nf1, nf2, nf3, nf4]
    refine wpList_nil ?_
    show Code.wp _ _ _ _ _
    refine wp_cond_true rfl ?_
    refine wp_seq ?_
    refine wp_region_lit ?_
    refine st_mv (.int .i64 31) ?_
    simp only [nf0, nf1, nf2, nf3, nf4]
    refine wpList_nil ?_
    show Code.wp _ _ _ _ _
    refine wp_ret ?_
    first | show bodyPost _ _ _ _ _ _ | (simp only [Exit.then, Exit.inBlock]; show bodyPost _ _ _ _ _ _)
    have hE : insE p n = 31 := by unfold insE; rw [if_pos hk, if_neg (by rintro ⟨h1_, h2_⟩; simp_all)]
    exact bodyPost_ret (results_tmp rfl _ _ _) rfl ⟨by rw [hE]; rfl, bel⟩
  have hp27 := trivial
  refine wp_region_lit ?_
  refine st_value (v := (.pointer (some ⟨g8, 0, none⟩))) (by rfl) (run_fieldA (.tmp 5) rfl c_fld_56_0 rfl rfl w17) ?_
  simp only [nf0, nf1, nf2, nf3, nf4]
  refine st_value (v := (.bool (shA p.1))) (by rfl) (run_loadB (.tmp 15) rfl c_one_4 rfl B16 rfl) ?_
  simp only [nf0, nf1, nf2, nf3, nf4]
  refine st_value (v := (.pointer (some ⟨g1, 1, none⟩))) (by rfl) (run_fieldA (.tmp 2) rfl c_fld_35_1 rfl rfl w17) ?_
  simp only [nf0, nf1, nf2, nf3, nf4]
  refine st_value (v := (.int .i64 p.2.1)) (by rfl) (run_loadB (.tmp 17) rfl c_one_3 rfl B3 rfl) ?_
  simp only [nf0, nf1, nf2, nf3, nf4]
  refine st_call1 (v := (.bool true)) (by rfl) (c_run_call_29_2 (.tmp 16) (.tmp 18) rfl rfl rfl _) (by have h_ := isReg_calls (shA p.1) p.2.1 w17; rw [hg23] at h_; exact h_) ?_
  intro w28 hb29
  simp only [nf0, nf1, nf2, nf3, nf4]
  replace B3 := B3.below hb29
  replace B16 := B16.below hb29
  replace bel := bl_step bel hb29
  clear hb29
  refine st_value (v := (.bool false)) (by rfl) (run_not (.tmp 19) rfl (b := true) rfl w28) ?_
  simp only [nf0, nf1, nf2, nf3, nf4]
  refine st_mv (.bool false) ?_
  simp only [nf0, nf1, nf2, nf3, nf4]
  refine st_value (v := (.pointer (some ⟨g8, 1, none⟩))) (by rfl) (run_fieldA (.tmp 5) rfl c_fld_56_1 rfl rfl w28) ?_
  simp only [nf0, nf1, nf2, nf3, nf4]
  refine st_value (v := (.bool (shB p.1))) (by rfl) (run_loadB (.tmp 22) rfl c_one_4 rfl B16 rfl) ?_
  simp only [nf0, nf1, nf2, nf3, nf4]
  refine st_value (v := (.pointer (some ⟨g1, 2, none⟩))) (by rfl) (run_fieldA (.tmp 2) rfl c_fld_35_2 rfl rfl w28) ?_
  simp only [nf0, nf1, nf2, nf3, nf4]
  refine st_value (v := (.int .i64 p.2.2.1)) (by rfl) (run_loadB (.tmp 24) rfl c_one_3 rfl B3 rfl) ?_
  simp only [nf0, nf1, nf2, nf3, nf4]
  refine st_call1 (v := (.bool (regB (shB p.1) p.2.2.1))) (by rfl) (c_run_call_29_2 (.tmp 23) (.tmp 25) rfl rfl rfl _) (isReg_calls (shB p.1) p.2.2.1 w28) ?_
  intro w30 hb31
  simp only [nf0, nf1, nf2, nf3, nf4]
  replace B3 := B3.below hb31
  replace B16 := B16.below hb31
  replace bel := bl_step bel hb31
  clear hb31
  refine st_value (v := (.bool (!(regB (shB p.1) p.2.2.1)))) (by rfl) (run_not (.tmp 26) rfl (b := regB (shB p.1) p.2.2.1) rfl w30) ?_
  simp only [nf0, nf1, nf2, nf3, nf4]
  refine st_mv (.bool (!(regB (shB p.1) p.2.2.1))) ?_
  simp only [nf0, nf1, nf2, nf3, nf4]
  refine st_mv (.bool (!(regB (shB p.1) p.2.2.1))) ?_
  simp only [nf0, nf1, nf2, nf3, nf4]
  refine wpList_nil ?_
  show Code.wp _ _ _ _ _
  cases hg32 : regB (shB p.1) p.2.2.1
  · have hp33 := trivial
    refine wp_cond_true rfl ?_
    refine wp_seq ?_
    refine wp_region_lit ?_
    refine st_mv (.int .i64 31) ?_
    simp only [nf0, nf1, nf2, nf3, nf4]
    refine wpList_nil ?_
    show Code.wp _ _ _ _ _
    refine wp_ret ?_
    first | show bodyPost _ _ _ _ _ _ | (simp only [Exit.then, Exit.inBlock]; show bodyPost _ _ _ _ _ _)
    have hE : insE p n = 31 := by unfold insE; rw [if_pos hk, if_neg (by rintro ⟨h1_, h2_⟩; simp_all)]
    exact bodyPost_ret (results_tmp rfl _ _ _) rfl ⟨by rw [hE]; rfl, bel⟩
  have hp34 := trivial
  refine wp_cond_false rfl ?_
  refine wp_skip ?_
  show Code.wp _ _ _ _ _
  refine wp_seq ?_
  refine wp_region_lit ?_
  refine st_value (v := (.agg #[.int .i64 p.1, .int .i64 p.2.1, .int .i64 p.2.2.1, .int .i32 p.2.2.2])) (by rfl) (run_loadW (.tmp 2) rfl (cs := #[.int .i64 p.1, .int .i64 p.2.1, .int .i64 p.2.2.1, .int .i32 p.2.2.2]) aggIns rfl B3) ?_
  simp only [nf0, nf1, nf2, nf3, nf4]
  refine st_mv (.int .i64 n) ?_
  simp only [nf0, nf1, nf2, nf3, nf4]
  refine st_call1 (v := (.int .i64 (numE p.1 p.2.2.2 n))) (by rfl) (c_run_call_30_2 (.tmp 29) (.tmp 30) rfl rfl rfl _) (numE_at p hp n w30) ?_
  intro w35 hb36
  simp only [nf0, nf1, nf2, nf3, nf4]
  replace B3 := B3.below hb36
  replace B16 := B16.below hb36
  replace bel := bl_step bel hb36
  clear hb36
  refine st_mv (.int .i64 (numE p.1 p.2.2.2 n)) ?_
  simp only [nf0, nf1, nf2, nf3, nf4]
  refine wpList_nil ?_
  show Code.wp _ _ _ _ _
  refine wp_ret ?_
  first | show bodyPost _ _ _ _ _ _ | (simp only [Exit.then, Exit.inBlock]; show bodyPost _ _ _ _ _ _)
  have hE : insE p n = (numE p.1 p.2.2.2 n) := by unfold insE; rw [if_pos hk, if_pos ⟨by assumption, by assumption⟩]
  exact bodyPost_ret (results_tmp rfl _ _ _) rfl ⟨by rw [hE]; rfl, bel⟩
set_option maxRecDepth 100000 in
set_option maxHeartbeats 4000000 in
theorem check_calls (A : Option Addr) (pr : Int) (xs : List TIns) (cap : Nat) (hcap : xs.length ≤ cap) (hl : xs.length ≤ 100000) (hok : ∀ x ∈ xs, okIns x) (w : World) (hr : Reads w A (eIns.all xs)) : Calls Tryd.prog 6 #[.agg #[.int .i64 pr, .slice A xs.length cap]] w (fun e w' => e = .returned (.tuple #[.int .i64 (chk pr xs).1, .int .i64 (chk pr xs).2]) ∧ Below w.heap.size w w') := by
  have bel : Below w.heap.size w w := Below.refl _ _
  go_enter Tryd.func6, Tryd.ntmps6
  refine wp_seq ?_
  refine wp_region_lit ?_
  refine st_new (cs := #[.int .i64 pr, .slice A xs.length cap]) (t := 24) (by rfl) (run_boxV (.tmp 0) rfl (v := (.agg #[.int .i64 pr, .slice A xs.length cap])) rfl rfl _) ?_
  intro g1 w2 B3 hb4 lo5
  simp only [nf0, nf1, nf2, nf3, nf4]
  replace lo5 := low_le bel lo5
  replace bel := bl_step bel hb4
  clear hb4
  refine st_mv (.int .i64 0) ?_
  simp only [nf0, nf1, nf2, nf3, nf4]
  refine st_mv (.int .i64 0) ?_
  simp only [nf0, nf1, nf2, nf3, nf4]
  refine wpList_nil ?_
  show Code.wp _ _ _ _ _
  refine wp_seq ?_
  refine wp_block ?_
  refine wp_seq ?_
  cases hg6 : decide (pr < 0)
  rotate_left
  · have hp46 := of_decide_eq_true hg6
    refine wp_region_lit ?_
    refine st_value (v := (.pointer (some ⟨g1, 0, none⟩))) (by rfl) (run_fieldA (.tmp 1) rfl c_fld_24_0 rfl rfl w2) ?_
    simp only [nf0, nf1, nf2, nf3, nf4]
    refine st_value (v := (.int .i64 pr)) (by rfl) (run_loadB (.tmp 10) rfl c_one_3 rfl B3 rfl) ?_
    simp only [nf0, nf1, nf2, nf3, nf4]
    refine st_value (v := (.bool true)) (by rfl) ((run_lss (.tmp 11) (.const (.int .i64 0)) rfl rfl rfl w2).trans (by rw [hg6])) ?_
    simp only [nf0, nf1, nf2, nf3, nf4]
    refine st_mv (.bool true) ?_
    simp only [nf0, nf1, nf2, nf3, nf4]
    refine st_nob (j := 3) (t := 13) (c := true) rfl rfl rfl rfl rfl ?_
    simp only [nf0, nf1, nf2, nf3, nf4]
    refine st_nob (j := 3) (t := 13) (c := true) rfl rfl rfl rfl rfl ?_
    simp only [nf0, nf1, nf2, nf3, nf4]
    refine st_nob (j := 3) (t := 13) (c := true) rfl rfl rfl rfl rfl ?_
    simp only [nf0, nf1, nf2, nf3, nf4]
    refine st_mv (.bool true) ?_
    simp only [nf0, nf1, nf2, nf3, nf4]
    refine st_mv (.bool true) ?_
    simp only [nf0, nf1, nf2, nf3, nf4]
    refine wpList_nil ?_
    show Code.wp _ _ _ _ _
    refine wp_cond_true rfl ?_
    refine wp_seq ?_
    refine wp_region_lit ?_
    refine st_mv (.int .i64 26) ?_
    simp only [nf0, nf1, nf2, nf3, nf4]
    refine st_mv (.int .i64 0) ?_
    simp only [nf0, nf1, nf2, nf3, nf4]
    refine wpList_nil ?_
    show Code.wp _ _ _ _ _
    refine wp_ret ?_
    first | show bodyPost _ _ _ _ _ _ | (simp only [Exit.then, Exit.inBlock]; show bodyPost _ _ _ _ _ _)
    have hE : chk pr xs = (26, 0) := chk_size (by omega)
    exact bodyPost_ret (results_tmp2 rfl _ _ _) rfl ⟨by rw [hE]; rfl, bel⟩
  have hp7 := of_decide_eq_false hg6
  refine wp_region_lit ?_
  refine st_value (v := (.pointer (some ⟨g1, 0, none⟩))) (by rfl) (run_fieldA (.tmp 1) rfl c_fld_24_0 rfl rfl w2) ?_
  simp only [nf0, nf1, nf2, nf3, nf4]
  refine st_value (v := (.int .i64 pr)) (by rfl) (run_loadB (.tmp 10) rfl c_one_3 rfl B3 rfl) ?_
  simp only [nf0, nf1, nf2, nf3, nf4]
  refine st_value (v := (.bool false)) (by rfl) ((run_lss (.tmp 11) (.const (.int .i64 0)) rfl rfl rfl w2).trans (by rw [hg6])) ?_
  simp only [nf0, nf1, nf2, nf3, nf4]
  refine st_mv (.bool false) ?_
  simp only [nf0, nf1, nf2, nf3, nf4]
  refine st_value (v := (.pointer (some ⟨g1, 0, none⟩))) (by rfl) (run_fieldA (.tmp 1) rfl c_fld_24_0 rfl rfl w2) ?_
  simp only [nf0, nf1, nf2, nf3, nf4]
  refine st_value (v := (.int .i64 pr)) (by rfl) (run_loadB (.tmp 14) rfl c_one_3 rfl B3 rfl) ?_
  simp only [nf0, nf1, nf2, nf3, nf4]
  refine st_value (v := (.bool (decide (3 < pr)))) (by rfl) (run_gtr (.tmp 15) (.const (.int .i64 3)) rfl rfl rfl w2) ?_
  simp only [nf0, nf1, nf2, nf3, nf4]
  refine st_mv (.bool (decide (3 < pr))) ?_
  simp only [nf0, nf1, nf2, nf3, nf4]
  refine st_mv (.bool (decide (3 < pr))) ?_
  simp only [nf0, nf1, nf2, nf3, nf4]
  refine wpList_nil ?_
  show Code.wp _ _ _ _ _
  cases hg8 : decide (3 < pr)
  rotate_left
  · have hp45 := of_decide_eq_true hg8
    refine wp_cond_true rfl ?_
    refine wp_seq ?_
    refine wp_region_lit ?_
    refine st_mv (.int .i64 26) ?_
    simp only [nf0, nf1, nf2, nf3, nf4]
    refine st_mv (.int .i64 0) ?_
    simp only [nf0, nf1, nf2, nf3, nf4]
    refine wpList_nil ?_
    show Code.wp _ _ _ _ _
    refine wp_ret ?_
    first | show bodyPost _ _ _ _ _ _ | (simp only [Exit.then, Exit.inBlock]; show bodyPost _ _ _ _ _ _)
    have hE : chk pr xs = (26, 0) := chk_size (by omega)
    exact bodyPost_ret (results_tmp2 rfl _ _ _) rfl ⟨by rw [hE]; rfl, bel⟩
  have hp9 := of_decide_eq_false hg8
  refine wp_cond_false rfl ?_
  refine wp_seq ?_
  cases hg10 : decide ((xs.length : Int) = 0)
  rotate_left
  · have hp44 := of_decide_eq_true hg10
    refine wp_region_lit ?_
    refine st_value (v := (.pointer (some ⟨g1, 1, none⟩))) (by rfl) (run_fieldA (.tmp 1) rfl c_fld_24_1 rfl rfl w2) ?_
    simp only [nf0, nf1, nf2, nf3, nf4]
    refine st_value (v := (.slice A xs.length cap)) (by rfl) (run_loadB (.tmp 19) rfl c_one_22 rfl B3 rfl) ?_
    simp only [nf0, nf1, nf2, nf3, nf4]
    refine st_value (v := (.int .i64 (xs.length : Int))) (by rfl) (run_len (.tmp 20) rfl ⟨_, Tryd.underlying22⟩ rfl w2) ?_
    simp only [nf0, nf1, nf2, nf3, nf4]
    refine st_value (v := (.bool true)) (by rfl) ((run_eql_int (.tmp 21) (.const (.int .i64 0)) rfl rfl rfl w2).trans (by rw [hg10])) ?_
    simp only [nf0, nf1, nf2, nf3, nf4]
    refine st_mv (.bool true) ?_
    simp only [nf0, nf1, nf2, nf3, nf4]
    refine st_nob (j := 4) (t := 23) (c := true) rfl rfl rfl rfl rfl ?_
    simp only [nf0, nf1, nf2, nf3, nf4]
    refine st_nob (j := 4) (t := 23) (c := true) rfl rfl rfl rfl rfl ?_
    simp only [nf0, nf1, nf2, nf3, nf4]
    refine st_nob (j := 4) (t := 23) (c := true) rfl rfl rfl rfl rfl ?_
    simp only [nf0, nf1, nf2, nf3, nf4]
    refine st_nob (j := 4) (t := 23) (c := true) rfl rfl rfl rfl rfl ?_
    simp only [nf0, nf1, nf2, nf3, nf4]
    refine st_mv (.bool true) ?_
    simp only [nf0, nf1, nf2, nf3, nf4]
    refine st_mv (.bool true) ?_
    simp only [nf0, nf1, nf2, nf3, nf4]
    refine wpList_nil ?_
    show Code.wp _ _ _ _ _
    refine wp_cond_true rfl ?_
    refine wp_seq ?_
    refine wp_region_lit ?_
    refine st_mv (.int .i64 33) ?_
    simp only [nf0, nf1, nf2, nf3, nf4]
    refine st_mv (.int .i64 0) ?_
    simp only [nf0, nf1, nf2, nf3, nf4]
    refine wpList_nil ?_
    show Code.wp _ _ _ _ _
    refine wp_ret ?_
    first | show bodyPost _ _ _ _ _ _ | (simp only [Exit.then, Exit.inBlock]; show bodyPost _ _ _ _ _ _)
    have hE : chk pr xs = (33, 0) := chk_len (by omega) (by omega)
    exact bodyPost_ret (results_tmp2 rfl _ _ _) rfl ⟨by rw [hE]; rfl, bel⟩
  have hp11 := of_decide_eq_false hg10
  refine wp_region_lit ?_
  refine st_value (v := (.pointer (some ⟨g1, 1, none⟩))) (by rfl) (run_fieldA (.tmp 1) rfl c_fld_24_1 rfl rfl w2) ?_
  simp only [nf0, nf1, nf2, nf3, nf4]
  refine st_value (v := (.slice A xs.length cap)) (by rfl) (run_loadB (.tmp 19) rfl c_one_22 rfl B3 rfl) ?_
  simp only [nf0, nf1, nf2, nf3, nf4]
  refine st_value (v := (.int .i64 (xs.length : Int))) (by rfl) (run_len (.tmp 20) rfl ⟨_, Tryd.underlying22⟩ rfl w2) ?_
  simp only [nf0, nf1, nf2, nf3, nf4]
  refine st_value (v := (.bool false)) (by rfl) ((run_eql_int (.tmp 21) (.const (.int .i64 0)) rfl rfl rfl w2).trans (by rw [hg10])) ?_
  simp only [nf0, nf1, nf2, nf3, nf4]
  refine st_mv (.bool false) ?_
  simp only [nf0, nf1, nf2, nf3, nf4]
  refine st_value (v := (.pointer (some ⟨g1, 1, none⟩))) (by rfl) (run_fieldA (.tmp 1) rfl c_fld_24_1 rfl rfl w2) ?_
  simp only [nf0, nf1, nf2, nf3, nf4]
  refine st_value (v := (.slice A xs.length cap)) (by rfl) (run_loadB (.tmp 24) rfl c_one_22 rfl B3 rfl) ?_
  simp only [nf0, nf1, nf2, nf3, nf4]
  refine st_value (v := (.int .i64 (xs.length : Int))) (by rfl) (run_len (.tmp 25) rfl ⟨_, Tryd.underlying22⟩ rfl w2) ?_
  simp only [nf0, nf1, nf2, nf3, nf4]
  refine st_value (v := (.bool (decide (64 < (xs.length : Int))))) (by rfl) (run_gtr (.tmp 26) (.const (.int .i64 64)) rfl rfl rfl w2) ?_
  simp only [nf0, nf1, nf2, nf3, nf4]
  refine st_mv (.bool (decide (64 < (xs.length : Int)))) ?_
  simp only [nf0, nf1, nf2, nf3, nf4]
  refine st_mv (.bool (decide (64 < (xs.length : Int)))) ?_
  simp only [nf0, nf1, nf2, nf3, nf4]
  refine wpList_nil ?_
  show Code.wp _ _ _ _ _
  cases hg12 : decide (64 < (xs.length : Int))
  rotate_left
  · have hp43 := of_decide_eq_true hg12
    refine wp_cond_true rfl ?_
    refine wp_seq ?_
    refine wp_region_lit ?_
    refine st_mv (.int .i64 33) ?_
    simp only [nf0, nf1, nf2, nf3, nf4]
    refine st_mv (.int .i64 0) ?_
    simp only [nf0, nf1, nf2, nf3, nf4]
    refine wpList_nil ?_
    show Code.wp _ _ _ _ _
    refine wp_ret ?_
    first | show bodyPost _ _ _ _ _ _ | (simp only [Exit.then, Exit.inBlock]; show bodyPost _ _ _ _ _ _)
    have hE : chk pr xs = (33, 0) := chk_len (by omega) (by omega)
    exact bodyPost_ret (results_tmp2 rfl _ _ _) rfl ⟨by rw [hE]; rfl, bel⟩
  have hp13 := of_decide_eq_false hg12
  refine wp_cond_false rfl ?_
  refine wp_skip ?_
  show Code.wp _ _ _ _ _
  refine wp_seq ?_
  refine wp_seq ?_
  refine wp_region_lit ?_
  refine st_value (v := (.pointer (some ⟨g1, 1, none⟩))) (by rfl) (run_fieldA (.tmp 1) rfl c_fld_24_1 rfl rfl w2) ?_
  simp only [nf0, nf1, nf2, nf3, nf4]
  refine st_value (v := (.slice A xs.length cap)) (by rfl) (run_loadB (.tmp 29) rfl c_one_22 rfl B3 rfl) ?_
  simp only [nf0, nf1, nf2, nf3, nf4]
  refine st_value (v := (.int .i64 (xs.length : Int))) (by rfl) (run_len (.tmp 30) rfl ⟨_, Tryd.underlying22⟩ rfl w2) ?_
  simp only [nf0, nf1, nf2, nf3, nf4]
  refine st_mv (.int .i64 0) ?_
  simp only [nf0, nf1, nf2, nf3, nf4]
  refine wpList_nil ?_
  show Code.wp _ _ _ _ _
  refine wp_block ?_
  refine wp_loop_left (fun n_ a_ wr_ => (fun J14 => ∃ (k : Nat), n_ = xs.length - k ∧ a_ = ⟨#[J14 0, .pointer (some ⟨g1, 0, none⟩), J14 2, J14 3, J14 4, J14 5, J14 6, J14 7, J14 8, J14 9, J14 10, J14 11, J14 12, J14 13, J14 14, J14 15, J14 16, J14 17, J14 18, J14 19, J14 20, J14 21, J14 22, J14 23, J14 24, J14 25, J14 26, J14 27, J14 28, J14 29, .slice A xs.length cap, .int .i64 (xs.length : Int), .int .i64 (k : Int), J14 33, J14 34, J14 35, J14 36, J14 37, J14 38, J14 39, J14 40, J14 41, J14 42, J14 43, J14 44, J14 45, J14 46, J14 47, J14 48, J14 49, J14 50, J14 51, J14 52, J14 53, J14 54, J14 55, J14 56, J14 57, J14 58, J14 59, J14 60, J14 61, J14 62, J14 63], []⟩ ∧ Blk wr_ g1 #[.int .i64 pr, .slice A xs.length cap] 24 ∧ Below w.heap.size w wr_ ∧ (k ≤ xs.length) ∧ (firstE (xs.length : Int) xs 0 = firstE (xs.length : Int) (xs.drop k) k)) (jk a_)) (xs.length - 0) ⟨0, rfl, rfl, B3, bel, (Nat.zero_le _), (by rw [List.drop_zero])⟩ ?_
  clear B3
  clear bel
  intro n_ a_ w15 h_
  revert h_
  generalize jk a_ = J14
  rintro ⟨k, hms, rfl, B3, bel, hk, hF⟩
  refine wp_seq ?_
  refine wp_region_lit ?_
  refine st_value (v := (.bool (decide ((k : Int) < (xs.length : Int))))) (by rfl) (run_lss (.tmp 32) (.tmp 31) rfl rfl rfl w15) ?_
  simp only [nf0, nf1, nf2, nf3, nf4]
  refine wpList_nil ?_
  show Code.wp _ _ _ _ _
  refine wp_seq ?_
  cases hg16 : decide ((k : Int) < (xs.length : Int))
  rotate_left
  · have hp26 := of_decide_eq_true hg16
    refine wp_cond_true rfl ?_
    refine wp_skip ?_
    show Code.wp _ _ _ _ _
    refine wp_seq ?_
    refine wp_block ?_
    refine wp_seq ?_
    obtain ⟨b27, o28, rfl, _⟩ := (hr.same bel).at_ (by rw [Enc.all_length]; exact Nat.mul_pos (by omega) (by decide))
    refine wp_region_lit ?_
    refine st_mv (.int .i64 (k : Int)) ?_
    simp only [nf0, nf1, nf2, nf3, nf4]
    refine st_value (v := (.pointer (some ⟨b27, o28 + k * 4, none⟩))) (by rfl) (run_indexAddrN (.tmp 30) (.tmp 32) rfl Tryd.underlying22 slIns.sz (i := k) rfl rfl (by omega) w15) ?_
    simp only [nf0, nf1, nf2, nf3, nf4]
    refine st_value (v := (.agg #[.int .i64 ((insAt xs k).1), .int .i64 ((insAt xs k).2.1), .int .i64 ((insAt xs k).2.2.1), .int .i32 ((insAt xs k).2.2.2)])) (by rfl) (run_loadE (E := eIns) (.tmp 35) rfl aggIns rfl (hr.same bel) (insAt_get (by omega))) ?_
    simp only [nf0, nf1, nf2, nf3, nf4]
    refine st_new (cs := #[.int .i64 0, .int .i64 0, .int .i64 0, .int .i32 0]) (t := 35) (by rfl) (run_allocV rfl c_zero_35 _) ?_
    intro g29 w30 B31 hb32 lo33
    simp only [nf0, nf1, nf2, nf3, nf4]
    have n34 := B3.ne lo33
    replace lo33 := low_le bel lo33
    replace B3 := B3.below hb32
    replace bel := bl_step bel hb32
    clear hb32
    refine st_mv (.int .i64 (k : Int)) ?_
    simp only [nf0, nf1, nf2, nf3, nf4]
    refine st_row (by rfl) (run_storeW (.tmp 5) (.tmp 36) rfl (cs := #[.int .i64 ((insAt xs k).1), .int .i64 ((insAt xs k).2.1), .int .i64 ((insAt xs k).2.2.1), .int .i32 ((insAt xs k).2.2.2)]) aggIns rfl rfl B31 rfl (by simp [Value.oneCell'])) B31 ?_
    intro w35 B37 hg36
    simp only [nf0, nf1, nf2, nf3, nf4]
    replace B3 := B3.kept hg36 n34
    replace bel := bl_kept0 bel hg36 lo33
    clear hg36
    clear B31
    refine wpList_nil ?_
    show Code.wp _ _ _ _ _
    refine wp_seq ?_
    refine wp_region_lit ?_
    refine st_value (v := (.agg #[.int .i64 ((insAt xs k).1), .int .i64 ((insAt xs k).2.1), .int .i64 ((insAt xs k).2.2.1), .int .i32 ((insAt xs k).2.2.2)])) (by rfl) (run_loadW (.tmp 5) rfl (cs := #[.int .i64 ((insAt xs k).1), .int .i64 ((insAt xs k).2.1), .int .i64 ((insAt xs k).2.2.1), .int .i32 ((insAt xs k).2.2.2)]) aggIns rfl B37) ?_
    simp only [nf0, nf1, nf2, nf3, nf4]
    refine st_value (v := (.pointer (some ⟨g1, 1, none⟩))) (by rfl) (run_fieldA (.tmp 1) rfl c_fld_24_1 rfl rfl w35) ?_
    simp only [nf0, nf1, nf2, nf3, nf4]
    refine st_value (v := (.slice (some ⟨b27, o28, none⟩) xs.length cap)) (by rfl) (run_loadB (.tmp 38) rfl c_one_22 rfl B3 rfl) ?_
    simp only [nf0, nf1, nf2, nf3, nf4]
    refine st_value (v := (.int .i64 (xs.length : Int))) (by rfl) (run_len (.tmp 39) rfl ⟨_, Tryd.underlying22⟩ rfl w35) ?_
    simp only [nf0, nf1, nf2, nf3, nf4]
    refine st_call1 (v := (.int .i64 (insE (insAt xs k) (xs.length : Int)))) (by rfl) (c_run_call_15_2 (.tmp 37) (.tmp 40) rfl rfl rfl _) (insE_at (insAt xs k) (hok _ (insAt_mem (by omega))) (xs.length : Int) w35) ?_
    intro w38 hb39
    simp only [nf0, nf1, nf2, nf3, nf4]
    replace B3 := B3.below hb39
    replace B37 := B37.below hb39
    replace bel := bl_step bel hb39
    clear hb39
    refine st_mv (.int .i64 (insE (insAt xs k) (xs.length : Int))) ?_
    simp only [nf0, nf1, nf2, nf3, nf4]
    refine wpList_nil ?_
    show Code.wp _ _ _ _ _
    refine wp_seq ?_
    refine wp_region_lit ?_
    refine st_mv (.int .i64 (insE (insAt xs k) (xs.length : Int))) ?_
    simp only [nf0, nf1, nf2, nf3, nf4]
    refine st_value (v := (.bool (!decide ((insE (insAt xs k) (xs.length : Int)) = 0)))) (by rfl) (run_neq_int (.tmp 42) (.const (.int .i64 0)) rfl rfl rfl w38) ?_
    simp only [nf0, nf1, nf2, nf3, nf4]
    refine wpList_nil ?_
    show Code.wp _ _ _ _ _
    cases hg40 : decide ((insE (insAt xs k) (xs.length : Int)) = 0)
    rotate_left
    · have hp42 := of_decide_eq_true hg40
      refine wp_cond_false rfl ?_
      refine wp_skip ?_
      show Code.wp _ _ _ _ _
      refine wp_region_lit ?_
      refine st_value (v := (.int .i64 ((k : Int) + 1))) (by rfl) (run_add_in (.tmp 32) (.const (.int .i64 1)) rfl rfl rfl (by omega) w38) ?_
      simp only [nf0, nf1, nf2, nf3, nf4]
      refine st_mv (.int .i64 ((k : Int) + 1)) ?_
      simp only [nf0, nf1, nf2, nf3, nf4]
      refine wpList_nil ?_
      show ∃ m, m < _ ∧ _
      exact ⟨_, (by omega), (k + 1), rfl, rfl, B3, bel, (by omega), (by rw [hF, firstE_step (by omega), if_pos (by assumption)])⟩
    have hp41 := of_decide_eq_false hg40
    refine wp_cond_true rfl ?_
    refine wp_seq ?_
    refine wp_region_lit ?_
    refine st_mv (.int .i64 (insE (insAt xs k) (xs.length : Int))) ?_
    simp only [nf0, nf1, nf2, nf3, nf4]
    refine st_mv (.int .i64 (k : Int)) ?_
    simp only [nf0, nf1, nf2, nf3, nf4]
    refine st_mv (.int .i64 (insE (insAt xs k) (xs.length : Int))) ?_
    simp only [nf0, nf1, nf2, nf3, nf4]
    refine st_mv (.int .i64 (k : Int)) ?_
    simp only [nf0, nf1, nf2, nf3, nf4]
    refine wpList_nil ?_
    show Code.wp _ _ _ _ _
    refine wp_ret ?_
    first | show bodyPost _ _ _ _ _ _ | (simp only [Exit.then, Exit.inBlock]; show bodyPost _ _ _ _ _ _)
    have hE : chk pr xs = (insE (insAt xs k) (xs.length : Int), (k : Int)) := chk_bad (by omega) (by omega) hF (by omega) (by assumption)
    exact bodyPost_ret (results_tmp2 rfl _ _ _) rfl ⟨by rw [hE]; rfl, bel⟩
  have hp17 := of_decide_eq_false hg16
  refine wp_cond_false rfl ?_
  refine wp_exit ?_
  show Code.wp _ _ _ _ _
  refine wp_seq ?_
  obtain rfl : k = xs.length := by omega
  have hch := chk_last (pr := pr) (by omega) (by omega) hF
  refine wp_region_lit ?_
  refine st_value (v := (.pointer (some ⟨g1, 1, none⟩))) (by rfl) (run_fieldA (.tmp 1) rfl c_fld_24_1 rfl rfl w15) ?_
  simp only [nf0, nf1, nf2, nf3, nf4]
  refine st_value (v := (.slice A xs.length cap)) (by rfl) (run_loadB (.tmp 47) rfl c_one_22 rfl B3 rfl) ?_
  simp only [nf0, nf1, nf2, nf3, nf4]
  refine st_value (v := (.int .i64 (xs.length : Int))) (by rfl) (run_len (.tmp 48) rfl ⟨_, Tryd.underlying22⟩ rfl w15) ?_
  simp only [nf0, nf1, nf2, nf3, nf4]
  refine st_value (v := (.int .i64 ((xs.length - 1 : Nat) : Int))) (by rfl) ((run_sub_in (.tmp 49) (.const (.int .i64 1)) rfl rfl rfl (by omega) w15).trans (by rw [show (xs.length : Int) - 1 = ((xs.length - 1 : Nat) : Int) by omega])) ?_
  simp only [nf0, nf1, nf2, nf3, nf4]
  refine st_mv (.int .i64 ((xs.length - 1 : Nat) : Int)) ?_
  simp only [nf0, nf1, nf2, nf3, nf4]
  refine wpList_nil ?_
  show Code.wp _ _ _ _ _
  refine wp_seq ?_
  refine wp_seq ?_
  obtain ⟨b18, o19, rfl, _⟩ := (hr.same bel).at_ (by rw [Enc.all_length]; exact Nat.mul_pos (by omega) (by decide))
  refine wp_region_lit ?_
  refine st_value (v := (.pointer (some ⟨g1, 1, none⟩))) (by rfl) (run_fieldA (.tmp 1) rfl c_fld_24_1 rfl rfl w15) ?_
  simp only [nf0, nf1, nf2, nf3, nf4]
  refine st_value (v := (.slice (some ⟨b18, o19, none⟩) xs.length cap)) (by rfl) (run_loadB (.tmp 51) rfl c_one_22 rfl B3 rfl) ?_
  simp only [nf0, nf1, nf2, nf3, nf4]
  refine st_mv (.int .i64 ((xs.length - 1 : Nat) : Int)) ?_
  simp only [nf0, nf1, nf2, nf3, nf4]
  refine st_value (v := (.pointer (some ⟨b18, o19 + (xs.length - 1) * 4, none⟩))) (by rfl) (run_indexAddrN (.tmp 52) (.tmp 53) rfl Tryd.underlying22 slIns.sz (i := (xs.length - 1)) rfl (by exact (congrArg (Value.int .i64) (show ((xs.length - 1 : Nat) : Int) = ((xs.length - 1 : Nat) : Int) by omega))) (by omega) w15) ?_
  simp only [nf0, nf1, nf2, nf3, nf4]
  refine st_value (v := (.pointer (some ⟨b18, o19 + (xs.length - 1) * 4 + 0, none⟩))) (by rfl) (run_fieldA (.tmp 54) rfl c_fld_35_0 rfl rfl w15) ?_
  simp only [nf0, nf1, nf2, nf3, nf4]
  refine st_value (v := (.int .i64 ((insAt xs (xs.length - 1)).1))) (by rfl) (run_loadC (.tmp 55) rfl c_one_3 rfl (Reads.cellE (E := eIns) (j := 0) (hr.same bel) (insAt_get (l := xs) (i := (xs.length - 1)) (by omega)) (by rfl))) ?_
  simp only [nf0, nf1, nf2, nf3, nf4]
  refine st_mv (.int .i64 ((insAt xs (xs.length - 1)).1)) ?_
  simp only [nf0, nf1, nf2, nf3, nf4]
  refine wpList_nil ?_
  show Code.wp _ _ _ _ _
  refine wp_seq ?_
  cases hg20 : decide (((insAt xs (xs.length - 1)).1) = 4)
  rotate_left
  · have hp25 := of_decide_eq_true hg20
    refine wp_region_lit ?_
    refine st_mv (.int .i64 ((insAt xs (xs.length - 1)).1)) ?_
    simp only [nf0, nf1, nf2, nf3, nf4]
    refine st_value (v := (.bool false)) (by rfl) ((run_neq_int (.tmp 57) (.const (.int .i64 4)) rfl rfl rfl w15).trans (by rw [hg20]; rfl)) ?_
    simp only [nf0, nf1, nf2, nf3, nf4]
    refine st_mv (.bool false) ?_
    simp only [nf0, nf1, nf2, nf3, nf4]
    refine st_nob (j := 2) (t := 59) (c := false) rfl rfl rfl rfl rfl ?_
    simp only [nf0, nf1, nf2, nf3, nf4]
    refine st_nob (j := 2) (t := 59) (c := false) rfl rfl rfl rfl rfl ?_
    simp only [nf0, nf1, nf2, nf3, nf4]
    refine st_mv (.bool false) ?_
    simp only [nf0, nf1, nf2, nf3, nf4]
    refine wpList_nil ?_
    show Code.wp _ _ _ _ _
    refine wp_cond_false rfl ?_
    refine wp_skip ?_
    show Code.wp _ _ _ _ _
    refine wp_seq ?_
    refine wp_region_lit ?_
    refine st_mv (.int .i64 0) ?_
    simp only [nf0, nf1, nf2, nf3, nf4]
    refine st_mv (.int .i64 0) ?_
    simp only [nf0, nf1, nf2, nf3, nf4]
    refine wpList_nil ?_
    show Code.wp _ _ _ _ _
    refine wp_ret ?_
    first | show bodyPost _ _ _ _ _ _ | (simp only [Exit.then, Exit.inBlock]; show bodyPost _ _ _ _ _ _)
    have hE : chk pr xs = (0, 0) := by rw [hch, if_pos (by omega)]
    exact bodyPost_ret (results_tmp2 rfl _ _ _) rfl ⟨by rw [hE]; rfl, bel⟩
  have hp21 := of_decide_eq_false hg20
  refine wp_region_lit ?_
  refine st_mv (.int .i64 ((insAt xs (xs.length - 1)).1)) ?_
  simp only [nf0, nf1, nf2, nf3, nf4]
  refine st_value (v := (.bool true)) (by rfl) ((run_neq_int (.tmp 57) (.const (.int .i64 4)) rfl rfl rfl w15).trans (by rw [hg20]; rfl)) ?_
  simp only [nf0, nf1, nf2, nf3, nf4]
  refine st_mv (.bool true) ?_
  simp only [nf0, nf1, nf2, nf3, nf4]
  refine st_mv (.int .i64 ((insAt xs (xs.length - 1)).1)) ?_
  simp only [nf0, nf1, nf2, nf3, nf4]
  refine st_value (v := (.bool (!decide (((insAt xs (xs.length - 1)).1) = 14)))) (by rfl) (run_neq_int (.tmp 60) (.const (.int .i64 14)) rfl rfl rfl w15) ?_
  simp only [nf0, nf1, nf2, nf3, nf4]
  refine st_mv (.bool (!decide (((insAt xs (xs.length - 1)).1) = 14))) ?_
  simp only [nf0, nf1, nf2, nf3, nf4]
  refine wpList_nil ?_
  show Code.wp _ _ _ _ _
  cases hg22 : decide (((insAt xs (xs.length - 1)).1) = 14)
  · have hp23 := of_decide_eq_false hg22
    refine wp_cond_true rfl ?_
    refine wp_seq ?_
    refine wp_region_lit ?_
    refine st_mv (.int .i64 ((xs.length - 1 : Nat) : Int)) ?_
    simp only [nf0, nf1, nf2, nf3, nf4]
    refine st_mv (.int .i64 32) ?_
    simp only [nf0, nf1, nf2, nf3, nf4]
    refine st_mv (.int .i64 ((xs.length - 1 : Nat) : Int)) ?_
    simp only [nf0, nf1, nf2, nf3, nf4]
    refine wpList_nil ?_
    show Code.wp _ _ _ _ _
    refine wp_ret ?_
    first | show bodyPost _ _ _ _ _ _ | (simp only [Exit.then, Exit.inBlock]; show bodyPost _ _ _ _ _ _)
    have hE : chk pr xs = (32, ((xs.length - 1 : Nat) : Int)) := by rw [hch, if_neg (by omega)]; congr 1; omega
    exact bodyPost_ret (results_tmp2 rfl _ _ _) rfl ⟨by rw [hE]; rfl, bel⟩
  have hp24 := of_decide_eq_true hg22
  refine wp_cond_false rfl ?_
  refine wp_skip ?_
  show Code.wp _ _ _ _ _
  refine wp_seq ?_
  refine wp_region_lit ?_
  refine st_mv (.int .i64 0) ?_
  simp only [nf0, nf1, nf2, nf3, nf4]
  refine st_mv (.int .i64 0) ?_
  simp only [nf0, nf1, nf2, nf3, nf4]
  refine wpList_nil ?_
  show Code.wp _ _ _ _ _
  refine wp_ret ?_
  first | show bodyPost _ _ _ _ _ _ | (simp only [Exit.then, Exit.inBlock]; show bodyPost _ _ _ _ _ _)
  have hE : chk pr xs = (0, 0) := by rw [hch, if_pos (by omega)]
  exact bodyPost_ret (results_tmp2 rfl _ _ _) rfl ⟨by rw [hE]; rfl, bel⟩
end Go.Proofs.YtjbmahjfmffnoaaDoor

/- strings.Builder: its own block, its row of bytes; what its methods do. -/
namespace Go.Proofs.YtjbmahjfmffnoaaDoor
open Go.RowKit Go.WideShapes Go.ChangeShapes
set_option linter.unusedVariables false

/-- The blocks that a builder's write may change. -/
def bS (g : Nat) (v : Value) : List Nat := g :: v.ownBlock.toList
section
variable {w0 w w1 w2 w' : World} {g k : Nat} {v v' u : Value} {S : List Nat}
theorem nib (h : k ≠ g) (n : Off v k) : k ∉ bS g v := by
  intro hk
  simp only [bS, List.mem_cons, Option.mem_toList] at hk
  rcases hk with hk | hk
  · exact h hk
  · exact n hk
theorem ofb (h : Off u g) (n : Off2 u v) : ∀ j, j ∈ bS g v → Off u j := by
  intro j hj
  simp only [bS, List.mem_cons, Option.mem_toList] at hj
  rcases hj with rfl | hj
  · exact h
  · intro e
    rcases n with n | n
    · rw [n] at e; cases e
    · exact n (by rw [e, hj])
theorem fr_o (h : Fr S w0 w) (k : w.grownBy w' v.ownBlock) (hs : ∀ j, v.ownBlock = some j → j ∈ S ∨ w0.heap.size ≤ j) : Fr S w0 w' :=
  ⟨k.os.trans h.os, k.tape.trans h.tape, k.output.trans h.output, Nat.le_trans h.size k.size, fun j hj hn => (k.block j (Nat.lt_of_lt_of_le hj h.size) (fun e => by rcases hs j e.symm with h | h; exact hn h; omega)).trans (h.block j hj hn)⟩
theorem bl_b {base : Nat} (h : Below base w0 w) (k : Fr (bS g v) w w') (hb : base ≤ w.heap.size) (hg : base ≤ g) (hv : ∀ j, v.ownBlock = some j → base ≤ j) : Below base w0 w' :=
  h.trans ⟨k.os, k.tape, k.output, k.size, fun j hj => k.block j (by omega) (fun hm => by
    simp only [bS, List.mem_cons, Option.mem_toList] at hm
    rcases hm with rfl | hm
    · omega
    · have := hv j hm; omega)⟩
theorem Off.hatB (n : Off v k) (hk : k < w.heap.size) (hat : v'.ownBlock = v.ownBlock ∨ ∀ j, v'.ownBlock = some j → w.heap.size ≤ j) : Off v' k := by
  rcases hat with h | h
  · rw [Off, h]; exact n
  · intro e; have := h k e; omega
theorem Off2.hatB {α : Type} {base : Nat} {e : TypeId} {E : Enc α} {xs : List α} (n : Off2 v u) (h : OwnR w base e E u xs) (hat : v'.ownBlock = v.ownBlock ∨ ∀ j, v'.ownBlock = some j → w.heap.size ≤ j) : Off2 v' u := by
  rcases hat with hh | hh
  · rw [Off2, hh]; exact n
  · cases hv : v'.ownBlock with
    | none => exact .inl hv
    | some j =>
      refine .inr fun e => ?_
      have := hh j hv
      have := (h.lt j (by rw [← e, hv])).2
      omega
end

theorem str_cells (s : List UInt8) : Lib.strCells (str s) = eByte.all s := by
  rw [eByte_all, Lib.strCells_eq]
  rfl
/-- append of a text's bytes to a row of bytes of the call's own. -/
theorem own_append_str {P : Program} {w : World} {t u ty e : TypeId} (T : SlT P t e eByte 1) (hu : P.underlying u = some .string) (hz : (P.info? e).map (·.zero) = some (some (.int .u8 0)))
    {base : Nat} {v : Value} {xs : List UInt8} (hO : OwnR w base e eByte v xs) (s : List UInt8) (hl : xs.length + s.length ≤ 140737488355328) (hbase : base ≤ w.heap.size) :
    ∃ v' w', (Builtin.append_ #[t, u] ty #[v, .string (str s)]).run P w = .ok v' w' ∧ OwnR w' base e eByte v' (xs ++ s) ∧ w.grownBy w' v.ownBlock ∧ (v'.ownBlock = v.ownBlock ∨ ∀ k, v'.ownBlock = some k → w.heap.size ≤ k) := by
  obtain ⟨i, z, h1, h2, h3, h4, h5⟩ := T.info
  have hz0 : i.zero = some (.int .u8 0) := by simpa [h1] using hz
  have hsz : (str s).size = s.length := rfl
  have h3' : i.size = 1 := h3
  obtain ⟨v', w', r1, r2, r3, _⟩ := Lib.run_append_own_string (P := P) w base t u ty e i T.under hu h1 hz0 h3 h4 v xs.length (eByte.all xs) hO (str s) (by unfold maxLen; rw [hsz]; omega) (by rw [hsz]; exact hl) hbase
  rw [str_cells, hsz] at r2
  refine ⟨v', w', r1, ⟨by rw [eByte.all_length, List.length_append], ?_⟩, r3, ?_⟩
  · have := r2.2
    rw [show eByte.all xs ++ eByte.all s = eByte.all (xs ++ s) by rw [eByte_all, eByte_all, eByte_all, List.map_append]] at this
    rw [List.length_append]
    exact this
  · rcases hO.2 with ⟨rfl, h0⟩ | ⟨g, cap, cur, rfl, hbg, hg, hnc, hcm, hcs, htake⟩
    · -- nil: what is handed back is nil, or lies above (the base may be the heap's end)
      have hO2 : w.ownsRow w.heap.size e 1 (.slice none 0 0) xs.length (eByte.all xs) := ⟨by rw [eByte.all_length]; rfl, .inl ⟨rfl, h0⟩⟩
      obtain ⟨v2, w2, q1, q2, _, _⟩ := Lib.run_append_own_string (P := P) w w.heap.size t u ty e i T.under hu h1 hz0 h3 h4 (.slice none 0 0) xs.length (eByte.all xs) hO2 (str s) (by unfold maxLen; rw [hsz]; omega) (by rw [hsz]; exact hl) (Nat.le_refl _)
      rw [q1] at r1
      injection r1 with e1 e2
      subst e1
      exact .inr fun k hk => (q2.lt k hk).1
    · by_cases hroom : xs.length + s.length ≤ cap
      · have hcs' : cur.size = cap := by have : eByte.sz = 1 := rfl; rw [this] at hcs; omega
        have hr := Lib.run_append_room_string (P := P) w t u ty e i T.under hu h1 h3 g xs.length cap cur hg (str s) hroom (by rw [hsz, hcs']; exact hroom)
        rw [hr] at r1
        injection r1 with e1 e2
        subst e1
        exact .inl rfl
      · have holds : ∀ j u, (eByte.all xs)[j]? = some u → w.cell? ((⟨g, 0, none⟩ : Addr).add j) = some u := by
          have hO3 : OwnR w base e eByte (.slice (some ⟨g, 0, none⟩) xs.length cap) xs := hO
          exact World.ownsRow.cells (g := g) hO3 rfl
        have hr := Lib.run_append_grow_string (P := P) w t u ty e i (.int .u8 0) T.under hu h1 hz0 ⟨g, 0, none⟩ xs.length cap (eByte.all xs) (by rw [h3]; exact eByte.all_length xs) holds (str s) (by rw [hsz]; omega) (by rw [hsz]; omega) (by rw [h4, hsz]; exact growslice_fits (by omega) (by omega))
        rw [hr] at r1
        injection r1 with e1 e2
        subst e1
        exact .inr fun k hk => by simp [Value.ownBlock] at hk; omega
theorem st_append_str {P : Program} {ops : Array Oper} {o : Oper} {rest : List Oper} {a : Act} {w : World} {Q : Exit → Act → World → Prop} {t u e : TypeId} (T : SlT P t e eByte 1) (hu : P.underlying u = some .string) (hz : (P.info? e).map (·.zero) = some (some (.int .u8 0))) (hgd : o.guard = none) (s x : Operand)
    (ho : o.op = .call { callee := .builtin .append, args := #[s, x], argTypes := #[t, u] })
    {base : Nat} {v : Value} {xs : List UInt8} (hs : a.eval s = v) (hO : OwnR w base e eByte v xs) (l : List UInt8) (hx : a.eval x = .string (str l)) (hl : xs.length + l.length ≤ 140737488355328) (hbase : base ≤ w.heap.size)
    (h : ∀ v' w', OwnR w' base e eByte v' (xs ++ l) → w.grownBy w' v.ownBlock → (v'.ownBlock = v.ownBlock ∨ ∀ k, v'.ownBlock = some k → w.heap.size ≤ k) → wpList P ops Q rest (a.put o.dst v') w') : wpList P ops Q (o :: rest) a w := by
  refine wpList_plain hgd fun K hK => ?_
  obtain ⟨v', w', hr, h2, h3, h4⟩ := own_append_str (ty := o.type) T hu hz hO l hl hbase
  unfold Oper.wp execOp
  simp only [ho, resolve, invoke, builtin, Sem.run_bind, Sem.run_pure, Result.andThen_ok, List.map_toArray, List.map_cons, List.map_nil, hs, hx, hr]
  exact hK _ _ (h v' w' h2 h3 h4)

theorem bld_info : (Tryd.prog.info? 5).map (·.zero) = some (some (.int .u8 0)) := by kernel_rfl
theorem bld_size : (Tryd.prog.info? 45).map (·.size) = some 2 := by kernel_rfl
theorem bld_lies : liesAt Tryd.prog Tryd.prog.depth 45 (2 / Tryd.prog.cellsOf 45) 0 45 1 = true := by kernel_rfl
theorem bld_byte : Tryd.prog.cellsOf 5 = 1 := by kernel_rfl

set_option maxHeartbeats 1000000 in
set_option maxRecDepth 100000 in
theorem copyCheck_used (b : Nat) (w : World) (h0 : w.cell? ⟨b, 0, none⟩ = some (.pointer (some ⟨b, 0, none⟩))) :
    Calls Tryd.prog 36 #[.pointer (some ⟨b, 0, none⟩)] w fun e w' => e = .returned (.tuple #[]) ∧ w' = w := by
  obtain ⟨j, hj, _⟩ := Option.map_eq_some_iff.1 bld_size
  go_enter Tryd.func36, Tryd.ntmps36
  go_wp2
  rw [Lib.run_neq_ptr_same w _ Tryd.underlying42 hj]
  go_wp2
  go_end0
  exact ⟨rfl, rfl⟩
set_option maxHeartbeats 1000000 in
set_option maxRecDepth 100000 in
theorem copyCheck_fresh (b : Nat) (w : World) (h0 : w.cell? ⟨b, 0, none⟩ = some (.pointer none)) (hsh : w.shape? b = some (45, 2)) (hfz : w.frozen? ⟨b, 0, none⟩ = false) :
    Calls Tryd.prog 36 #[.pointer (some ⟨b, 0, none⟩)] w fun e w' => e = .returned (.tuple #[]) ∧ w' = w.setCell ⟨b, 0, none⟩ (.pointer (some ⟨b, 0, none⟩)) := by
  obtain ⟨j, hj, hjs⟩ := Option.map_eq_some_iff.1 bld_size
  go_enter Tryd.func36, Tryd.ntmps36
  go_wp2
  rw [Lib.run_to_unsafe w ⟨b, 0, none⟩ Tryd.underlying42 Tryd.underlying73 hj (by rw [hjs]; decide) hsh (Nat.zero_lt_succ 1)]
  simp only [Result.andThen]
  rw [Oper.upon_value]
  go_wp2
  rw [run_callFunc_extern Tryd.func45 (by kernel_rfl) (by kernel_rfl) (by kernel_rfl) (e := Extern.AbiNoEscape.same) (by kernel_rfl)]
  rw [Lib.run_noEscape]
  simp only [Result.andThen]
  rw [Oper.upon_value]
  go_wp2
  rw [Lib.run_from_unsafe w ⟨b, 0, none⟩ Tryd.underlying73 Tryd.underlying42 hj hsh bld_lies]
  simp only [Result.andThen]
  rw [Oper.upon_value]
  go_wp2
  go_end0
  exact ⟨rfl, rfl⟩
/-- A builder's first cell: nil, or where it stands. -/
def Bp (g : Nat) (p : Value) : Prop := p = .pointer none ∨ p = .pointer (some ⟨g, 0, none⟩)
theorem copyCheck_calls {g : Nat} {p v : Value} {w : World} (hp : Bp g p) (hB : Blk w g #[p, v] 45) :
    Calls Tryd.prog 36 #[.pointer (some ⟨g, 0, none⟩)] w fun e w' => ∃ u, e = .returned u ∧ u = .tuple #[] ∧ Blk w' g #[.pointer (some ⟨g, 0, none⟩), v] 45 ∧ w.grownBy w' (some g) := by
  rcases hp with rfl | rfl
  · refine (copyCheck_fresh g w ((hB.cell 0).trans rfl) (by have h : w.heap[g]? = _ := hB; simp [World.shape?, h]) (Lib.frozen_of_heap hB 0)).mono ?_
    rintro e w' ⟨rfl, rfl⟩
    exact ⟨_, rfl, rfl, hB.set 0 _, ⟨rfl, rfl, rfl, by simp [World.setCell], fun k _ hk => Below.heap_setCell _ _ _ _ (fun e => hk (by rw [e]))⟩⟩
  · refine (copyCheck_used g w ((hB.cell 0).trans rfl)).mono ?_
    rintro e w' ⟨rfl, rfl⟩
    exact ⟨_, rfl, rfl, hB, ⟨rfl, rfl, rfl, Nat.le_refl _, fun _ _ _ => rfl⟩⟩
end Go.Proofs.YtjbmahjfmffnoaaDoor

/- strings.Builder's WriteByte, WriteString, String. -/
namespace Go.Proofs.YtjbmahjfmffnoaaDoor
open Go.RowKit Go.WideShapes Go.ChangeShapes
set_option linter.unusedSimpArgs false
set_option linter.unusedVariables false

theorem bl_one_sl : One Tryd.prog 43 := one_of Tryd.underlying43 rfl (by kernel_rfl)
theorem bl_fld : FieldAt Tryd.prog 45 1 1 := fieldAt_of (s := 0) Tryd.underlying45 (by kernel_rfl)
theorem bl_run_copy {o : Oper} {a : Act} (x0 : Operand) {ts : Array TypeId} (ho : o.op = .call { callee := .value (.func 36), args := #[x0], argTypes := ts }) {v0 : Value} (h0 : a.eval x0 = v0) (W : World) : (execOp a.eval o).run Tryd.prog W = .ok (.enter 36 #[v0]) W := by
  unfold execOp
  simp only [ho]
  subst h0
  go_simp
theorem bl_run_lit {o : Oper} {a : Act} (x0 : Operand) (ho : o.op = .buildSlice 43 1 #[(0, x0)]) {m0 : Int} (h0 : a.eval x0 = .int .u8 m0) (W : World) : (execOp a.eval o).run Tryd.prog W = .ok (.value (.slice (some ⟨W.heap.size, 0, none⟩) 1 1)) (W.alloc (.cells #[.int .u8 m0] 5)) := by
  unfold execOp
  simp only [ho, List.map_toArray, List.map_cons, List.map_nil, h0]
  go_simp
/-- What a write leaves. -/
def BldOut (w w' : World) (base g : Nat) (v : Value) (xs : List UInt8) : Prop := ∃ v', Blk w' g #[.pointer (some ⟨g, 0, none⟩), v'] 45 ∧ OwnR w' base 5 eByte v' xs ∧ Off v' g ∧ (v'.ownBlock = v.ownBlock ∨ ∀ k, v'.ownBlock = some k → w.heap.size ≤ k) ∧ Fr (bS g v) w w'

section
variable {w : World} {base g : Nat} {p v : Value} {xs : List UInt8}
attribute [local irreducible] Go.wpList Go.Code.wp
set_option maxRecDepth 100000 in
theorem writeString_calls (s : List UInt8) (hp : Bp g p) (hB : Blk w g #[p, v] 45) (hO : OwnR w base 5 eByte v xs) (n0 : Off v g) (hbase : base ≤ w.heap.size) (hl : xs.length + s.length ≤ 140737488355328) :
    Calls Tryd.prog 20 #[.pointer (some ⟨g, 0, none⟩), .string (str s)] w fun e w' => ∃ u, e = .returned u ∧ u = .tuple #[.int .i64 ((s.length : Nat) : Int), .nilIface] ∧ BldOut w w' base g v (xs ++ s) := by
  have fr : Fr (bS g v) w w := Fr.refl _ _
  have hgl := hB.lt
  have hvl := hO.lt
  go_enter Tryd.func20, Tryd.ntmps20
  refine wp_seq ?_
  refine wp_region_lit ?_
  refine st_mv (.int .i64 0) ?_
  simp only [nf0, nf1, nf2, nf3, nf4]
  refine st_mv .nilIface ?_
  simp only [nf0, nf1, nf2, nf3, nf4]
  refine wpList_nil ?_
  show Code.wp _ _ _ _ _
  refine wp_seq ?_
  refine wp_region_lit ?_
  refine st_mv (.pointer (some ⟨g, 0, none⟩)) ?_
  simp only [nf0, nf1, nf2, nf3, nf4]
  refine st_call (by rfl) (bl_run_copy (.tmp 6) rfl rfl _) (copyCheck_calls hp hB) ?_
  rintro _ w1 ⟨rfl, hB1, hg1⟩
  simp only [nf0, nf1, nf2, nf3, nf4]
  replace hO := hO.keptB hg1 n0
  replace fr := fr_in fr hg1 (by simp [bS])
  refine wpList_nil ?_
  show Code.wp _ _ _ _ _
  refine wp_seq ?_
  refine wp_region_lit ?_
  refine st_mv (.pointer (some ⟨g, 0, none⟩)) ?_
  simp only [nf0, nf1, nf2, nf3, nf4]
  refine st_mv (.pointer (some ⟨g, 0, none⟩)) ?_
  simp only [nf0, nf1, nf2, nf3, nf4]
  refine st_value (v := (.pointer (some ⟨g, 0, none⟩))) (by rfl) (run_check (.tmp 9) rfl rfl _) ?_
  simp only [nf0, nf1, nf2, nf3, nf4]
  refine st_value (v := (.pointer (some ⟨g, 1, none⟩))) (by rfl) (run_fieldA (.tmp 10) rfl bl_fld rfl rfl _) ?_
  simp only [nf0, nf1, nf2, nf3, nf4]
  refine st_value (v := v) (by rfl) (run_loadB (.tmp 11) rfl bl_one_sl rfl hB1 rfl) ?_
  simp only [nf0, nf1, nf2, nf3, nf4]
  refine st_mv (.string (str s)) ?_
  simp only [nf0, nf1, nf2, nf3, nf4]
  have hbs : base ≤ w1.heap.size := Nat.le_trans hbase fr.size
  have hs2 := fr.size
  refine st_append_str slByte Tryd.underlying9 bld_info rfl (.tmp 12) (.tmp 13) rfl rfl hO s rfl hl hbs ?_
  intro v3 w3 O3 hg3 hat3
  change _ = v.ownBlock ∨ _ at hat3
  have hg3 : World.grownBy _ _ v.ownBlock := hg3
  simp only [nf0, nf1, nf2, nf3, nf4]
  have n3 : Off v3 g := (n0 : Off _ _).hatB hB1.lt hat3
  have hB3 := hB1.keptR hg3 n0
  replace fr := fr_o fr hg3 (fun j hj => .inl (by simp [bS, hj]))
  refine st_value (v := (.pointer (some ⟨g, 0, none⟩))) (by rfl) (run_check (.tmp 8) rfl rfl _) ?_
  simp only [nf0, nf1, nf2, nf3, nf4]
  refine st_value (v := (.pointer (some ⟨g, 1, none⟩))) (by rfl) (run_fieldA (.tmp 15) rfl bl_fld rfl rfl _) ?_
  simp only [nf0, nf1, nf2, nf3, nf4]
  refine st_cell (v := v3) (by rfl) (run_storeB (.tmp 16) (.tmp 14) rfl bl_one_sl hB3 (show 1 < 2 by decide) rfl rfl (OwnR.cell1 O3).1 (OwnR.cell1 O3).2) hB3 ?_
  intro w4 B4 hg4
  simp only [nf0, nf1, nf2, nf3, nf4]
  have O4 := O3.keptB hg4 n3
  replace fr := fr_in fr hg4 (by simp [bS])
  refine wpList_nil ?_
  show Code.wp _ _ _ _ _
  refine wp_seq ?_
  refine wp_region_lit ?_
  refine st_mv (.string (str s)) ?_
  simp only [nf0, nf1, nf2, nf3, nf4]
  refine st_value (v := (.int .i64 ((s.length : Nat) : Int))) (by rfl) (run_len_text (.tmp 17) rfl Tryd.underlying9 rfl _) ?_
  simp only [nf0, nf1, nf2, nf3, nf4]
  refine st_mv (.int .i64 ((s.length : Nat) : Int)) ?_
  simp only [nf0, nf1, nf2, nf3, nf4]
  refine st_mv .nilIface ?_
  simp only [nf0, nf1, nf2, nf3, nf4]
  refine wpList_nil ?_
  show Code.wp _ _ _ _ _
  refine wp_ret ?_
  first | show bodyPost _ _ _ _ _ _ | (simp only [Exit.then, Exit.inBlock]; show bodyPost _ _ _ _ _ _)
  exact bodyPost_ret (results_tmp2 rfl _ _ _) rfl ⟨_, rfl, rfl, v3, B4, O4, n3, hat3.imp id (fun h k hk => by have := h k hk; omega), fr⟩
end
end Go.Proofs.YtjbmahjfmffnoaaDoor

/- strings.Builder's String. -/
namespace Go.Proofs.YtjbmahjfmffnoaaDoor
open Go.RowKit Go.WideShapes Go.ChangeShapes
set_option linter.unusedSimpArgs false
set_option linter.unusedVariables false

theorem us_none (W : World) (q : Option Addr) : (Builtin.unsafeString_ #[68, 3] 9 #[.pointer q, .int .i64 0]).run Tryd.prog W = .ok (.string .empty) W :=
  Lib.run_unsafeString_none W _ _ _ q
set_option maxHeartbeats 1000000 in
set_option maxRecDepth 100000 in
theorem bString_some (B b g cap : Nat) (p : Value) (cur : Array Value) (l : List UInt8) (w : World) (h0 : l ≠ []) (hbk : w.heap[b]? = some (.cells #[p, .slice (some ⟨g, 0, none⟩) l.length cap] 45 (0, 0)))
    (hbg : B ≤ g) (hg : w.heap[g]? = some (.cells cur 5 (0, 0))) (hnc : l.length ≤ cap) (hcm : cap ≤ maxLen) (hcs : cur.size = cap) (hcells : ∀ j x, l[j]? = some x → w.cell? ((⟨g, 0, none⟩ : Addr).add j) = some (.int .u8 x.toNat)) :
    Calls Tryd.prog 24 #[.pointer (some ⟨b, 0, none⟩)] w fun e w' => e = .returned (.string ⟨l.toArray⟩) ∧ Below B w w' := by
  have hl0 : l.length ≠ 0 := by simpa using h0
  have c1 : w.drew.cell? ⟨b, 1, none⟩ = some (.slice (some ⟨g, 0, none⟩) l.length cap) := by
    have : w.drew.heap[b]? = some (.cells #[p, .slice (some ⟨g, 0, none⟩) l.length cap] 45 (0, 0)) := hbk
    rw [Lib.cell_of_heap this]; rfl
  have hSD : (Builtin.unsafeSliceData_ #[43] 68 #[.slice (some ⟨g, 0, none⟩) l.length cap]).run Tryd.prog w.drew = .ok (.pointer (some ⟨g, 0, none⟩)) w.drew :=
    Lib.run_unsafeSliceData_row _ _ _ _ _ _ (by omega)
  have hUS : (Builtin.unsafeString_ #[68, 3] 9 #[.pointer (some ⟨g, 0, none⟩), .int .i64 l.length]).run Tryd.prog w.drew = .ok (.string ⟨l.toArray⟩) (w.drew.freeze ⟨g, 0, none⟩ l.length) := by
    refine Lib.run_unsafeString_row w.drew 68 3 9 5 Tryd.underlying68 bld_byte g cur.size (by have hg' : w.drew.heap[g]? = some (.cells cur 5 (0, 0)) := hg; simp [World.shape?, hg']) l h0 (by omega) (by unfold maxLen at hcm; omega) ?_
    intro j x hx
    exact hcells j x hx
  go_enter Tryd.func24, Tryd.ntmps24
  go_wp2
  go_region
  all_goals (go_wp2; go_ret; exact ⟨rfl, Lib.below_freeze (Below.drew (Below.refl B w)) (p := ⟨g, 0, none⟩) hbg _⟩)
set_option maxHeartbeats 1000000 in
set_option maxRecDepth 100000 in
theorem bString_nil (B b : Nat) (p : Value) (w : World) (hbk : w.heap[b]? = some (.cells #[p, .slice none 0 0] 45 (0, 0))) :
    Calls Tryd.prog 24 #[.pointer (some ⟨b, 0, none⟩)] w fun e w' => e = .returned (.string ⟨#[]⟩) ∧ Below B w w' := by
  have hUS := us_none
  have c1 : w.drew.cell? ⟨b, 1, none⟩ = some (.slice none 0 0) := by
    have : w.drew.heap[b]? = some (.cells #[p, .slice none 0 0] 45 (0, 0)) := hbk
    rw [Lib.cell_of_heap this]; rfl
  have hSD : (Builtin.unsafeSliceData_ #[43] 68 #[.slice none 0 0]).run Tryd.prog w.drew = .ok (.pointer none) w.drew := rfl
  go_enter Tryd.func24, Tryd.ntmps24
  go_wp2
  go_region
  all_goals (go_wp2; go_ret; exact ⟨rfl, Below.drew (Below.refl B w)⟩)
set_option maxHeartbeats 2000000 in
set_option maxRecDepth 100000 in
theorem bString_noroom (B b g : Nat) (p : Value) (cur : Array Value) (w : World) (hBw : B ≤ w.heap.size) (hbk : w.heap[b]? = some (.cells #[p, .slice (some ⟨g, 0, none⟩) 0 0] 45 (0, 0))) (hg : w.heap[g]? = some (.cells cur 5 (0, 0))) :
    Calls Tryd.prog 24 #[.pointer (some ⟨b, 0, none⟩)] w fun e w' => e = .returned (.string ⟨#[]⟩) ∧ Below B w w' := by
  have hUS := us_none
  have hlt : b < w.heap.size := by
    rcases Nat.lt_or_ge b w.heap.size with h' | h'
    · exact h'
    · simp [Array.getElem?_eq_none h'] at hbk
  have c1 : w.drew.cell? ⟨b, 1, none⟩ = some (.slice (some ⟨g, 0, none⟩) 0 0) := by
    have : w.drew.heap[b]? = some (.cells #[p, .slice (some ⟨g, 0, none⟩) 0 0] 45 (0, 0)) := hbk
    rw [Lib.cell_of_heap this]; rfl
  have hSD : (Builtin.unsafeSliceData_ #[43] 68 #[.slice (some ⟨g, 0, none⟩) 0 0]).run Tryd.prog w.drew = .ok (.pointer (some ⟨w.drew.heap.size, 0, none⟩)) (w.drew.alloc (.view ⟨g, 0, none⟩ 5)) :=
    Lib.run_unsafeSliceData_zero w.drew _ _ 5 Tryd.underlying68 ⟨g, 0, none⟩ 0 (5, cur.size) (by have hg' : w.drew.heap[g]? = some (.cells cur 5 (0, 0)) := hg; simp [World.shape?, hg'])
  have c2 : (w.drew.alloc (.view ⟨g, 0, none⟩ 5)).cell? ⟨b, 1, none⟩ = some (.slice (some ⟨g, 0, none⟩) 0 0) := by
    have : (w.drew.alloc (.view ⟨g, 0, none⟩ 5)).heap[b]? = _ := (Lib.alloc_old w.drew _ b hlt).trans hbk
    rw [Lib.cell_of_heap this]; rfl
  have c3 : (w.alloc (.view ⟨g, 0, none⟩ 5)).drew.cell? ⟨b, 1, none⟩ = some (.slice (some ⟨g, 0, none⟩) 0 0) := c2
  have c0 : w.cell? ⟨b, 1, none⟩ = some (.slice (some ⟨g, 0, none⟩) 0 0) := c1
  go_enter Tryd.func24, Tryd.ntmps24
  go_wp2
  go_region
  all_goals (go_wp2; go_ret; exact ⟨rfl, (Below.drew (Below.refl B w)).alloc hBw _⟩)
set_option maxHeartbeats 2000000 in
set_option maxRecDepth 100000 in
theorem bString_room (B b g cap : Nat) (p : Value) (w : World) (hc0 : cap ≠ 0) (hbk : w.heap[b]? = some (.cells #[p, .slice (some ⟨g, 0, none⟩) 0 cap] 45 (0, 0))) :
    Calls Tryd.prog 24 #[.pointer (some ⟨b, 0, none⟩)] w fun e w' => e = .returned (.string ⟨#[]⟩) ∧ Below B w w' := by
  have hUS := us_none
  have c1 : w.drew.cell? ⟨b, 1, none⟩ = some (.slice (some ⟨g, 0, none⟩) 0 cap) := by
    have : w.drew.heap[b]? = some (.cells #[p, .slice (some ⟨g, 0, none⟩) 0 cap] 45 (0, 0)) := hbk
    rw [Lib.cell_of_heap this]; rfl
  have hSD : (Builtin.unsafeSliceData_ #[43] 68 #[.slice (some ⟨g, 0, none⟩) 0 cap]).run Tryd.prog w.drew = .ok (.pointer (some ⟨g, 0, none⟩)) w.drew :=
    Lib.run_unsafeSliceData_row _ _ _ _ _ _ hc0
  clear hc0
  go_enter Tryd.func24, Tryd.ntmps24
  go_wp2
  go_region
  all_goals (go_wp2; go_ret; exact ⟨rfl, Below.drew (Below.refl B w)⟩)
/-- What the builder has, as a text. -/
theorem bString_calls {w : World} {base g : Nat} {p v : Value} {xs : List UInt8} (hB : Blk w g #[p, v] 45) (hO : OwnR w base 5 eByte v xs) (hbase : base ≤ w.heap.size) :
    Calls Tryd.prog 24 #[.pointer (some ⟨g, 0, none⟩)] w fun e w' => e = .returned (.string (str xs)) ∧ Below base w w' := by
  rcases hO.2 with ⟨rfl, h0⟩ | ⟨g', cap, cur, rfl, hbg, hg, hnc, hcm, hcs, htake⟩
  · cases xs with
    | nil => exact bString_nil base g p w hB
    | cons x r => cases h0
  · have hcs' : cur.size = cap := by have h : eByte.sz = 1 := rfl; rw [h] at hcs; omega
    cases xs with
    | nil =>
      by_cases hc : cap = 0
      · subst hc
        exact bString_noroom base g g' p cur w hbase hB hg
      · exact bString_room base g g' cap p w hc hB
    | cons x r =>
      refine bString_some base g g' cap p cur (x :: r) w (by simp) hB hbg hg hnc hcm hcs' fun j y hj => ?_
      exact World.ownsRow.cells (g := g') hO rfl j _ (by rw [eByte_all, List.getElem?_map, hj]; rfl)
theorem bString_bel {w0 w : World} {g : Nat} {p v : Value} {xs : List UInt8} (hB : Blk w g #[p, v] 45) (hO : OwnR w w0.heap.size 5 eByte v xs) (bel : Below w0.heap.size w0 w) :
    Calls Tryd.prog 24 #[.pointer (some ⟨g, 0, none⟩)] w fun e w' => ∃ u, e = .returned u ∧ u = .string (str xs) ∧ Below w0.heap.size w0 w' :=
  (bString_calls hB hO bel.size).mono fun e w' ⟨h1, h2⟩ => ⟨_, h1, rfl, bel.trans h2⟩
end Go.Proofs.YtjbmahjfmffnoaaDoor

/- A program's text: the program's and the document's. -/
namespace Go.Proofs.YtjbmahjfmffnoaaDoor
open Go.RowKit Go.WideShapes Go.ChangeShapes
set_option linter.unusedSimpArgs false
set_option linter.unusedVariables false

theorem e_fld_35_0 : FieldAt Tryd.prog 35 0 0 := fieldAt_of (s := 0) Tryd.underlying35 (by kernel_rfl)
theorem e_one_3 : One Tryd.prog 3 := one_of Tryd.underlying3 rfl (by kernel_rfl)
theorem e_zero_56 : ZeroOf Tryd.prog 56 #[.bool false, .bool false, .bool false] := zeroOf (z := .agg #[.bool false, .bool false, .bool false]) (by kernel_rfl) rfl
theorem e_fld_56_0 : FieldAt Tryd.prog 56 0 0 := fieldAt_of (s := 0) Tryd.underlying56 (by kernel_rfl)
theorem e_one_4 : One Tryd.prog 4 := one_of Tryd.underlying4 rfl (by kernel_rfl)
theorem e_fld_56_1 : FieldAt Tryd.prog 56 1 1 := fieldAt_of (s := 0) Tryd.underlying56 (by kernel_rfl)
theorem e_fld_56_2 : FieldAt Tryd.prog 56 2 2 := fieldAt_of (s := 0) Tryd.underlying56 (by kernel_rfl)
theorem e_fld_35_3 : FieldAt Tryd.prog 35 3 3 := fieldAt_of (s := 0) Tryd.underlying35 (by kernel_rfl)
theorem e_one_21 : One Tryd.prog 21 := one_of Tryd.underlying21 rfl (by kernel_rfl)
theorem e_fld_35_2 : FieldAt Tryd.prog 35 2 2 := fieldAt_of (s := 0) Tryd.underlying35 (by kernel_rfl)
theorem e_fld_35_1 : FieldAt Tryd.prog 35 1 1 := fieldAt_of (s := 0) Tryd.underlying35 (by kernel_rfl)
theorem e_run_call_8_1 {o : Oper} {a : Act} (x0 : Operand) {ts : Array TypeId} (ho : o.op = .call { callee := .value (.func 8), args := #[x0], argTypes := ts }) {v0 : Value} (h0 : a.eval x0 = v0) (W : World) : (execOp a.eval o).run Tryd.prog W = .ok (.enter 8 #[v0]) W := by
  unfold execOp
  simp only [ho]
  subst h0
  go_simp
theorem e_run_call_21_1 {o : Oper} {a : Act} (x0 : Operand) {ts : Array TypeId} (ho : o.op = .call { callee := .value (.func 21), args := #[x0], argTypes := ts }) {v0 : Value} (h0 : a.eval x0 = v0) (W : World) : (execOp a.eval o).run Tryd.prog W = .ok (.enter 21 #[v0]) W := by
  unfold execOp
  simp only [ho]
  subst h0
  go_simp
theorem e_run_call_22_1 {o : Oper} {a : Act} (x0 : Operand) {ts : Array TypeId} (ho : o.op = .call { callee := .value (.func 22), args := #[x0], argTypes := ts }) {v0 : Value} (h0 : a.eval x0 = v0) (W : World) : (execOp a.eval o).run Tryd.prog W = .ok (.enter 22 #[v0]) W := by
  unfold execOp
  simp only [ho]
  subst h0
  go_simp
theorem e_run_call_28_1 {o : Oper} {a : Act} (x0 : Operand) {ts : Array TypeId} (ho : o.op = .call { callee := .value (.func 28), args := #[x0], argTypes := ts }) {v0 : Value} (h0 : a.eval x0 = v0) (W : World) : (execOp a.eval o).run Tryd.prog W = .ok (.enter 28 #[v0]) W := by
  unfold execOp
  simp only [ho]
  subst h0
  go_simp
theorem e_run_lit_39_1 {o : Oper} {a : Act} (x0 : Operand) (ho : o.op = .buildSlice 39 1 #[(0, x0)]) {m0 : List UInt8} (h0 : a.eval x0 = (.string (str m0))) (W : World) : (execOp a.eval o).run Tryd.prog W = .ok (.value (.slice (some ⟨W.heap.size, 0, none⟩) 1 1)) (W.alloc (.cells #[(.string (str m0))] 9)) := by
  unfold execOp
  simp only [ho, List.map_toArray, List.map_cons, List.map_nil, h0]
  go_simp
theorem e_run_call_9_1 {o : Oper} {a : Act} (x0 : Operand) {ts : Array TypeId} (ho : o.op = .call { callee := .value (.func 9), args := #[x0], argTypes := ts }) {v0 : Value} (h0 : a.eval x0 = v0) (W : World) : (execOp a.eval o).run Tryd.prog W = .ok (.enter 9 #[v0]) W := by
  unfold execOp
  simp only [ho]
  subst h0
  go_simp
theorem e_run_call_16_1 {o : Oper} {a : Act} (x0 : Operand) {ts : Array TypeId} (ho : o.op = .call { callee := .value (.func 16), args := #[x0], argTypes := ts }) {v0 : Value} (h0 : a.eval x0 = v0) (W : World) : (execOp a.eval o).run Tryd.prog W = .ok (.enter 16 #[v0]) W := by
  unfold execOp
  simp only [ho]
  subst h0
  go_simp
theorem e_run_call_18_2 {o : Oper} {a : Act} (x0 : Operand) (x1 : Operand) {ts : Array TypeId} (ho : o.op = .call { callee := .value (.func 18), args := #[x0, x1], argTypes := ts }) {v0 : Value} (h0 : a.eval x0 = v0) {v1 : Value} (h1 : a.eval x1 = v1) (W : World) : (execOp a.eval o).run Tryd.prog W = .ok (.enter 18 #[v0, v1]) W := by
  unfold execOp
  simp only [ho]
  subst h0 h1
  go_simp
theorem e_run_call_25_1 {o : Oper} {a : Act} (x0 : Operand) {ts : Array TypeId} (ho : o.op = .call { callee := .value (.func 25), args := #[x0], argTypes := ts }) {v0 : Value} (h0 : a.eval x0 = v0) (W : World) : (execOp a.eval o).run Tryd.prog W = .ok (.enter 25 #[v0]) W := by
  unfold execOp
  simp only [ho]
  subst h0
  go_simp
theorem e_zero_45 : ZeroOf Tryd.prog 45 #[.pointer none, .slice none 0 0] := zeroOf (z := .agg #[.pointer none, .slice none 0 0]) (by kernel_rfl) rfl
theorem e_fld_24_0 : FieldAt Tryd.prog 24 0 0 := fieldAt_of (s := 0) Tryd.underlying24 (by kernel_rfl)
theorem e_fld_24_1 : FieldAt Tryd.prog 24 1 1 := fieldAt_of (s := 0) Tryd.underlying24 (by kernel_rfl)
theorem e_one_22 : One Tryd.prog 22 := one_of Tryd.underlying22 rfl (by kernel_rfl)
theorem e_zero_35 : ZeroOf Tryd.prog 35 #[.int .i64 0, .int .i64 0, .int .i64 0, .int .i32 0] := zeroOf (z := .agg #[.int .i64 0, .int .i64 0, .int .i64 0, .int .i32 0]) (by kernel_rfl) rfl
theorem e_run_call_20_2 {o : Oper} {a : Act} (x0 : Operand) (x1 : Operand) {ts : Array TypeId} (ho : o.op = .call { callee := .value (.func 20), args := #[x0, x1], argTypes := ts }) {v0 : Value} (h0 : a.eval x0 = v0) {v1 : Value} (h1 : a.eval x1 = v1) (W : World) : (execOp a.eval o).run Tryd.prog W = .ok (.enter 20 #[v0, v1]) W := by
  unfold execOp
  simp only [ho]
  subst h0 h1
  go_simp
theorem e_run_call_23_1 {o : Oper} {a : Act} (x0 : Operand) {ts : Array TypeId} (ho : o.op = .call { callee := .value (.func 23), args := #[x0], argTypes := ts }) {v0 : Value} (h0 : a.eval x0 = v0) (W : World) : (execOp a.eval o).run Tryd.prog W = .ok (.enter 23 #[v0]) W := by
  unfold execOp
  simp only [ho]
  subst h0
  go_simp
theorem e_run_call_24_1 {o : Oper} {a : Act} (x0 : Operand) {ts : Array TypeId} (ho : o.op = .call { callee := .value (.func 24), args := #[x0], argTypes := ts }) {v0 : Value} (h0 : a.eval x0 = v0) (W : World) : (execOp a.eval o).run Tryd.prog W = .ok (.enter 24 #[v0]) W := by
  unfold execOp
  simp only [ho]
  subst h0
  go_simp
theorem e_run_lit_39_2 {o : Oper} {a : Act} (x0 : Operand) (x1 : Operand) (ho : o.op = .buildSlice 39 2 #[(0, x0), (1, x1)]) {m0 : List UInt8} (h0 : a.eval x0 = (.string (str m0))) {m1 : List UInt8} (h1 : a.eval x1 = (.string (str m1))) (W : World) : (execOp a.eval o).run Tryd.prog W = .ok (.value (.slice (some ⟨W.heap.size, 0, none⟩) 2 2)) (W.alloc (.cells #[(.string (str m0)), (.string (str m1))] 9)) := by
  unfold execOp
  simp only [ho, List.map_toArray, List.map_cons, List.map_nil, h0, h1]
  go_simp
theorem e_run_call_26_1 {o : Oper} {a : Act} (x0 : Operand) {ts : Array TypeId} (ho : o.op = .call { callee := .value (.func 26), args := #[x0], argTypes := ts }) {v0 : Value} (h0 : a.eval x0 = v0) (W : World) : (execOp a.eval o).run Tryd.prog W = .ok (.enter 26 #[v0]) W := by
  unfold execOp
  simp only [ho]
  subst h0
  go_simp

attribute [local irreducible] Go.wpList Go.Code.wp
theorem pg_run_join {o : Oper} {a : Act} (x0 x1 : Operand) {ts : Array TypeId} (ho : o.op = .call { callee := .value (.func 37), args := #[x0, x1], argTypes := ts }) {v0 : Value} (h0 : a.eval x0 = v0) {v1 : Value} (h1 : a.eval x1 = v1) (W : World) : (execOp a.eval o).run Tryd.prog W = .ok (.enter 37 #[v0, v1]) W := by
  unfold execOp
  simp only [ho]
  subst h0 h1
  go_simp
set_option maxRecDepth 100000 in
theorem line_calls {w : World} {base : Nat} {v : Value} {xs : List (List UInt8)} (h : OwnR w base 9 eTx v xs) (h1 : xs.length ≤ 140737488355328) (h2 : (Lib.join xs [32]).length ≤ 140737488355328) :
    Calls Tryd.prog 21 #[v] w fun e w' => e = .returned (.string (str (Lib.join xs [32]))) ∧ Below w.heap.size w w' := by
  go_enter Tryd.func21, Tryd.ntmps21
  refine wp_seq ?_
  refine wp_region_lit ?_
  refine st_mv (.string ⟨#[]⟩) ?_
  simp only [nf0, nf1, nf2, nf3, nf4]
  refine wpList_nil ?_
  show Code.wp _ _ _ _ _
  refine wp_seq ?_
  refine wp_region_lit ?_
  refine st_mv v ?_
  simp only [nf0, nf1, nf2, nf3, nf4]
  refine st_call1 (v := .string (str (Lib.join xs [32]))) (by rfl) (pg_run_join (.tmp 3) (.const (.string ⟨#[32]⟩)) rfl rfl rfl _) (joins_calls [32] h h1 h2) ?_
  intro w2 hb
  simp only [nf0, nf1, nf2, nf3, nf4]
  refine st_mv (.string (str (Lib.join xs [32]))) ?_
  simp only [nf0, nf1, nf2, nf3, nf4]
  refine wpList_nil ?_
  show Code.wp _ _ _ _ _
  refine wp_ret ?_
  first | show bodyPost _ _ _ _ _ _ | (simp only [Exit.then, Exit.inBlock]; show bodyPost _ _ _ _ _ _)
  exact bodyPost_ret (results_tmp rfl _ _ _) rfl ⟨rfl, hb⟩
set_option maxRecDepth 100000 in
set_option maxHeartbeats 4000000 in
theorem printed_calls (p : TIns) (hp : okIns p) (w : World) : Calls Tryd.prog 23 #[.agg (eIns.enc p).toArray] w fun e w' => e = .returned (.string (str (prI p))) ∧ Below w.heap.size w w' := by
  have bel : Below w.heap.size w w := Below.refl _ _
  have h0 := nmP_len p.1
  have h1 := tdecI_len hp.2.1
  have h2 := tdecI_len hp.2.2.1
  have h3 := tdecI_len (n := p.2.2.2) (by have h_ := hp.2.2.2; omega)
  go_enter Tryd.func23, Tryd.ntmps23
  refine wp_seq ?_
  refine wp_region_lit ?_
  refine st_new (cs := #[.int .i64 p.1, .int .i64 p.2.1, .int .i64 p.2.2.1, .int .i32 p.2.2.2]) (t := 35) (by rfl) (run_boxV (.tmp 0) rfl (v := (.agg #[.int .i64 p.1, .int .i64 p.2.1, .int .i64 p.2.2.1, .int .i32 p.2.2.2])) rfl rfl _) ?_
  intro g1 w2 B3 hb4 lo5
  simp only [nf0, nf1, nf2, nf3, nf4]
  replace lo5 := low_le bel lo5
  replace bel := bl_step bel hb4
  clear hb4
  refine st_mv (.string (str [])) ?_
  simp only [nf0, nf1, nf2, nf3, nf4]
  refine wpList_nil ?_
  show Code.wp _ _ _ _ _
  refine wp_seq ?_
  refine wp_region_lit ?_
  refine st_value (v := (.pointer (some ⟨g1, 0, none⟩))) (by rfl) (run_fieldA (.tmp 1) rfl e_fld_35_0 rfl rfl w2) ?_
  simp only [nf0, nf1, nf2, nf3, nf4]
  refine st_value (v := (.int .i64 p.1)) (by rfl) (run_loadB (.tmp 5) rfl e_one_3 rfl B3 rfl) ?_
  simp only [nf0, nf1, nf2, nf3, nf4]
  refine st_call1 (v := (.agg #[.bool (shA p.1), .bool (shB p.1), .bool (shN p.1)])) (by rfl) (e_run_call_28_1 (.tmp 6) rfl rfl _) (of_calls p.1 w2) ?_
  intro w6 hb7
  simp only [nf0, nf1, nf2, nf3, nf4]
  replace B3 := B3.below hb7
  replace bel := bl_step bel hb7
  clear hb7
  refine st_new (cs := #[.bool false, .bool false, .bool false]) (t := 56) (by rfl) (run_allocV rfl e_zero_56 _) ?_
  intro g8 w9 B10 hb11 lo12
  simp only [nf0, nf1, nf2, nf3, nf4]
  have n13 := B3.ne lo12
  replace lo12 := low_le bel lo12
  replace B3 := B3.below hb11
  replace bel := bl_step bel hb11
  clear hb11
  refine st_row (by rfl) (run_storeW (.tmp 3) (.tmp 7) rfl (cs := #[.bool (shA p.1), .bool (shB p.1), .bool (shN p.1)]) aggShp rfl rfl B10 rfl (by simp [Value.oneCell'])) B10 ?_
  intro w14 B16 hg15
  simp only [nf0, nf1, nf2, nf3, nf4]
  replace B3 := B3.kept hg15 n13
  replace bel := bl_kept0 bel hg15 lo12
  clear hg15
  clear B10
  refine wpList_nil ?_
  show Code.wp _ _ _ _ _
  refine wp_seq ?_
  refine wp_region_lit ?_
  refine st_value (v := (.pointer (some ⟨g1, 0, none⟩))) (by rfl) (run_fieldA (.tmp 1) rfl e_fld_35_0 rfl rfl w14) ?_
  simp only [nf0, nf1, nf2, nf3, nf4]
  refine st_value (v := (.int .i64 p.1)) (by rfl) (run_loadB (.tmp 8) rfl e_one_3 rfl B3 rfl) ?_
  simp only [nf0, nf1, nf2, nf3, nf4]
  refine st_call1 (v := (.string (str (nmP p.1)))) (by rfl) (e_run_call_8_1 (.tmp 9) rfl rfl _) (pname_calls p.1 w14) ?_
  intro w17 hb18
  simp only [nf0, nf1, nf2, nf3, nf4]
  replace B3 := B3.below hb18
  replace B16 := B16.below hb18
  replace bel := bl_step bel hb18
  clear hb18
  refine st_lit (by rfl) (e_run_lit_39_1 (.tmp 10) rfl rfl _) ?_
  intro g19 w20 B21 hb22 lo23
  simp only [nf0, nf1, nf2, nf3, nf4]
  have n24 := B3.ne lo23
  have n25 := B16.ne lo23
  replace lo23 := low_le bel lo23
  replace B3 := B3.below hb22
  replace B16 := B16.below hb22
  replace bel := bl_step bel hb22
  clear hb22
  refine st_mv (.slice (some ⟨g19, 0, none⟩) 1 1) ?_
  simp only [nf0, nf1, nf2, nf3, nf4]
  refine wpList_nil ?_
  show Code.wp _ _ _ _ _
  refine wp_seq ?_
  refine wp_seq ?_
  have n27 : Off (.slice (some ⟨g19, 0, none⟩) 1 1) g1 := fun e => n24.symm (Option.some.inj e)
  have n28 : Off (.slice (some ⟨g19, 0, none⟩) 1 1) g8 := fun e => n25.symm (Option.some.inj e)
  have O26 : OwnR w20 w.heap.size 9 eTx (.slice (some ⟨g19, 0, none⟩) 1 1) ([(nmP p.1)] : List (List UInt8)) := OwnR.built (xs := ([(nmP p.1)] : List (List UInt8))) B21 (by rfl) lo23 (by simp) rfl
  clear B21
  refine wp_region_lit ?_
  refine st_value (v := (.pointer (some ⟨g8, 0, none⟩))) (by rfl) (run_fieldA (.tmp 3) rfl e_fld_56_0 rfl rfl w20) ?_
  simp only [nf0, nf1, nf2, nf3, nf4]
  refine st_value (v := (.bool (shA p.1))) (by rfl) (run_loadB (.tmp 12) rfl e_one_4 rfl B16 rfl) ?_
  simp only [nf0, nf1, nf2, nf3, nf4]
  refine wpList_nil ?_
  show Code.wp _ _ _ _ _
  cases hg29 : shA p.1
  · have hp30 := trivial
    refine wp_cond_false rfl ?_
    refine wp_skip ?_
    show Code.wp _ _ _ _ _
    refine wp_seq ?_
    refine wp_seq ?_
    refine wp_region_lit ?_
    refine st_value (v := (.pointer (some ⟨g8, 1, none⟩))) (by rfl) (run_fieldA (.tmp 3) rfl e_fld_56_1 rfl rfl w20) ?_
    simp only [nf0, nf1, nf2, nf3, nf4]
    refine st_value (v := (.bool (shB p.1))) (by rfl) (run_loadB (.tmp 21) rfl e_one_4 rfl B16 rfl) ?_
    simp only [nf0, nf1, nf2, nf3, nf4]
    refine wpList_nil ?_
    show Code.wp _ _ _ _ _
    cases hg31 : shB p.1
    · have hp32 := trivial
      refine wp_cond_false rfl ?_
      refine wp_skip ?_
      show Code.wp _ _ _ _ _
      refine wp_seq ?_
      refine wp_seq ?_
      refine wp_region_lit ?_
      refine st_value (v := (.pointer (some ⟨g8, 2, none⟩))) (by rfl) (run_fieldA (.tmp 3) rfl e_fld_56_2 rfl rfl w20) ?_
      simp only [nf0, nf1, nf2, nf3, nf4]
      refine st_value (v := (.bool (shN p.1))) (by rfl) (run_loadB (.tmp 30) rfl e_one_4 rfl B16 rfl) ?_
      simp only [nf0, nf1, nf2, nf3, nf4]
      refine wpList_nil ?_
      show Code.wp _ _ _ _ _
      cases hg33 : shN p.1
      · have hp34 := trivial
        refine wp_cond_false rfl ?_
        refine wp_skip ?_
        show Code.wp _ _ _ _ _
        refine wp_seq ?_
        refine wp_region_lit ?_
        refine st_mv (.slice (some ⟨g19, 0, none⟩) 1 1) ?_
        simp only [nf0, nf1, nf2, nf3, nf4]
        refine st_call1 (v := (.string (str (prI p)))) (by rfl) (e_run_call_21_1 (.tmp 39) rfl rfl _) (show Calls _ _ _ _ fun e w' => e = .returned (.string (str (prI p))) ∧ Below w20.heap.size w20 w' from by have hj_ : Lib.join ([(nmP p.1)] : List (List UInt8)) [32] = (prI p) := (by rw [← wds_join]; unfold wds; rw [hg29, hg31, hg33]; rfl); have h_ := line_calls O26 (by simp only [List.length_append, List.length_cons, List.length_nil]; omega) (by rw [hj_]; have h_ := prI_len hp; omega); rw [hj_] at h_; exact h_) ?_
        intro w35 hb36
        simp only [nf0, nf1, nf2, nf3, nf4]
        replace B3 := B3.below hb36
        replace B16 := B16.below hb36
        replace O26 := O26.same hb36
        replace bel := bl_step bel hb36
        clear hb36
        refine st_mv (.string (str (prI p))) ?_
        simp only [nf0, nf1, nf2, nf3, nf4]
        refine wpList_nil ?_
        show Code.wp _ _ _ _ _
        refine wp_ret ?_
        first | show bodyPost _ _ _ _ _ _ | (simp only [Exit.then, Exit.inBlock]; show bodyPost _ _ _ _ _ _)
        exact bodyPost_ret (results_tmp rfl _ _ _) rfl ⟨rfl, bel⟩
      have hp37 := trivial
      refine wp_cond_true rfl ?_
      refine wp_region_lit ?_
      refine st_mv (.slice (some ⟨g19, 0, none⟩) 1 1) ?_
      simp only [nf0, nf1, nf2, nf3, nf4]
      refine st_value (v := (.pointer (some ⟨g1, 3, none⟩))) (by rfl) (run_fieldA (.tmp 1) rfl e_fld_35_3 rfl rfl w20) ?_
      simp only [nf0, nf1, nf2, nf3, nf4]
      refine st_value (v := (.int .i32 p.2.2.2)) (by rfl) (run_loadB (.tmp 33) rfl e_one_21 rfl B3 rfl) ?_
      simp only [nf0, nf1, nf2, nf3, nf4]
      refine st_value (v := (.int .i64 p.2.2.2)) (by rfl) (run_conv_i32_i64 (.tmp 34) rfl Tryd.underlying21 Tryd.underlying2 (z := p.2.2.2) rfl (by have h_ := hp.2.2.2; omega) w20) ?_
      simp only [nf0, nf1, nf2, nf3, nf4]
      refine st_call1 (v := (.string (str (tdecI p.2.2.2)))) (by rfl) (e_run_call_22_1 (.tmp 35) rfl rfl _) (dec_calls (n := p.2.2.2) (by have h_ := hp.2.2.2; omega) w20) ?_
      intro w38 hb39
      simp only [nf0, nf1, nf2, nf3, nf4]
      replace B3 := B3.below hb39
      replace B16 := B16.below hb39
      replace O26 := O26.same hb39
      replace bel := bl_step bel hb39
      clear hb39
      refine st_lit (by rfl) (e_run_lit_39_1 (.tmp 36) rfl rfl _) ?_
      intro g40 w41 B42 hb43 lo44
      simp only [nf0, nf1, nf2, nf3, nf4]
      have n45 := B3.ne lo44
      have n46 := B16.ne lo44
      have n47 := O26.off lo44
      replace lo44 := low_le bel lo44
      replace B3 := B3.below hb43
      replace B16 := B16.below hb43
      replace O26 := O26.same hb43
      replace bel := bl_step bel hb43
      clear hb43
      refine st_append slTx rfl (.tmp 32) (.tmp 37) rfl rfl O26 ([(tdecI p.2.2.2)] : List (List UInt8)) rfl rfl B42 (by simp [Enc.all, eTx]) (by simp only [List.length_append, List.length_cons, List.length_nil]; omega) bel.size ?_
      intro v48 w49 O50 hg51 hat52
      simp only [nf0, nf1, nf2, nf3, nf4]
      have n53 := (n27 : Off _ _).app B3 hat52
      replace B3 := B3.keptR hg51 n27
      have n54 := (n28 : Off _ _).app B16 hat52
      replace B16 := B16.keptR hg51 n28
      replace bel := bl_app bel O26 hg51
      clear O26 hg51 hat52
      refine st_mv v48 ?_
      simp only [nf0, nf1, nf2, nf3, nf4]
      refine wpList_nil ?_
      show Code.wp _ _ _ _ _
      refine wp_seq ?_
      refine wp_region_lit ?_
      refine st_mv v48 ?_
      simp only [nf0, nf1, nf2, nf3, nf4]
      refine st_call1 (v := (.string (str (prI p)))) (by rfl) (e_run_call_21_1 (.tmp 39) rfl rfl _) (show Calls _ _ _ _ fun e w' => e = .returned (.string (str (prI p))) ∧ Below w49.heap.size w49 w' from by have hj_ : Lib.join (([(nmP p.1)] : List (List UInt8)) ++ ([(tdecI p.2.2.2)] : List (List UInt8))) [32] = (prI p) := (by rw [← wds_join]; unfold wds; rw [hg29, hg31, hg33]; rfl); have h_ := line_calls O50 (by simp only [List.length_append, List.length_cons, List.length_nil]; omega) (by rw [hj_]; have h_ := prI_len hp; omega); rw [hj_] at h_; exact h_) ?_
      intro w55 hb56
      simp only [nf0, nf1, nf2, nf3, nf4]
      replace B3 := B3.below hb56
      replace B16 := B16.below hb56
      replace O50 := O50.same hb56
      replace bel := bl_step bel hb56
      clear hb56
      refine st_mv (.string (str (prI p))) ?_
      simp only [nf0, nf1, nf2, nf3, nf4]
      refine wpList_nil ?_
      show Code.wp _ _ _ _ _
      refine wp_ret ?_
      first | show bodyPost _ _ _ _ _ _ | (simp only [Exit.then, Exit.inBlock]; show bodyPost _ _ _ _ _ _)
      exact bodyPost_ret (results_tmp rfl _ _ _) rfl ⟨rfl, bel⟩
    have hp57 := trivial
    refine wp_cond_true rfl ?_
    refine wp_region_lit ?_
    refine st_mv (.slice (some ⟨g19, 0, none⟩) 1 1) ?_
    simp only [nf0, nf1, nf2, nf3, nf4]
    refine st_value (v := (.pointer (some ⟨g1, 2, none⟩))) (by rfl) (run_fieldA (.tmp 1) rfl e_fld_35_2 rfl rfl w20) ?_
    simp only [nf0, nf1, nf2, nf3, nf4]
    refine st_value (v := (.int .i64 p.2.2.1)) (by rfl) (run_loadB (.tmp 24) rfl e_one_3 rfl B3 rfl) ?_
    simp only [nf0, nf1, nf2, nf3, nf4]
    refine st_call1 (v := (.string (str (tdecI p.2.2.1)))) (by rfl) (e_run_call_22_1 (.tmp 25) rfl rfl _) (dec_calls (n := p.2.2.1) hp.2.2.1 w20) ?_
    intro w58 hb59
    simp only [nf0, nf1, nf2, nf3, nf4]
    replace B3 := B3.below hb59
    replace B16 := B16.below hb59
    replace O26 := O26.same hb59
    replace bel := bl_step bel hb59
    clear hb59
    refine st_value (v := (.string (str ([114] ++ (tdecI p.2.2.1))))) (by rfl) (run_add_text (.const (.string ⟨#[114]⟩)) (.tmp 26) (l := [114]) (m := (tdecI p.2.2.1)) rfl rfl rfl (by (try simp only [List.length_append, List.length_cons, List.length_nil]); omega) w58) ?_
    simp only [nf0, nf1, nf2, nf3, nf4]
    refine st_lit (by rfl) (e_run_lit_39_1 (.tmp 27) rfl rfl _) ?_
    intro g60 w61 B62 hb63 lo64
    simp only [nf0, nf1, nf2, nf3, nf4]
    have n65 := B3.ne lo64
    have n66 := B16.ne lo64
    have n67 := O26.off lo64
    replace lo64 := low_le bel lo64
    replace B3 := B3.below hb63
    replace B16 := B16.below hb63
    replace O26 := O26.same hb63
    replace bel := bl_step bel hb63
    clear hb63
    refine st_append slTx rfl (.tmp 23) (.tmp 28) rfl rfl O26 ([([114] ++ (tdecI p.2.2.1))] : List (List UInt8)) rfl rfl B62 (by simp [Enc.all, eTx]) (by simp only [List.length_append, List.length_cons, List.length_nil]; omega) bel.size ?_
    intro v68 w69 O70 hg71 hat72
    simp only [nf0, nf1, nf2, nf3, nf4]
    have n73 := (n27 : Off _ _).app B3 hat72
    replace B3 := B3.keptR hg71 n27
    have n74 := (n28 : Off _ _).app B16 hat72
    replace B16 := B16.keptR hg71 n28
    replace bel := bl_app bel O26 hg71
    clear O26 hg71 hat72
    refine st_mv v68 ?_
    simp only [nf0, nf1, nf2, nf3, nf4]
    refine wpList_nil ?_
    show Code.wp _ _ _ _ _
    refine wp_seq ?_
    refine wp_seq ?_
    refine wp_region_lit ?_
    refine st_value (v := (.pointer (some ⟨g8, 2, none⟩))) (by rfl) (run_fieldA (.tmp 3) rfl e_fld_56_2 rfl rfl w69) ?_
    simp only [nf0, nf1, nf2, nf3, nf4]
    refine st_value (v := (.bool (shN p.1))) (by rfl) (run_loadB (.tmp 30) rfl e_one_4 rfl B16 rfl) ?_
    simp only [nf0, nf1, nf2, nf3, nf4]
    refine wpList_nil ?_
    show Code.wp _ _ _ _ _
    cases hg75 : shN p.1
    · have hp76 := trivial
      refine wp_cond_false rfl ?_
      refine wp_skip ?_
      show Code.wp _ _ _ _ _
      refine wp_seq ?_
      refine wp_region_lit ?_
      refine st_mv v68 ?_
      simp only [nf0, nf1, nf2, nf3, nf4]
      refine st_call1 (v := (.string (str (prI p)))) (by rfl) (e_run_call_21_1 (.tmp 39) rfl rfl _) (show Calls _ _ _ _ fun e w' => e = .returned (.string (str (prI p))) ∧ Below w69.heap.size w69 w' from by have hj_ : Lib.join (([(nmP p.1)] : List (List UInt8)) ++ ([([114] ++ (tdecI p.2.2.1))] : List (List UInt8))) [32] = (prI p) := (by rw [← wds_join]; unfold wds; rw [hg29, hg31, hg75]; rfl); have h_ := line_calls O70 (by simp only [List.length_append, List.length_cons, List.length_nil]; omega) (by rw [hj_]; have h_ := prI_len hp; omega); rw [hj_] at h_; exact h_) ?_
      intro w77 hb78
      simp only [nf0, nf1, nf2, nf3, nf4]
      replace B3 := B3.below hb78
      replace B16 := B16.below hb78
      replace O70 := O70.same hb78
      replace bel := bl_step bel hb78
      clear hb78
      refine st_mv (.string (str (prI p))) ?_
      simp only [nf0, nf1, nf2, nf3, nf4]
      refine wpList_nil ?_
      show Code.wp _ _ _ _ _
      refine wp_ret ?_
      first | show bodyPost _ _ _ _ _ _ | (simp only [Exit.then, Exit.inBlock]; show bodyPost _ _ _ _ _ _)
      exact bodyPost_ret (results_tmp rfl _ _ _) rfl ⟨rfl, bel⟩
    have hp79 := trivial
    refine wp_cond_true rfl ?_
    refine wp_region_lit ?_
    refine st_mv v68 ?_
    simp only [nf0, nf1, nf2, nf3, nf4]
    refine st_value (v := (.pointer (some ⟨g1, 3, none⟩))) (by rfl) (run_fieldA (.tmp 1) rfl e_fld_35_3 rfl rfl w69) ?_
    simp only [nf0, nf1, nf2, nf3, nf4]
    refine st_value (v := (.int .i32 p.2.2.2)) (by rfl) (run_loadB (.tmp 33) rfl e_one_21 rfl B3 rfl) ?_
    simp only [nf0, nf1, nf2, nf3, nf4]
    refine st_value (v := (.int .i64 p.2.2.2)) (by rfl) (run_conv_i32_i64 (.tmp 34) rfl Tryd.underlying21 Tryd.underlying2 (z := p.2.2.2) rfl (by have h_ := hp.2.2.2; omega) w69) ?_
    simp only [nf0, nf1, nf2, nf3, nf4]
    refine st_call1 (v := (.string (str (tdecI p.2.2.2)))) (by rfl) (e_run_call_22_1 (.tmp 35) rfl rfl _) (dec_calls (n := p.2.2.2) (by have h_ := hp.2.2.2; omega) w69) ?_
    intro w80 hb81
    simp only [nf0, nf1, nf2, nf3, nf4]
    replace B3 := B3.below hb81
    replace B16 := B16.below hb81
    replace O70 := O70.same hb81
    replace bel := bl_step bel hb81
    clear hb81
    refine st_lit (by rfl) (e_run_lit_39_1 (.tmp 36) rfl rfl _) ?_
    intro g82 w83 B84 hb85 lo86
    simp only [nf0, nf1, nf2, nf3, nf4]
    have n87 := B3.ne lo86
    have n88 := B16.ne lo86
    have n89 := O70.off lo86
    replace lo86 := low_le bel lo86
    replace B3 := B3.below hb85
    replace B16 := B16.below hb85
    replace O70 := O70.same hb85
    replace bel := bl_step bel hb85
    clear hb85
    refine st_append slTx rfl (.tmp 32) (.tmp 37) rfl rfl O70 ([(tdecI p.2.2.2)] : List (List UInt8)) rfl rfl B84 (by simp [Enc.all, eTx]) (by simp only [List.length_append, List.length_cons, List.length_nil]; omega) bel.size ?_
    intro v90 w91 O92 hg93 hat94
    simp only [nf0, nf1, nf2, nf3, nf4]
    have n95 := (n73 : Off _ _).app B3 hat94
    replace B3 := B3.keptR hg93 n73
    have n96 := (n74 : Off _ _).app B16 hat94
    replace B16 := B16.keptR hg93 n74
    replace bel := bl_app bel O70 hg93
    clear O70 hg93 hat94
    refine st_mv v90 ?_
    simp only [nf0, nf1, nf2, nf3, nf4]
    refine wpList_nil ?_
    show Code.wp _ _ _ _ _
    refine wp_seq ?_
    refine wp_region_lit ?_
    refine st_mv v90 ?_
    simp only [nf0, nf1, nf2, nf3, nf4]
    refine st_call1 (v := (.string (str (prI p)))) (by rfl) (e_run_call_21_1 (.tmp 39) rfl rfl _) (show Calls _ _ _ _ fun e w' => e = .returned (.string (str (prI p))) ∧ Below w91.heap.size w91 w' from by have hj_ : Lib.join ((([(nmP p.1)] : List (List UInt8)) ++ ([([114] ++ (tdecI p.2.2.1))] : List (List UInt8))) ++ ([(tdecI p.2.2.2)] : List (List UInt8))) [32] = (prI p) := (by rw [← wds_join]; unfold wds; rw [hg29, hg31, hg75]; rfl); have h_ := line_calls O92 (by simp only [List.length_append, List.length_cons, List.length_nil]; omega) (by rw [hj_]; have h_ := prI_len hp; omega); rw [hj_] at h_; exact h_) ?_
    intro w97 hb98
    simp only [nf0, nf1, nf2, nf3, nf4]
    replace B3 := B3.below hb98
    replace B16 := B16.below hb98
    replace O92 := O92.same hb98
    replace bel := bl_step bel hb98
    clear hb98
    refine st_mv (.string (str (prI p))) ?_
    simp only [nf0, nf1, nf2, nf3, nf4]
    refine wpList_nil ?_
    show Code.wp _ _ _ _ _
    refine wp_ret ?_
    first | show bodyPost _ _ _ _ _ _ | (simp only [Exit.then, Exit.inBlock]; show bodyPost _ _ _ _ _ _)
    exact bodyPost_ret (results_tmp rfl _ _ _) rfl ⟨rfl, bel⟩
  have hp99 := trivial
  refine wp_cond_true rfl ?_
  refine wp_region_lit ?_
  refine st_mv (.slice (some ⟨g19, 0, none⟩) 1 1) ?_
  simp only [nf0, nf1, nf2, nf3, nf4]
  refine st_value (v := (.pointer (some ⟨g1, 1, none⟩))) (by rfl) (run_fieldA (.tmp 1) rfl e_fld_35_1 rfl rfl w20) ?_
  simp only [nf0, nf1, nf2, nf3, nf4]
  refine st_value (v := (.int .i64 p.2.1)) (by rfl) (run_loadB (.tmp 15) rfl e_one_3 rfl B3 rfl) ?_
  simp only [nf0, nf1, nf2, nf3, nf4]
  refine st_call1 (v := (.string (str (tdecI p.2.1)))) (by rfl) (e_run_call_22_1 (.tmp 16) rfl rfl _) (dec_calls (n := p.2.1) hp.2.1 w20) ?_
  intro w100 hb101
  simp only [nf0, nf1, nf2, nf3, nf4]
  replace B3 := B3.below hb101
  replace B16 := B16.below hb101
  replace O26 := O26.same hb101
  replace bel := bl_step bel hb101
  clear hb101
  refine st_value (v := (.string (str ([114] ++ (tdecI p.2.1))))) (by rfl) (run_add_text (.const (.string ⟨#[114]⟩)) (.tmp 17) (l := [114]) (m := (tdecI p.2.1)) rfl rfl rfl (by (try simp only [List.length_append, List.length_cons, List.length_nil]); omega) w100) ?_
  simp only [nf0, nf1, nf2, nf3, nf4]
  refine st_lit (by rfl) (e_run_lit_39_1 (.tmp 18) rfl rfl _) ?_
  intro g102 w103 B104 hb105 lo106
  simp only [nf0, nf1, nf2, nf3, nf4]
  have n107 := B3.ne lo106
  have n108 := B16.ne lo106
  have n109 := O26.off lo106
  replace lo106 := low_le bel lo106
  replace B3 := B3.below hb105
  replace B16 := B16.below hb105
  replace O26 := O26.same hb105
  replace bel := bl_step bel hb105
  clear hb105
  refine st_append slTx rfl (.tmp 14) (.tmp 19) rfl rfl O26 ([([114] ++ (tdecI p.2.1))] : List (List UInt8)) rfl rfl B104 (by simp [Enc.all, eTx]) (by simp only [List.length_append, List.length_cons, List.length_nil]; omega) bel.size ?_
  intro v110 w111 O112 hg113 hat114
  simp only [nf0, nf1, nf2, nf3, nf4]
  have n115 := (n27 : Off _ _).app B3 hat114
  replace B3 := B3.keptR hg113 n27
  have n116 := (n28 : Off _ _).app B16 hat114
  replace B16 := B16.keptR hg113 n28
  replace bel := bl_app bel O26 hg113
  clear O26 hg113 hat114
  refine st_mv v110 ?_
  simp only [nf0, nf1, nf2, nf3, nf4]
  refine wpList_nil ?_
  show Code.wp _ _ _ _ _
  refine wp_seq ?_
  refine wp_seq ?_
  refine wp_region_lit ?_
  refine st_value (v := (.pointer (some ⟨g8, 1, none⟩))) (by rfl) (run_fieldA (.tmp 3) rfl e_fld_56_1 rfl rfl w111) ?_
  simp only [nf0, nf1, nf2, nf3, nf4]
  refine st_value (v := (.bool (shB p.1))) (by rfl) (run_loadB (.tmp 21) rfl e_one_4 rfl B16 rfl) ?_
  simp only [nf0, nf1, nf2, nf3, nf4]
  refine wpList_nil ?_
  show Code.wp _ _ _ _ _
  cases hg117 : shB p.1
  · have hp118 := trivial
    refine wp_cond_false rfl ?_
    refine wp_skip ?_
    show Code.wp _ _ _ _ _
    refine wp_seq ?_
    refine wp_seq ?_
    refine wp_region_lit ?_
    refine st_value (v := (.pointer (some ⟨g8, 2, none⟩))) (by rfl) (run_fieldA (.tmp 3) rfl e_fld_56_2 rfl rfl w111) ?_
    simp only [nf0, nf1, nf2, nf3, nf4]
    refine st_value (v := (.bool (shN p.1))) (by rfl) (run_loadB (.tmp 30) rfl e_one_4 rfl B16 rfl) ?_
    simp only [nf0, nf1, nf2, nf3, nf4]
    refine wpList_nil ?_
    show Code.wp _ _ _ _ _
    cases hg119 : shN p.1
    · have hp120 := trivial
      refine wp_cond_false rfl ?_
      refine wp_skip ?_
      show Code.wp _ _ _ _ _
      refine wp_seq ?_
      refine wp_region_lit ?_
      refine st_mv v110 ?_
      simp only [nf0, nf1, nf2, nf3, nf4]
      refine st_call1 (v := (.string (str (prI p)))) (by rfl) (e_run_call_21_1 (.tmp 39) rfl rfl _) (show Calls _ _ _ _ fun e w' => e = .returned (.string (str (prI p))) ∧ Below w111.heap.size w111 w' from by have hj_ : Lib.join (([(nmP p.1)] : List (List UInt8)) ++ ([([114] ++ (tdecI p.2.1))] : List (List UInt8))) [32] = (prI p) := (by rw [← wds_join]; unfold wds; rw [hg29, hg117, hg119]; rfl); have h_ := line_calls O112 (by simp only [List.length_append, List.length_cons, List.length_nil]; omega) (by rw [hj_]; have h_ := prI_len hp; omega); rw [hj_] at h_; exact h_) ?_
      intro w121 hb122
      simp only [nf0, nf1, nf2, nf3, nf4]
      replace B3 := B3.below hb122
      replace B16 := B16.below hb122
      replace O112 := O112.same hb122
      replace bel := bl_step bel hb122
      clear hb122
      refine st_mv (.string (str (prI p))) ?_
      simp only [nf0, nf1, nf2, nf3, nf4]
      refine wpList_nil ?_
      show Code.wp _ _ _ _ _
      refine wp_ret ?_
      first | show bodyPost _ _ _ _ _ _ | (simp only [Exit.then, Exit.inBlock]; show bodyPost _ _ _ _ _ _)
      exact bodyPost_ret (results_tmp rfl _ _ _) rfl ⟨rfl, bel⟩
    have hp123 := trivial
    refine wp_cond_true rfl ?_
    refine wp_region_lit ?_
    refine st_mv v110 ?_
    simp only [nf0, nf1, nf2, nf3, nf4]
    refine st_value (v := (.pointer (some ⟨g1, 3, none⟩))) (by rfl) (run_fieldA (.tmp 1) rfl e_fld_35_3 rfl rfl w111) ?_
    simp only [nf0, nf1, nf2, nf3, nf4]
    refine st_value (v := (.int .i32 p.2.2.2)) (by rfl) (run_loadB (.tmp 33) rfl e_one_21 rfl B3 rfl) ?_
    simp only [nf0, nf1, nf2, nf3, nf4]
    refine st_value (v := (.int .i64 p.2.2.2)) (by rfl) (run_conv_i32_i64 (.tmp 34) rfl Tryd.underlying21 Tryd.underlying2 (z := p.2.2.2) rfl (by have h_ := hp.2.2.2; omega) w111) ?_
    simp only [nf0, nf1, nf2, nf3, nf4]
    refine st_call1 (v := (.string (str (tdecI p.2.2.2)))) (by rfl) (e_run_call_22_1 (.tmp 35) rfl rfl _) (dec_calls (n := p.2.2.2) (by have h_ := hp.2.2.2; omega) w111) ?_
    intro w124 hb125
    simp only [nf0, nf1, nf2, nf3, nf4]
    replace B3 := B3.below hb125
    replace B16 := B16.below hb125
    replace O112 := O112.same hb125
    replace bel := bl_step bel hb125
    clear hb125
    refine st_lit (by rfl) (e_run_lit_39_1 (.tmp 36) rfl rfl _) ?_
    intro g126 w127 B128 hb129 lo130
    simp only [nf0, nf1, nf2, nf3, nf4]
    have n131 := B3.ne lo130
    have n132 := B16.ne lo130
    have n133 := O112.off lo130
    replace lo130 := low_le bel lo130
    replace B3 := B3.below hb129
    replace B16 := B16.below hb129
    replace O112 := O112.same hb129
    replace bel := bl_step bel hb129
    clear hb129
    refine st_append slTx rfl (.tmp 32) (.tmp 37) rfl rfl O112 ([(tdecI p.2.2.2)] : List (List UInt8)) rfl rfl B128 (by simp [Enc.all, eTx]) (by simp only [List.length_append, List.length_cons, List.length_nil]; omega) bel.size ?_
    intro v134 w135 O136 hg137 hat138
    simp only [nf0, nf1, nf2, nf3, nf4]
    have n139 := (n115 : Off _ _).app B3 hat138
    replace B3 := B3.keptR hg137 n115
    have n140 := (n116 : Off _ _).app B16 hat138
    replace B16 := B16.keptR hg137 n116
    replace bel := bl_app bel O112 hg137
    clear O112 hg137 hat138
    refine st_mv v134 ?_
    simp only [nf0, nf1, nf2, nf3, nf4]
    refine wpList_nil ?_
    show Code.wp _ _ _ _ _
    refine wp_seq ?_
    refine wp_region_lit ?_
    refine st_mv v134 ?_
    simp only [nf0, nf1, nf2, nf3, nf4]
    refine st_call1 (v := (.string (str (prI p)))) (by rfl) (e_run_call_21_1 (.tmp 39) rfl rfl _) (show Calls _ _ _ _ fun e w' => e = .returned (.string (str (prI p))) ∧ Below w135.heap.size w135 w' from by have hj_ : Lib.join ((([(nmP p.1)] : List (List UInt8)) ++ ([([114] ++ (tdecI p.2.1))] : List (List UInt8))) ++ ([(tdecI p.2.2.2)] : List (List UInt8))) [32] = (prI p) := (by rw [← wds_join]; unfold wds; rw [hg29, hg117, hg119]; rfl); have h_ := line_calls O136 (by simp only [List.length_append, List.length_cons, List.length_nil]; omega) (by rw [hj_]; have h_ := prI_len hp; omega); rw [hj_] at h_; exact h_) ?_
    intro w141 hb142
    simp only [nf0, nf1, nf2, nf3, nf4]
    replace B3 := B3.below hb142
    replace B16 := B16.below hb142
    replace O136 := O136.same hb142
    replace bel := bl_step bel hb142
    clear hb142
    refine st_mv (.string (str (prI p))) ?_
    simp only [nf0, nf1, nf2, nf3, nf4]
    refine wpList_nil ?_
    show Code.wp _ _ _ _ _
    refine wp_ret ?_
    first | show bodyPost _ _ _ _ _ _ | (simp only [Exit.then, Exit.inBlock]; show bodyPost _ _ _ _ _ _)
    exact bodyPost_ret (results_tmp rfl _ _ _) rfl ⟨rfl, bel⟩
  have hp143 := trivial
  refine wp_cond_true rfl ?_
  refine wp_region_lit ?_
  refine st_mv v110 ?_
  simp only [nf0, nf1, nf2, nf3, nf4]
  refine st_value (v := (.pointer (some ⟨g1, 2, none⟩))) (by rfl) (run_fieldA (.tmp 1) rfl e_fld_35_2 rfl rfl w111) ?_
  simp only [nf0, nf1, nf2, nf3, nf4]
  refine st_value (v := (.int .i64 p.2.2.1)) (by rfl) (run_loadB (.tmp 24) rfl e_one_3 rfl B3 rfl) ?_
  simp only [nf0, nf1, nf2, nf3, nf4]
  refine st_call1 (v := (.string (str (tdecI p.2.2.1)))) (by rfl) (e_run_call_22_1 (.tmp 25) rfl rfl _) (dec_calls (n := p.2.2.1) hp.2.2.1 w111) ?_
  intro w144 hb145
  simp only [nf0, nf1, nf2, nf3, nf4]
  replace B3 := B3.below hb145
  replace B16 := B16.below hb145
  replace O112 := O112.same hb145
  replace bel := bl_step bel hb145
  clear hb145
  refine st_value (v := (.string (str ([114] ++ (tdecI p.2.2.1))))) (by rfl) (run_add_text (.const (.string ⟨#[114]⟩)) (.tmp 26) (l := [114]) (m := (tdecI p.2.2.1)) rfl rfl rfl (by (try simp only [List.length_append, List.length_cons, List.length_nil]); omega) w144) ?_
  simp only [nf0, nf1, nf2, nf3, nf4]
  refine st_lit (by rfl) (e_run_lit_39_1 (.tmp 27) rfl rfl _) ?_
  intro g146 w147 B148 hb149 lo150
  simp only [nf0, nf1, nf2, nf3, nf4]
  have n151 := B3.ne lo150
  have n152 := B16.ne lo150
  have n153 := O112.off lo150
  replace lo150 := low_le bel lo150
  replace B3 := B3.below hb149
  replace B16 := B16.below hb149
  replace O112 := O112.same hb149
  replace bel := bl_step bel hb149
  clear hb149
  refine st_append slTx rfl (.tmp 23) (.tmp 28) rfl rfl O112 ([([114] ++ (tdecI p.2.2.1))] : List (List UInt8)) rfl rfl B148 (by simp [Enc.all, eTx]) (by simp only [List.length_append, List.length_cons, List.length_nil]; omega) bel.size ?_
  intro v154 w155 O156 hg157 hat158
  simp only [nf0, nf1, nf2, nf3, nf4]
  have n159 := (n115 : Off _ _).app B3 hat158
  replace B3 := B3.keptR hg157 n115
  have n160 := (n116 : Off _ _).app B16 hat158
  replace B16 := B16.keptR hg157 n116
  replace bel := bl_app bel O112 hg157
  clear O112 hg157 hat158
  refine st_mv v154 ?_
  simp only [nf0, nf1, nf2, nf3, nf4]
  refine wpList_nil ?_
  show Code.wp _ _ _ _ _
  refine wp_seq ?_
  refine wp_seq ?_
  refine wp_region_lit ?_
  refine st_value (v := (.pointer (some ⟨g8, 2, none⟩))) (by rfl) (run_fieldA (.tmp 3) rfl e_fld_56_2 rfl rfl w155) ?_
  simp only [nf0, nf1, nf2, nf3, nf4]
  refine st_value (v := (.bool (shN p.1))) (by rfl) (run_loadB (.tmp 30) rfl e_one_4 rfl B16 rfl) ?_
  simp only [nf0, nf1, nf2, nf3, nf4]
  refine wpList_nil ?_
  show Code.wp _ _ _ _ _
  cases hg161 : shN p.1
  · have hp162 := trivial
    refine wp_cond_false rfl ?_
    refine wp_skip ?_
    show Code.wp _ _ _ _ _
    refine wp_seq ?_
    refine wp_region_lit ?_
    refine st_mv v154 ?_
    simp only [nf0, nf1, nf2, nf3, nf4]
    refine st_call1 (v := (.string (str (prI p)))) (by rfl) (e_run_call_21_1 (.tmp 39) rfl rfl _) (show Calls _ _ _ _ fun e w' => e = .returned (.string (str (prI p))) ∧ Below w155.heap.size w155 w' from by have hj_ : Lib.join ((([(nmP p.1)] : List (List UInt8)) ++ ([([114] ++ (tdecI p.2.1))] : List (List UInt8))) ++ ([([114] ++ (tdecI p.2.2.1))] : List (List UInt8))) [32] = (prI p) := (by rw [← wds_join]; unfold wds; rw [hg29, hg117, hg161]; rfl); have h_ := line_calls O156 (by simp only [List.length_append, List.length_cons, List.length_nil]; omega) (by rw [hj_]; have h_ := prI_len hp; omega); rw [hj_] at h_; exact h_) ?_
    intro w163 hb164
    simp only [nf0, nf1, nf2, nf3, nf4]
    replace B3 := B3.below hb164
    replace B16 := B16.below hb164
    replace O156 := O156.same hb164
    replace bel := bl_step bel hb164
    clear hb164
    refine st_mv (.string (str (prI p))) ?_
    simp only [nf0, nf1, nf2, nf3, nf4]
    refine wpList_nil ?_
    show Code.wp _ _ _ _ _
    refine wp_ret ?_
    first | show bodyPost _ _ _ _ _ _ | (simp only [Exit.then, Exit.inBlock]; show bodyPost _ _ _ _ _ _)
    exact bodyPost_ret (results_tmp rfl _ _ _) rfl ⟨rfl, bel⟩
  have hp165 := trivial
  refine wp_cond_true rfl ?_
  refine wp_region_lit ?_
  refine st_mv v154 ?_
  simp only [nf0, nf1, nf2, nf3, nf4]
  refine st_value (v := (.pointer (some ⟨g1, 3, none⟩))) (by rfl) (run_fieldA (.tmp 1) rfl e_fld_35_3 rfl rfl w155) ?_
  simp only [nf0, nf1, nf2, nf3, nf4]
  refine st_value (v := (.int .i32 p.2.2.2)) (by rfl) (run_loadB (.tmp 33) rfl e_one_21 rfl B3 rfl) ?_
  simp only [nf0, nf1, nf2, nf3, nf4]
  refine st_value (v := (.int .i64 p.2.2.2)) (by rfl) (run_conv_i32_i64 (.tmp 34) rfl Tryd.underlying21 Tryd.underlying2 (z := p.2.2.2) rfl (by have h_ := hp.2.2.2; omega) w155) ?_
  simp only [nf0, nf1, nf2, nf3, nf4]
  refine st_call1 (v := (.string (str (tdecI p.2.2.2)))) (by rfl) (e_run_call_22_1 (.tmp 35) rfl rfl _) (dec_calls (n := p.2.2.2) (by have h_ := hp.2.2.2; omega) w155) ?_
  intro w166 hb167
  simp only [nf0, nf1, nf2, nf3, nf4]
  replace B3 := B3.below hb167
  replace B16 := B16.below hb167
  replace O156 := O156.same hb167
  replace bel := bl_step bel hb167
  clear hb167
  refine st_lit (by rfl) (e_run_lit_39_1 (.tmp 36) rfl rfl _) ?_
  intro g168 w169 B170 hb171 lo172
  simp only [nf0, nf1, nf2, nf3, nf4]
  have n173 := B3.ne lo172
  have n174 := B16.ne lo172
  have n175 := O156.off lo172
  replace lo172 := low_le bel lo172
  replace B3 := B3.below hb171
  replace B16 := B16.below hb171
  replace O156 := O156.same hb171
  replace bel := bl_step bel hb171
  clear hb171
  refine st_append slTx rfl (.tmp 32) (.tmp 37) rfl rfl O156 ([(tdecI p.2.2.2)] : List (List UInt8)) rfl rfl B170 (by simp [Enc.all, eTx]) (by simp only [List.length_append, List.length_cons, List.length_nil]; omega) bel.size ?_
  intro v176 w177 O178 hg179 hat180
  simp only [nf0, nf1, nf2, nf3, nf4]
  have n181 := (n159 : Off _ _).app B3 hat180
  replace B3 := B3.keptR hg179 n159
  have n182 := (n160 : Off _ _).app B16 hat180
  replace B16 := B16.keptR hg179 n160
  replace bel := bl_app bel O156 hg179
  clear O156 hg179 hat180
  refine st_mv v176 ?_
  simp only [nf0, nf1, nf2, nf3, nf4]
  refine wpList_nil ?_
  show Code.wp _ _ _ _ _
  refine wp_seq ?_
  refine wp_region_lit ?_
  refine st_mv v176 ?_
  simp only [nf0, nf1, nf2, nf3, nf4]
  refine st_call1 (v := (.string (str (prI p)))) (by rfl) (e_run_call_21_1 (.tmp 39) rfl rfl _) (show Calls _ _ _ _ fun e w' => e = .returned (.string (str (prI p))) ∧ Below w177.heap.size w177 w' from by have hj_ : Lib.join (((([(nmP p.1)] : List (List UInt8)) ++ ([([114] ++ (tdecI p.2.1))] : List (List UInt8))) ++ ([([114] ++ (tdecI p.2.2.1))] : List (List UInt8))) ++ ([(tdecI p.2.2.2)] : List (List UInt8))) [32] = (prI p) := (by rw [← wds_join]; unfold wds; rw [hg29, hg117, hg161]; rfl); have h_ := line_calls O178 (by simp only [List.length_append, List.length_cons, List.length_nil]; omega) (by rw [hj_]; have h_ := prI_len hp; omega); rw [hj_] at h_; exact h_) ?_
  intro w183 hb184
  simp only [nf0, nf1, nf2, nf3, nf4]
  replace B3 := B3.below hb184
  replace B16 := B16.below hb184
  replace O178 := O178.same hb184
  replace bel := bl_step bel hb184
  clear hb184
  refine st_mv (.string (str (prI p))) ?_
  simp only [nf0, nf1, nf2, nf3, nf4]
  refine wpList_nil ?_
  show Code.wp _ _ _ _ _
  refine wp_ret ?_
  first | show bodyPost _ _ _ _ _ _ | (simp only [Exit.then, Exit.inBlock]; show bodyPost _ _ _ _ _ _)
  exact bodyPost_ret (results_tmp rfl _ _ _) rfl ⟨rfl, bel⟩
set_option maxRecDepth 100000 in
set_option maxHeartbeats 4000000 in
theorem refIns_calls (p : TIns) (hp : okIns p) (w : World) : Calls Tryd.prog 26 #[.agg (eIns.enc p).toArray] w fun e w' => e = .returned (.string (str (prI p))) ∧ Below w.heap.size w w' := by
  have bel : Below w.heap.size w w := Below.refl _ _
  have h0 := nmP_len p.1
  have h1 := tdecI_len hp.2.1
  have h2 := tdecI_len hp.2.2.1
  have h3 := tdecI_len (n := p.2.2.2) (by have h_ := hp.2.2.2; omega)
  go_enter Tryd.func26, Tryd.ntmps26
  refine wp_seq ?_
  refine wp_region_lit ?_
  refine st_new (cs := #[.int .i64 p.1, .int .i64 p.2.1, .int .i64 p.2.2.1, .int .i32 p.2.2.2]) (t := 35) (by rfl) (run_boxV (.tmp 0) rfl (v := (.agg #[.int .i64 p.1, .int .i64 p.2.1, .int .i64 p.2.2.1, .int .i32 p.2.2.2])) rfl rfl _) ?_
  intro g1 w2 B3 hb4 lo5
  simp only [nf0, nf1, nf2, nf3, nf4]
  replace lo5 := low_le bel lo5
  replace bel := bl_step bel hb4
  clear hb4
  refine st_mv (.string (str [])) ?_
  simp only [nf0, nf1, nf2, nf3, nf4]
  refine wpList_nil ?_
  show Code.wp _ _ _ _ _
  refine wp_seq ?_
  refine wp_region_lit ?_
  refine st_value (v := (.pointer (some ⟨g1, 0, none⟩))) (by rfl) (run_fieldA (.tmp 1) rfl e_fld_35_0 rfl rfl w2) ?_
  simp only [nf0, nf1, nf2, nf3, nf4]
  refine st_value (v := (.int .i64 p.1)) (by rfl) (run_loadB (.tmp 5) rfl e_one_3 rfl B3 rfl) ?_
  simp only [nf0, nf1, nf2, nf3, nf4]
  refine st_call1 (v := (.string (str (nmP p.1)))) (by rfl) (e_run_call_9_1 (.tmp 6) rfl rfl _) (refPName_calls p.1 w2) ?_
  intro w6 hb7
  simp only [nf0, nf1, nf2, nf3, nf4]
  replace B3 := B3.below hb7
  replace bel := bl_step bel hb7
  clear hb7
  refine st_mv (.string (str (nmP p.1))) ?_
  simp only [nf0, nf1, nf2, nf3, nf4]
  refine wpList_nil ?_
  show Code.wp _ _ _ _ _
  refine wp_seq ?_
  refine wp_region_lit ?_
  refine st_value (v := (.pointer (some ⟨g1, 0, none⟩))) (by rfl) (run_fieldA (.tmp 1) rfl e_fld_35_0 rfl rfl w6) ?_
  simp only [nf0, nf1, nf2, nf3, nf4]
  refine st_value (v := (.int .i64 p.1)) (by rfl) (run_loadB (.tmp 8) rfl e_one_3 rfl B3 rfl) ?_
  simp only [nf0, nf1, nf2, nf3, nf4]
  refine st_call1 (v := (.string (str (shp p.1)))) (by rfl) (e_run_call_16_1 (.tmp 9) rfl rfl _) (shape_calls p.1 w6) ?_
  intro w8 hb9
  simp only [nf0, nf1, nf2, nf3, nf4]
  replace B3 := B3.below hb9
  replace bel := bl_step bel hb9
  clear hb9
  refine st_mv (.string (str (shp p.1))) ?_
  simp only [nf0, nf1, nf2, nf3, nf4]
  refine wpList_nil ?_
  show Code.wp _ _ _ _ _
  refine wp_seq ?_
  refine wp_seq ?_
  refine wp_region_lit ?_
  refine st_mv (.string (str (shp p.1))) ?_
  simp only [nf0, nf1, nf2, nf3, nf4]
  refine st_call1 (v := (.bool (shA p.1))) (by rfl) (e_run_call_18_2 (.tmp 11) (.const (.int .u8 65)) rfl rfl rfl _) (show Calls _ _ _ _ fun e w' => e = .returned (.bool (shA p.1)) ∧ Below w8.heap.size w8 w' from by have h_ := hasC_calls (shp p.1) 65 (by have := (shp_has p.1).2.2.2; omega) w8; rw [(shp_has p.1).1] at h_; exact h_) ?_
  intro w10 hb11
  simp only [nf0, nf1, nf2, nf3, nf4]
  replace B3 := B3.below hb11
  replace bel := bl_step bel hb11
  clear hb11
  refine wpList_nil ?_
  show Code.wp _ _ _ _ _
  cases hg12 : shA p.1
  · have hp13 := trivial
    refine wp_cond_false rfl ?_
    refine wp_skip ?_
    show Code.wp _ _ _ _ _
    refine wp_seq ?_
    refine wp_seq ?_
    refine wp_region_lit ?_
    refine st_mv (.string (str (shp p.1))) ?_
    simp only [nf0, nf1, nf2, nf3, nf4]
    refine st_call1 (v := (.bool (shB p.1))) (by rfl) (e_run_call_18_2 (.tmp 19) (.const (.int .u8 66)) rfl rfl rfl _) (show Calls _ _ _ _ fun e w' => e = .returned (.bool (shB p.1)) ∧ Below w10.heap.size w10 w' from by have h_ := hasC_calls (shp p.1) 66 (by have := (shp_has p.1).2.2.2; omega) w10; rw [(shp_has p.1).2.1] at h_; exact h_) ?_
    intro w14 hb15
    simp only [nf0, nf1, nf2, nf3, nf4]
    replace B3 := B3.below hb15
    replace bel := bl_step bel hb15
    clear hb15
    refine wpList_nil ?_
    show Code.wp _ _ _ _ _
    cases hg16 : shB p.1
    · have hp17 := trivial
      refine wp_cond_false rfl ?_
      refine wp_skip ?_
      show Code.wp _ _ _ _ _
      refine wp_seq ?_
      refine wp_seq ?_
      refine wp_region_lit ?_
      refine st_mv (.string (str (shp p.1))) ?_
      simp only [nf0, nf1, nf2, nf3, nf4]
      refine st_call1 (v := (.bool (shN p.1))) (by rfl) (e_run_call_18_2 (.tmp 27) (.const (.int .u8 78)) rfl rfl rfl _) (show Calls _ _ _ _ fun e w' => e = .returned (.bool (shN p.1)) ∧ Below w14.heap.size w14 w' from by have h_ := hasC_calls (shp p.1) 78 (by have := (shp_has p.1).2.2.2; omega) w14; rw [(shp_has p.1).2.2.1] at h_; exact h_) ?_
      intro w18 hb19
      simp only [nf0, nf1, nf2, nf3, nf4]
      replace B3 := B3.below hb19
      replace bel := bl_step bel hb19
      clear hb19
      refine wpList_nil ?_
      show Code.wp _ _ _ _ _
      cases hg20 : shN p.1
      · have hp21 := trivial
        refine wp_cond_false rfl ?_
        refine wp_skip ?_
        show Code.wp _ _ _ _ _
        refine wp_seq ?_
        refine wp_region_lit ?_
        refine st_mv (.string (str (nmP p.1))) ?_
        simp only [nf0, nf1, nf2, nf3, nf4]
        refine st_mv (.string (str (nmP p.1))) ?_
        simp only [nf0, nf1, nf2, nf3, nf4]
        refine wpList_nil ?_
        show Code.wp _ _ _ _ _
        refine wp_ret ?_
        first | show bodyPost _ _ _ _ _ _ | (simp only [Exit.then, Exit.inBlock]; show bodyPost _ _ _ _ _ _)
        have hE : prI p = (nmP p.1) := by unfold prI; rw [hg12, hg16, hg20]; simp
        exact bodyPost_ret (results_tmp rfl _ _ _) rfl ⟨by rw [hE]; rfl, bel⟩
      have hp22 := trivial
      refine wp_cond_true rfl ?_
      refine wp_region_lit ?_
      refine st_mv (.string (str (nmP p.1))) ?_
      simp only [nf0, nf1, nf2, nf3, nf4]
      refine st_value (v := (.pointer (some ⟨g1, 3, none⟩))) (by rfl) (run_fieldA (.tmp 1) rfl e_fld_35_3 rfl rfl w18) ?_
      simp only [nf0, nf1, nf2, nf3, nf4]
      refine st_value (v := (.int .i32 p.2.2.2)) (by rfl) (run_loadB (.tmp 30) rfl e_one_21 rfl B3 rfl) ?_
      simp only [nf0, nf1, nf2, nf3, nf4]
      refine st_value (v := (.int .i64 p.2.2.2)) (by rfl) (run_conv_i32_i64 (.tmp 31) rfl Tryd.underlying21 Tryd.underlying2 (z := p.2.2.2) rfl (by have h_ := hp.2.2.2; omega) w18) ?_
      simp only [nf0, nf1, nf2, nf3, nf4]
      refine st_call1 (v := (.string (str (tdecI p.2.2.2)))) (by rfl) (e_run_call_25_1 (.tmp 32) rfl rfl _) (refDec_calls (n := p.2.2.2) (by have h_ := hp.2.2.2; omega) w18) ?_
      intro w23 hb24
      simp only [nf0, nf1, nf2, nf3, nf4]
      replace B3 := B3.below hb24
      replace bel := bl_step bel hb24
      clear hb24
      refine st_value (v := (.string (str ([32] ++ (tdecI p.2.2.2))))) (by rfl) (run_add_text (.const (.string ⟨#[32]⟩)) (.tmp 33) (l := [32]) (m := (tdecI p.2.2.2)) rfl rfl rfl (by (try simp only [List.length_append, List.length_cons, List.length_nil]); omega) w23) ?_
      simp only [nf0, nf1, nf2, nf3, nf4]
      refine st_value (v := (.string (str ((nmP p.1) ++ ([32] ++ (tdecI p.2.2.2)))))) (by rfl) (run_add_text (.tmp 29) (.tmp 34) (l := (nmP p.1)) (m := ([32] ++ (tdecI p.2.2.2))) rfl rfl rfl (by (try simp only [List.length_append, List.length_cons, List.length_nil]); omega) w23) ?_
      simp only [nf0, nf1, nf2, nf3, nf4]
      refine st_mv (.string (str ((nmP p.1) ++ ([32] ++ (tdecI p.2.2.2))))) ?_
      simp only [nf0, nf1, nf2, nf3, nf4]
      refine wpList_nil ?_
      show Code.wp _ _ _ _ _
      refine wp_seq ?_
      refine wp_region_lit ?_
      refine st_mv (.string (str ((nmP p.1) ++ ([32] ++ (tdecI p.2.2.2))))) ?_
      simp only [nf0, nf1, nf2, nf3, nf4]
      refine st_mv (.string (str ((nmP p.1) ++ ([32] ++ (tdecI p.2.2.2))))) ?_
      simp only [nf0, nf1, nf2, nf3, nf4]
      refine wpList_nil ?_
      show Code.wp _ _ _ _ _
      refine wp_ret ?_
      first | show bodyPost _ _ _ _ _ _ | (simp only [Exit.then, Exit.inBlock]; show bodyPost _ _ _ _ _ _)
      have hE : prI p = ((nmP p.1) ++ ([32] ++ (tdecI p.2.2.2))) := by unfold prI; rw [hg12, hg16, hg20]; simp
      exact bodyPost_ret (results_tmp rfl _ _ _) rfl ⟨by rw [hE]; rfl, bel⟩
    have hp25 := trivial
    refine wp_cond_true rfl ?_
    refine wp_region_lit ?_
    refine st_mv (.string (str (nmP p.1))) ?_
    simp only [nf0, nf1, nf2, nf3, nf4]
    refine st_value (v := (.pointer (some ⟨g1, 2, none⟩))) (by rfl) (run_fieldA (.tmp 1) rfl e_fld_35_2 rfl rfl w14) ?_
    simp only [nf0, nf1, nf2, nf3, nf4]
    refine st_value (v := (.int .i64 p.2.2.1)) (by rfl) (run_loadB (.tmp 22) rfl e_one_3 rfl B3 rfl) ?_
    simp only [nf0, nf1, nf2, nf3, nf4]
    refine st_call1 (v := (.string (str (tdecI p.2.2.1)))) (by rfl) (e_run_call_25_1 (.tmp 23) rfl rfl _) (refDec_calls (n := p.2.2.1) hp.2.2.1 w14) ?_
    intro w26 hb27
    simp only [nf0, nf1, nf2, nf3, nf4]
    replace B3 := B3.below hb27
    replace bel := bl_step bel hb27
    clear hb27
    refine st_value (v := (.string (str ([32, 114] ++ (tdecI p.2.2.1))))) (by rfl) (run_add_text (.const (.string ⟨#[32, 114]⟩)) (.tmp 24) (l := [32, 114]) (m := (tdecI p.2.2.1)) rfl rfl rfl (by (try simp only [List.length_append, List.length_cons, List.length_nil]); omega) w26) ?_
    simp only [nf0, nf1, nf2, nf3, nf4]
    refine st_value (v := (.string (str ((nmP p.1) ++ ([32, 114] ++ (tdecI p.2.2.1)))))) (by rfl) (run_add_text (.tmp 21) (.tmp 25) (l := (nmP p.1)) (m := ([32, 114] ++ (tdecI p.2.2.1))) rfl rfl rfl (by (try simp only [List.length_append, List.length_cons, List.length_nil]); omega) w26) ?_
    simp only [nf0, nf1, nf2, nf3, nf4]
    refine st_mv (.string (str ((nmP p.1) ++ ([32, 114] ++ (tdecI p.2.2.1))))) ?_
    simp only [nf0, nf1, nf2, nf3, nf4]
    refine wpList_nil ?_
    show Code.wp _ _ _ _ _
    refine wp_seq ?_
    refine wp_seq ?_
    refine wp_region_lit ?_
    refine st_mv (.string (str (shp p.1))) ?_
    simp only [nf0, nf1, nf2, nf3, nf4]
    refine st_call1 (v := (.bool (shN p.1))) (by rfl) (e_run_call_18_2 (.tmp 27) (.const (.int .u8 78)) rfl rfl rfl _) (show Calls _ _ _ _ fun e w' => e = .returned (.bool (shN p.1)) ∧ Below w26.heap.size w26 w' from by have h_ := hasC_calls (shp p.1) 78 (by have := (shp_has p.1).2.2.2; omega) w26; rw [(shp_has p.1).2.2.1] at h_; exact h_) ?_
    intro w28 hb29
    simp only [nf0, nf1, nf2, nf3, nf4]
    replace B3 := B3.below hb29
    replace bel := bl_step bel hb29
    clear hb29
    refine wpList_nil ?_
    show Code.wp _ _ _ _ _
    cases hg30 : shN p.1
    · have hp31 := trivial
      refine wp_cond_false rfl ?_
      refine wp_skip ?_
      show Code.wp _ _ _ _ _
      refine wp_seq ?_
      refine wp_region_lit ?_
      refine st_mv (.string (str ((nmP p.1) ++ ([32, 114] ++ (tdecI p.2.2.1))))) ?_
      simp only [nf0, nf1, nf2, nf3, nf4]
      refine st_mv (.string (str ((nmP p.1) ++ ([32, 114] ++ (tdecI p.2.2.1))))) ?_
      simp only [nf0, nf1, nf2, nf3, nf4]
      refine wpList_nil ?_
      show Code.wp _ _ _ _ _
      refine wp_ret ?_
      first | show bodyPost _ _ _ _ _ _ | (simp only [Exit.then, Exit.inBlock]; show bodyPost _ _ _ _ _ _)
      have hE : prI p = ((nmP p.1) ++ ([32, 114] ++ (tdecI p.2.2.1))) := by unfold prI; rw [hg12, hg16, hg30]; simp
      exact bodyPost_ret (results_tmp rfl _ _ _) rfl ⟨by rw [hE]; rfl, bel⟩
    have hp32 := trivial
    refine wp_cond_true rfl ?_
    refine wp_region_lit ?_
    refine st_mv (.string (str ((nmP p.1) ++ ([32, 114] ++ (tdecI p.2.2.1))))) ?_
    simp only [nf0, nf1, nf2, nf3, nf4]
    refine st_value (v := (.pointer (some ⟨g1, 3, none⟩))) (by rfl) (run_fieldA (.tmp 1) rfl e_fld_35_3 rfl rfl w28) ?_
    simp only [nf0, nf1, nf2, nf3, nf4]
    refine st_value (v := (.int .i32 p.2.2.2)) (by rfl) (run_loadB (.tmp 30) rfl e_one_21 rfl B3 rfl) ?_
    simp only [nf0, nf1, nf2, nf3, nf4]
    refine st_value (v := (.int .i64 p.2.2.2)) (by rfl) (run_conv_i32_i64 (.tmp 31) rfl Tryd.underlying21 Tryd.underlying2 (z := p.2.2.2) rfl (by have h_ := hp.2.2.2; omega) w28) ?_
    simp only [nf0, nf1, nf2, nf3, nf4]
    refine st_call1 (v := (.string (str (tdecI p.2.2.2)))) (by rfl) (e_run_call_25_1 (.tmp 32) rfl rfl _) (refDec_calls (n := p.2.2.2) (by have h_ := hp.2.2.2; omega) w28) ?_
    intro w33 hb34
    simp only [nf0, nf1, nf2, nf3, nf4]
    replace B3 := B3.below hb34
    replace bel := bl_step bel hb34
    clear hb34
    refine st_value (v := (.string (str ([32] ++ (tdecI p.2.2.2))))) (by rfl) (run_add_text (.const (.string ⟨#[32]⟩)) (.tmp 33) (l := [32]) (m := (tdecI p.2.2.2)) rfl rfl rfl (by (try simp only [List.length_append, List.length_cons, List.length_nil]); omega) w33) ?_
    simp only [nf0, nf1, nf2, nf3, nf4]
    refine st_value (v := (.string (str (((nmP p.1) ++ ([32, 114] ++ (tdecI p.2.2.1))) ++ ([32] ++ (tdecI p.2.2.2)))))) (by rfl) (run_add_text (.tmp 29) (.tmp 34) (l := ((nmP p.1) ++ ([32, 114] ++ (tdecI p.2.2.1)))) (m := ([32] ++ (tdecI p.2.2.2))) rfl rfl rfl (by (try simp only [List.length_append, List.length_cons, List.length_nil]); omega) w33) ?_
    simp only [nf0, nf1, nf2, nf3, nf4]
    refine st_mv (.string (str (((nmP p.1) ++ ([32, 114] ++ (tdecI p.2.2.1))) ++ ([32] ++ (tdecI p.2.2.2))))) ?_
    simp only [nf0, nf1, nf2, nf3, nf4]
    refine wpList_nil ?_
    show Code.wp _ _ _ _ _
    refine wp_seq ?_
    refine wp_region_lit ?_
    refine st_mv (.string (str (((nmP p.1) ++ ([32, 114] ++ (tdecI p.2.2.1))) ++ ([32] ++ (tdecI p.2.2.2))))) ?_
    simp only [nf0, nf1, nf2, nf3, nf4]
    refine st_mv (.string (str (((nmP p.1) ++ ([32, 114] ++ (tdecI p.2.2.1))) ++ ([32] ++ (tdecI p.2.2.2))))) ?_
    simp only [nf0, nf1, nf2, nf3, nf4]
    refine wpList_nil ?_
    show Code.wp _ _ _ _ _
    refine wp_ret ?_
    first | show bodyPost _ _ _ _ _ _ | (simp only [Exit.then, Exit.inBlock]; show bodyPost _ _ _ _ _ _)
    have hE : prI p = (((nmP p.1) ++ ([32, 114] ++ (tdecI p.2.2.1))) ++ ([32] ++ (tdecI p.2.2.2))) := by unfold prI; rw [hg12, hg16, hg30]; simp
    exact bodyPost_ret (results_tmp rfl _ _ _) rfl ⟨by rw [hE]; rfl, bel⟩
  have hp35 := trivial
  refine wp_cond_true rfl ?_
  refine wp_region_lit ?_
  refine st_mv (.string (str (nmP p.1))) ?_
  simp only [nf0, nf1, nf2, nf3, nf4]
  refine st_value (v := (.pointer (some ⟨g1, 1, none⟩))) (by rfl) (run_fieldA (.tmp 1) rfl e_fld_35_1 rfl rfl w10) ?_
  simp only [nf0, nf1, nf2, nf3, nf4]
  refine st_value (v := (.int .i64 p.2.1)) (by rfl) (run_loadB (.tmp 14) rfl e_one_3 rfl B3 rfl) ?_
  simp only [nf0, nf1, nf2, nf3, nf4]
  refine st_call1 (v := (.string (str (tdecI p.2.1)))) (by rfl) (e_run_call_25_1 (.tmp 15) rfl rfl _) (refDec_calls (n := p.2.1) hp.2.1 w10) ?_
  intro w36 hb37
  simp only [nf0, nf1, nf2, nf3, nf4]
  replace B3 := B3.below hb37
  replace bel := bl_step bel hb37
  clear hb37
  refine st_value (v := (.string (str ([32, 114] ++ (tdecI p.2.1))))) (by rfl) (run_add_text (.const (.string ⟨#[32, 114]⟩)) (.tmp 16) (l := [32, 114]) (m := (tdecI p.2.1)) rfl rfl rfl (by (try simp only [List.length_append, List.length_cons, List.length_nil]); omega) w36) ?_
  simp only [nf0, nf1, nf2, nf3, nf4]
  refine st_value (v := (.string (str ((nmP p.1) ++ ([32, 114] ++ (tdecI p.2.1)))))) (by rfl) (run_add_text (.tmp 13) (.tmp 17) (l := (nmP p.1)) (m := ([32, 114] ++ (tdecI p.2.1))) rfl rfl rfl (by (try simp only [List.length_append, List.length_cons, List.length_nil]); omega) w36) ?_
  simp only [nf0, nf1, nf2, nf3, nf4]
  refine st_mv (.string (str ((nmP p.1) ++ ([32, 114] ++ (tdecI p.2.1))))) ?_
  simp only [nf0, nf1, nf2, nf3, nf4]
  refine wpList_nil ?_
  show Code.wp _ _ _ _ _
  refine wp_seq ?_
  refine wp_seq ?_
  refine wp_region_lit ?_
  refine st_mv (.string (str (shp p.1))) ?_
  simp only [nf0, nf1, nf2, nf3, nf4]
  refine st_call1 (v := (.bool (shB p.1))) (by rfl) (e_run_call_18_2 (.tmp 19) (.const (.int .u8 66)) rfl rfl rfl _) (show Calls _ _ _ _ fun e w' => e = .returned (.bool (shB p.1)) ∧ Below w36.heap.size w36 w' from by have h_ := hasC_calls (shp p.1) 66 (by have := (shp_has p.1).2.2.2; omega) w36; rw [(shp_has p.1).2.1] at h_; exact h_) ?_
  intro w38 hb39
  simp only [nf0, nf1, nf2, nf3, nf4]
  replace B3 := B3.below hb39
  replace bel := bl_step bel hb39
  clear hb39
  refine wpList_nil ?_
  show Code.wp _ _ _ _ _
  cases hg40 : shB p.1
  · have hp41 := trivial
    refine wp_cond_false rfl ?_
    refine wp_skip ?_
    show Code.wp _ _ _ _ _
    refine wp_seq ?_
    refine wp_seq ?_
    refine wp_region_lit ?_
    refine st_mv (.string (str (shp p.1))) ?_
    simp only [nf0, nf1, nf2, nf3, nf4]
    refine st_call1 (v := (.bool (shN p.1))) (by rfl) (e_run_call_18_2 (.tmp 27) (.const (.int .u8 78)) rfl rfl rfl _) (show Calls _ _ _ _ fun e w' => e = .returned (.bool (shN p.1)) ∧ Below w38.heap.size w38 w' from by have h_ := hasC_calls (shp p.1) 78 (by have := (shp_has p.1).2.2.2; omega) w38; rw [(shp_has p.1).2.2.1] at h_; exact h_) ?_
    intro w42 hb43
    simp only [nf0, nf1, nf2, nf3, nf4]
    replace B3 := B3.below hb43
    replace bel := bl_step bel hb43
    clear hb43
    refine wpList_nil ?_
    show Code.wp _ _ _ _ _
    cases hg44 : shN p.1
    · have hp45 := trivial
      refine wp_cond_false rfl ?_
      refine wp_skip ?_
      show Code.wp _ _ _ _ _
      refine wp_seq ?_
      refine wp_region_lit ?_
      refine st_mv (.string (str ((nmP p.1) ++ ([32, 114] ++ (tdecI p.2.1))))) ?_
      simp only [nf0, nf1, nf2, nf3, nf4]
      refine st_mv (.string (str ((nmP p.1) ++ ([32, 114] ++ (tdecI p.2.1))))) ?_
      simp only [nf0, nf1, nf2, nf3, nf4]
      refine wpList_nil ?_
      show Code.wp _ _ _ _ _
      refine wp_ret ?_
      first | show bodyPost _ _ _ _ _ _ | (simp only [Exit.then, Exit.inBlock]; show bodyPost _ _ _ _ _ _)
      have hE : prI p = ((nmP p.1) ++ ([32, 114] ++ (tdecI p.2.1))) := by unfold prI; rw [hg12, hg40, hg44]; simp
      exact bodyPost_ret (results_tmp rfl _ _ _) rfl ⟨by rw [hE]; rfl, bel⟩
    have hp46 := trivial
    refine wp_cond_true rfl ?_
    refine wp_region_lit ?_
    refine st_mv (.string (str ((nmP p.1) ++ ([32, 114] ++ (tdecI p.2.1))))) ?_
    simp only [nf0, nf1, nf2, nf3, nf4]
    refine st_value (v := (.pointer (some ⟨g1, 3, none⟩))) (by rfl) (run_fieldA (.tmp 1) rfl e_fld_35_3 rfl rfl w42) ?_
    simp only [nf0, nf1, nf2, nf3, nf4]
    refine st_value (v := (.int .i32 p.2.2.2)) (by rfl) (run_loadB (.tmp 30) rfl e_one_21 rfl B3 rfl) ?_
    simp only [nf0, nf1, nf2, nf3, nf4]
    refine st_value (v := (.int .i64 p.2.2.2)) (by rfl) (run_conv_i32_i64 (.tmp 31) rfl Tryd.underlying21 Tryd.underlying2 (z := p.2.2.2) rfl (by have h_ := hp.2.2.2; omega) w42) ?_
    simp only [nf0, nf1, nf2, nf3, nf4]
    refine st_call1 (v := (.string (str (tdecI p.2.2.2)))) (by rfl) (e_run_call_25_1 (.tmp 32) rfl rfl _) (refDec_calls (n := p.2.2.2) (by have h_ := hp.2.2.2; omega) w42) ?_
    intro w47 hb48
    simp only [nf0, nf1, nf2, nf3, nf4]
    replace B3 := B3.below hb48
    replace bel := bl_step bel hb48
    clear hb48
    refine st_value (v := (.string (str ([32] ++ (tdecI p.2.2.2))))) (by rfl) (run_add_text (.const (.string ⟨#[32]⟩)) (.tmp 33) (l := [32]) (m := (tdecI p.2.2.2)) rfl rfl rfl (by (try simp only [List.length_append, List.length_cons, List.length_nil]); omega) w47) ?_
    simp only [nf0, nf1, nf2, nf3, nf4]
    refine st_value (v := (.string (str (((nmP p.1) ++ ([32, 114] ++ (tdecI p.2.1))) ++ ([32] ++ (tdecI p.2.2.2)))))) (by rfl) (run_add_text (.tmp 29) (.tmp 34) (l := ((nmP p.1) ++ ([32, 114] ++ (tdecI p.2.1)))) (m := ([32] ++ (tdecI p.2.2.2))) rfl rfl rfl (by (try simp only [List.length_append, List.length_cons, List.length_nil]); omega) w47) ?_
    simp only [nf0, nf1, nf2, nf3, nf4]
    refine st_mv (.string (str (((nmP p.1) ++ ([32, 114] ++ (tdecI p.2.1))) ++ ([32] ++ (tdecI p.2.2.2))))) ?_
    simp only [nf0, nf1, nf2, nf3, nf4]
    refine wpList_nil ?_
    show Code.wp _ _ _ _ _
    refine wp_seq ?_
    refine wp_region_lit ?_
    refine st_mv (.string (str (((nmP p.1) ++ ([32, 114] ++ (tdecI p.2.1))) ++ ([32] ++ (tdecI p.2.2.2))))) ?_
    simp only [nf0, nf1, nf2, nf3, nf4]
    refine st_mv (.string (str (((nmP p.1) ++ ([32, 114] ++ (tdecI p.2.1))) ++ ([32] ++ (tdecI p.2.2.2))))) ?_
    simp only [nf0, nf1, nf2, nf3, nf4]
    refine wpList_nil ?_
    show Code.wp _ _ _ _ _
    refine wp_ret ?_
    first | show bodyPost _ _ _ _ _ _ | (simp only [Exit.then, Exit.inBlock]; show bodyPost _ _ _ _ _ _)
    have hE : prI p = (((nmP p.1) ++ ([32, 114] ++ (tdecI p.2.1))) ++ ([32] ++ (tdecI p.2.2.2))) := by unfold prI; rw [hg12, hg40, hg44]; simp
    exact bodyPost_ret (results_tmp rfl _ _ _) rfl ⟨by rw [hE]; rfl, bel⟩
  have hp49 := trivial
  refine wp_cond_true rfl ?_
  refine wp_region_lit ?_
  refine st_mv (.string (str ((nmP p.1) ++ ([32, 114] ++ (tdecI p.2.1))))) ?_
  simp only [nf0, nf1, nf2, nf3, nf4]
  refine st_value (v := (.pointer (some ⟨g1, 2, none⟩))) (by rfl) (run_fieldA (.tmp 1) rfl e_fld_35_2 rfl rfl w38) ?_
  simp only [nf0, nf1, nf2, nf3, nf4]
  refine st_value (v := (.int .i64 p.2.2.1)) (by rfl) (run_loadB (.tmp 22) rfl e_one_3 rfl B3 rfl) ?_
  simp only [nf0, nf1, nf2, nf3, nf4]
  refine st_call1 (v := (.string (str (tdecI p.2.2.1)))) (by rfl) (e_run_call_25_1 (.tmp 23) rfl rfl _) (refDec_calls (n := p.2.2.1) hp.2.2.1 w38) ?_
  intro w50 hb51
  simp only [nf0, nf1, nf2, nf3, nf4]
  replace B3 := B3.below hb51
  replace bel := bl_step bel hb51
  clear hb51
  refine st_value (v := (.string (str ([32, 114] ++ (tdecI p.2.2.1))))) (by rfl) (run_add_text (.const (.string ⟨#[32, 114]⟩)) (.tmp 24) (l := [32, 114]) (m := (tdecI p.2.2.1)) rfl rfl rfl (by (try simp only [List.length_append, List.length_cons, List.length_nil]); omega) w50) ?_
  simp only [nf0, nf1, nf2, nf3, nf4]
  refine st_value (v := (.string (str (((nmP p.1) ++ ([32, 114] ++ (tdecI p.2.1))) ++ ([32, 114] ++ (tdecI p.2.2.1)))))) (by rfl) (run_add_text (.tmp 21) (.tmp 25) (l := ((nmP p.1) ++ ([32, 114] ++ (tdecI p.2.1)))) (m := ([32, 114] ++ (tdecI p.2.2.1))) rfl rfl rfl (by (try simp only [List.length_append, List.length_cons, List.length_nil]); omega) w50) ?_
  simp only [nf0, nf1, nf2, nf3, nf4]
  refine st_mv (.string (str (((nmP p.1) ++ ([32, 114] ++ (tdecI p.2.1))) ++ ([32, 114] ++ (tdecI p.2.2.1))))) ?_
  simp only [nf0, nf1, nf2, nf3, nf4]
  refine wpList_nil ?_
  show Code.wp _ _ _ _ _
  refine wp_seq ?_
  refine wp_seq ?_
  refine wp_region_lit ?_
  refine st_mv (.string (str (shp p.1))) ?_
  simp only [nf0, nf1, nf2, nf3, nf4]
  refine st_call1 (v := (.bool (shN p.1))) (by rfl) (e_run_call_18_2 (.tmp 27) (.const (.int .u8 78)) rfl rfl rfl _) (show Calls _ _ _ _ fun e w' => e = .returned (.bool (shN p.1)) ∧ Below w50.heap.size w50 w' from by have h_ := hasC_calls (shp p.1) 78 (by have := (shp_has p.1).2.2.2; omega) w50; rw [(shp_has p.1).2.2.1] at h_; exact h_) ?_
  intro w52 hb53
  simp only [nf0, nf1, nf2, nf3, nf4]
  replace B3 := B3.below hb53
  replace bel := bl_step bel hb53
  clear hb53
  refine wpList_nil ?_
  show Code.wp _ _ _ _ _
  cases hg54 : shN p.1
  · have hp55 := trivial
    refine wp_cond_false rfl ?_
    refine wp_skip ?_
    show Code.wp _ _ _ _ _
    refine wp_seq ?_
    refine wp_region_lit ?_
    refine st_mv (.string (str (((nmP p.1) ++ ([32, 114] ++ (tdecI p.2.1))) ++ ([32, 114] ++ (tdecI p.2.2.1))))) ?_
    simp only [nf0, nf1, nf2, nf3, nf4]
    refine st_mv (.string (str (((nmP p.1) ++ ([32, 114] ++ (tdecI p.2.1))) ++ ([32, 114] ++ (tdecI p.2.2.1))))) ?_
    simp only [nf0, nf1, nf2, nf3, nf4]
    refine wpList_nil ?_
    show Code.wp _ _ _ _ _
    refine wp_ret ?_
    first | show bodyPost _ _ _ _ _ _ | (simp only [Exit.then, Exit.inBlock]; show bodyPost _ _ _ _ _ _)
    have hE : prI p = (((nmP p.1) ++ ([32, 114] ++ (tdecI p.2.1))) ++ ([32, 114] ++ (tdecI p.2.2.1))) := by unfold prI; rw [hg12, hg40, hg54]; simp
    exact bodyPost_ret (results_tmp rfl _ _ _) rfl ⟨by rw [hE]; rfl, bel⟩
  have hp56 := trivial
  refine wp_cond_true rfl ?_
  refine wp_region_lit ?_
  refine st_mv (.string (str (((nmP p.1) ++ ([32, 114] ++ (tdecI p.2.1))) ++ ([32, 114] ++ (tdecI p.2.2.1))))) ?_
  simp only [nf0, nf1, nf2, nf3, nf4]
  refine st_value (v := (.pointer (some ⟨g1, 3, none⟩))) (by rfl) (run_fieldA (.tmp 1) rfl e_fld_35_3 rfl rfl w52) ?_
  simp only [nf0, nf1, nf2, nf3, nf4]
  refine st_value (v := (.int .i32 p.2.2.2)) (by rfl) (run_loadB (.tmp 30) rfl e_one_21 rfl B3 rfl) ?_
  simp only [nf0, nf1, nf2, nf3, nf4]
  refine st_value (v := (.int .i64 p.2.2.2)) (by rfl) (run_conv_i32_i64 (.tmp 31) rfl Tryd.underlying21 Tryd.underlying2 (z := p.2.2.2) rfl (by have h_ := hp.2.2.2; omega) w52) ?_
  simp only [nf0, nf1, nf2, nf3, nf4]
  refine st_call1 (v := (.string (str (tdecI p.2.2.2)))) (by rfl) (e_run_call_25_1 (.tmp 32) rfl rfl _) (refDec_calls (n := p.2.2.2) (by have h_ := hp.2.2.2; omega) w52) ?_
  intro w57 hb58
  simp only [nf0, nf1, nf2, nf3, nf4]
  replace B3 := B3.below hb58
  replace bel := bl_step bel hb58
  clear hb58
  refine st_value (v := (.string (str ([32] ++ (tdecI p.2.2.2))))) (by rfl) (run_add_text (.const (.string ⟨#[32]⟩)) (.tmp 33) (l := [32]) (m := (tdecI p.2.2.2)) rfl rfl rfl (by (try simp only [List.length_append, List.length_cons, List.length_nil]); omega) w57) ?_
  simp only [nf0, nf1, nf2, nf3, nf4]
  refine st_value (v := (.string (str ((((nmP p.1) ++ ([32, 114] ++ (tdecI p.2.1))) ++ ([32, 114] ++ (tdecI p.2.2.1))) ++ ([32] ++ (tdecI p.2.2.2)))))) (by rfl) (run_add_text (.tmp 29) (.tmp 34) (l := (((nmP p.1) ++ ([32, 114] ++ (tdecI p.2.1))) ++ ([32, 114] ++ (tdecI p.2.2.1)))) (m := ([32] ++ (tdecI p.2.2.2))) rfl rfl rfl (by (try simp only [List.length_append, List.length_cons, List.length_nil]); omega) w57) ?_
  simp only [nf0, nf1, nf2, nf3, nf4]
  refine st_mv (.string (str ((((nmP p.1) ++ ([32, 114] ++ (tdecI p.2.1))) ++ ([32, 114] ++ (tdecI p.2.2.1))) ++ ([32] ++ (tdecI p.2.2.2))))) ?_
  simp only [nf0, nf1, nf2, nf3, nf4]
  refine wpList_nil ?_
  show Code.wp _ _ _ _ _
  refine wp_seq ?_
  refine wp_region_lit ?_
  refine st_mv (.string (str ((((nmP p.1) ++ ([32, 114] ++ (tdecI p.2.1))) ++ ([32, 114] ++ (tdecI p.2.2.1))) ++ ([32] ++ (tdecI p.2.2.2))))) ?_
  simp only [nf0, nf1, nf2, nf3, nf4]
  refine st_mv (.string (str ((((nmP p.1) ++ ([32, 114] ++ (tdecI p.2.1))) ++ ([32, 114] ++ (tdecI p.2.2.1))) ++ ([32] ++ (tdecI p.2.2.2))))) ?_
  simp only [nf0, nf1, nf2, nf3, nf4]
  refine wpList_nil ?_
  show Code.wp _ _ _ _ _
  refine wp_ret ?_
  first | show bodyPost _ _ _ _ _ _ | (simp only [Exit.then, Exit.inBlock]; show bodyPost _ _ _ _ _ _)
  have hE : prI p = ((((nmP p.1) ++ ([32, 114] ++ (tdecI p.2.1))) ++ ([32, 114] ++ (tdecI p.2.2.1))) ++ ([32] ++ (tdecI p.2.2.2))) := by unfold prI; rw [hg12, hg40, hg54]; simp
  exact bodyPost_ret (results_tmp rfl _ _ _) rfl ⟨by rw [hE]; rfl, bel⟩
set_option maxRecDepth 100000 in
set_option maxHeartbeats 4000000 in
theorem print_calls (A : Option Addr) (pr : Int) (xs : List TIns) (cap : Nat) (hcap : xs.length ≤ cap) (hl : xs.length ≤ 10000) (hpr : -9223372036854775808 ≤ pr ∧ pr ≤ 9223372036854775807) (hok : ∀ x ∈ xs, okIns x) (w : World) (hr : Reads w A (eIns.all xs)) : Calls Tryd.prog 11 #[.agg #[.int .i64 pr, .slice A xs.length cap]] w fun e w' => e = .returned (.string (str (prP pr xs))) ∧ Below w.heap.size w w' := by
  have bel : Below w.heap.size w w := Below.refl _ _
  have hpl : ∀ k, (prP pr (xs.take k)).length ≤ 30 + 82 * xs.length := fun k => by have h1_ := prP_len hpr (xs := xs.take k) fun e he => hok e (List.mem_of_mem_take he); have h2_ : (xs.take k).length ≤ xs.length := (by rw [List.length_take]; omega); omega
  have h0 := tdecI_len hpr
  go_enter Tryd.func11, Tryd.ntmps11
  refine wp_seq ?_
  refine wp_region_lit ?_
  refine st_new (cs := #[.int .i64 pr, .slice A xs.length cap]) (t := 24) (by rfl) (run_boxV (.tmp 0) rfl (v := (.agg #[.int .i64 pr, .slice A xs.length cap])) rfl rfl _) ?_
  intro g1 w2 B3 hb4 lo5
  simp only [nf0, nf1, nf2, nf3, nf4]
  replace lo5 := low_le bel lo5
  replace bel := bl_step bel hb4
  clear hb4
  refine st_mv (.string (str [])) ?_
  simp only [nf0, nf1, nf2, nf3, nf4]
  refine wpList_nil ?_
  show Code.wp _ _ _ _ _
  refine wp_seq ?_
  refine wp_region_lit ?_
  refine st_new (cs := #[.pointer none, .slice none 0 0]) (t := 45) (by rfl) (run_allocV rfl e_zero_45 _) ?_
  intro g6 w7 B8 hb9 lo10
  simp only [nf0, nf1, nf2, nf3, nf4]
  have n11 := B3.ne lo10
  replace lo10 := low_le bel lo10
  replace B3 := B3.below hb9
  replace bel := bl_step bel hb9
  clear hb9
  refine wpList_nil ?_
  show Code.wp _ _ _ _ _
  refine wp_seq ?_
  have O12 : OwnR w7 w.heap.size 5 eByte (.slice none 0 0) [] := OwnR.nil _ _ _ _
  have n13 : Off (.slice none 0 0) g6 := Off.nil _
  have n15 : Off (.slice none 0 0) g1 := Off.nil _
  refine wp_region_lit ?_
  refine st_value (v := (.pointer (some ⟨g1, 0, none⟩))) (by rfl) (run_fieldA (.tmp 1) rfl e_fld_24_0 rfl rfl w7) ?_
  simp only [nf0, nf1, nf2, nf3, nf4]
  refine st_value (v := (.int .i64 pr)) (by rfl) (run_loadB (.tmp 6) rfl e_one_3 rfl B3 rfl) ?_
  simp only [nf0, nf1, nf2, nf3, nf4]
  refine st_call1 (v := (.string (str (tdecI pr)))) (by rfl) (e_run_call_22_1 (.tmp 7) rfl rfl _) (dec_calls (n := pr) hpr w7) ?_
  intro w16 hb17
  simp only [nf0, nf1, nf2, nf3, nf4]
  replace B3 := B3.below hb17
  replace B8 := B8.below hb17
  replace O12 := O12.same hb17
  replace bel := bl_step bel hb17
  clear hb17
  refine st_lit (by rfl) (e_run_lit_39_2 (.const (.string ⟨#[112, 114, 111, 103]⟩)) (.tmp 8) rfl rfl rfl _) ?_
  intro g18 w19 B20 hb21 lo22
  simp only [nf0, nf1, nf2, nf3, nf4]
  have n23 := B3.ne lo22
  have n24 := B8.ne lo22
  have n25 := O12.off lo22
  replace lo22 := low_le bel lo22
  replace B3 := B3.below hb21
  replace B8 := B8.below hb21
  replace O12 := O12.same hb21
  replace bel := bl_step bel hb21
  clear hb21
  have n27 : Off (.slice (some ⟨g18, 0, none⟩) 2 2) g1 := fun e => n23.symm (Option.some.inj e)
  have n28 : Off (.slice (some ⟨g18, 0, none⟩) 2 2) g6 := fun e => n24.symm (Option.some.inj e)
  have n29 : Off2 (.slice (some ⟨g18, 0, none⟩) 2 2) (.slice none 0 0) := .inr fun e => n25 e.symm
  have O26 : OwnR w19 w.heap.size 9 eTx (.slice (some ⟨g18, 0, none⟩) 2 2) ([[112, 114, 111, 103], (tdecI pr)] : List (List UInt8)) := OwnR.built (xs := ([[112, 114, 111, 103], (tdecI pr)] : List (List UInt8))) B20 (by rfl) lo22 (by simp) rfl
  clear B20
  refine st_call1 (v := (.string (str ([112, 114, 111, 103, 32] ++ tdecI pr)))) (by rfl) (e_run_call_21_1 (.tmp 9) rfl rfl _) (show Calls _ _ _ _ fun e w' => e = .returned (.string (str ([112, 114, 111, 103, 32] ++ tdecI pr))) ∧ Below w19.heap.size w19 w' from by have hj_ : Lib.join ([[112, 114, 111, 103], (tdecI pr)] : List (List UInt8)) [32] = ([112, 114, 111, 103, 32] ++ tdecI pr) := (by rw [Lib.join_cons]; simp [Lib.joinTail]); have h_ := line_calls O26 (by simp only [List.length_append, List.length_cons, List.length_nil]; omega) (by rw [hj_]; simp only [List.length_append, List.length_cons, List.length_nil]; omega); rw [hj_] at h_; exact h_) ?_
  intro w30 hb31
  simp only [nf0, nf1, nf2, nf3, nf4]
  replace B3 := B3.below hb31
  replace B8 := B8.below hb31
  replace O12 := O12.same hb31
  replace O26 := O26.same hb31
  replace bel := bl_step bel hb31
  clear hb31
  refine st_value (v := (.string (str (([112, 114, 111, 103, 32] ++ tdecI pr) ++ [10])))) (by rfl) (run_add_text (.tmp 10) (.const (.string ⟨#[10]⟩)) (l := ([112, 114, 111, 103, 32] ++ tdecI pr)) (m := [10]) rfl rfl rfl (by (try simp only [List.length_append, List.length_cons, List.length_nil]); omega) w30) ?_
  simp only [nf0, nf1, nf2, nf3, nf4]
  refine st_call (by rfl) (e_run_call_20_2 (.tmp 3) (.tmp 11) rfl rfl rfl _) (writeString_calls (([112, 114, 111, 103, 32] ++ tdecI pr) ++ [10]) (.inl rfl) B8 O12 n13 bel.size (by simp only [List.length_append, List.length_cons, List.length_nil]; omega)) ?_
  rintro _ w38 ⟨rfl, v35, B32, O33, n34, hat36, hf39⟩
  simp only [nf0, nf1, nf2, nf3, nf4]
  have n40 : Off v35 g1 := (n15 : Off _ _).hatB B3.lt hat36
  have n41 : Off2 v35 (.slice (some ⟨g18, 0, none⟩) 2 2) := (n29.symm : Off2 _ _).hatB O26 hat36
  replace B3 := B3.fr hf39 (nib n11 n15)
  replace O26 := O26.fr hf39 (ofb n28 n29)
  replace bel := bl_b bel hf39 bel.size lo10 (fun j hj => (O12.lt j hj).1)
  clear hf39
  clear B8
  clear O12
  clear hat36
  refine wpList_nil ?_
  show Code.wp _ _ _ _ _
  refine wp_seq ?_
  refine wp_seq ?_
  refine wp_region_lit ?_
  refine st_value (v := (.pointer (some ⟨g1, 1, none⟩))) (by rfl) (run_fieldA (.tmp 1) rfl e_fld_24_1 rfl rfl w38) ?_
  simp only [nf0, nf1, nf2, nf3, nf4]
  refine st_value (v := (.slice A xs.length cap)) (by rfl) (run_loadB (.tmp 13) rfl e_one_22 rfl B3 rfl) ?_
  simp only [nf0, nf1, nf2, nf3, nf4]
  refine st_value (v := (.int .i64 (xs.length : Int))) (by rfl) (run_len (.tmp 14) rfl ⟨_, Tryd.underlying22⟩ rfl w38) ?_
  simp only [nf0, nf1, nf2, nf3, nf4]
  refine st_mv (.int .i64 0) ?_
  simp only [nf0, nf1, nf2, nf3, nf4]
  refine wpList_nil ?_
  show Code.wp _ _ _ _ _
  refine wp_block ?_
  have O42 := O33
  rw [show ([] ++ (([112, 114, 111, 103, 32] ++ tdecI pr) ++ [10])) = prP pr (xs.take 0) by unfold prP hdP; simp] at O42
  clear O33
  refine wp_loop_left (fun n_ a_ wr_ => (fun J43 => ∃ (k : Nat) (pp : Value) (vv : Value), n_ = xs.length - k ∧ a_ = ⟨#[J43 0, .pointer (some ⟨g1, 0, none⟩), .string (str []), .pointer (some ⟨g6, 0, none⟩), J43 4, J43 5, J43 6, J43 7, J43 8, J43 9, J43 10, J43 11, J43 12, J43 13, .slice A xs.length cap, .int .i64 (xs.length : Int), .int .i64 (k : Int), J43 17, J43 18, J43 19, J43 20, J43 21, J43 22, J43 23, J43 24, J43 25, J43 26], []⟩ ∧ Blk wr_ g1 #[.int .i64 pr, .slice A xs.length cap] 24 ∧ Blk wr_ g6 #[pp, vv] 45 ∧ OwnR wr_ w.heap.size 5 eByte vv (prP pr (xs.take k)) ∧ OwnR wr_ w.heap.size 9 eTx (.slice (some ⟨g18, 0, none⟩) 2 2) ([[112, 114, 111, 103], (tdecI pr)] : List (List UInt8)) ∧ Off vv g1 ∧ Off vv g6 ∧ Off2 vv (.slice (some ⟨g18, 0, none⟩) 2 2) ∧ Off (.slice (some ⟨g18, 0, none⟩) 2 2) g1 ∧ Off (.slice (some ⟨g18, 0, none⟩) 2 2) g6 ∧ Below w.heap.size w wr_ ∧ (k ≤ xs.length) ∧ (Bp g6 pp)) (jk a_)) (xs.length - 0) ⟨0, _, _, rfl, rfl, B3, B32, O42, O26, n40, n34, n41, n27, n28, bel, (Nat.zero_le _), (.inr rfl)⟩ ?_
  clear B3
  clear B32
  clear O42
  clear O26
  clear n27 n28 n34 n40 n41
  clear bel
  intro n_ a_ w49 h_
  revert h_
  generalize jk a_ = J43
  rintro ⟨k, pp, vv, hms, rfl, B3, B32, O42, O26, n44, n45, n46, n47, n48, bel, hk, hpp⟩
  refine wp_seq ?_
  refine wp_region_lit ?_
  refine st_value (v := (.bool (decide ((k : Int) < (xs.length : Int))))) (by rfl) (run_lss (.tmp 16) (.tmp 15) rfl rfl rfl w49) ?_
  simp only [nf0, nf1, nf2, nf3, nf4]
  refine wpList_nil ?_
  show Code.wp _ _ _ _ _
  refine wp_seq ?_
  cases hg50 : decide ((k : Int) < (xs.length : Int))
  · have hp51 := of_decide_eq_false hg50
    refine wp_cond_false rfl ?_
    refine wp_exit ?_
    show Code.wp _ _ _ _ _
    refine wp_seq ?_
    obtain rfl : k = xs.length := by omega
    have O52 := O42
    rw [List.take_length] at O52
    clear O42
    refine wp_region_lit ?_
    refine st_call (by rfl) (e_run_call_24_1 (.tmp 3) rfl rfl _) (bString_bel B32 O52 bel) ?_
    rintro _ w53 ⟨rfl, hf54⟩
    simp only [nf0, nf1, nf2, nf3, nf4]
    replace bel := hf54
    clear B3
    clear B32
    clear O52
    clear O26
    refine st_mv (.string (str (prP pr xs))) ?_
    simp only [nf0, nf1, nf2, nf3, nf4]
    refine wpList_nil ?_
    show Code.wp _ _ _ _ _
    refine wp_ret ?_
    first | show bodyPost _ _ _ _ _ _ | (simp only [Exit.then, Exit.inBlock]; show bodyPost _ _ _ _ _ _)
    exact bodyPost_ret (results_tmp rfl _ _ _) rfl ⟨rfl, bel⟩
  have hp55 := of_decide_eq_true hg50
  refine wp_cond_true rfl ?_
  refine wp_skip ?_
  show Code.wp _ _ _ _ _
  refine wp_seq ?_
  refine wp_block ?_
  refine wp_seq ?_
  obtain ⟨b56, o57, rfl, _⟩ := (hr.same bel).at_ (by rw [Enc.all_length]; exact Nat.mul_pos (by omega) (by decide))
  refine wp_region_lit ?_
  refine st_value (v := (.pointer (some ⟨b56, o57 + k * 4, none⟩))) (by rfl) (run_indexAddrN (.tmp 14) (.tmp 16) rfl Tryd.underlying22 slIns.sz (i := k) rfl rfl (by omega) w49) ?_
  simp only [nf0, nf1, nf2, nf3, nf4]
  refine st_value (v := (.agg #[.int .i64 ((insAt xs k).1), .int .i64 ((insAt xs k).2.1), .int .i64 ((insAt xs k).2.2.1), .int .i32 ((insAt xs k).2.2.2)])) (by rfl) (run_loadE (E := eIns) (.tmp 18) rfl aggIns rfl (hr.same bel) (insAt_get (by omega))) ?_
  simp only [nf0, nf1, nf2, nf3, nf4]
  refine st_new (cs := #[.int .i64 0, .int .i64 0, .int .i64 0, .int .i32 0]) (t := 35) (by rfl) (run_allocV rfl e_zero_35 _) ?_
  intro g58 w59 B60 hb61 lo62
  simp only [nf0, nf1, nf2, nf3, nf4]
  have n63 := B3.ne lo62
  have n64 := B32.ne lo62
  have n65 := O42.off lo62
  have n66 := O26.off lo62
  replace lo62 := low_le bel lo62
  replace B3 := B3.below hb61
  replace B32 := B32.below hb61
  replace O42 := O42.same hb61
  replace O26 := O26.same hb61
  replace bel := bl_step bel hb61
  clear hb61
  refine st_row (by rfl) (run_storeW (.tmp 5) (.tmp 19) rfl (cs := #[.int .i64 ((insAt xs k).1), .int .i64 ((insAt xs k).2.1), .int .i64 ((insAt xs k).2.2.1), .int .i32 ((insAt xs k).2.2.2)]) aggIns rfl rfl B60 rfl (by simp [Value.oneCell'])) B60 ?_
  intro w67 B69 hg68
  simp only [nf0, nf1, nf2, nf3, nf4]
  replace B3 := B3.kept hg68 n63
  replace B32 := B32.kept hg68 n64
  replace O42 := O42.keptB hg68 n65
  replace O26 := O26.keptB hg68 n66
  replace bel := bl_kept0 bel hg68 lo62
  clear hg68
  clear B60
  refine wpList_nil ?_
  show Code.wp _ _ _ _ _
  have hel := prI_len (hok _ (insAt_mem (l := xs) (i := k) (by omega)))
  refine wp_region_lit ?_
  refine st_value (v := (.agg #[.int .i64 ((insAt xs k).1), .int .i64 ((insAt xs k).2.1), .int .i64 ((insAt xs k).2.2.1), .int .i32 ((insAt xs k).2.2.2)])) (by rfl) (run_loadW (.tmp 5) rfl (cs := #[.int .i64 ((insAt xs k).1), .int .i64 ((insAt xs k).2.1), .int .i64 ((insAt xs k).2.2.1), .int .i32 ((insAt xs k).2.2.2)]) aggIns rfl B69) ?_
  simp only [nf0, nf1, nf2, nf3, nf4]
  refine st_call1 (v := (.string (str (prI (insAt xs k))))) (by rfl) (e_run_call_23_1 (.tmp 20) rfl rfl _) (printed_calls (insAt xs k) (hok _ (insAt_mem (by omega))) w67) ?_
  intro w70 hb71
  simp only [nf0, nf1, nf2, nf3, nf4]
  replace B3 := B3.below hb71
  replace B32 := B32.below hb71
  replace O42 := O42.same hb71
  replace O26 := O26.same hb71
  replace B69 := B69.below hb71
  replace bel := bl_step bel hb71
  clear hb71
  refine st_value (v := (.string (str ([9] ++ (prI (insAt xs k)))))) (by rfl) (run_add_text (.const (.string ⟨#[9]⟩)) (.tmp 21) (l := [9]) (m := (prI (insAt xs k))) rfl rfl rfl (by (try simp only [List.length_append, List.length_cons, List.length_nil]); omega) w70) ?_
  simp only [nf0, nf1, nf2, nf3, nf4]
  refine st_value (v := (.string (str (([9] ++ (prI (insAt xs k))) ++ [10])))) (by rfl) (run_add_text (.tmp 22) (.const (.string ⟨#[10]⟩)) (l := ([9] ++ (prI (insAt xs k)))) (m := [10]) rfl rfl rfl (by (try simp only [List.length_append, List.length_cons, List.length_nil]); omega) w70) ?_
  simp only [nf0, nf1, nf2, nf3, nf4]
  refine st_call (by rfl) (e_run_call_20_2 (.tmp 3) (.tmp 23) rfl rfl rfl _) (writeString_calls (([9] ++ (prI (insAt xs k))) ++ [10]) hpp B32 O42 n45 bel.size (by have h1_ := hpl k; have h2_ := prI_len (hok _ (insAt_mem (l := xs) (i := k) (by omega))); simp only [List.length_append, List.length_cons, List.length_nil]; omega)) ?_
  rintro _ w78 ⟨rfl, v75, B72, O73, n74, hat76, hf79⟩
  simp only [nf0, nf1, nf2, nf3, nf4]
  have n80 : Off v75 g1 := (n44 : Off _ _).hatB B3.lt hat76
  have n81 : Off2 v75 (.slice (some ⟨g18, 0, none⟩) 2 2) := (n46 : Off2 _ _).hatB O26 hat76
  have n82 : Off v75 g58 := (n65 : Off _ _).hatB B69.lt hat76
  replace B3 := B3.fr hf79 (nib n11 n44)
  replace O26 := O26.fr hf79 (ofb n48 n46.symm)
  replace B69 := B69.fr hf79 (nib n64.symm n65)
  replace bel := bl_b bel hf79 bel.size lo10 (fun j hj => (O42.lt j hj).1)
  clear hf79
  clear B32
  clear O42
  clear hat76
  refine wpList_nil ?_
  show Code.wp _ _ _ _ _
  refine wp_region_lit ?_
  refine st_value (v := (.int .i64 ((k : Int) + 1))) (by rfl) (run_add_in (.tmp 16) (.const (.int .i64 1)) rfl rfl rfl (by omega) w78) ?_
  simp only [nf0, nf1, nf2, nf3, nf4]
  refine st_mv (.int .i64 ((k : Int) + 1)) ?_
  simp only [nf0, nf1, nf2, nf3, nf4]
  refine wpList_nil ?_
  show ∃ m, m < _ ∧ _
  exact ⟨_, (by omega), (k + 1), _, _, rfl, rfl, B3, B72, (by have h_ := O73; rw [prP_take (by omega)]; simpa using h_), O26, n80, n74, n81, n47, n48, bel, (by omega), (.inr rfl)⟩
set_option maxRecDepth 100000 in
set_option maxHeartbeats 4000000 in
theorem refPrint_calls (A : Option Addr) (pr : Int) (xs : List TIns) (cap : Nat) (hcap : xs.length ≤ cap) (hl : xs.length ≤ 10000) (hpr : -9223372036854775808 ≤ pr ∧ pr ≤ 9223372036854775807) (hok : ∀ x ∈ xs, okIns x) (w : World) (hr : Reads w A (eIns.all xs)) : Calls Tryd.prog 12 #[.agg #[.int .i64 pr, .slice A xs.length cap]] w fun e w' => e = .returned (.string (str (prP pr xs))) ∧ Below w.heap.size w w' := by
  have bel : Below w.heap.size w w := Below.refl _ _
  have hpl : ∀ k, (prP pr (xs.take k)).length ≤ 30 + 82 * xs.length := fun k => by have h1_ := prP_len hpr (xs := xs.take k) fun e he => hok e (List.mem_of_mem_take he); have h2_ : (xs.take k).length ≤ xs.length := (by rw [List.length_take]; omega); omega
  have h0 := tdecI_len hpr
  go_enter Tryd.func12, Tryd.ntmps12
  refine wp_seq ?_
  refine wp_region_lit ?_
  refine st_new (cs := #[.int .i64 pr, .slice A xs.length cap]) (t := 24) (by rfl) (run_boxV (.tmp 0) rfl (v := (.agg #[.int .i64 pr, .slice A xs.length cap])) rfl rfl _) ?_
  intro g1 w2 B3 hb4 lo5
  simp only [nf0, nf1, nf2, nf3, nf4]
  replace lo5 := low_le bel lo5
  replace bel := bl_step bel hb4
  clear hb4
  refine st_mv (.string (str [])) ?_
  simp only [nf0, nf1, nf2, nf3, nf4]
  refine wpList_nil ?_
  show Code.wp _ _ _ _ _
  refine wp_seq ?_
  refine wp_region_lit ?_
  refine st_value (v := (.pointer (some ⟨g1, 0, none⟩))) (by rfl) (run_fieldA (.tmp 1) rfl e_fld_24_0 rfl rfl w2) ?_
  simp only [nf0, nf1, nf2, nf3, nf4]
  refine st_value (v := (.int .i64 pr)) (by rfl) (run_loadB (.tmp 6) rfl e_one_3 rfl B3 rfl) ?_
  simp only [nf0, nf1, nf2, nf3, nf4]
  refine st_call1 (v := (.string (str (tdecI pr)))) (by rfl) (e_run_call_25_1 (.tmp 7) rfl rfl _) (refDec_calls (n := pr) hpr w2) ?_
  intro w6 hb7
  simp only [nf0, nf1, nf2, nf3, nf4]
  replace B3 := B3.below hb7
  replace bel := bl_step bel hb7
  clear hb7
  refine st_value (v := (.string (str ([112, 114, 111, 103, 32] ++ (tdecI pr))))) (by rfl) (run_add_text (.const (.string ⟨#[112, 114, 111, 103, 32]⟩)) (.tmp 8) (l := [112, 114, 111, 103, 32]) (m := (tdecI pr)) rfl rfl rfl (by (try simp only [List.length_append, List.length_cons, List.length_nil]); omega) w6) ?_
  simp only [nf0, nf1, nf2, nf3, nf4]
  refine st_value (v := (.string (str (([112, 114, 111, 103, 32] ++ (tdecI pr)) ++ [10])))) (by rfl) (run_add_text (.tmp 9) (.const (.string ⟨#[10]⟩)) (l := ([112, 114, 111, 103, 32] ++ (tdecI pr))) (m := [10]) rfl rfl rfl (by (try simp only [List.length_append, List.length_cons, List.length_nil]); omega) w6) ?_
  simp only [nf0, nf1, nf2, nf3, nf4]
  refine st_mv (.string (str (([112, 114, 111, 103, 32] ++ (tdecI pr)) ++ [10]))) ?_
  simp only [nf0, nf1, nf2, nf3, nf4]
  refine wpList_nil ?_
  show Code.wp _ _ _ _ _
  refine wp_seq ?_
  refine wp_seq ?_
  refine wp_region_lit ?_
  refine st_value (v := (.pointer (some ⟨g1, 1, none⟩))) (by rfl) (run_fieldA (.tmp 1) rfl e_fld_24_1 rfl rfl w6) ?_
  simp only [nf0, nf1, nf2, nf3, nf4]
  refine st_value (v := (.slice A xs.length cap)) (by rfl) (run_loadB (.tmp 11) rfl e_one_22 rfl B3 rfl) ?_
  simp only [nf0, nf1, nf2, nf3, nf4]
  refine st_value (v := (.int .i64 (xs.length : Int))) (by rfl) (run_len (.tmp 12) rfl ⟨_, Tryd.underlying22⟩ rfl w6) ?_
  simp only [nf0, nf1, nf2, nf3, nf4]
  refine st_mv (.int .i64 0) ?_
  simp only [nf0, nf1, nf2, nf3, nf4]
  refine wpList_nil ?_
  show Code.wp _ _ _ _ _
  refine wp_block ?_
  refine wp_loop_left (fun n_ a_ wr_ => (fun J8 => ∃ (k : Nat), n_ = xs.length - k ∧ a_ = ⟨#[J8 0, .pointer (some ⟨g1, 0, none⟩), .string (str []), .string (str (prP pr (xs.take k))), J8 4, J8 5, J8 6, J8 7, J8 8, J8 9, J8 10, J8 11, .slice A xs.length cap, .int .i64 (xs.length : Int), .int .i64 (k : Int), J8 15, J8 16, J8 17, J8 18, J8 19, J8 20, J8 21, J8 22, J8 23, J8 24, J8 25], []⟩ ∧ Blk wr_ g1 #[.int .i64 pr, .slice A xs.length cap] 24 ∧ Below w.heap.size w wr_ ∧ (k ≤ xs.length)) (jk a_)) (xs.length - 0) ⟨0, rfl, (by rw [show prP pr (xs.take 0) = (([112, 114, 111, 103, 32] ++ (tdecI pr)) ++ [10]) by unfold prP hdP; simp]; rfl), B3, bel, (Nat.zero_le _)⟩ ?_
  clear B3
  clear bel
  intro n_ a_ w9 h_
  revert h_
  generalize jk a_ = J8
  rintro ⟨k, hms, rfl, B3, bel, hk⟩
  refine wp_seq ?_
  refine wp_region_lit ?_
  refine st_value (v := (.bool (decide ((k : Int) < (xs.length : Int))))) (by rfl) (run_lss (.tmp 14) (.tmp 13) rfl rfl rfl w9) ?_
  simp only [nf0, nf1, nf2, nf3, nf4]
  refine wpList_nil ?_
  show Code.wp _ _ _ _ _
  refine wp_seq ?_
  cases hg10 : decide ((k : Int) < (xs.length : Int))
  · have hp11 := of_decide_eq_false hg10
    refine wp_cond_false rfl ?_
    refine wp_exit ?_
    show Code.wp _ _ _ _ _
    refine wp_seq ?_
    obtain rfl : k = xs.length := by omega
    rw [List.take_length]
    refine wp_region_lit ?_
    refine st_mv (.string (str (prP pr xs))) ?_
    simp only [nf0, nf1, nf2, nf3, nf4]
    refine st_mv (.string (str (prP pr xs))) ?_
    simp only [nf0, nf1, nf2, nf3, nf4]
    refine wpList_nil ?_
    show Code.wp _ _ _ _ _
    refine wp_ret ?_
    first | show bodyPost _ _ _ _ _ _ | (simp only [Exit.then, Exit.inBlock]; show bodyPost _ _ _ _ _ _)
    exact bodyPost_ret (results_tmp rfl _ _ _) rfl ⟨rfl, bel⟩
  have hp12 := of_decide_eq_true hg10
  refine wp_cond_true rfl ?_
  refine wp_skip ?_
  show Code.wp _ _ _ _ _
  refine wp_seq ?_
  refine wp_block ?_
  refine wp_seq ?_
  obtain ⟨b13, o14, rfl, _⟩ := (hr.same bel).at_ (by rw [Enc.all_length]; exact Nat.mul_pos (by omega) (by decide))
  refine wp_region_lit ?_
  refine st_value (v := (.pointer (some ⟨b13, o14 + k * 4, none⟩))) (by rfl) (run_indexAddrN (.tmp 12) (.tmp 14) rfl Tryd.underlying22 slIns.sz (i := k) rfl rfl (by omega) w9) ?_
  simp only [nf0, nf1, nf2, nf3, nf4]
  refine st_value (v := (.agg #[.int .i64 ((insAt xs k).1), .int .i64 ((insAt xs k).2.1), .int .i64 ((insAt xs k).2.2.1), .int .i32 ((insAt xs k).2.2.2)])) (by rfl) (run_loadE (E := eIns) (.tmp 16) rfl aggIns rfl (hr.same bel) (insAt_get (by omega))) ?_
  simp only [nf0, nf1, nf2, nf3, nf4]
  refine st_new (cs := #[.int .i64 0, .int .i64 0, .int .i64 0, .int .i32 0]) (t := 35) (by rfl) (run_allocV rfl e_zero_35 _) ?_
  intro g15 w16 B17 hb18 lo19
  simp only [nf0, nf1, nf2, nf3, nf4]
  have n20 := B3.ne lo19
  replace lo19 := low_le bel lo19
  replace B3 := B3.below hb18
  replace bel := bl_step bel hb18
  clear hb18
  refine st_row (by rfl) (run_storeW (.tmp 5) (.tmp 17) rfl (cs := #[.int .i64 ((insAt xs k).1), .int .i64 ((insAt xs k).2.1), .int .i64 ((insAt xs k).2.2.1), .int .i32 ((insAt xs k).2.2.2)]) aggIns rfl rfl B17 rfl (by simp [Value.oneCell'])) B17 ?_
  intro w21 B23 hg22
  simp only [nf0, nf1, nf2, nf3, nf4]
  replace B3 := B3.kept hg22 n20
  replace bel := bl_kept0 bel hg22 lo19
  clear hg22
  clear B17
  refine wpList_nil ?_
  show Code.wp _ _ _ _ _
  refine wp_region_lit ?_
  refine st_mv (.string (str (prP pr (xs.take k)))) ?_
  simp only [nf0, nf1, nf2, nf3, nf4]
  refine st_value (v := (.agg #[.int .i64 ((insAt xs k).1), .int .i64 ((insAt xs k).2.1), .int .i64 ((insAt xs k).2.2.1), .int .i32 ((insAt xs k).2.2.2)])) (by rfl) (run_loadW (.tmp 5) rfl (cs := #[.int .i64 ((insAt xs k).1), .int .i64 ((insAt xs k).2.1), .int .i64 ((insAt xs k).2.2.1), .int .i32 ((insAt xs k).2.2.2)]) aggIns rfl B23) ?_
  simp only [nf0, nf1, nf2, nf3, nf4]
  refine st_call1 (v := (.string (str (prI (insAt xs k))))) (by rfl) (e_run_call_26_1 (.tmp 19) rfl rfl _) (refIns_calls (insAt xs k) (hok _ (insAt_mem (by omega))) w21) ?_
  intro w24 hb25
  simp only [nf0, nf1, nf2, nf3, nf4]
  replace B3 := B3.below hb25
  replace B23 := B23.below hb25
  replace bel := bl_step bel hb25
  clear hb25
  refine st_value (v := (.string (str ([9] ++ (prI (insAt xs k)))))) (by rfl) (run_add_text (.const (.string ⟨#[9]⟩)) (.tmp 20) (l := [9]) (m := (prI (insAt xs k))) rfl rfl rfl (by have h1_ := hpl k; have h2_ := prI_len (hok _ (insAt_mem (l := xs) (i := k) (by omega))); simp only [List.length_append, List.length_cons, List.length_nil]; omega) w24) ?_
  simp only [nf0, nf1, nf2, nf3, nf4]
  refine st_value (v := (.string (str (([9] ++ (prI (insAt xs k))) ++ [10])))) (by rfl) (run_add_text (.tmp 21) (.const (.string ⟨#[10]⟩)) (l := ([9] ++ (prI (insAt xs k)))) (m := [10]) rfl rfl rfl (by have h1_ := hpl k; have h2_ := prI_len (hok _ (insAt_mem (l := xs) (i := k) (by omega))); simp only [List.length_append, List.length_cons, List.length_nil]; omega) w24) ?_
  simp only [nf0, nf1, nf2, nf3, nf4]
  refine st_value (v := (.string (str ((prP pr (xs.take k)) ++ (([9] ++ (prI (insAt xs k))) ++ [10]))))) (by rfl) (run_add_text (.tmp 18) (.tmp 22) (l := (prP pr (xs.take k))) (m := (([9] ++ (prI (insAt xs k))) ++ [10])) rfl rfl rfl (by have h1_ := hpl k; have h2_ := prI_len (hok _ (insAt_mem (l := xs) (i := k) (by omega))); simp only [List.length_append, List.length_cons, List.length_nil]; omega) w24) ?_
  simp only [nf0, nf1, nf2, nf3, nf4]
  refine st_mv (.string (str ((prP pr (xs.take k)) ++ (([9] ++ (prI (insAt xs k))) ++ [10])))) ?_
  simp only [nf0, nf1, nf2, nf3, nf4]
  refine wpList_nil ?_
  show Code.wp _ _ _ _ _
  refine wp_region_lit ?_
  refine st_value (v := (.int .i64 ((k : Int) + 1))) (by rfl) (run_add_in (.tmp 14) (.const (.int .i64 1)) rfl rfl rfl (by omega) w24) ?_
  simp only [nf0, nf1, nf2, nf3, nf4]
  refine st_mv (.int .i64 ((k : Int) + 1)) ?_
  simp only [nf0, nf1, nf2, nf3, nf4]
  refine wpList_nil ?_
  show ∃ m, m < _ ∧ _
  exact ⟨_, (by omega), (k + 1), rfl, (by rw [prP_take (by omega), show (9 :: (prI (insAt xs k) ++ [10])) = ([9] ++ prI (insAt xs k)) ++ [10] by simp]; rfl), B3, bel, (by omega)⟩
end Go.Proofs.YtjbmahjfmffnoaaDoor

/- Whether two programs are the same; a program of at most 80 instructions. -/
namespace Go.Proofs.YtjbmahjfmffnoaaDoor
open Go.RowKit Go.WideShapes Go.ChangeShapes
set_option linter.unusedSimpArgs false
set_option linter.unusedVariables false

theorem f_fld_24_0 : FieldAt Tryd.prog 24 0 0 := fieldAt_of (s := 0) Tryd.underlying24 (by kernel_rfl)
theorem f_one_3 : One Tryd.prog 3 := one_of Tryd.underlying3 rfl (by kernel_rfl)
theorem f_fld_24_1 : FieldAt Tryd.prog 24 1 1 := fieldAt_of (s := 0) Tryd.underlying24 (by kernel_rfl)
theorem f_one_22 : One Tryd.prog 22 := one_of Tryd.underlying22 rfl (by kernel_rfl)
theorem f_run_call_27_2 {o : Oper} {a : Act} (x0 : Operand) (x1 : Operand) {ts : Array TypeId} (ho : o.op = .call { callee := .value (.func 27), args := #[x0, x1], argTypes := ts }) {v0 : Value} (h0 : a.eval x0 = v0) {v1 : Value} (h1 : a.eval x1 = v1) (W : World) : (execOp a.eval o).run Tryd.prog W = .ok (.enter 27 #[v0, v1]) W := by
  unfold execOp
  simp only [ho]
  subst h0 h1
  go_simp
theorem f_zero_24 : ZeroOf Tryd.prog 24 #[.int .i64 0, .slice none 0 0] := zeroOf (z := .agg #[.int .i64 0, .slice none 0 0]) (by kernel_rfl) rfl

attribute [local irreducible] Go.wpList Go.Code.wp
set_option maxRecDepth 100000 in
set_option maxHeartbeats 4000000 in
theorem equal_calls (A B : Option Addr) (xs ys : List TIns) (cap cap' : Nat) (hcap : xs.length ≤ cap) (hcap' : ys.length ≤ cap') (hl : xs.length ≤ 1000000) (hl' : ys.length ≤ 1000000) (w : World) (hr : Reads w A (eIns.all xs)) (hr' : Reads w B (eIns.all ys)) : Calls Tryd.prog 27 #[.slice A xs.length cap, .slice B ys.length cap'] w fun e w' => e = .returned (.bool (decide (xs = ys))) ∧ Below w.heap.size w w' := by
  have bel : Below w.heap.size w w := Below.refl _ _
  go_enter Tryd.func27, Tryd.ntmps27
  refine wp_seq ?_
  refine wp_region_lit ?_
  refine st_mv (.bool false) ?_
  simp only [nf0, nf1, nf2, nf3, nf4]
  refine wpList_nil ?_
  show Code.wp _ _ _ _ _
  refine wp_seq ?_
  refine wp_seq ?_
  refine wp_region_lit ?_
  refine st_mv (.slice A xs.length cap) ?_
  simp only [nf0, nf1, nf2, nf3, nf4]
  refine st_value (v := (.int .i64 (xs.length : Int))) (by rfl) (run_len (.tmp 6) rfl ⟨_, Tryd.underlying22⟩ rfl w) ?_
  simp only [nf0, nf1, nf2, nf3, nf4]
  refine st_mv (.slice B ys.length cap') ?_
  simp only [nf0, nf1, nf2, nf3, nf4]
  refine st_value (v := (.int .i64 (ys.length : Int))) (by rfl) (run_len (.tmp 8) rfl ⟨_, Tryd.underlying22⟩ rfl w) ?_
  simp only [nf0, nf1, nf2, nf3, nf4]
  refine st_value (v := (.bool (!decide ((xs.length : Int) = (ys.length : Int))))) (by rfl) (run_neq_int (.tmp 7) (.tmp 9) rfl rfl rfl w) ?_
  simp only [nf0, nf1, nf2, nf3, nf4]
  refine wpList_nil ?_
  show Code.wp _ _ _ _ _
  cases hg1 : decide ((xs.length : Int) = (ys.length : Int))
  · have hp2 := of_decide_eq_false hg1
    refine wp_cond_true rfl ?_
    refine wp_seq ?_
    refine wp_region_lit ?_
    refine st_mv (.bool false) ?_
    simp only [nf0, nf1, nf2, nf3, nf4]
    refine wpList_nil ?_
    show Code.wp _ _ _ _ _
    refine wp_ret ?_
    first | show bodyPost _ _ _ _ _ _ | (simp only [Exit.then, Exit.inBlock]; show bodyPost _ _ _ _ _ _)
    have hE : ¬ xs = ys := fun e => by subst e; omega
    exact bodyPost_ret (results_tmp rfl _ _ _) rfl ⟨by rw [decide_eq_false (hE)]; rfl, bel⟩
  have hp3 := of_decide_eq_true hg1
  refine wp_cond_false rfl ?_
  refine wp_skip ?_
  show Code.wp _ _ _ _ _
  refine wp_seq ?_
  refine wp_seq ?_
  refine wp_region_lit ?_
  refine st_mv (.slice A xs.length cap) ?_
  simp only [nf0, nf1, nf2, nf3, nf4]
  refine st_value (v := (.int .i64 (xs.length : Int))) (by rfl) (run_len (.tmp 11) rfl ⟨_, Tryd.underlying22⟩ rfl w) ?_
  simp only [nf0, nf1, nf2, nf3, nf4]
  refine st_mv (.int .i64 0) ?_
  simp only [nf0, nf1, nf2, nf3, nf4]
  refine wpList_nil ?_
  show Code.wp _ _ _ _ _
  refine wp_block ?_
  refine wp_loop_left (fun n_ a_ wr_ => (fun J4 => ∃ (k : Nat), n_ = xs.length - k ∧ a_ = ⟨#[.slice A xs.length cap, .slice B ys.length cap', J4 2, J4 3, J4 4, J4 5, J4 6, J4 7, J4 8, J4 9, J4 10, .slice A xs.length cap, .int .i64 (xs.length : Int), .int .i64 (k : Int), J4 14, J4 15, J4 16, J4 17, J4 18, J4 19, J4 20, J4 21, J4 22, J4 23, J4 24, J4 25], []⟩ ∧ Below w.heap.size w wr_ ∧ (k ≤ xs.length) ∧ (∀ j, j < k → insAt xs j = insAt ys j)) (jk a_)) (xs.length - 0) ⟨0, rfl, rfl, bel, (Nat.zero_le _), (fun j h => absurd h (Nat.not_lt_zero _))⟩ ?_
  clear bel
  intro n_ a_ w5 h_
  revert h_
  generalize jk a_ = J4
  rintro ⟨k, hms, rfl, bel, hk, hS⟩
  refine wp_seq ?_
  refine wp_region_lit ?_
  refine st_value (v := (.bool (decide ((k : Int) < (xs.length : Int))))) (by rfl) (run_lss (.tmp 13) (.tmp 12) rfl rfl rfl w5) ?_
  simp only [nf0, nf1, nf2, nf3, nf4]
  refine wpList_nil ?_
  show Code.wp _ _ _ _ _
  refine wp_seq ?_
  cases hg6 : decide ((k : Int) < (xs.length : Int))
  · have hp7 := of_decide_eq_false hg6
    refine wp_cond_false rfl ?_
    refine wp_exit ?_
    show Code.wp _ _ _ _ _
    refine wp_seq ?_
    refine wp_region_lit ?_
    refine st_mv (.bool true) ?_
    simp only [nf0, nf1, nf2, nf3, nf4]
    refine wpList_nil ?_
    show Code.wp _ _ _ _ _
    refine wp_ret ?_
    first | show bodyPost _ _ _ _ _ _ | (simp only [Exit.then, Exit.inBlock]; show bodyPost _ _ _ _ _ _)
    have hE : xs = ys := ins_ext (by omega) fun j hj => hS j (by omega)
    exact bodyPost_ret (results_tmp rfl _ _ _) rfl ⟨by rw [decide_eq_true (hE)]; rfl, bel⟩
  have hp8 := of_decide_eq_true hg6
  refine wp_cond_true rfl ?_
  refine wp_skip ?_
  show Code.wp _ _ _ _ _
  refine wp_seq ?_
  refine wp_block ?_
  refine wp_seq ?_
  refine wp_region_lit ?_
  refine st_mv (.int .i64 (k : Int)) ?_
  simp only [nf0, nf1, nf2, nf3, nf4]
  refine st_mv (.int .i64 (k : Int)) ?_
  simp only [nf0, nf1, nf2, nf3, nf4]
  refine wpList_nil ?_
  show Code.wp _ _ _ _ _
  refine wp_seq ?_
  obtain ⟨b9, o10, rfl, _⟩ := (hr.same bel).at_ (by rw [Enc.all_length]; exact Nat.mul_pos (by omega) (by decide))
  obtain ⟨b11, o12, rfl, _⟩ := (hr'.same bel).at_ (by rw [Enc.all_length]; exact Nat.mul_pos (by omega) (by decide))
  refine wp_region_facts_lit (C := Abv w5) (G := G0) [.val (.slice (some ⟨b9, o10, none⟩) xs.length cap), .val (.int .i64 (k : Int)), .val (.pointer (some ⟨b9, o10 + k * 4, none⟩)), .val (.agg #[.int .i64 ((insAt xs k).1), .int .i64 ((insAt xs k).2.1), .int .i64 ((insAt xs k).2.2.1), .int .i32 ((insAt xs k).2.2.2)]), .val (.slice (some ⟨b11, o12, none⟩) ys.length cap'), .val (.int .i64 (k : Int)), .val (.pointer (some ⟨b11, o12 + k * 4, none⟩)), .val (.agg #[.int .i64 ((insAt ys k).1), .int .i64 ((insAt ys k).2.1), .int .i64 ((insAt ys k).2.2.1), .int .i32 ((insAt ys k).2.2.2)]), .val (.bool (!decide ((insAt xs k) = (insAt ys k))))] (by kernel_rfl) (by kernel_rfl) (Abv.start _) ?_
  refine fsteps_val (fun W hC hh => opok_value (v := (.slice (some ⟨b9, o10, none⟩) xs.length cap)) (by rfl) (by rfl) rfl hC (G0.refl _)) ?_
  simp only [nf0, nf1, nf2, nf3, nf4]
  refine fsteps_val (fun W hC hh => opok_value (v := (.int .i64 (k : Int))) (by rfl) (by rfl) rfl hC (G0.refl _)) ?_
  simp only [nf0, nf1, nf2, nf3, nf4]
  refine fsteps_val (fun W hC hh => opok_value (v := (.pointer (some ⟨b9, o10 + k * 4, none⟩))) (by rfl) (run_indexAddrN (.tmp 16) (.tmp 17) rfl Tryd.underlying22 slIns.sz (i := k) rfl rfl (by omega) W) rfl hC (G0.refl _)) ?_
  simp only [nf0, nf1, nf2, nf3, nf4]
  refine fsteps_val (fun W hC hh => opok_value (v := (.agg #[.int .i64 ((insAt xs k).1), .int .i64 ((insAt xs k).2.1), .int .i64 ((insAt xs k).2.2.1), .int .i32 ((insAt xs k).2.2.2)])) (by rfl) (run_loadE (E := eIns) (.tmp 18) rfl aggIns rfl (hr.same (bl_step bel hC)) (insAt_get (by omega))) rfl hC (G0.refl _)) ?_
  simp only [nf0, nf1, nf2, nf3, nf4]
  refine fsteps_val (fun W hC hh => opok_value (v := (.slice (some ⟨b11, o12, none⟩) ys.length cap')) (by rfl) (by rfl) rfl hC (G0.refl _)) ?_
  simp only [nf0, nf1, nf2, nf3, nf4]
  refine fsteps_val (fun W hC hh => opok_value (v := (.int .i64 (k : Int))) (by rfl) (by rfl) rfl hC (G0.refl _)) ?_
  simp only [nf0, nf1, nf2, nf3, nf4]
  refine fsteps_val (fun W hC hh => opok_value (v := (.pointer (some ⟨b11, o12 + k * 4, none⟩))) (by rfl) (run_indexAddrN (.tmp 20) (.tmp 21) rfl Tryd.underlying22 slIns.sz (i := k) rfl rfl (by omega) W) rfl hC (G0.refl _)) ?_
  simp only [nf0, nf1, nf2, nf3, nf4]
  refine fsteps_val (fun W hC hh => opok_value (v := (.agg #[.int .i64 ((insAt ys k).1), .int .i64 ((insAt ys k).2.1), .int .i64 ((insAt ys k).2.2.1), .int .i32 ((insAt ys k).2.2.2)])) (by rfl) (run_loadE (E := eIns) (.tmp 22) rfl aggIns rfl (hr'.same (bl_step bel hC)) (insAt_get (by omega))) rfl hC (G0.refl _)) ?_
  simp only [nf0, nf1, nf2, nf3, nf4]
  refine fsteps_val (fun W hC hh => opok_value (v := (.bool (!decide ((insAt xs k) = (insAt ys k))))) (by rfl) (run_neq_agg (.tmp 19) (.tmp 23) rfl eqIns (p := (insAt xs k)) (q := (insAt ys k)) rfl rfl trivial trivial W) rfl hC (G0.refl _)) ?_
  simp only [nf0, nf1, nf2, nf3, nf4]
  refine fsteps_nil fun w13 hC _ => ?_
  replace hC : Below w5.heap.size w5 w13 := hC
  replace bel := bl_step bel hC
  clear hC
  show Code.wp _ _ _ _ _
  cases hg14 : decide ((insAt xs k) = (insAt ys k))
  · have hp15 := of_decide_eq_false hg14
    refine wp_cond_true rfl ?_
    refine wp_seq ?_
    refine wp_region_lit ?_
    refine st_mv (.bool false) ?_
    simp only [nf0, nf1, nf2, nf3, nf4]
    refine wpList_nil ?_
    show Code.wp _ _ _ _ _
    refine wp_ret ?_
    first | show bodyPost _ _ _ _ _ _ | (simp only [Exit.then, Exit.inBlock]; show bodyPost _ _ _ _ _ _)
    have hE : ¬ xs = ys := fun e => hp15 (by rw [e])
    exact bodyPost_ret (results_tmp rfl _ _ _) rfl ⟨by rw [decide_eq_false (hE)]; rfl, bel⟩
  have hp16 := of_decide_eq_true hg14
  refine wp_cond_false rfl ?_
  refine wp_skip ?_
  show Code.wp _ _ _ _ _
  refine wp_region_lit ?_
  refine st_value (v := (.int .i64 ((k : Int) + 1))) (by rfl) (run_add_in (.tmp 13) (.const (.int .i64 1)) rfl rfl rfl (by omega) w13) ?_
  simp only [nf0, nf1, nf2, nf3, nf4]
  refine st_mv (.int .i64 ((k : Int) + 1)) ?_
  simp only [nf0, nf1, nf2, nf3, nf4]
  refine wpList_nil ?_
  show ∃ m, m < _ ∧ _
  exact ⟨_, (by omega), (k + 1), rfl, rfl, bel, (by omega), (fun j h => by rcases Nat.lt_or_ge j k with g | g; exact hS j g; obtain rfl : j = k := (by omega); exact hp16)⟩
set_option maxRecDepth 100000 in
set_option maxHeartbeats 4000000 in
theorem same_calls (A B : Option Addr) (pr qr : Int) (xs ys : List TIns) (cap cap' : Nat) (hcap : xs.length ≤ cap) (hcap' : ys.length ≤ cap') (hl : xs.length ≤ 1000000) (hl' : ys.length ≤ 1000000) (w : World) (hr : Reads w A (eIns.all xs)) (hr' : Reads w B (eIns.all ys)) : Calls Tryd.prog 13 #[.agg #[.int .i64 pr, .slice A xs.length cap], .agg #[.int .i64 qr, .slice B ys.length cap']] w fun e w' => e = .returned (.bool (decide (pr = qr ∧ xs = ys))) ∧ Below w.heap.size w w' := by
  have bel : Below w.heap.size w w := Below.refl _ _
  go_enter Tryd.func13, Tryd.ntmps13
  refine wp_seq ?_
  refine wp_region_lit ?_
  refine st_new (cs := #[.int .i64 pr, .slice A xs.length cap]) (t := 24) (by rfl) (run_boxV (.tmp 0) rfl (v := (.agg #[.int .i64 pr, .slice A xs.length cap])) rfl rfl _) ?_
  intro g1 w2 B3 hb4 lo5
  simp only [nf0, nf1, nf2, nf3, nf4]
  replace lo5 := low_le bel lo5
  replace bel := bl_step bel hb4
  clear hb4
  refine st_new (cs := #[.int .i64 qr, .slice B ys.length cap']) (t := 24) (by rfl) (run_boxV (.tmp 1) rfl (v := (.agg #[.int .i64 qr, .slice B ys.length cap'])) rfl rfl _) ?_
  intro g6 w7 B8 hb9 lo10
  simp only [nf0, nf1, nf2, nf3, nf4]
  have n11 := B3.ne lo10
  replace lo10 := low_le bel lo10
  replace B3 := B3.below hb9
  replace bel := bl_step bel hb9
  clear hb9
  refine st_mv (.bool false) ?_
  simp only [nf0, nf1, nf2, nf3, nf4]
  refine wpList_nil ?_
  show Code.wp _ _ _ _ _
  refine wp_seq ?_
  cases hg12 : decide (pr = qr)
  · have hp13 := of_decide_eq_false hg12
    refine wp_region_lit ?_
    refine st_value (v := (.pointer (some ⟨g1, 0, none⟩))) (by rfl) (run_fieldA (.tmp 2) rfl f_fld_24_0 rfl rfl w7) ?_
    simp only [nf0, nf1, nf2, nf3, nf4]
    refine st_value (v := (.int .i64 pr)) (by rfl) (run_loadB (.tmp 5) rfl f_one_3 rfl B3 rfl) ?_
    simp only [nf0, nf1, nf2, nf3, nf4]
    refine st_value (v := (.pointer (some ⟨g6, 0, none⟩))) (by rfl) (run_fieldA (.tmp 3) rfl f_fld_24_0 rfl rfl w7) ?_
    simp only [nf0, nf1, nf2, nf3, nf4]
    refine st_value (v := (.int .i64 qr)) (by rfl) (run_loadB (.tmp 7) rfl f_one_3 rfl B8 rfl) ?_
    simp only [nf0, nf1, nf2, nf3, nf4]
    refine st_value (v := (.bool false)) (by rfl) ((run_eql_int (.tmp 6) (.tmp 8) rfl rfl rfl w7).trans (by rw [hg12])) ?_
    simp only [nf0, nf1, nf2, nf3, nf4]
    refine st_mv (.bool false) ?_
    simp only [nf0, nf1, nf2, nf3, nf4]
    refine st_nob (j := 5) (t := 10) (c := false) rfl rfl rfl rfl rfl ?_
    simp only [nf0, nf1, nf2, nf3, nf4]
    refine st_nob (j := 5) (t := 10) (c := false) rfl rfl rfl rfl rfl ?_
    simp only [nf0, nf1, nf2, nf3, nf4]
    refine st_nob (j := 5) (t := 10) (c := false) rfl rfl rfl rfl rfl ?_
    simp only [nf0, nf1, nf2, nf3, nf4]
    refine st_nob (j := 5) (t := 10) (c := false) rfl rfl rfl rfl rfl ?_
    simp only [nf0, nf1, nf2, nf3, nf4]
    refine st_nob (j := 5) (t := 10) (c := false) rfl rfl rfl rfl rfl ?_
    simp only [nf0, nf1, nf2, nf3, nf4]
    refine st_mv (.bool false) ?_
    simp only [nf0, nf1, nf2, nf3, nf4]
    refine st_mv (.bool false) ?_
    simp only [nf0, nf1, nf2, nf3, nf4]
    refine wpList_nil ?_
    show Code.wp _ _ _ _ _
    refine wp_ret ?_
    first | show bodyPost _ _ _ _ _ _ | (simp only [Exit.then, Exit.inBlock]; show bodyPost _ _ _ _ _ _)
    have hE : decide (pr = qr ∧ xs = ys) = false := decide_eq_false fun h => absurd h.1 (by assumption)
    exact bodyPost_ret (results_tmp rfl _ _ _) rfl ⟨by rw [hE]; rfl, bel⟩
  have hp14 := of_decide_eq_true hg12
  refine wp_region_lit ?_
  refine st_value (v := (.pointer (some ⟨g1, 0, none⟩))) (by rfl) (run_fieldA (.tmp 2) rfl f_fld_24_0 rfl rfl w7) ?_
  simp only [nf0, nf1, nf2, nf3, nf4]
  refine st_value (v := (.int .i64 pr)) (by rfl) (run_loadB (.tmp 5) rfl f_one_3 rfl B3 rfl) ?_
  simp only [nf0, nf1, nf2, nf3, nf4]
  refine st_value (v := (.pointer (some ⟨g6, 0, none⟩))) (by rfl) (run_fieldA (.tmp 3) rfl f_fld_24_0 rfl rfl w7) ?_
  simp only [nf0, nf1, nf2, nf3, nf4]
  refine st_value (v := (.int .i64 qr)) (by rfl) (run_loadB (.tmp 7) rfl f_one_3 rfl B8 rfl) ?_
  simp only [nf0, nf1, nf2, nf3, nf4]
  refine st_value (v := (.bool true)) (by rfl) ((run_eql_int (.tmp 6) (.tmp 8) rfl rfl rfl w7).trans (by rw [hg12])) ?_
  simp only [nf0, nf1, nf2, nf3, nf4]
  refine st_mv (.bool true) ?_
  simp only [nf0, nf1, nf2, nf3, nf4]
  refine st_value (v := (.pointer (some ⟨g1, 1, none⟩))) (by rfl) (run_fieldA (.tmp 2) rfl f_fld_24_1 rfl rfl w7) ?_
  simp only [nf0, nf1, nf2, nf3, nf4]
  refine st_value (v := (.slice A xs.length cap)) (by rfl) (run_loadB (.tmp 11) rfl f_one_22 rfl B3 rfl) ?_
  simp only [nf0, nf1, nf2, nf3, nf4]
  refine st_value (v := (.pointer (some ⟨g6, 1, none⟩))) (by rfl) (run_fieldA (.tmp 3) rfl f_fld_24_1 rfl rfl w7) ?_
  simp only [nf0, nf1, nf2, nf3, nf4]
  refine st_value (v := (.slice B ys.length cap')) (by rfl) (run_loadB (.tmp 13) rfl f_one_22 rfl B8 rfl) ?_
  simp only [nf0, nf1, nf2, nf3, nf4]
  refine st_call1 (v := (.bool (decide (xs = ys)))) (by rfl) (f_run_call_27_2 (.tmp 12) (.tmp 14) rfl rfl rfl _) (equal_calls A B xs ys cap cap' hcap hcap' hl hl' w7 (hr.same bel) (hr'.same bel)) ?_
  intro w15 hb16
  simp only [nf0, nf1, nf2, nf3, nf4]
  replace B3 := B3.below hb16
  replace B8 := B8.below hb16
  replace bel := bl_step bel hb16
  clear hb16
  refine st_mv (.bool (decide (xs = ys))) ?_
  simp only [nf0, nf1, nf2, nf3, nf4]
  refine st_mv (.bool (decide (xs = ys))) ?_
  simp only [nf0, nf1, nf2, nf3, nf4]
  refine wpList_nil ?_
  show Code.wp _ _ _ _ _
  refine wp_ret ?_
  first | show bodyPost _ _ _ _ _ _ | (simp only [Exit.then, Exit.inBlock]; show bodyPost _ _ _ _ _ _)
  have hE : decide (pr = qr ∧ xs = ys) = decide (xs = ys) := by rw [decide_eq_decide]; exact ⟨fun h => h.2, fun h => ⟨by assumption, h⟩⟩
  exact bodyPost_ret (results_tmp rfl _ _ _) rfl ⟨by rw [hE]; rfl, bel⟩
set_option maxRecDepth 100000 in
set_option maxHeartbeats 4000000 in
theorem refSame_calls (A B : Option Addr) (pr qr : Int) (xs ys : List TIns) (cap cap' : Nat) (hcap : xs.length ≤ cap) (hcap' : ys.length ≤ cap') (hl : xs.length ≤ 1000000) (hl' : ys.length ≤ 1000000) (w : World) (hr : Reads w A (eIns.all xs)) (hr' : Reads w B (eIns.all ys)) : Calls Tryd.prog 14 #[.agg #[.int .i64 pr, .slice A xs.length cap], .agg #[.int .i64 qr, .slice B ys.length cap']] w fun e w' => e = .returned (.bool (decide (pr = qr ∧ xs = ys))) ∧ Below w.heap.size w w' := by
  have bel : Below w.heap.size w w := Below.refl _ _
  go_enter Tryd.func14, Tryd.ntmps14
  refine wp_seq ?_
  refine wp_region_lit ?_
  refine st_new (cs := #[.int .i64 pr, .slice A xs.length cap]) (t := 24) (by rfl) (run_boxV (.tmp 0) rfl (v := (.agg #[.int .i64 pr, .slice A xs.length cap])) rfl rfl _) ?_
  intro g1 w2 B3 hb4 lo5
  simp only [nf0, nf1, nf2, nf3, nf4]
  replace lo5 := low_le bel lo5
  replace bel := bl_step bel hb4
  clear hb4
  refine st_new (cs := #[.int .i64 qr, .slice B ys.length cap']) (t := 24) (by rfl) (run_boxV (.tmp 1) rfl (v := (.agg #[.int .i64 qr, .slice B ys.length cap'])) rfl rfl _) ?_
  intro g6 w7 B8 hb9 lo10
  simp only [nf0, nf1, nf2, nf3, nf4]
  have n11 := B3.ne lo10
  replace lo10 := low_le bel lo10
  replace B3 := B3.below hb9
  replace bel := bl_step bel hb9
  clear hb9
  refine st_mv (.bool false) ?_
  simp only [nf0, nf1, nf2, nf3, nf4]
  refine wpList_nil ?_
  show Code.wp _ _ _ _ _
  refine wp_seq ?_
  refine wp_seq ?_
  cases hg12 : decide (pr = qr)
  · have hp13 := of_decide_eq_false hg12
    refine wp_region_lit ?_
    refine st_value (v := (.pointer (some ⟨g1, 0, none⟩))) (by rfl) (run_fieldA (.tmp 2) rfl f_fld_24_0 rfl rfl w7) ?_
    simp only [nf0, nf1, nf2, nf3, nf4]
    refine st_value (v := (.int .i64 pr)) (by rfl) (run_loadB (.tmp 6) rfl f_one_3 rfl B3 rfl) ?_
    simp only [nf0, nf1, nf2, nf3, nf4]
    refine st_value (v := (.pointer (some ⟨g6, 0, none⟩))) (by rfl) (run_fieldA (.tmp 3) rfl f_fld_24_0 rfl rfl w7) ?_
    simp only [nf0, nf1, nf2, nf3, nf4]
    refine st_value (v := (.int .i64 qr)) (by rfl) (run_loadB (.tmp 8) rfl f_one_3 rfl B8 rfl) ?_
    simp only [nf0, nf1, nf2, nf3, nf4]
    refine st_value (v := (.bool true)) (by rfl) ((run_neq_int (.tmp 7) (.tmp 9) rfl rfl rfl w7).trans (by rw [hg12]; rfl)) ?_
    simp only [nf0, nf1, nf2, nf3, nf4]
    refine st_mv (.bool true) ?_
    simp only [nf0, nf1, nf2, nf3, nf4]
    refine st_nob (j := 5) (t := 11) (c := true) rfl rfl rfl rfl rfl ?_
    simp only [nf0, nf1, nf2, nf3, nf4]
    refine st_nob (j := 5) (t := 11) (c := true) rfl rfl rfl rfl rfl ?_
    simp only [nf0, nf1, nf2, nf3, nf4]
    refine st_nob (j := 5) (t := 11) (c := true) rfl rfl rfl rfl rfl ?_
    simp only [nf0, nf1, nf2, nf3, nf4]
    refine st_nob (j := 5) (t := 11) (c := true) rfl rfl rfl rfl rfl ?_
    simp only [nf0, nf1, nf2, nf3, nf4]
    refine st_nob (j := 5) (t := 11) (c := true) rfl rfl rfl rfl rfl ?_
    simp only [nf0, nf1, nf2, nf3, nf4]
    refine st_nob (j := 5) (t := 11) (c := true) rfl rfl rfl rfl rfl ?_
    simp only [nf0, nf1, nf2, nf3, nf4]
    refine st_nob (j := 5) (t := 11) (c := true) rfl rfl rfl rfl rfl ?_
    simp only [nf0, nf1, nf2, nf3, nf4]
    refine st_mv (.bool true) ?_
    simp only [nf0, nf1, nf2, nf3, nf4]
    refine wpList_nil ?_
    show Code.wp _ _ _ _ _
    refine wp_cond_true rfl ?_
    refine wp_seq ?_
    refine wp_region_lit ?_
    refine st_mv (.bool false) ?_
    simp only [nf0, nf1, nf2, nf3, nf4]
    refine wpList_nil ?_
    show Code.wp _ _ _ _ _
    refine wp_ret ?_
    first | show bodyPost _ _ _ _ _ _ | (simp only [Exit.then, Exit.inBlock]; show bodyPost _ _ _ _ _ _)
    exact bodyPost_ret (results_tmp rfl _ _ _) rfl ⟨by rw [decide_eq_false (fun h => absurd h.1 (by assumption))]; rfl, bel⟩
  have hp14 := of_decide_eq_true hg12
  refine wp_region_lit ?_
  refine st_value (v := (.pointer (some ⟨g1, 0, none⟩))) (by rfl) (run_fieldA (.tmp 2) rfl f_fld_24_0 rfl rfl w7) ?_
  simp only [nf0, nf1, nf2, nf3, nf4]
  refine st_value (v := (.int .i64 pr)) (by rfl) (run_loadB (.tmp 6) rfl f_one_3 rfl B3 rfl) ?_
  simp only [nf0, nf1, nf2, nf3, nf4]
  refine st_value (v := (.pointer (some ⟨g6, 0, none⟩))) (by rfl) (run_fieldA (.tmp 3) rfl f_fld_24_0 rfl rfl w7) ?_
  simp only [nf0, nf1, nf2, nf3, nf4]
  refine st_value (v := (.int .i64 qr)) (by rfl) (run_loadB (.tmp 8) rfl f_one_3 rfl B8 rfl) ?_
  simp only [nf0, nf1, nf2, nf3, nf4]
  refine st_value (v := (.bool false)) (by rfl) ((run_neq_int (.tmp 7) (.tmp 9) rfl rfl rfl w7).trans (by rw [hg12]; rfl)) ?_
  simp only [nf0, nf1, nf2, nf3, nf4]
  refine st_mv (.bool false) ?_
  simp only [nf0, nf1, nf2, nf3, nf4]
  refine st_value (v := (.pointer (some ⟨g1, 1, none⟩))) (by rfl) (run_fieldA (.tmp 2) rfl f_fld_24_1 rfl rfl w7) ?_
  simp only [nf0, nf1, nf2, nf3, nf4]
  refine st_value (v := (.slice A xs.length cap)) (by rfl) (run_loadB (.tmp 12) rfl f_one_22 rfl B3 rfl) ?_
  simp only [nf0, nf1, nf2, nf3, nf4]
  refine st_value (v := (.int .i64 (xs.length : Int))) (by rfl) (run_len (.tmp 13) rfl ⟨_, Tryd.underlying22⟩ rfl w7) ?_
  simp only [nf0, nf1, nf2, nf3, nf4]
  refine st_value (v := (.pointer (some ⟨g6, 1, none⟩))) (by rfl) (run_fieldA (.tmp 3) rfl f_fld_24_1 rfl rfl w7) ?_
  simp only [nf0, nf1, nf2, nf3, nf4]
  refine st_value (v := (.slice B ys.length cap')) (by rfl) (run_loadB (.tmp 15) rfl f_one_22 rfl B8 rfl) ?_
  simp only [nf0, nf1, nf2, nf3, nf4]
  refine st_value (v := (.int .i64 (ys.length : Int))) (by rfl) (run_len (.tmp 16) rfl ⟨_, Tryd.underlying22⟩ rfl w7) ?_
  simp only [nf0, nf1, nf2, nf3, nf4]
  refine st_value (v := (.bool (!decide ((xs.length : Int) = (ys.length : Int))))) (by rfl) (run_neq_int (.tmp 14) (.tmp 17) rfl rfl rfl w7) ?_
  simp only [nf0, nf1, nf2, nf3, nf4]
  refine st_mv (.bool (!decide ((xs.length : Int) = (ys.length : Int)))) ?_
  simp only [nf0, nf1, nf2, nf3, nf4]
  refine wpList_nil ?_
  show Code.wp _ _ _ _ _
  cases hg15 : decide ((xs.length : Int) = (ys.length : Int))
  · have hp16 := of_decide_eq_false hg15
    refine wp_cond_true rfl ?_
    refine wp_seq ?_
    refine wp_region_lit ?_
    refine st_mv (.bool false) ?_
    simp only [nf0, nf1, nf2, nf3, nf4]
    refine wpList_nil ?_
    show Code.wp _ _ _ _ _
    refine wp_ret ?_
    first | show bodyPost _ _ _ _ _ _ | (simp only [Exit.then, Exit.inBlock]; show bodyPost _ _ _ _ _ _)
    have hE : ¬ xs = ys := fun e => by subst e; omega
    exact bodyPost_ret (results_tmp rfl _ _ _) rfl ⟨by rw [decide_eq_false (fun h => hE h.2)]; rfl, bel⟩
  have hp17 := of_decide_eq_true hg15
  refine wp_cond_false rfl ?_
  refine wp_skip ?_
  show Code.wp _ _ _ _ _
  refine wp_seq ?_
  refine wp_seq ?_
  refine wp_region_lit ?_
  refine st_value (v := (.pointer (some ⟨g1, 1, none⟩))) (by rfl) (run_fieldA (.tmp 2) rfl f_fld_24_1 rfl rfl w7) ?_
  simp only [nf0, nf1, nf2, nf3, nf4]
  refine st_value (v := (.slice A xs.length cap)) (by rfl) (run_loadB (.tmp 20) rfl f_one_22 rfl B3 rfl) ?_
  simp only [nf0, nf1, nf2, nf3, nf4]
  refine st_value (v := (.int .i64 (xs.length : Int))) (by rfl) (run_len (.tmp 21) rfl ⟨_, Tryd.underlying22⟩ rfl w7) ?_
  simp only [nf0, nf1, nf2, nf3, nf4]
  refine st_mv (.int .i64 0) ?_
  simp only [nf0, nf1, nf2, nf3, nf4]
  refine wpList_nil ?_
  show Code.wp _ _ _ _ _
  refine wp_block ?_
  refine wp_loop_left (fun n_ a_ wr_ => (fun J18 => ∃ (k : Nat), n_ = xs.length - k ∧ a_ = ⟨#[J18 0, J18 1, .pointer (some ⟨g1, 0, none⟩), .pointer (some ⟨g6, 0, none⟩), J18 4, J18 5, J18 6, J18 7, J18 8, J18 9, J18 10, J18 11, J18 12, J18 13, J18 14, J18 15, J18 16, J18 17, J18 18, J18 19, J18 20, .slice A xs.length cap, .int .i64 (xs.length : Int), .int .i64 (k : Int), J18 24, J18 25, J18 26, J18 27, J18 28, J18 29, J18 30, J18 31, J18 32, J18 33, J18 34, J18 35, J18 36, J18 37], []⟩ ∧ Blk wr_ g1 #[.int .i64 pr, .slice A xs.length cap] 24 ∧ Blk wr_ g6 #[.int .i64 qr, .slice B ys.length cap'] 24 ∧ Below w.heap.size w wr_ ∧ (k ≤ xs.length) ∧ (∀ j, j < k → insAt xs j = insAt ys j)) (jk a_)) (xs.length - 0) ⟨0, rfl, rfl, B3, B8, bel, (Nat.zero_le _), (fun j h => absurd h (Nat.not_lt_zero _))⟩ ?_
  clear B3
  clear B8
  clear bel
  intro n_ a_ w19 h_
  revert h_
  generalize jk a_ = J18
  rintro ⟨k, hms, rfl, B3, B8, bel, hk, hS⟩
  refine wp_seq ?_
  refine wp_region_lit ?_
  refine st_value (v := (.bool (decide ((k : Int) < (xs.length : Int))))) (by rfl) (run_lss (.tmp 23) (.tmp 22) rfl rfl rfl w19) ?_
  simp only [nf0, nf1, nf2, nf3, nf4]
  refine wpList_nil ?_
  show Code.wp _ _ _ _ _
  refine wp_seq ?_
  cases hg20 : decide ((k : Int) < (xs.length : Int))
  · have hp21 := of_decide_eq_false hg20
    refine wp_cond_false rfl ?_
    refine wp_exit ?_
    show Code.wp _ _ _ _ _
    refine wp_seq ?_
    refine wp_region_lit ?_
    refine st_mv (.bool true) ?_
    simp only [nf0, nf1, nf2, nf3, nf4]
    refine wpList_nil ?_
    show Code.wp _ _ _ _ _
    refine wp_ret ?_
    first | show bodyPost _ _ _ _ _ _ | (simp only [Exit.then, Exit.inBlock]; show bodyPost _ _ _ _ _ _)
    have hE : xs = ys := ins_ext (by omega) fun j hj => hS j (by omega)
    exact bodyPost_ret (results_tmp rfl _ _ _) rfl ⟨by rw [decide_eq_true (⟨by assumption, hE⟩)]; rfl, bel⟩
  have hp22 := of_decide_eq_true hg20
  refine wp_cond_true rfl ?_
  refine wp_skip ?_
  show Code.wp _ _ _ _ _
  refine wp_seq ?_
  refine wp_block ?_
  refine wp_seq ?_
  refine wp_region_lit ?_
  refine st_mv (.int .i64 (k : Int)) ?_
  simp only [nf0, nf1, nf2, nf3, nf4]
  refine st_mv (.int .i64 (k : Int)) ?_
  simp only [nf0, nf1, nf2, nf3, nf4]
  refine wpList_nil ?_
  show Code.wp _ _ _ _ _
  refine wp_seq ?_
  obtain ⟨b23, o24, rfl, _⟩ := (hr.same bel).at_ (by rw [Enc.all_length]; exact Nat.mul_pos (by omega) (by decide))
  obtain ⟨b25, o26, rfl, _⟩ := (hr'.same bel).at_ (by rw [Enc.all_length]; exact Nat.mul_pos (by omega) (by decide))
  refine wp_region_facts2_litD (C := Abv w19) 10 [.val (.pointer (some ⟨g1, 1, none⟩)), .val (.slice (some ⟨b23, o24, none⟩) xs.length cap), .val (.int .i64 (k : Int)), .val (.pointer (some ⟨b23, o24 + k * 4, none⟩)), .val (.agg #[.int .i64 ((insAt xs k).1), .int .i64 ((insAt xs k).2.1), .int .i64 ((insAt xs k).2.2.1), .int .i32 ((insAt xs k).2.2.2)]), .val (.pointer (some ⟨g6, 1, none⟩)), .val (.slice (some ⟨b25, o26, none⟩) ys.length cap'), .val (.int .i64 (k : Int)), .val (.pointer (some ⟨b25, o26 + k * 4, none⟩)), .val (.agg #[.int .i64 ((insAt ys k).1), .int .i64 ((insAt ys k).2.1), .int .i64 ((insAt ys k).2.2.1), .int .i32 ((insAt ys k).2.2.2)])] w19.heap.size (by kernel_rfl) (by simp) (by kernel_rfl) (by kernel_rfl) (fun _ h => h.size) (Abv.start _) ?_
  simp only [List.take_succ_cons, List.take_zero, List.drop_succ_cons, List.drop_zero]
  refine fst2_val (fun W hC hh => ok2_value (v := (.pointer (some ⟨g1, 1, none⟩))) (by rfl) (run_fieldA (.tmp 2) rfl f_fld_24_1 rfl rfl W) rfl hC (G0.refl _)) ?_
  simp only [nf0, nf1, nf2, nf3, nf4]
  refine fst2_val (fun W hC hh => ok2_value (v := (.slice (some ⟨b23, o24, none⟩) xs.length cap)) (by rfl) (run_loadB (.tmp 26) rfl f_one_22 rfl (B3.below hC) rfl) rfl hC (G0.refl _)) ?_
  simp only [nf0, nf1, nf2, nf3, nf4]
  refine fst2_val (fun W hC hh => ok2_value (v := (.int .i64 (k : Int))) (by rfl) (by rfl) rfl hC (G0.refl _)) ?_
  simp only [nf0, nf1, nf2, nf3, nf4]
  refine fst2_val (fun W hC hh => ok2_value (v := (.pointer (some ⟨b23, o24 + k * 4, none⟩))) (by rfl) (run_indexAddrN (.tmp 27) (.tmp 28) rfl Tryd.underlying22 slIns.sz (i := k) rfl rfl (by omega) W) rfl hC (G0.refl _)) ?_
  simp only [nf0, nf1, nf2, nf3, nf4]
  refine fst2_val (fun W hC hh => ok2_value (v := (.agg #[.int .i64 ((insAt xs k).1), .int .i64 ((insAt xs k).2.1), .int .i64 ((insAt xs k).2.2.1), .int .i32 ((insAt xs k).2.2.2)])) (by rfl) (run_loadE (E := eIns) (.tmp 29) rfl aggIns rfl (hr.same (bl_step bel hC)) (insAt_get (by omega))) rfl hC (G0.refl _)) ?_
  simp only [nf0, nf1, nf2, nf3, nf4]
  refine fst2_val (fun W hC hh => ok2_value (v := (.pointer (some ⟨g6, 1, none⟩))) (by rfl) (run_fieldA (.tmp 3) rfl f_fld_24_1 rfl rfl W) rfl hC (G0.refl _)) ?_
  simp only [nf0, nf1, nf2, nf3, nf4]
  refine fst2_val (fun W hC hh => ok2_value (v := (.slice (some ⟨b25, o26, none⟩) ys.length cap')) (by rfl) (run_loadB (.tmp 31) rfl f_one_22 rfl (B8.below hC) rfl) rfl hC (G0.refl _)) ?_
  simp only [nf0, nf1, nf2, nf3, nf4]
  refine fst2_val (fun W hC hh => ok2_value (v := (.int .i64 (k : Int))) (by rfl) (by rfl) rfl hC (G0.refl _)) ?_
  simp only [nf0, nf1, nf2, nf3, nf4]
  refine fst2_val (fun W hC hh => ok2_value (v := (.pointer (some ⟨b25, o26 + k * 4, none⟩))) (by rfl) (run_indexAddrN (.tmp 32) (.tmp 33) rfl Tryd.underlying22 slIns.sz (i := k) rfl rfl (by omega) W) rfl hC (G0.refl _)) ?_
  simp only [nf0, nf1, nf2, nf3, nf4]
  refine fst2_val (fun W hC hh => ok2_value (v := (.agg #[.int .i64 ((insAt ys k).1), .int .i64 ((insAt ys k).2.1), .int .i64 ((insAt ys k).2.2.1), .int .i32 ((insAt ys k).2.2.2)])) (by rfl) (run_loadE (E := eIns) (.tmp 34) rfl aggIns rfl (hr'.same (bl_step bel hC)) (insAt_get (by omega))) rfl hC (G0.refl _)) ?_
  simp only [nf0, nf1, nf2, nf3, nf4]
  refine fst2_nil fun w27 hC hh hnd => ?_
  replace hC : Below w19.heap.size w19 w27 := hC
  clear hh hnd
  replace B3 := B3.below hC
  replace B8 := B8.below hC
  replace bel := bl_step bel hC
  clear hC
  refine st_value (v := (.bool (!decide ((insAt xs k) = (insAt ys k))))) (by rfl) (run_neq_agg (.tmp 30) (.tmp 35) rfl eqIns (p := (insAt xs k)) (q := (insAt ys k)) rfl rfl trivial trivial w27) ?_
  simp only [nf0, nf1, nf2, nf3, nf4]
  refine wpList_nil ?_
  show Code.wp _ _ _ _ _
  cases hg28 : decide ((insAt xs k) = (insAt ys k))
  · have hp29 := of_decide_eq_false hg28
    refine wp_cond_true rfl ?_
    refine wp_seq ?_
    refine wp_region_lit ?_
    refine st_mv (.bool false) ?_
    simp only [nf0, nf1, nf2, nf3, nf4]
    refine wpList_nil ?_
    show Code.wp _ _ _ _ _
    refine wp_ret ?_
    first | show bodyPost _ _ _ _ _ _ | (simp only [Exit.then, Exit.inBlock]; show bodyPost _ _ _ _ _ _)
    have hE : ¬ xs = ys := fun e => hp29 (by rw [e])
    exact bodyPost_ret (results_tmp rfl _ _ _) rfl ⟨by rw [decide_eq_false (fun h => hE h.2)]; rfl, bel⟩
  have hp30 := of_decide_eq_true hg28
  refine wp_cond_false rfl ?_
  refine wp_skip ?_
  show Code.wp _ _ _ _ _
  refine wp_region_lit ?_
  refine st_value (v := (.int .i64 ((k : Int) + 1))) (by rfl) (run_add_in (.tmp 23) (.const (.int .i64 1)) rfl rfl rfl (by omega) w27) ?_
  simp only [nf0, nf1, nf2, nf3, nf4]
  refine st_mv (.int .i64 ((k : Int) + 1)) ?_
  simp only [nf0, nf1, nf2, nf3, nf4]
  refine wpList_nil ?_
  show ∃ m, m < _ ∧ _
  exact ⟨_, (by omega), (k + 1), rfl, rfl, B3, B8, bel, (by omega), (fun j h => by rcases Nat.lt_or_ge j k with g | g; exact hS j g; obtain rfl : j = k := (by omega); exact hp30)⟩
set_option maxRecDepth 100000 in
set_option maxHeartbeats 4000000 in
theorem cutP_calls (A : Option Addr) (pr : Int) (xs : List TIns) (cap : Nat) (hcap : xs.length ≤ cap) (hl : xs.length ≤ 9223372036854775807) (w : World) (hr : Reads w A (eIns.all xs)) : Calls Tryd.prog 5 #[.agg #[.int .i64 pr, .slice A xs.length cap]] w fun e w' => e = .returned (.agg #[.int .i64 pr, .slice A (xs.take 80).length cap]) ∧ Below w.heap.size w w' := by
  have bel : Below w.heap.size w w := Below.refl _ _
  go_enter Tryd.func5, Tryd.ntmps5
  refine wp_seq ?_
  refine wp_region_lit ?_
  refine st_new (cs := #[.int .i64 pr, .slice A xs.length cap]) (t := 24) (by rfl) (run_boxV (.tmp 0) rfl (v := (.agg #[.int .i64 pr, .slice A xs.length cap])) rfl rfl _) ?_
  intro g1 w2 B3 hb4 lo5
  simp only [nf0, nf1, nf2, nf3, nf4]
  replace lo5 := low_le bel lo5
  replace bel := bl_step bel hb4
  clear hb4
  refine st_new (cs := #[.int .i64 0, .slice none 0 0]) (t := 24) (by rfl) (run_allocV rfl f_zero_24 _) ?_
  intro g6 w7 B8 hb9 lo10
  simp only [nf0, nf1, nf2, nf3, nf4]
  have n11 := B3.ne lo10
  replace lo10 := low_le bel lo10
  replace B3 := B3.below hb9
  replace bel := bl_step bel hb9
  clear hb9
  refine wpList_nil ?_
  show Code.wp _ _ _ _ _
  refine wp_seq ?_
  refine wp_region_lit ?_
  refine st_value (v := (.pointer (some ⟨g1, 1, none⟩))) (by rfl) (run_fieldA (.tmp 1) rfl f_fld_24_1 rfl rfl w7) ?_
  simp only [nf0, nf1, nf2, nf3, nf4]
  refine st_value (v := (.slice A xs.length cap)) (by rfl) (run_loadB (.tmp 3) rfl f_one_22 rfl B3 rfl) ?_
  simp only [nf0, nf1, nf2, nf3, nf4]
  refine st_value (v := (.pointer (some ⟨g1, 1, none⟩))) (by rfl) (run_fieldA (.tmp 1) rfl f_fld_24_1 rfl rfl w7) ?_
  simp only [nf0, nf1, nf2, nf3, nf4]
  refine st_value (v := (.slice A xs.length cap)) (by rfl) (run_loadB (.tmp 5) rfl f_one_22 rfl B3 rfl) ?_
  simp only [nf0, nf1, nf2, nf3, nf4]
  refine st_value (v := (.int .i64 (xs.length : Int))) (by rfl) (run_len (.tmp 6) rfl ⟨_, Tryd.underlying22⟩ rfl w7) ?_
  simp only [nf0, nf1, nf2, nf3, nf4]
  refine st_value (v := (.int .i64 (min (xs.length : Int) 80))) (by rfl) (run_min2 (.tmp 7) (.const (.int .i64 80)) rfl rfl rfl w7) ?_
  simp only [nf0, nf1, nf2, nf3, nf4]
  have R12 := hr.takeE 80
  refine st_value (v := (.slice A (xs.take 80).length cap)) (by rfl) (run_cut_take (.tmp 4) (.tmp 8) rfl Tryd.underlying22 slIns.sz rfl 80 rfl rfl hcap w7) ?_
  simp only [nf0, nf1, nf2, nf3, nf4]
  refine st_value (v := (.pointer (some ⟨g1, 1, none⟩))) (by rfl) (run_fieldA (.tmp 1) rfl f_fld_24_1 rfl rfl w7) ?_
  simp only [nf0, nf1, nf2, nf3, nf4]
  refine st_cell (v := (.slice A (xs.take 80).length cap)) (by rfl) (run_storeB (.tmp 10) (.tmp 9) rfl f_one_22 B3 (show 1 < 2 by decide) rfl rfl rfl rfl) B3 ?_
  intro w13 B15 hg14
  simp only [nf0, nf1, nf2, nf3, nf4]
  replace B8 := B8.kept hg14 n11.symm
  replace bel := bl_kept0 bel hg14 lo5
  clear hg14
  clear B3
  replace B15 : Blk w13 g1 #[.int .i64 pr, .slice A (xs.take 80).length cap] 24 := B15
  refine wpList_nil ?_
  show Code.wp _ _ _ _ _
  refine wp_seq ?_
  refine wp_region_lit ?_
  refine st_value (v := (.agg #[.int .i64 pr, .slice A (xs.take 80).length cap])) (by rfl) (run_loadW (.tmp 1) rfl (cs := #[.int .i64 pr, .slice A (xs.take 80).length cap]) aggPrg rfl B15) ?_
  simp only [nf0, nf1, nf2, nf3, nf4]
  refine st_row (by rfl) (run_storeW (.tmp 2) (.tmp 11) rfl (cs := #[.int .i64 pr, .slice A (xs.take 80).length cap]) aggPrg rfl rfl B8 rfl (by simp [Value.oneCell'])) B8 ?_
  intro w16 B18 hg17
  simp only [nf0, nf1, nf2, nf3, nf4]
  replace B15 := B15.kept hg17 n11
  replace bel := bl_kept0 bel hg17 lo10
  clear hg17
  clear B8
  refine wpList_nil ?_
  show Code.wp _ _ _ _ _
  refine wp_ret ?_
  first | show bodyPost _ _ _ _ _ _ | (simp only [Exit.then, Exit.inBlock]; show bodyPost _ _ _ _ _ _)
  exact bodyPost_ret (results_agg1 rfl (cs := #[.int .i64 pr, .slice A (xs.take 80).length cap]) aggPrg (by rfl) B18) rfl ⟨rfl, bel⟩
end Go.Proofs.YtjbmahjfmffnoaaDoor

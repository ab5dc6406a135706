/- ring's New, First, Last; and what each answers where there is no row. -/
import Derived.Test.YtdhhcjhinpmeeaaRingPut
import Derived.Test.YtdhhcjhinpmeeaaRingTake
namespace Go.Proofs.Ytdhhcjhinpmeeaa
open Go.RowKit Go.WideShapes Go.ChangeShapes
set_option linter.unusedSimpArgs false
set_option linter.unusedVariables false

theorem eF1_run_call_21_2 {o : Oper} {a : Act} (x0 : Operand) (x1 : Operand) {ts : Array TypeId} (ho : o.op = .call { callee := .value (.func 21), args := #[x0, x1], argTypes := ts }) {v0 : Value} (h0 : a.eval x0 = v0) {v1 : Value} (h1 : a.eval x1 = v1) (W : World) : (execOp a.eval o).run Try.prog W = .ok (.enter 21 #[v0, v1]) W := by
  unfold execOp
  simp only [ho]
  subst h0 h1
  go_simp
theorem eF0_run_call_21_2 {o : Oper} {a : Act} (x0 : Operand) (x1 : Operand) {ts : Array TypeId} (ho : o.op = .call { callee := .value (.func 21), args := #[x0, x1], argTypes := ts }) {v0 : Value} (h0 : a.eval x0 = v0) {v1 : Value} (h1 : a.eval x1 = v1) (W : World) : (execOp a.eval o).run Try.prog W = .ok (.enter 21 #[v0, v1]) W := by
  unfold execOp
  simp only [ho]
  subst h0 h1
  go_simp
theorem eL1_run_call_8_1 {o : Oper} {a : Act} (x0 : Operand) {ts : Array TypeId} (ho : o.op = .call { callee := .value (.func 8), args := #[x0], argTypes := ts }) {v0 : Value} (h0 : a.eval x0 = v0) (W : World) : (execOp a.eval o).run Try.prog W = .ok (.enter 8 #[v0]) W := by
  unfold execOp
  simp only [ho]
  subst h0
  go_simp
theorem eL1_run_call_21_2 {o : Oper} {a : Act} (x0 : Operand) (x1 : Operand) {ts : Array TypeId} (ho : o.op = .call { callee := .value (.func 21), args := #[x0, x1], argTypes := ts }) {v0 : Value} (h0 : a.eval x0 = v0) {v1 : Value} (h1 : a.eval x1 = v1) (W : World) : (execOp a.eval o).run Try.prog W = .ok (.enter 21 #[v0, v1]) W := by
  unfold execOp
  simp only [ho]
  subst h0 h1
  go_simp
theorem eL0_run_call_8_1 {o : Oper} {a : Act} (x0 : Operand) {ts : Array TypeId} (ho : o.op = .call { callee := .value (.func 8), args := #[x0], argTypes := ts }) {v0 : Value} (h0 : a.eval x0 = v0) (W : World) : (execOp a.eval o).run Try.prog W = .ok (.enter 8 #[v0]) W := by
  unfold execOp
  simp only [ho]
  subst h0
  go_simp
theorem eL0_run_call_21_2 {o : Oper} {a : Act} (x0 : Operand) (x1 : Operand) {ts : Array TypeId} (ho : o.op = .call { callee := .value (.func 21), args := #[x0, x1], argTypes := ts }) {v0 : Value} (h0 : a.eval x0 = v0) {v1 : Value} (h1 : a.eval x1 = v1) (W : World) : (execOp a.eval o).run Try.prog W = .ok (.enter 21 #[v0, v1]) W := by
  unfold execOp
  simp only [ho]
  subst h0 h1
  go_simp
theorem nBack_run_call_22_1 {o : Oper} {a : Act} (x0 : Operand) {ts : Array TypeId} (ho : o.op = .call { callee := .value (.func 22), args := #[x0], argTypes := ts }) {v0 : Value} (h0 : a.eval x0 = v0) (W : World) : (execOp a.eval o).run Try.prog W = .ok (.enter 22 #[v0]) W := by
  unfold execOp
  simp only [ho]
  subst h0
  go_simp
theorem nFront_run_call_22_1 {o : Oper} {a : Act} (x0 : Operand) {ts : Array TypeId} (ho : o.op = .call { callee := .value (.func 22), args := #[x0], argTypes := ts }) {v0 : Value} (h0 : a.eval x0 = v0) (W : World) : (execOp a.eval o).run Try.prog W = .ok (.enter 22 #[v0]) W := by
  unfold execOp
  simp only [ho]
  subst h0
  go_simp
theorem nPut_run_call_8_1 {o : Oper} {a : Act} (x0 : Operand) {ts : Array TypeId} (ho : o.op = .call { callee := .value (.func 8), args := #[x0], argTypes := ts }) {v0 : Value} (h0 : a.eval x0 = v0) (W : World) : (execOp a.eval o).run Try.prog W = .ok (.enter 8 #[v0]) W := by
  unfold execOp
  simp only [ho]
  subst h0
  go_simp
theorem nPut_run_call_22_1 {o : Oper} {a : Act} (x0 : Operand) {ts : Array TypeId} (ho : o.op = .call { callee := .value (.func 22), args := #[x0], argTypes := ts }) {v0 : Value} (h0 : a.eval x0 = v0) (W : World) : (execOp a.eval o).run Try.prog W = .ok (.enter 22 #[v0]) W := by
  unfold execOp
  simp only [ho]
  subst h0
  go_simp
theorem nAt_run_call_8_1 {o : Oper} {a : Act} (x0 : Operand) {ts : Array TypeId} (ho : o.op = .call { callee := .value (.func 8), args := #[x0], argTypes := ts }) {v0 : Value} (h0 : a.eval x0 = v0) (W : World) : (execOp a.eval o).run Try.prog W = .ok (.enter 8 #[v0]) W := by
  unfold execOp
  simp only [ho]
  subst h0
  go_simp
theorem nTake_run_call_8_1 {o : Oper} {a : Act} (x0 : Operand) {ts : Array TypeId} (ho : o.op = .call { callee := .value (.func 8), args := #[x0], argTypes := ts }) {v0 : Value} (h0 : a.eval x0 = v0) (W : World) : (execOp a.eval o).run Try.prog W = .ok (.enter 8 #[v0]) W := by
  unfold execOp
  simp only [ho]
  subst h0
  go_simp
theorem nFirst_run_call_21_2 {o : Oper} {a : Act} (x0 : Operand) (x1 : Operand) {ts : Array TypeId} (ho : o.op = .call { callee := .value (.func 21), args := #[x0, x1], argTypes := ts }) {v0 : Value} (h0 : a.eval x0 = v0) {v1 : Value} (h1 : a.eval x1 = v1) (W : World) : (execOp a.eval o).run Try.prog W = .ok (.enter 21 #[v0, v1]) W := by
  unfold execOp
  simp only [ho]
  subst h0 h1
  go_simp
theorem nLast_run_call_8_1 {o : Oper} {a : Act} (x0 : Operand) {ts : Array TypeId} (ho : o.op = .call { callee := .value (.func 8), args := #[x0], argTypes := ts }) {v0 : Value} (h0 : a.eval x0 = v0) (W : World) : (execOp a.eval o).run Try.prog W = .ok (.enter 8 #[v0]) W := by
  unfold execOp
  simp only [ho]
  subst h0
  go_simp
theorem nLast_run_call_21_2 {o : Oper} {a : Act} (x0 : Operand) (x1 : Operand) {ts : Array TypeId} (ho : o.op = .call { callee := .value (.func 21), args := #[x0, x1], argTypes := ts }) {v0 : Value} (h0 : a.eval x0 = v0) {v1 : Value} (h1 : a.eval x1 = v1) (W : World) : (execOp a.eval o).run Try.prog W = .ok (.enter 21 #[v0, v1]) W := by
  unfold execOp
  simp only [ho]
  subst h0 h1
  go_simp

attribute [local irreducible] Go.wpList Go.Code.wp
set_option maxRecDepth 100000 in
set_option maxHeartbeats 4000000 in
theorem new_calls {X : Int} {N : Nat} (hN : max 0 (min X 4096) = (N : Int)) (w : World) : Calls Try.prog 7 #[.int .i64 X] w fun e w' => ∃ v, e = .returned v ∧ ∃ r b, v = .pointer (some ⟨r, 0, none⟩) ∧ Rg w' r b N [] ∧ w.heap.size ≤ r ∧ w.heap.size ≤ b ∧ Below w.heap.size w w' := by
  have bel : Below w.heap.size w w := Below.refl _ _
  go_enter Try.func7, Try.ntmps7
  refine wp_seq ?_
  refine wp_region_lit ?_
  refine st_mv (.pointer none) ?_
  simp only [nf0, nf1, nf2, nf3, nf4]
  refine wpList_nil ?_
  show Code.wp _ _ _ _ _
  refine wp_seq ?_
  refine wp_region_lit ?_
  refine st_mv (.int .i64 X) ?_
  simp only [nf0, nf1, nf2, nf3, nf4]
  refine st_value (v := (.int .i64 (min X 4096))) (by rfl) (run_min2 (.tmp 3) (.const (.int .i64 4096)) rfl rfl rfl w) ?_
  simp only [nf0, nf1, nf2, nf3, nf4]
  refine st_value (v := (.int .i64 (max 0 (min X 4096)))) (by rfl) (run_max2 (.const (.int .i64 0)) (.tmp 4) rfl rfl rfl w) ?_
  simp only [nf0, nf1, nf2, nf3, nf4]
  refine st_lit (n := N) (by rfl) (run_makeInts (.tmp 5) rfl Try.underlying22 (by kernel_rfl) (N := N) rfl (by omega) (by omega) _) ?_
  intro g1 w2 B3 hb4 lo5
  simp only [nf0, nf1, nf2, nf3, nf4]
  replace lo5 := low_le bel lo5
  replace bel := bl_step bel hb4
  clear hb4
  refine st_value (v := (.agg #[.slice (some ⟨g1, 0, none⟩) N N, .int .i64 0, .int .i64 0])) (by rfl) (run_buildV rfl (by kernel_rfl) w2) ?_
  simp only [nf0, nf1, nf2, nf3, nf4]
  refine st_new (cs := #[.slice (some ⟨g1, 0, none⟩) N N, .int .i64 0, .int .i64 0]) (t := 48) (by rfl) (run_boxV (.tmp 7) rfl (v := (.agg #[.slice (some ⟨g1, 0, none⟩) N N, .int .i64 0, .int .i64 0])) rfl rfl _) ?_
  intro g6 w7 B8 hb9 lo10
  simp only [nf0, nf1, nf2, nf3, nf4]
  have n11 := B3.ne lo10
  replace lo10 := low_le bel lo10
  replace B3 := B3.below hb9
  replace bel := bl_step bel hb9
  clear hb9
  refine st_mv (.pointer (some ⟨g6, 0, none⟩)) ?_
  simp only [nf0, nf1, nf2, nf3, nf4]
  refine wpList_nil ?_
  show Code.wp _ _ _ _ _
  refine wp_ret ?_
  first | show bodyPost _ _ _ _ _ _ | (simp only [Exit.then, Exit.inBlock]; show bodyPost _ _ _ _ _ _)
  exact bodyPost_ret (results_tmp rfl _ _ _) rfl ⟨_, rfl, g6, g1, rfl, Rg.mk' (at_ := 0) (cs := List.replicate N 0) B8 B3 rfl rfl n11.symm (by simp) (by omega) (fun h => h) (Nat.zero_le _) (fun j hj => absurd hj (Nat.not_lt_zero _)), lo10, lo5, bel⟩
theorem take_yes' {w : World} {r b N : Nat} {xs : List Int} (h : Rg w r b N xs) {p : Nat} (hp : p < xs.length) {X : Int} (hX : X = (p : Int)) : Calls Try.prog 21 #[.pointer (some ⟨r, 0, none⟩), .int .i64 X] w fun e w' => ∃ v, e = .returned v ∧ v = .tuple #[.int .i64 (nth xs p), .bool true] ∧ Rg w' r b N (wo xs p) ∧ Fr [r, b] w w' := by subst hX; exact take_yes h hp
theorem Rg.nerb {w : World} {r b N : Nat} {xs : List Int} (h : Rg w r b N xs) : r ≠ b := by obtain ⟨_, _, h, _⟩ := h; exact h.ne
set_option maxRecDepth 100000 in
set_option maxHeartbeats 4000000 in
theorem first_yes {w : World} {r b N : Nat} {xs : List Int} (h : Rg w r b N xs) (hl : 0 < xs.length) : Calls Try.prog 9 #[.pointer (some ⟨r, 0, none⟩)] w fun e w' => ∃ v, e = .returned v ∧ v = .tuple #[.int .i64 (nth xs 0), .bool true] ∧ Rg w' r b N (wo xs 0) ∧ Fr [r, b] w w' := by
  have bel : Fr [r, b] w w := Fr.refl _ _
  have hne := h.nerb
  have hle := h.le
  go_enter Try.func9, Try.ntmps9
  refine wp_seq ?_
  refine wp_region_lit ?_
  refine st_mv (.int .i64 0) ?_
  simp only [nf0, nf1, nf2, nf3, nf4]
  refine st_mv (.bool false) ?_
  simp only [nf0, nf1, nf2, nf3, nf4]
  refine wpList_nil ?_
  show Code.wp _ _ _ _ _
  refine wp_seq ?_
  refine wp_region_lit ?_
  refine st_mv (.pointer (some ⟨r, 0, none⟩)) ?_
  simp only [nf0, nf1, nf2, nf3, nf4]
  refine st_call (by rfl) (eF1_run_call_21_2 (.tmp 4) (.const (.int .i64 0)) rfl rfl rfl _) (take_yes' h (p := 0) (by omega) (by omega)) ?_
  rintro _ w2 ⟨rfl, R1, hf3⟩
  simp only [nf0, nf1, nf2, nf3, nf4]
  replace bel := fr_call bel hf3 (by simp)
  clear hf3
  clear h
  refine st_mv (.int .i64 (nth xs 0)) ?_
  simp only [nf0, nf1, nf2, nf3, nf4]
  refine st_mv (.bool true) ?_
  simp only [nf0, nf1, nf2, nf3, nf4]
  refine st_mv (.int .i64 (nth xs 0)) ?_
  simp only [nf0, nf1, nf2, nf3, nf4]
  refine st_mv (.bool true) ?_
  simp only [nf0, nf1, nf2, nf3, nf4]
  refine wpList_nil ?_
  show Code.wp _ _ _ _ _
  refine wp_ret ?_
  first | show bodyPost _ _ _ _ _ _ | (simp only [Exit.then, Exit.inBlock]; show bodyPost _ _ _ _ _ _)
  exact bodyPost_ret (results_tmp2 rfl _ _ _) rfl ⟨_, rfl, rfl, R1, bel⟩
set_option maxRecDepth 100000 in
set_option maxHeartbeats 4000000 in
theorem first_no {w : World} {r b N : Nat} {xs : List Int} (h : Rg w r b N xs) (hl : xs.length = 0) : Calls Try.prog 9 #[.pointer (some ⟨r, 0, none⟩)] w fun e w' => ∃ v, e = .returned v ∧ v = .tuple #[.int .i64 0, .bool false] ∧ Rg w' r b N xs ∧ Fr [r, b] w w' := by
  have bel : Fr [r, b] w w := Fr.refl _ _
  have hne := h.nerb
  have hle := h.le
  go_enter Try.func9, Try.ntmps9
  refine wp_seq ?_
  refine wp_region_lit ?_
  refine st_mv (.int .i64 0) ?_
  simp only [nf0, nf1, nf2, nf3, nf4]
  refine st_mv (.bool false) ?_
  simp only [nf0, nf1, nf2, nf3, nf4]
  refine wpList_nil ?_
  show Code.wp _ _ _ _ _
  refine wp_seq ?_
  refine wp_region_lit ?_
  refine st_mv (.pointer (some ⟨r, 0, none⟩)) ?_
  simp only [nf0, nf1, nf2, nf3, nf4]
  refine st_call (by rfl) (eF0_run_call_21_2 (.tmp 4) (.const (.int .i64 0)) rfl rfl rfl _) (take_no h (i := 0) (by omega)) ?_
  rintro _ w2 ⟨rfl, R1, hf3⟩
  simp only [nf0, nf1, nf2, nf3, nf4]
  replace bel := fr_call bel hf3 (by simp)
  clear hf3
  clear h
  refine st_mv (.int .i64 0) ?_
  simp only [nf0, nf1, nf2, nf3, nf4]
  refine st_mv (.bool false) ?_
  simp only [nf0, nf1, nf2, nf3, nf4]
  refine st_mv (.int .i64 0) ?_
  simp only [nf0, nf1, nf2, nf3, nf4]
  refine st_mv (.bool false) ?_
  simp only [nf0, nf1, nf2, nf3, nf4]
  refine wpList_nil ?_
  show Code.wp _ _ _ _ _
  refine wp_ret ?_
  first | show bodyPost _ _ _ _ _ _ | (simp only [Exit.then, Exit.inBlock]; show bodyPost _ _ _ _ _ _)
  exact bodyPost_ret (results_tmp2 rfl _ _ _) rfl ⟨_, rfl, rfl, R1, bel⟩
set_option maxRecDepth 100000 in
set_option maxHeartbeats 4000000 in
theorem last_yes {w : World} {r b N : Nat} {xs : List Int} (h : Rg w r b N xs) (hl : 0 < xs.length) : Calls Try.prog 15 #[.pointer (some ⟨r, 0, none⟩)] w fun e w' => ∃ v, e = .returned v ∧ v = .tuple #[.int .i64 (nth xs (xs.length - 1)), .bool true] ∧ Rg w' r b N (wo xs (xs.length - 1)) ∧ Fr [r, b] w w' := by
  have bel : Fr [r, b] w w := Fr.refl _ _
  have hne := h.nerb
  have hle := h.le
  go_enter Try.func15, Try.ntmps15
  refine wp_seq ?_
  refine wp_region_lit ?_
  refine st_mv (.int .i64 0) ?_
  simp only [nf0, nf1, nf2, nf3, nf4]
  refine st_mv (.bool false) ?_
  simp only [nf0, nf1, nf2, nf3, nf4]
  refine wpList_nil ?_
  show Code.wp _ _ _ _ _
  refine wp_seq ?_
  refine wp_region_lit ?_
  refine st_mv (.pointer (some ⟨r, 0, none⟩)) ?_
  simp only [nf0, nf1, nf2, nf3, nf4]
  refine st_mv (.pointer (some ⟨r, 0, none⟩)) ?_
  simp only [nf0, nf1, nf2, nf3, nf4]
  refine st_call1 (v := (.int .i64 ((xs.length : Nat) : Int))) (by rfl) (eL1_run_call_8_1 (.tmp 5) rfl rfl _) (len_rg h) ?_
  intro w1 hb2
  simp only [nf0, nf1, nf2, nf3, nf4]
  replace h := h.below hb2
  replace bel := fr_step bel hb2
  clear hb2
  refine st_value (v := (.int .i64 (((xs.length : Nat) : Int) - 1))) (by rfl) (run_sub_in (.tmp 6) (.const (.int .i64 1)) rfl rfl rfl (by omega) w1) ?_
  simp only [nf0, nf1, nf2, nf3, nf4]
  refine st_call (by rfl) (eL1_run_call_21_2 (.tmp 4) (.tmp 7) rfl rfl rfl _) (take_yes' h (p := (xs.length - 1)) (by omega) (by omega)) ?_
  rintro _ w4 ⟨rfl, R3, hf5⟩
  simp only [nf0, nf1, nf2, nf3, nf4]
  replace bel := fr_call bel hf5 (by simp)
  clear hf5
  clear h
  refine st_mv (.int .i64 (nth xs (xs.length - 1))) ?_
  simp only [nf0, nf1, nf2, nf3, nf4]
  refine st_mv (.bool true) ?_
  simp only [nf0, nf1, nf2, nf3, nf4]
  refine st_mv (.int .i64 (nth xs (xs.length - 1))) ?_
  simp only [nf0, nf1, nf2, nf3, nf4]
  refine st_mv (.bool true) ?_
  simp only [nf0, nf1, nf2, nf3, nf4]
  refine wpList_nil ?_
  show Code.wp _ _ _ _ _
  refine wp_ret ?_
  first | show bodyPost _ _ _ _ _ _ | (simp only [Exit.then, Exit.inBlock]; show bodyPost _ _ _ _ _ _)
  exact bodyPost_ret (results_tmp2 rfl _ _ _) rfl ⟨_, rfl, rfl, R3, bel⟩
set_option maxRecDepth 100000 in
set_option maxHeartbeats 4000000 in
theorem last_no {w : World} {r b N : Nat} {xs : List Int} (h : Rg w r b N xs) (hl : xs.length = 0) : Calls Try.prog 15 #[.pointer (some ⟨r, 0, none⟩)] w fun e w' => ∃ v, e = .returned v ∧ v = .tuple #[.int .i64 0, .bool false] ∧ Rg w' r b N xs ∧ Fr [r, b] w w' := by
  have bel : Fr [r, b] w w := Fr.refl _ _
  have hne := h.nerb
  have hle := h.le
  go_enter Try.func15, Try.ntmps15
  refine wp_seq ?_
  refine wp_region_lit ?_
  refine st_mv (.int .i64 0) ?_
  simp only [nf0, nf1, nf2, nf3, nf4]
  refine st_mv (.bool false) ?_
  simp only [nf0, nf1, nf2, nf3, nf4]
  refine wpList_nil ?_
  show Code.wp _ _ _ _ _
  refine wp_seq ?_
  refine wp_region_lit ?_
  refine st_mv (.pointer (some ⟨r, 0, none⟩)) ?_
  simp only [nf0, nf1, nf2, nf3, nf4]
  refine st_mv (.pointer (some ⟨r, 0, none⟩)) ?_
  simp only [nf0, nf1, nf2, nf3, nf4]
  refine st_call1 (v := (.int .i64 ((xs.length : Nat) : Int))) (by rfl) (eL0_run_call_8_1 (.tmp 5) rfl rfl _) (len_rg h) ?_
  intro w1 hb2
  simp only [nf0, nf1, nf2, nf3, nf4]
  replace h := h.below hb2
  replace bel := fr_step bel hb2
  clear hb2
  refine st_value (v := (.int .i64 (((xs.length : Nat) : Int) - 1))) (by rfl) (run_sub_in (.tmp 6) (.const (.int .i64 1)) rfl rfl rfl (by omega) w1) ?_
  simp only [nf0, nf1, nf2, nf3, nf4]
  refine st_call (by rfl) (eL0_run_call_21_2 (.tmp 4) (.tmp 7) rfl rfl rfl _) (take_no h (i := (((xs.length : Nat) : Int) - 1)) (by omega)) ?_
  rintro _ w4 ⟨rfl, R3, hf5⟩
  simp only [nf0, nf1, nf2, nf3, nf4]
  replace bel := fr_call bel hf5 (by simp)
  clear hf5
  clear h
  refine st_mv (.int .i64 0) ?_
  simp only [nf0, nf1, nf2, nf3, nf4]
  refine st_mv (.bool false) ?_
  simp only [nf0, nf1, nf2, nf3, nf4]
  refine st_mv (.int .i64 0) ?_
  simp only [nf0, nf1, nf2, nf3, nf4]
  refine st_mv (.bool false) ?_
  simp only [nf0, nf1, nf2, nf3, nf4]
  refine wpList_nil ?_
  show Code.wp _ _ _ _ _
  refine wp_ret ?_
  first | show bodyPost _ _ _ _ _ _ | (simp only [Exit.then, Exit.inBlock]; show bodyPost _ _ _ _ _ _)
  exact bodyPost_ret (results_tmp2 rfl _ _ _) rfl ⟨_, rfl, rfl, R3, bel⟩
set_option maxRecDepth 100000 in
set_option maxHeartbeats 4000000 in
theorem back_nil (x : Int) (w : World) : Calls Try.prog 10 #[.pointer none, .int .i64 x] w fun e w' => e = .returned (.bool false) ∧ Below w.heap.size w w' := by
  have bel : Below w.heap.size w w := Below.refl _ _
  go_enter Try.func10, Try.ntmps10
  refine wp_seq ?_
  refine wp_region_lit ?_
  refine st_mv (.bool false) ?_
  simp only [nf0, nf1, nf2, nf3, nf4]
  refine wpList_nil ?_
  show Code.wp _ _ _ _ _
  refine wp_seq ?_
  refine wp_seq ?_
  refine wp_region_lit ?_
  refine st_mv (.pointer none) ?_
  simp only [nf0, nf1, nf2, nf3, nf4]
  refine st_call1 (v := (.bool true)) (by rfl) (nBack_run_call_22_1 (.tmp 5) rfl rfl _) (full_nil w) ?_
  intro w1 hb2
  simp only [nf0, nf1, nf2, nf3, nf4]
  replace bel := bl_step bel hb2
  clear hb2
  refine wpList_nil ?_
  show Code.wp _ _ _ _ _
  refine wp_cond_true rfl ?_
  refine wp_seq ?_
  refine wp_region_lit ?_
  refine st_mv (.bool false) ?_
  simp only [nf0, nf1, nf2, nf3, nf4]
  refine wpList_nil ?_
  show Code.wp _ _ _ _ _
  refine wp_ret ?_
  first | show bodyPost _ _ _ _ _ _ | (simp only [Exit.then, Exit.inBlock]; show bodyPost _ _ _ _ _ _)
  exact bodyPost_ret (results_tmp rfl _ _ _) rfl ⟨rfl, bel⟩
set_option maxRecDepth 100000 in
set_option maxHeartbeats 4000000 in
theorem front_nil (x : Int) (w : World) : Calls Try.prog 13 #[.pointer none, .int .i64 x] w fun e w' => e = .returned (.bool false) ∧ Below w.heap.size w w' := by
  have bel : Below w.heap.size w w := Below.refl _ _
  go_enter Try.func13, Try.ntmps13
  refine wp_seq ?_
  refine wp_region_lit ?_
  refine st_mv (.bool false) ?_
  simp only [nf0, nf1, nf2, nf3, nf4]
  refine wpList_nil ?_
  show Code.wp _ _ _ _ _
  refine wp_seq ?_
  refine wp_seq ?_
  refine wp_region_lit ?_
  refine st_mv (.pointer none) ?_
  simp only [nf0, nf1, nf2, nf3, nf4]
  refine st_call1 (v := (.bool true)) (by rfl) (nFront_run_call_22_1 (.tmp 5) rfl rfl _) (full_nil w) ?_
  intro w1 hb2
  simp only [nf0, nf1, nf2, nf3, nf4]
  replace bel := bl_step bel hb2
  clear hb2
  refine wpList_nil ?_
  show Code.wp _ _ _ _ _
  refine wp_cond_true rfl ?_
  refine wp_seq ?_
  refine wp_region_lit ?_
  refine st_mv (.bool false) ?_
  simp only [nf0, nf1, nf2, nf3, nf4]
  refine wpList_nil ?_
  show Code.wp _ _ _ _ _
  refine wp_ret ?_
  first | show bodyPost _ _ _ _ _ _ | (simp only [Exit.then, Exit.inBlock]; show bodyPost _ _ _ _ _ _)
  exact bodyPost_ret (results_tmp rfl _ _ _) rfl ⟨rfl, bel⟩
set_option maxRecDepth 100000 in
set_option maxHeartbeats 4000000 in
theorem put_nil (i x : Int) (w : World) : Calls Try.prog 14 #[.pointer none, .int .i64 i, .int .i64 x] w fun e w' => e = .returned (.bool false) ∧ Below w.heap.size w w' := by
  have bel : Below w.heap.size w w := Below.refl _ _
  go_enter Try.func14, Try.ntmps14
  refine wp_seq ?_
  refine wp_region_lit ?_
  refine st_mv (.bool false) ?_
  simp only [nf0, nf1, nf2, nf3, nf4]
  refine wpList_nil ?_
  show Code.wp _ _ _ _ _
  refine wp_seq ?_
  refine wp_seq ?_
  cases hg1 : decide (i < 0)
  rotate_left
  · have hp14 := of_decide_eq_true hg1
    refine wp_region_lit ?_
    refine st_mv (.int .i64 i) ?_
    simp only [nf0, nf1, nf2, nf3, nf4]
    refine st_value (v := (.bool true)) (by rfl) ((run_lss (.tmp 9) (.const (.int .i64 0)) rfl rfl rfl w).trans (by rw [hg1])) ?_
    simp only [nf0, nf1, nf2, nf3, nf4]
    refine st_mv (.bool true) ?_
    simp only [nf0, nf1, nf2, nf3, nf4]
    refine st_nob (j := 2) (t := 11) (c := true) rfl rfl rfl rfl rfl ?_
    simp only [nf0, nf1, nf2, nf3, nf4]
    refine st_nob (j := 2) (t := 11) (c := true) rfl rfl rfl rfl rfl ?_
    simp only [nf0, nf1, nf2, nf3, nf4]
    refine st_nob (j := 2) (t := 11) (c := true) rfl rfl rfl rfl rfl ?_
    simp only [nf0, nf1, nf2, nf3, nf4]
    refine st_nob (j := 2) (t := 11) (c := true) rfl rfl rfl rfl rfl ?_
    simp only [nf0, nf1, nf2, nf3, nf4]
    refine st_mv (.bool true) ?_
    simp only [nf0, nf1, nf2, nf3, nf4]
    refine st_mv (.bool true) ?_
    simp only [nf0, nf1, nf2, nf3, nf4]
    refine st_nob (j := 8) (t := 17) (c := true) rfl rfl rfl rfl rfl ?_
    simp only [nf0, nf1, nf2, nf3, nf4]
    refine st_nob (j := 8) (t := 17) (c := true) rfl rfl rfl rfl rfl ?_
    simp only [nf0, nf1, nf2, nf3, nf4]
    refine st_mv (.bool true) ?_
    simp only [nf0, nf1, nf2, nf3, nf4]
    refine wpList_nil ?_
    show Code.wp _ _ _ _ _
    refine wp_cond_true rfl ?_
    refine wp_seq ?_
    refine wp_region_lit ?_
    refine st_mv (.bool false) ?_
    simp only [nf0, nf1, nf2, nf3, nf4]
    refine wpList_nil ?_
    show Code.wp _ _ _ _ _
    refine wp_ret ?_
    first | show bodyPost _ _ _ _ _ _ | (simp only [Exit.then, Exit.inBlock]; show bodyPost _ _ _ _ _ _)
    exact bodyPost_ret (results_tmp rfl _ _ _) rfl ⟨rfl, bel⟩
  have hp2 := of_decide_eq_false hg1
  cases hg5 : decide (0 < i)
  rotate_left
  · have hp11 := of_decide_eq_true hg5
    refine wp_region_lit ?_
    refine st_mv (.int .i64 i) ?_
    simp only [nf0, nf1, nf2, nf3, nf4]
    refine st_value (v := (.bool false)) (by rfl) ((run_lss (.tmp 9) (.const (.int .i64 0)) rfl rfl rfl w).trans (by rw [hg1])) ?_
    simp only [nf0, nf1, nf2, nf3, nf4]
    refine st_mv (.bool false) ?_
    simp only [nf0, nf1, nf2, nf3, nf4]
    refine st_mv (.int .i64 i) ?_
    simp only [nf0, nf1, nf2, nf3, nf4]
    refine st_mv (.pointer none) ?_
    simp only [nf0, nf1, nf2, nf3, nf4]
    refine st_call1 (v := (.int .i64 0)) (by rfl) (nPut_run_call_8_1 (.tmp 13) rfl rfl _) (len_nil w) ?_
    intro w12 hb13
    simp only [nf0, nf1, nf2, nf3, nf4]
    replace bel := bl_step bel hb13
    clear hb13
    refine st_value (v := (.bool true)) (by rfl) ((run_gtr (.tmp 12) (.tmp 14) rfl rfl rfl w12).trans (by rw [hg5])) ?_
    simp only [nf0, nf1, nf2, nf3, nf4]
    refine st_mv (.bool true) ?_
    simp only [nf0, nf1, nf2, nf3, nf4]
    refine st_mv (.bool true) ?_
    simp only [nf0, nf1, nf2, nf3, nf4]
    refine st_nob (j := 8) (t := 17) (c := true) rfl rfl rfl rfl rfl ?_
    simp only [nf0, nf1, nf2, nf3, nf4]
    refine st_nob (j := 8) (t := 17) (c := true) rfl rfl rfl rfl rfl ?_
    simp only [nf0, nf1, nf2, nf3, nf4]
    refine st_mv (.bool true) ?_
    simp only [nf0, nf1, nf2, nf3, nf4]
    refine wpList_nil ?_
    show Code.wp _ _ _ _ _
    refine wp_cond_true rfl ?_
    refine wp_seq ?_
    refine wp_region_lit ?_
    refine st_mv (.bool false) ?_
    simp only [nf0, nf1, nf2, nf3, nf4]
    refine wpList_nil ?_
    show Code.wp _ _ _ _ _
    refine wp_ret ?_
    first | show bodyPost _ _ _ _ _ _ | (simp only [Exit.then, Exit.inBlock]; show bodyPost _ _ _ _ _ _)
    exact bodyPost_ret (results_tmp rfl _ _ _) rfl ⟨rfl, bel⟩
  have hp6 := of_decide_eq_false hg5
  refine wp_region_lit ?_
  refine st_mv (.int .i64 i) ?_
  simp only [nf0, nf1, nf2, nf3, nf4]
  refine st_value (v := (.bool false)) (by rfl) ((run_lss (.tmp 9) (.const (.int .i64 0)) rfl rfl rfl w).trans (by rw [hg1])) ?_
  simp only [nf0, nf1, nf2, nf3, nf4]
  refine st_mv (.bool false) ?_
  simp only [nf0, nf1, nf2, nf3, nf4]
  refine st_mv (.int .i64 i) ?_
  simp only [nf0, nf1, nf2, nf3, nf4]
  refine st_mv (.pointer none) ?_
  simp only [nf0, nf1, nf2, nf3, nf4]
  refine st_call1 (v := (.int .i64 0)) (by rfl) (nPut_run_call_8_1 (.tmp 13) rfl rfl _) (len_nil w) ?_
  intro w7 hb8
  simp only [nf0, nf1, nf2, nf3, nf4]
  replace bel := bl_step bel hb8
  clear hb8
  refine st_value (v := (.bool false)) (by rfl) ((run_gtr (.tmp 12) (.tmp 14) rfl rfl rfl w7).trans (by rw [hg5])) ?_
  simp only [nf0, nf1, nf2, nf3, nf4]
  refine st_mv (.bool false) ?_
  simp only [nf0, nf1, nf2, nf3, nf4]
  refine st_mv (.bool false) ?_
  simp only [nf0, nf1, nf2, nf3, nf4]
  refine st_mv (.pointer none) ?_
  simp only [nf0, nf1, nf2, nf3, nf4]
  refine st_call1 (v := (.bool true)) (by rfl) (nPut_run_call_22_1 (.tmp 18) rfl rfl _) (full_nil w7) ?_
  intro w9 hb10
  simp only [nf0, nf1, nf2, nf3, nf4]
  replace bel := bl_step bel hb10
  clear hb10
  refine st_mv (.bool true) ?_
  simp only [nf0, nf1, nf2, nf3, nf4]
  refine wpList_nil ?_
  show Code.wp _ _ _ _ _
  refine wp_cond_true rfl ?_
  refine wp_seq ?_
  refine wp_region_lit ?_
  refine st_mv (.bool false) ?_
  simp only [nf0, nf1, nf2, nf3, nf4]
  refine wpList_nil ?_
  show Code.wp _ _ _ _ _
  refine wp_ret ?_
  first | show bodyPost _ _ _ _ _ _ | (simp only [Exit.then, Exit.inBlock]; show bodyPost _ _ _ _ _ _)
  exact bodyPost_ret (results_tmp rfl _ _ _) rfl ⟨rfl, bel⟩
set_option maxRecDepth 100000 in
set_option maxHeartbeats 4000000 in
theorem at_nil (i : Int) (w : World) : Calls Try.prog 20 #[.pointer none, .int .i64 i] w fun e w' => e = .returned (.tuple #[.int .i64 0, .bool false]) ∧ Below w.heap.size w w' := by
  have bel : Below w.heap.size w w := Below.refl _ _
  go_enter Try.func20, Try.ntmps20
  refine wp_seq ?_
  refine wp_region_lit ?_
  refine st_mv (.int .i64 0) ?_
  simp only [nf0, nf1, nf2, nf3, nf4]
  refine st_mv (.bool false) ?_
  simp only [nf0, nf1, nf2, nf3, nf4]
  refine wpList_nil ?_
  show Code.wp _ _ _ _ _
  refine wp_seq ?_
  refine wp_seq ?_
  cases hg1 : decide (i < 0)
  rotate_left
  · have hp8 := of_decide_eq_true hg1
    refine wp_region_lit ?_
    refine st_mv (.int .i64 i) ?_
    simp only [nf0, nf1, nf2, nf3, nf4]
    refine st_value (v := (.bool true)) (by rfl) ((run_lss (.tmp 6) (.const (.int .i64 0)) rfl rfl rfl w).trans (by rw [hg1])) ?_
    simp only [nf0, nf1, nf2, nf3, nf4]
    refine st_mv (.bool true) ?_
    simp only [nf0, nf1, nf2, nf3, nf4]
    refine st_nob (j := 2) (t := 8) (c := true) rfl rfl rfl rfl rfl ?_
    simp only [nf0, nf1, nf2, nf3, nf4]
    refine st_nob (j := 2) (t := 8) (c := true) rfl rfl rfl rfl rfl ?_
    simp only [nf0, nf1, nf2, nf3, nf4]
    refine st_nob (j := 2) (t := 8) (c := true) rfl rfl rfl rfl rfl ?_
    simp only [nf0, nf1, nf2, nf3, nf4]
    refine st_nob (j := 2) (t := 8) (c := true) rfl rfl rfl rfl rfl ?_
    simp only [nf0, nf1, nf2, nf3, nf4]
    refine st_mv (.bool true) ?_
    simp only [nf0, nf1, nf2, nf3, nf4]
    refine wpList_nil ?_
    show Code.wp _ _ _ _ _
    refine wp_cond_true rfl ?_
    refine wp_seq ?_
    refine wp_region_lit ?_
    refine st_mv (.int .i64 0) ?_
    simp only [nf0, nf1, nf2, nf3, nf4]
    refine st_mv (.int .i64 0) ?_
    simp only [nf0, nf1, nf2, nf3, nf4]
    refine st_mv (.bool false) ?_
    simp only [nf0, nf1, nf2, nf3, nf4]
    refine wpList_nil ?_
    show Code.wp _ _ _ _ _
    refine wp_ret ?_
    first | show bodyPost _ _ _ _ _ _ | (simp only [Exit.then, Exit.inBlock]; show bodyPost _ _ _ _ _ _)
    exact bodyPost_ret (results_tmp2 rfl _ _ _) rfl ⟨rfl, bel⟩
  have hp2 := of_decide_eq_false hg1
  refine wp_region_lit ?_
  refine st_mv (.int .i64 i) ?_
  simp only [nf0, nf1, nf2, nf3, nf4]
  refine st_value (v := (.bool false)) (by rfl) ((run_lss (.tmp 6) (.const (.int .i64 0)) rfl rfl rfl w).trans (by rw [hg1])) ?_
  simp only [nf0, nf1, nf2, nf3, nf4]
  refine st_mv (.bool false) ?_
  simp only [nf0, nf1, nf2, nf3, nf4]
  refine st_mv (.int .i64 i) ?_
  simp only [nf0, nf1, nf2, nf3, nf4]
  refine st_mv (.pointer none) ?_
  simp only [nf0, nf1, nf2, nf3, nf4]
  refine st_call1 (v := (.int .i64 0)) (by rfl) (nAt_run_call_8_1 (.tmp 10) rfl rfl _) (len_nil w) ?_
  intro w3 hb4
  simp only [nf0, nf1, nf2, nf3, nf4]
  replace bel := bl_step bel hb4
  clear hb4
  refine st_value (v := (.bool (decide (0 ≤ i)))) (by rfl) (run_geq (.tmp 9) (.tmp 11) rfl rfl rfl w3) ?_
  simp only [nf0, nf1, nf2, nf3, nf4]
  refine st_mv (.bool (decide (0 ≤ i))) ?_
  simp only [nf0, nf1, nf2, nf3, nf4]
  refine wpList_nil ?_
  show Code.wp _ _ _ _ _
  cases hg5 : decide (0 ≤ i)
  · have hp6 := of_decide_eq_false hg5
    exfalso
    omega
  have hp7 := of_decide_eq_true hg5
  refine wp_cond_true rfl ?_
  refine wp_seq ?_
  refine wp_region_lit ?_
  refine st_mv (.int .i64 0) ?_
  simp only [nf0, nf1, nf2, nf3, nf4]
  refine st_mv (.int .i64 0) ?_
  simp only [nf0, nf1, nf2, nf3, nf4]
  refine st_mv (.bool false) ?_
  simp only [nf0, nf1, nf2, nf3, nf4]
  refine wpList_nil ?_
  show Code.wp _ _ _ _ _
  refine wp_ret ?_
  first | show bodyPost _ _ _ _ _ _ | (simp only [Exit.then, Exit.inBlock]; show bodyPost _ _ _ _ _ _)
  exact bodyPost_ret (results_tmp2 rfl _ _ _) rfl ⟨rfl, bel⟩
set_option maxRecDepth 100000 in
set_option maxHeartbeats 4000000 in
theorem take_nil (i : Int) (w : World) : Calls Try.prog 21 #[.pointer none, .int .i64 i] w fun e w' => e = .returned (.tuple #[.int .i64 0, .bool false]) ∧ Below w.heap.size w w' := by
  have bel : Below w.heap.size w w := Below.refl _ _
  go_enter Try.func21, Try.ntmps21
  refine wp_seq ?_
  refine wp_region_lit ?_
  refine st_mv (.int .i64 0) ?_
  simp only [nf0, nf1, nf2, nf3, nf4]
  refine st_mv (.bool false) ?_
  simp only [nf0, nf1, nf2, nf3, nf4]
  refine wpList_nil ?_
  show Code.wp _ _ _ _ _
  refine wp_seq ?_
  refine wp_seq ?_
  cases hg1 : decide (i < 0)
  rotate_left
  · have hp8 := of_decide_eq_true hg1
    refine wp_region_lit ?_
    refine st_mv (.int .i64 i) ?_
    simp only [nf0, nf1, nf2, nf3, nf4]
    refine st_value (v := (.bool true)) (by rfl) ((run_lss (.tmp 9) (.const (.int .i64 0)) rfl rfl rfl w).trans (by rw [hg1])) ?_
    simp only [nf0, nf1, nf2, nf3, nf4]
    refine st_mv (.bool true) ?_
    simp only [nf0, nf1, nf2, nf3, nf4]
    refine st_nob (j := 2) (t := 11) (c := true) rfl rfl rfl rfl rfl ?_
    simp only [nf0, nf1, nf2, nf3, nf4]
    refine st_nob (j := 2) (t := 11) (c := true) rfl rfl rfl rfl rfl ?_
    simp only [nf0, nf1, nf2, nf3, nf4]
    refine st_nob (j := 2) (t := 11) (c := true) rfl rfl rfl rfl rfl ?_
    simp only [nf0, nf1, nf2, nf3, nf4]
    refine st_nob (j := 2) (t := 11) (c := true) rfl rfl rfl rfl rfl ?_
    simp only [nf0, nf1, nf2, nf3, nf4]
    refine st_mv (.bool true) ?_
    simp only [nf0, nf1, nf2, nf3, nf4]
    refine wpList_nil ?_
    show Code.wp _ _ _ _ _
    refine wp_cond_true rfl ?_
    refine wp_seq ?_
    refine wp_region_lit ?_
    refine st_mv (.int .i64 0) ?_
    simp only [nf0, nf1, nf2, nf3, nf4]
    refine st_mv (.int .i64 0) ?_
    simp only [nf0, nf1, nf2, nf3, nf4]
    refine st_mv (.bool false) ?_
    simp only [nf0, nf1, nf2, nf3, nf4]
    refine wpList_nil ?_
    show Code.wp _ _ _ _ _
    refine wp_ret ?_
    first | show bodyPost _ _ _ _ _ _ | (simp only [Exit.then, Exit.inBlock]; show bodyPost _ _ _ _ _ _)
    exact bodyPost_ret (results_tmp2 rfl _ _ _) rfl ⟨rfl, bel⟩
  have hp2 := of_decide_eq_false hg1
  refine wp_region_lit ?_
  refine st_mv (.int .i64 i) ?_
  simp only [nf0, nf1, nf2, nf3, nf4]
  refine st_value (v := (.bool false)) (by rfl) ((run_lss (.tmp 9) (.const (.int .i64 0)) rfl rfl rfl w).trans (by rw [hg1])) ?_
  simp only [nf0, nf1, nf2, nf3, nf4]
  refine st_mv (.bool false) ?_
  simp only [nf0, nf1, nf2, nf3, nf4]
  refine st_mv (.int .i64 i) ?_
  simp only [nf0, nf1, nf2, nf3, nf4]
  refine st_mv (.pointer none) ?_
  simp only [nf0, nf1, nf2, nf3, nf4]
  refine st_call1 (v := (.int .i64 0)) (by rfl) (nTake_run_call_8_1 (.tmp 13) rfl rfl _) (len_nil w) ?_
  intro w3 hb4
  simp only [nf0, nf1, nf2, nf3, nf4]
  replace bel := bl_step bel hb4
  clear hb4
  refine st_value (v := (.bool (decide (0 ≤ i)))) (by rfl) (run_geq (.tmp 12) (.tmp 14) rfl rfl rfl w3) ?_
  simp only [nf0, nf1, nf2, nf3, nf4]
  refine st_mv (.bool (decide (0 ≤ i))) ?_
  simp only [nf0, nf1, nf2, nf3, nf4]
  refine wpList_nil ?_
  show Code.wp _ _ _ _ _
  cases hg5 : decide (0 ≤ i)
  · have hp6 := of_decide_eq_false hg5
    exfalso
    omega
  have hp7 := of_decide_eq_true hg5
  refine wp_cond_true rfl ?_
  refine wp_seq ?_
  refine wp_region_lit ?_
  refine st_mv (.int .i64 0) ?_
  simp only [nf0, nf1, nf2, nf3, nf4]
  refine st_mv (.int .i64 0) ?_
  simp only [nf0, nf1, nf2, nf3, nf4]
  refine st_mv (.bool false) ?_
  simp only [nf0, nf1, nf2, nf3, nf4]
  refine wpList_nil ?_
  show Code.wp _ _ _ _ _
  refine wp_ret ?_
  first | show bodyPost _ _ _ _ _ _ | (simp only [Exit.then, Exit.inBlock]; show bodyPost _ _ _ _ _ _)
  exact bodyPost_ret (results_tmp2 rfl _ _ _) rfl ⟨rfl, bel⟩
set_option maxRecDepth 100000 in
set_option maxHeartbeats 4000000 in
theorem first_nil (w : World) : Calls Try.prog 9 #[.pointer none] w fun e w' => e = .returned (.tuple #[.int .i64 0, .bool false]) ∧ Below w.heap.size w w' := by
  have bel : Below w.heap.size w w := Below.refl _ _
  go_enter Try.func9, Try.ntmps9
  refine wp_seq ?_
  refine wp_region_lit ?_
  refine st_mv (.int .i64 0) ?_
  simp only [nf0, nf1, nf2, nf3, nf4]
  refine st_mv (.bool false) ?_
  simp only [nf0, nf1, nf2, nf3, nf4]
  refine wpList_nil ?_
  show Code.wp _ _ _ _ _
  refine wp_seq ?_
  refine wp_region_lit ?_
  refine st_mv (.pointer none) ?_
  simp only [nf0, nf1, nf2, nf3, nf4]
  refine st_call1 (v := (.tuple #[.int .i64 0, .bool false])) (by rfl) (nFirst_run_call_21_2 (.tmp 4) (.const (.int .i64 0)) rfl rfl rfl _) (take_nil 0 w) ?_
  intro w1 hb2
  simp only [nf0, nf1, nf2, nf3, nf4]
  replace bel := bl_step bel hb2
  clear hb2
  refine st_mv (.int .i64 0) ?_
  simp only [nf0, nf1, nf2, nf3, nf4]
  refine st_mv (.bool false) ?_
  simp only [nf0, nf1, nf2, nf3, nf4]
  refine st_mv (.int .i64 0) ?_
  simp only [nf0, nf1, nf2, nf3, nf4]
  refine st_mv (.bool false) ?_
  simp only [nf0, nf1, nf2, nf3, nf4]
  refine wpList_nil ?_
  show Code.wp _ _ _ _ _
  refine wp_ret ?_
  first | show bodyPost _ _ _ _ _ _ | (simp only [Exit.then, Exit.inBlock]; show bodyPost _ _ _ _ _ _)
  exact bodyPost_ret (results_tmp2 rfl _ _ _) rfl ⟨rfl, bel⟩
set_option maxRecDepth 100000 in
set_option maxHeartbeats 4000000 in
theorem last_nil (w : World) : Calls Try.prog 15 #[.pointer none] w fun e w' => e = .returned (.tuple #[.int .i64 0, .bool false]) ∧ Below w.heap.size w w' := by
  have bel : Below w.heap.size w w := Below.refl _ _
  go_enter Try.func15, Try.ntmps15
  refine wp_seq ?_
  refine wp_region_lit ?_
  refine st_mv (.int .i64 0) ?_
  simp only [nf0, nf1, nf2, nf3, nf4]
  refine st_mv (.bool false) ?_
  simp only [nf0, nf1, nf2, nf3, nf4]
  refine wpList_nil ?_
  show Code.wp _ _ _ _ _
  refine wp_seq ?_
  refine wp_region_lit ?_
  refine st_mv (.pointer none) ?_
  simp only [nf0, nf1, nf2, nf3, nf4]
  refine st_mv (.pointer none) ?_
  simp only [nf0, nf1, nf2, nf3, nf4]
  refine st_call1 (v := (.int .i64 0)) (by rfl) (nLast_run_call_8_1 (.tmp 5) rfl rfl _) (len_nil w) ?_
  intro w1 hb2
  simp only [nf0, nf1, nf2, nf3, nf4]
  replace bel := bl_step bel hb2
  clear hb2
  refine st_value (v := (.int .i64 (-1))) (by rfl) (run_sub_in (m := 0) (n := 1) (.tmp 6) (.const (.int .i64 1)) rfl rfl rfl (by omega) w1) ?_
  simp only [nf0, nf1, nf2, nf3, nf4]
  refine st_call1 (v := (.tuple #[.int .i64 0, .bool false])) (by rfl) (nLast_run_call_21_2 (.tmp 4) (.tmp 7) rfl rfl rfl _) (take_nil (-1) w1) ?_
  intro w3 hb4
  simp only [nf0, nf1, nf2, nf3, nf4]
  replace bel := bl_step bel hb4
  clear hb4
  refine st_mv (.int .i64 0) ?_
  simp only [nf0, nf1, nf2, nf3, nf4]
  refine st_mv (.bool false) ?_
  simp only [nf0, nf1, nf2, nf3, nf4]
  refine st_mv (.int .i64 0) ?_
  simp only [nf0, nf1, nf2, nf3, nf4]
  refine st_mv (.bool false) ?_
  simp only [nf0, nf1, nf2, nf3, nf4]
  refine wpList_nil ?_
  show Code.wp _ _ _ _ _
  refine wp_ret ?_
  first | show bodyPost _ _ _ _ _ _ | (simp only [Exit.then, Exit.inBlock]; show bodyPost _ _ _ _ _ _)
  exact bodyPost_ret (results_tmp2 rfl _ _ _) rfl ⟨rfl, bel⟩
end Go.Proofs.Ytdhhcjhinpmeeaa

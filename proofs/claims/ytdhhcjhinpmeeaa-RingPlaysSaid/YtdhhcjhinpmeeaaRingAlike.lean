/- Has the row just these, in a loop from any place on? -/
import Derived.Test.YtdhhcjhinpmeeaaRingFirst
import Derived.Test.YtdhhcjhinpmeeaaRingEach
namespace Go.Proofs.Ytdhhcjhinpmeeaa
open Go.RowKit Go.WideShapes Go.ChangeShapes
set_option linter.unusedSimpArgs false
set_option linter.unusedVariables false

theorem i0_zero_4 : ZeroOf Try.prog 4 #[.bool false] := zeroOf (z := .bool false) (by kernel_rfl) rfl
theorem i0_one_22 : One Try.prog 22 := one_of Try.underlying22 rfl (by kernel_rfl)
theorem i0_zero_3 : ZeroOf Try.prog 3 #[.int .i64 0] := zeroOf (z := .int .i64 0) (by kernel_rfl) rfl
theorem i0_one_3 : One Try.prog 3 := one_of Try.underlying3 rfl (by kernel_rfl)
theorem i0_one_4 : One Try.prog 4 := one_of Try.underlying4 rfl (by kernel_rfl)
theorem i0_run_call_8_1 {o : Oper} {a : Act} (x0 : Operand) {ts : Array TypeId} (ho : o.op = .call { callee := .value (.func 8), args := #[x0], argTypes := ts }) {v0 : Value} (h0 : a.eval x0 = v0) (W : World) : (execOp a.eval o).run Try.prog W = .ok (.enter 8 #[v0]) W := by
  unfold execOp
  simp only [ho]
  subst h0
  go_simp
theorem i0_run_call_11_2 {o : Oper} {a : Act} (x0 : Operand) (x1 : Operand) {ts : Array TypeId} (ho : o.op = .call { callee := .value (.func 11), args := #[x0, x1], argTypes := ts }) {v0 : Value} (h0 : a.eval x0 = v0) {v1 : Value} (h1 : a.eval x1 = v1) (W : World) : (execOp a.eval o).run Try.prog W = .ok (.enter 11 #[v0, v1]) W := by
  unfold execOp
  simp only [ho]
  subst h0 h1
  go_simp
theorem i0_run_call_26_2 {o : Oper} {a : Act} (x0 : Operand) (x1 : Operand) {ts : Array TypeId} (ho : o.op = .call { callee := .value (.func 26), args := #[x0, x1], argTypes := ts }) {v0 : Value} (h0 : a.eval x0 = v0) {v1 : Value} (h1 : a.eval x1 = v1) (W : World) : (execOp a.eval o).run Try.prog W = .ok (.enter 26 #[v0, v1]) W := by
  unfold execOp
  simp only [ho]
  subst h0 h1
  go_simp
theorem i1_zero_4 : ZeroOf Try.prog 4 #[.bool false] := zeroOf (z := .bool false) (by kernel_rfl) rfl
theorem i1_one_22 : One Try.prog 22 := one_of Try.underlying22 rfl (by kernel_rfl)
theorem i1_zero_3 : ZeroOf Try.prog 3 #[.int .i64 0] := zeroOf (z := .int .i64 0) (by kernel_rfl) rfl
theorem i1_one_3 : One Try.prog 3 := one_of Try.underlying3 rfl (by kernel_rfl)
theorem i1_one_4 : One Try.prog 4 := one_of Try.underlying4 rfl (by kernel_rfl)
theorem i1_run_call_8_1 {o : Oper} {a : Act} (x0 : Operand) {ts : Array TypeId} (ho : o.op = .call { callee := .value (.func 8), args := #[x0], argTypes := ts }) {v0 : Value} (h0 : a.eval x0 = v0) (W : World) : (execOp a.eval o).run Try.prog W = .ok (.enter 8 #[v0]) W := by
  unfold execOp
  simp only [ho]
  subst h0
  go_simp
theorem i1_run_call_11_2 {o : Oper} {a : Act} (x0 : Operand) (x1 : Operand) {ts : Array TypeId} (ho : o.op = .call { callee := .value (.func 11), args := #[x0, x1], argTypes := ts }) {v0 : Value} (h0 : a.eval x0 = v0) {v1 : Value} (h1 : a.eval x1 = v1) (W : World) : (execOp a.eval o).run Try.prog W = .ok (.enter 11 #[v0, v1]) W := by
  unfold execOp
  simp only [ho]
  subst h0 h1
  go_simp

attribute [local irreducible] Go.wpList Go.Code.wp
theorem Rg.own {W W' : World} {row : Option Nat} {r b N : Nat} {xs : List Int} (h : Rg W r b N xs) (hg : W.grownBy W' row) (hr : ∀ r, row = some r → ∃ o : Obj, W.heap[r]? = some o ∧ o.isCells = false) : Rg W' r b N xs := by
  obtain ⟨at_, cs, h, v⟩ := h
  exact ⟨at_, cs, { h with own := h.own.own hg hr, row := h.row.own hg hr }, v⟩
theorem got_len (from_ : Int) (xs : List Int) : (from_ < 0 ∧ (got from_ xs).length = 0) ∨ (0 ≤ from_ ∧ (got from_ xs).length = xs.length - from_.toNat) := by
  unfold got
  split
  · exact .inl ⟨by assumption, rfl⟩
  · exact .inr ⟨by omega, by rw [List.length_drop]⟩
theorem got_nth {from_ : Int} {f : Nat} (hf : from_ = (f : Int)) (xs : List Int) (k : Nat) : nth (got from_ xs) k = nth xs (f + k) := by subst hf; rw [got_pos, nth_drop]
set_option maxRecDepth 100000 in
set_option maxHeartbeats 4000000 in
theorem taken_yes (A : Option Addr) (l : List Int) (cap : Nat) (w : World) {p : Nat} {X : Int} (hX : X = (p : Int)) (hp : p < l.length) (hrd : Reads w A (l.map (Value.int .i64))) : Calls Try.prog 26 #[.slice A l.length cap, .int .i64 X] w fun e w' => e = .returned (.tuple #[.int .i64 (nth l p), .bool true]) ∧ Below w.heap.size w w' := by
  have bel : Below w.heap.size w w := Below.refl _ _
  go_enter Try.func26, Try.ntmps26
  refine wp_seq ?_
  refine wp_region_lit ?_
  refine st_mv (.int .i64 0) ?_
  simp only [nf0, nf1, nf2, nf3, nf4]
  refine st_mv (.bool false) ?_
  simp only [nf0, nf1, nf2, nf3, nf4]
  refine wpList_nil ?_
  show Code.wp _ _ _ _ _
  refine wp_seq ?_
  refine wp_seq ?_
  cases hg1 : decide (X < 0)
  rotate_left
  · have hp8 := of_decide_eq_true hg1
    exfalso
    omega
  have hp2 := of_decide_eq_false hg1
  refine wp_region_lit ?_
  refine st_mv (.int .i64 X) ?_
  simp only [nf0, nf1, nf2, nf3, nf4]
  refine st_value (v := (.bool false)) (by rfl) ((run_lss (.tmp 6) (.const (.int .i64 0)) rfl rfl rfl w).trans (by rw [hg1])) ?_
  simp only [nf0, nf1, nf2, nf3, nf4]
  refine st_mv (.bool false) ?_
  simp only [nf0, nf1, nf2, nf3, nf4]
  refine st_mv (.int .i64 X) ?_
  simp only [nf0, nf1, nf2, nf3, nf4]
  refine st_mv (.slice A l.length cap) ?_
  simp only [nf0, nf1, nf2, nf3, nf4]
  refine st_value (v := (.int .i64 (l.length : Int))) (by rfl) (run_len (.tmp 10) rfl ⟨_, Try.underlying22⟩ rfl w) ?_
  simp only [nf0, nf1, nf2, nf3, nf4]
  refine st_value (v := (.bool (decide ((l.length : Int) ≤ X)))) (by rfl) (run_geq (.tmp 9) (.tmp 11) rfl rfl rfl w) ?_
  simp only [nf0, nf1, nf2, nf3, nf4]
  refine st_mv (.bool (decide ((l.length : Int) ≤ X))) ?_
  simp only [nf0, nf1, nf2, nf3, nf4]
  refine wpList_nil ?_
  show Code.wp _ _ _ _ _
  cases hg3 : decide ((l.length : Int) ≤ X)
  rotate_left
  · have hp7 := of_decide_eq_true hg3
    exfalso
    omega
  have hp4 := of_decide_eq_false hg3
  refine wp_cond_false rfl ?_
  refine wp_skip ?_
  show Code.wp _ _ _ _ _
  refine wp_seq ?_
  obtain ⟨b5, o6, rfl, _⟩ := (hrd.same bel).at_ (by simp only [List.length_map]; omega)
  refine wp_region_lit ?_
  refine st_mv (.slice (some ⟨b5, o6, none⟩) l.length cap) ?_
  simp only [nf0, nf1, nf2, nf3, nf4]
  refine st_mv (.int .i64 X) ?_
  simp only [nf0, nf1, nf2, nf3, nf4]
  refine st_value (v := (.pointer (some ⟨b5, o6 + p * 1, none⟩))) (by rfl) (run_indexAddrN (.tmp 14) (.tmp 15) rfl Try.underlying22 slInt'.sz (i := p) rfl (by exact (congrArg (Value.int .i64) (show X = ((p : Nat) : Int) by omega))) (by omega) w) ?_
  simp only [nf0, nf1, nf2, nf3, nf4]
  refine st_value (v := (.int .i64 (nth l p))) (by rfl) (run_load1 (.tmp 16) rfl Try.underlying3 rfl slInt'.sz rfl (Reads.intAt (hrd.same bel) p (by omega))) ?_
  simp only [nf0, nf1, nf2, nf3, nf4]
  refine st_mv (.int .i64 (nth l p)) ?_
  simp only [nf0, nf1, nf2, nf3, nf4]
  refine st_mv (.bool true) ?_
  simp only [nf0, nf1, nf2, nf3, nf4]
  refine wpList_nil ?_
  show Code.wp _ _ _ _ _
  refine wp_ret ?_
  first | show bodyPost _ _ _ _ _ _ | (simp only [Exit.then, Exit.inBlock]; show bodyPost _ _ _ _ _ _)
  exact bodyPost_ret (results_tmp2 rfl _ _ _) rfl ⟨rfl, bel⟩
set_option maxRecDepth 100000 in
set_option maxHeartbeats 4000000 in
theorem taken_no {A : Option Addr} (l : List Int) (cap : Nat) {i : Int} (hi : i < 0 ∨ (l.length : Int) ≤ i) (w : World) : Calls Try.prog 26 #[.slice A l.length cap, .int .i64 i] w fun e w' => e = .returned (.tuple #[.int .i64 0, .bool false]) ∧ Below w.heap.size w w' := by
  have bel : Below w.heap.size w w := Below.refl _ _
  go_enter Try.func26, Try.ntmps26
  refine wp_seq ?_
  refine wp_region_lit ?_
  refine st_mv (.int .i64 0) ?_
  simp only [nf0, nf1, nf2, nf3, nf4]
  refine st_mv (.bool false) ?_
  simp only [nf0, nf1, nf2, nf3, nf4]
  refine wpList_nil ?_
  show Code.wp _ _ _ _ _
  refine wp_seq ?_
  refine wp_seq ?_
  cases hg1 : decide (i < 0)
  rotate_left
  · have hp6 := of_decide_eq_true hg1
    refine wp_region_lit ?_
    refine st_mv (.int .i64 i) ?_
    simp only [nf0, nf1, nf2, nf3, nf4]
    refine st_value (v := (.bool true)) (by rfl) ((run_lss (.tmp 6) (.const (.int .i64 0)) rfl rfl rfl w).trans (by rw [hg1])) ?_
    simp only [nf0, nf1, nf2, nf3, nf4]
    refine st_mv (.bool true) ?_
    simp only [nf0, nf1, nf2, nf3, nf4]
    refine st_nob (j := 2) (t := 8) (c := true) rfl rfl rfl rfl rfl ?_
    simp only [nf0, nf1, nf2, nf3, nf4]
    refine st_nob (j := 2) (t := 8) (c := true) rfl rfl rfl rfl rfl ?_
    simp only [nf0, nf1, nf2, nf3, nf4]
    refine st_nob (j := 2) (t := 8) (c := true) rfl rfl rfl rfl rfl ?_
    simp only [nf0, nf1, nf2, nf3, nf4]
    refine st_nob (j := 2) (t := 8) (c := true) rfl rfl rfl rfl rfl ?_
    simp only [nf0, nf1, nf2, nf3, nf4]
    refine st_mv (.bool true) ?_
    simp only [nf0, nf1, nf2, nf3, nf4]
    refine wpList_nil ?_
    show Code.wp _ _ _ _ _
    refine wp_cond_true rfl ?_
    refine wp_seq ?_
    refine wp_region_lit ?_
    refine st_mv (.int .i64 0) ?_
    simp only [nf0, nf1, nf2, nf3, nf4]
    refine st_mv (.bool false) ?_
    simp only [nf0, nf1, nf2, nf3, nf4]
    refine wpList_nil ?_
    show Code.wp _ _ _ _ _
    refine wp_ret ?_
    first | show bodyPost _ _ _ _ _ _ | (simp only [Exit.then, Exit.inBlock]; show bodyPost _ _ _ _ _ _)
    exact bodyPost_ret (results_tmp2 rfl _ _ _) rfl ⟨rfl, bel⟩
  have hp2 := of_decide_eq_false hg1
  refine wp_region_lit ?_
  refine st_mv (.int .i64 i) ?_
  simp only [nf0, nf1, nf2, nf3, nf4]
  refine st_value (v := (.bool false)) (by rfl) ((run_lss (.tmp 6) (.const (.int .i64 0)) rfl rfl rfl w).trans (by rw [hg1])) ?_
  simp only [nf0, nf1, nf2, nf3, nf4]
  refine st_mv (.bool false) ?_
  simp only [nf0, nf1, nf2, nf3, nf4]
  refine st_mv (.int .i64 i) ?_
  simp only [nf0, nf1, nf2, nf3, nf4]
  refine st_mv (.slice A l.length cap) ?_
  simp only [nf0, nf1, nf2, nf3, nf4]
  refine st_value (v := (.int .i64 (l.length : Int))) (by rfl) (run_len (.tmp 10) rfl ⟨_, Try.underlying22⟩ rfl w) ?_
  simp only [nf0, nf1, nf2, nf3, nf4]
  refine st_value (v := (.bool (decide ((l.length : Int) ≤ i)))) (by rfl) (run_geq (.tmp 9) (.tmp 11) rfl rfl rfl w) ?_
  simp only [nf0, nf1, nf2, nf3, nf4]
  refine st_mv (.bool (decide ((l.length : Int) ≤ i))) ?_
  simp only [nf0, nf1, nf2, nf3, nf4]
  refine wpList_nil ?_
  show Code.wp _ _ _ _ _
  cases hg3 : decide ((l.length : Int) ≤ i)
  · have hp4 := of_decide_eq_false hg3
    exfalso
    omega
  have hp5 := of_decide_eq_true hg3
  refine wp_cond_true rfl ?_
  refine wp_seq ?_
  refine wp_region_lit ?_
  refine st_mv (.int .i64 0) ?_
  simp only [nf0, nf1, nf2, nf3, nf4]
  refine st_mv (.bool false) ?_
  simp only [nf0, nf1, nf2, nf3, nf4]
  refine wpList_nil ?_
  show Code.wp _ _ _ _ _
  refine wp_ret ?_
  first | show bodyPost _ _ _ _ _ _ | (simp only [Exit.then, Exit.inBlock]; show bodyPost _ _ _ _ _ _)
  exact bodyPost_ret (results_tmp2 rfl _ _ _) rfl ⟨rfl, bel⟩
set_option maxRecDepth 100000 in
set_option maxHeartbeats 4000000 in
theorem alike_rg {w : World} {r b N : Nat} {xs : List Int} (h : Rg w r b N xs) {A : Option Addr} {cap : Nat} (hrd : Reads w A (xs.map (Value.int .i64))) {from_ : Int} : Calls Try.prog 19 #[.pointer (some ⟨r, 0, none⟩), .slice A xs.length cap, .int .i64 from_] w fun e w' => e = .returned (.bool true) ∧ Below w.heap.size w w' := by
  have bel : Below w.heap.size w w := Below.refl _ _
  have hr0 := hrd
  have hne := h.nerb
  have hle := h.le
  refine calls_marks Try.func19 rfl ?_
  simp only [Try.ntmps19, List.size_toArray, List.length_cons, List.length_nil, Nat.reduceAdd, Nat.reduceSub, Array.replicate_succ, Array.replicate_zero, List.push_toArray, List.append_toArray, List.nil_append, List.cons_append]
  refine wp_seq ?_
  refine wp_region_lit ?_
  refine st_new (cs := #[.slice A xs.length cap]) (t := 22) (by rfl) (run_boxV (.tmp 1) rfl (v := (.slice A xs.length cap)) rfl rfl _) ?_
  intro g1 w2 B3 hb4 lo5
  simp only [nf0, nf1, nf2, nf3, nf4]
  have n6 : r ≠ g1 := Nat.ne_of_lt (Nat.lt_of_lt_of_le h.ltr lo5)
  have n7 : b ≠ g1 := Nat.ne_of_lt (Nat.lt_of_lt_of_le h.ltb lo5)
  replace lo5 := low_le bel lo5
  replace h := h.below hb4
  replace hrd := hrd.same hb4
  replace bel := bl_step bel hb4
  clear hb4
  refine st_new (cs := #[.bool false]) (t := 4) (by rfl) (run_allocV rfl i0_zero_4 _) ?_
  intro g8 w9 B10 hb11 lo12
  simp only [nf0, nf1, nf2, nf3, nf4]
  have n13 : r ≠ g8 := Nat.ne_of_lt (Nat.lt_of_lt_of_le h.ltr lo12)
  have n14 : b ≠ g8 := Nat.ne_of_lt (Nat.lt_of_lt_of_le h.ltb lo12)
  have n15 := B3.ne lo12
  replace lo12 := low_le bel lo12
  replace h := h.below hb11
  replace hrd := hrd.same hb11
  replace B3 := B3.below hb11
  replace bel := bl_step bel hb11
  clear hb11
  refine wpList_nil ?_
  show Code.wp _ _ _ _ _
  refine wp_seq ?_
  refine wp_region_lit ?_
  refine st_mv (.pointer (some ⟨r, 0, none⟩)) ?_
  simp only [nf0, nf1, nf2, nf3, nf4]
  refine st_mv (.int .i64 from_) ?_
  simp only [nf0, nf1, nf2, nf3, nf4]
  refine st_call (by rfl) (i0_run_call_11_2 (.tmp 15) (.tmp 16) rfl rfl rfl _) (each_calls (some ⟨r, 0, none⟩) from_ w9) ?_
  rintro _ w23 ⟨B1_16, B2_17, rfl, F18, F19, lo20, lo21, n22, hf24⟩
  simp only [nf0, nf1, nf2, nf3, nf4]
  have n25 : r ≠ B1_16 := Nat.ne_of_lt (Nat.lt_of_lt_of_le h.ltr lo20)
  have n26 : b ≠ B1_16 := Nat.ne_of_lt (Nat.lt_of_lt_of_le h.ltb lo20)
  have n27 := B3.ne lo20
  have n28 := B10.ne lo20
  have n29 : r ≠ B2_17 := Nat.ne_of_lt (Nat.lt_of_lt_of_le h.ltr lo21)
  have n30 : b ≠ B2_17 := Nat.ne_of_lt (Nat.lt_of_lt_of_le h.ltb lo21)
  have n31 := B3.ne lo21
  have n32 := B10.ne lo21
  replace lo20 := low_le bel lo20
  replace lo21 := low_le bel lo21
  replace h := h.below hf24
  replace hrd := hrd.same hf24
  replace B3 := B3.below hf24
  replace B10 := B10.below hf24
  replace bel := bl_step bel hf24
  clear hf24
  refine st_mv (.func (.func 24) #[] #[.pointer (some ⟨B1_16, 0, none⟩), .pointer (some ⟨B2_17, 0, none⟩)]) ?_
  simp only [nf0, nf1, nf2, nf3, nf4]
  refine wpList_nil ?_
  show Code.wp _ _ _ _ _
  refine wp_seq ?_
  refine wp_seq ?_
  refine wp_region_facts_lit (C := Abv w23) (G := G0) [.val (.func (.func 24) #[] #[.pointer (some ⟨B1_16, 0, none⟩), .pointer (some ⟨B2_17, 0, none⟩)]), .val (.bool false), .val (.bool false), .val (.pointer (some ⟨r, 0, none⟩)), .val (.int .i64 ((xs.length : Nat) : Int)), .val (.slice A xs.length cap), .val (.int .i64 (xs.length : Int)), .val (.bool false), .val (.bool false)] (by kernel_rfl) (by kernel_rfl) (Abv.start _) ?_
  refine fsteps_val (fun W hC _ => opok_value (v := (.func (.func 24) #[] #[.pointer (some ⟨B1_16, 0, none⟩), .pointer (some ⟨B2_17, 0, none⟩)])) (by rfl) (by rfl) rfl hC (G0.refl _)) ?_
  simp only [nf0, nf1, nf2, nf3, nf4]
  refine fsteps_val (fun W hC _ => opok_value (v := (.bool false)) (by rfl) (run_eqnilF (.tmp 18) (.const .nilFunc) rfl Try.underlying30 rfl rfl W) rfl hC (G0.refl _)) ?_
  simp only [nf0, nf1, nf2, nf3, nf4]
  refine fsteps_val (fun W hC _ => opok_value (v := (.bool false)) (by rfl) (by rfl) rfl hC (G0.refl _)) ?_
  simp only [nf0, nf1, nf2, nf3, nf4]
  refine fsteps_val (fun W hC _ => opok_value (v := (.pointer (some ⟨r, 0, none⟩))) (by rfl) (by rfl) rfl hC (G0.refl _)) ?_
  simp only [nf0, nf1, nf2, nf3, nf4]
  refine fsteps_val (fun W hC _ => opok_call (by rfl) (i0_run_call_8_1 (.tmp 21) rfl rfl W) ((len_rg (h.below hC)).mono fun e W' ⟨h1, h2⟩ => ⟨_, h1, rfl, hC.step h2, h2⟩)) ?_
  simp only [nf0, nf1, nf2, nf3, nf4]
  refine fsteps_val (fun W hC _ => opok_value (v := (.slice A xs.length cap)) (by rfl) (run_loadB (.tmp 4) rfl i0_one_22 rfl (B3.below hC) rfl) rfl hC (G0.refl _)) ?_
  simp only [nf0, nf1, nf2, nf3, nf4]
  refine fsteps_val (fun W hC _ => opok_value (v := (.int .i64 (xs.length : Int))) (by rfl) (run_len (.tmp 23) rfl ⟨_, Try.underlying22⟩ rfl W) rfl hC (G0.refl _)) ?_
  simp only [nf0, nf1, nf2, nf3, nf4]
  refine fsteps_val (fun W hC _ => opok_value (v := (.bool false)) (by rfl) (run_neq_int_t (.tmp 22) (.tmp 24) rfl rfl rfl rfl W) rfl hC (G0.refl _)) ?_
  simp only [nf0, nf1, nf2, nf3, nf4]
  refine fsteps_val (fun W hC _ => opok_value (v := (.bool false)) (by rfl) (by rfl) rfl hC (G0.refl _)) ?_
  simp only [nf0, nf1, nf2, nf3, nf4]
  refine fsteps_nil fun w33 hC _ => ?_
  replace hC : Below w23.heap.size w23 w33 := hC
  replace h := h.below hC
  replace hrd := hrd.same hC
  replace B3 := B3.below hC
  replace B10 := B10.below hC
  replace F18 := F18.below hC
  replace F19 := F19.below hC
  replace bel := bl_step bel hC
  clear hC
  show Code.wp _ _ _ _ _
  refine wp_cond_false rfl ?_
  refine wp_skip ?_
  show Code.wp _ _ _ _ _
  refine wp_seq ?_
  refine wp_region_lit ?_
  refine st_mv (.int .i64 from_) ?_
  simp only [nf0, nf1, nf2, nf3, nf4]
  refine st_new (cs := #[.int .i64 0]) (t := 3) (by rfl) (run_allocV rfl i0_zero_3 _) ?_
  intro g34 w35 B36 hb37 lo38
  simp only [nf0, nf1, nf2, nf3, nf4]
  have n39 : r ≠ g34 := Nat.ne_of_lt (Nat.lt_of_lt_of_le h.ltr lo38)
  have n40 : b ≠ g34 := Nat.ne_of_lt (Nat.lt_of_lt_of_le h.ltb lo38)
  have n41 := B3.ne lo38
  have n42 := B10.ne lo38
  have n43 := F18.ne lo38
  have n44 := F19.ne lo38
  replace lo38 := low_le bel lo38
  replace h := h.below hb37
  replace hrd := hrd.same hb37
  replace B3 := B3.below hb37
  replace B10 := B10.below hb37
  replace F18 := F18.below hb37
  replace F19 := F19.below hb37
  replace bel := bl_step bel hb37
  clear hb37
  refine st_cell (v := (.int .i64 from_)) (by rfl) (run_storeB (.tmp 8) (.tmp 27) rfl i0_one_3 B36 (show 0 < 1 by decide) rfl rfl rfl rfl) B36 ?_
  intro w45 B47 hg46
  simp only [nf0, nf1, nf2, nf3, nf4]
  replace h := h.kept hg46 n39 n40
  replace B3 := B3.kept hg46 n41
  replace B10 := B10.kept hg46 n42
  replace F18 := F18.kept hg46 n43
  replace F19 := F19.kept hg46 n44
  replace bel := bl_kept0 bel hg46 lo38
  replace hrd := hr0.same bel
  clear hg46
  clear B36
  replace B47 : Blk w45 g34 #[.int .i64 from_] 3 := B47
  refine wpList_nil ?_
  show Code.wp _ _ _ _ _
  refine wp_seq ?_
  refine wp_region_lit ?_
  refine st_new (cs := #[.int .i64 0]) (t := 3) (by rfl) (run_allocV rfl i0_zero_3 _) ?_
  intro g48 w49 B50 hb51 lo52
  simp only [nf0, nf1, nf2, nf3, nf4]
  have n53 : r ≠ g48 := Nat.ne_of_lt (Nat.lt_of_lt_of_le h.ltr lo52)
  have n54 : b ≠ g48 := Nat.ne_of_lt (Nat.lt_of_lt_of_le h.ltb lo52)
  have n55 := B3.ne lo52
  have n56 := B10.ne lo52
  have n57 := F18.ne lo52
  have n58 := F19.ne lo52
  have n59 := B47.ne lo52
  replace lo52 := low_le bel lo52
  replace h := h.below hb51
  replace hrd := hrd.same hb51
  replace B3 := B3.below hb51
  replace B10 := B10.below hb51
  replace F18 := F18.below hb51
  replace F19 := F19.below hb51
  replace B47 := B47.below hb51
  replace bel := bl_step bel hb51
  clear hb51
  refine st_cell (v := (.int .i64 0)) (by rfl) (run_storeB (.tmp 9) (.const (.int .i64 0)) rfl i0_one_3 B50 (show 0 < 1 by decide) rfl rfl rfl rfl) B50 ?_
  intro w60 B62 hg61
  simp only [nf0, nf1, nf2, nf3, nf4]
  replace h := h.kept hg61 n53 n54
  replace B3 := B3.kept hg61 n55
  replace B10 := B10.kept hg61 n56
  replace F18 := F18.kept hg61 n57
  replace F19 := F19.kept hg61 n58
  replace B47 := B47.kept hg61 n59
  replace bel := bl_kept0 bel hg61 lo52
  replace hrd := hr0.same bel
  clear hg61
  clear B50
  replace B62 : Blk w60 g48 #[.int .i64 0] 3 := B62
  refine wpList_nil ?_
  show Code.wp _ _ _ _ _
  refine wp_seq ?_
  refine wp_seq ?_
  refine wp_region_lit ?_
  refine st_mv (.func (.func 24) #[] #[.pointer (some ⟨B1_16, 0, none⟩), .pointer (some ⟨B2_17, 0, none⟩)]) ?_
  simp only [nf0, nf1, nf2, nf3, nf4]
  refine wpList_nil ?_
  show Code.wp _ _ _ _ _
  refine wp_block ?_
  have hsz63 := bel.size
  refine wp_range (m := (got from_ xs).length) (ev := fun k_ => #[.int .i64 (from_ + (k_ : Int)), .int .i64 (nth (got from_ xs) k_)]) (S := [g34, g48]) rfl rfl (enters_of Try.func24 (by kernel_rfl) rfl) (lt2 B47.lt B62.lt) (each_stops h F18 F19 (lt2 B47.lt B62.lt) (ni2 n43 n57)) (fun _ => rfl) (fun k_ W_ => Rg W_ r b N xs ∧ Reads W_ A (xs.map (Value.int .i64)) ∧ Blk W_ g1 #[.slice A xs.length cap] 22 ∧ Blk W_ g8 #[.bool false] 4 ∧ Blk W_ B1_16 #[.int .i64 from_] 3 ∧ Blk W_ B2_17 #[.pointer (some ⟨r, 0, none⟩)] 23 ∧ Blk W_ g34 #[.int .i64 (from_ + (k_ : Int))] 3 ∧ Blk W_ g48 #[.int .i64 (k_ : Int)] 3 ∧ Below w.heap.size w W_) (fun _ _ => False) ?_ ?_ ⟨h, hrd, B3, B10, F18, F19, (by simpa using B47), (by simpa using B62), bel⟩ (fun k_ => ⟨#[.pointer (some ⟨r, 0, none⟩), .slice A xs.length cap, .int .i64 from_, undef, .pointer (some ⟨g1, 0, none⟩), undef, .pointer (some ⟨g8, 0, none⟩), .func (.func 24) #[] #[.pointer (some ⟨B1_16, 0, none⟩), .pointer (some ⟨B2_17, 0, none⟩)], .pointer (some ⟨g34, 0, none⟩), .pointer (some ⟨g48, 0, none⟩), .int .i64 (from_ + (k_ : Int)), .int .i64 (nth (got from_ xs) k_), undef, undef, undef, .pointer (some ⟨r, 0, none⟩), .int .i64 from_, .func (.func 24) #[] #[.pointer (some ⟨B1_16, 0, none⟩), .pointer (some ⟨B2_17, 0, none⟩)], .func (.func 24) #[] #[.pointer (some ⟨B1_16, 0, none⟩), .pointer (some ⟨B2_17, 0, none⟩)], .bool false, .bool false, .pointer (some ⟨r, 0, none⟩), .int .i64 ((xs.length : Nat) : Int), .slice A xs.length cap, .int .i64 (xs.length : Int), .bool false, .bool false, .int .i64 from_, .func (.func 24) #[] #[.pointer (some ⟨B1_16, 0, none⟩), .pointer (some ⟨B2_17, 0, none⟩)], .int .i64 (from_ + (k_ : Int)), .int .i64 (nth (got from_ xs) k_), undef, undef, undef, undef, undef, undef, undef, undef, undef, undef, undef, undef, undef, undef, undef, undef, undef, undef, undef, undef, undef, undef, undef, undef, undef, undef, undef, undef, undef, undef, undef, undef, undef, undef, undef, undef, undef], []⟩) ?_ ?_ ?_ ?_
  · rintro k_ A_ B_ r_ ⟨h, hrd, B3, B10, F18, F19, B47, B62, bel⟩ hg_ hr_
    exact ⟨h.own hg_ (fun r e => (hr_ r e).2), hrd.own hg_ (fun r e => (hr_ r e).2), B3.own hg_ (fun r e => (hr_ r e).2), B10.own hg_ (fun r e => (hr_ r e).2), F18.own hg_ (fun r e => (hr_ r e).2), F19.own hg_ (fun r e => (hr_ r e).2), B47.own hg_ (fun r e => (hr_ r e).2), B62.own hg_ (fun r e => (hr_ r e).2), bl_own bel hsz63 hg_ (fun r e => (hr_ r e).1)⟩
  · exact fun _ _ _ _ h _ _ => h.elim
  · intro l_ k_ W_ K_ hK_
    simp only [List.zip_toArray, List.zip_cons_cons, List.zip_nil_right, List.foldl_toArray, List.foldl_cons, List.foldl_nil, nf1, nf2, nf3]
    refine wpIn_seq ?_
    refine wpIn_region_lit ?_
    refine si_mv (.int .i64 (from_ + (k_ : Int))) ?_
    simp only [nf0, nf1, nf2, nf3, nf4]
    refine wpListIn_nil ?_
    show Code.wpIn _ _ _ _ _ _ _
    refine wpIn_region_lit ?_
    refine si_mv (.int .i64 (nth (got from_ xs) k_)) ?_
    simp only [nf0, nf1, nf2, nf3, nf4]
    refine wpListIn_nil ?_
    exact hK_
  · rintro l_ k_ W_ ⟨h, hrd, B3, B10, F18, F19, B47, B62, belg⟩ hlt_
    have bel : Fr [g34, g48] W_ W_ := Fr.refl _ _
    have hgl := got_len from_ xs
    obtain ⟨f_, hf_⟩ : ∃ f : Nat, from_ = (f : Int) := ⟨from_.toNat, by omega⟩
    have hgn := got_nth hf_ xs k_
    have hrdW_ := hrd
    refine wpIn_block ?_
    refine wpIn_seq ?_
    refine wpIn_region_lit ?_
    refine si_value (v := (.slice A xs.length cap)) (by rfl) (run_loadB (.tmp 4) rfl i0_one_22 rfl B3 rfl) ?_
    simp only [nf0, nf1, nf2, nf3, nf4]
    refine si_mv (.int .i64 (from_ + (k_ : Int))) ?_
    simp only [nf0, nf1, nf2, nf3, nf4]
    refine si_call1 (v := (.tuple #[.int .i64 (nth xs (f_ + k_)), .bool true])) (by rfl) (i0_run_call_26_2 (.tmp 32) (.tmp 33) rfl rfl rfl _) (taken_yes A xs cap W_ (p := (f_ + k_)) (by omega) (by omega) (hrd)) ?_
    intro w64 hb65
    simp only [nf0, nf1, nf2, nf3, nf4]
    replace h := h.below hb65
    replace hrd := hrd.same hb65
    replace B3 := B3.below hb65
    replace B10 := B10.below hb65
    replace F18 := F18.below hb65
    replace F19 := F19.below hb65
    replace B47 := B47.below hb65
    replace B62 := B62.below hb65
    replace bel := fr_step bel hb65
    clear hb65
    refine si_mv (.tuple #[.int .i64 (nth xs (f_ + k_)), .bool true]) ?_
    simp only [nf0, nf1, nf2, nf3, nf4]
    refine si_mv (.int .i64 (nth xs (f_ + k_))) ?_
    simp only [nf0, nf1, nf2, nf3, nf4]
    refine si_mv (.bool true) ?_
    simp only [nf0, nf1, nf2, nf3, nf4]
    refine si_mv (.int .i64 (nth xs (f_ + k_))) ?_
    simp only [nf0, nf1, nf2, nf3, nf4]
    refine si_mv (.bool true) ?_
    simp only [nf0, nf1, nf2, nf3, nf4]
    refine wpListIn_nil ?_
    show Code.wpIn _ _ _ _ _ _ _
    refine wpIn_seq ?_
    refine wpIn_seq ?_
    refine wpIn_region_lit ?_
    refine si_mv (.int .i64 (from_ + (k_ : Int))) ?_
    simp only [nf0, nf1, nf2, nf3, nf4]
    refine si_value (v := (.int .i64 (from_ + (k_ : Int)))) (by rfl) (run_loadB (.tmp 8) rfl i0_one_3 rfl B47 rfl) ?_
    simp only [nf0, nf1, nf2, nf3, nf4]
    refine si_value (v := (.bool false)) (by rfl) (run_neq_int_t (.tmp 37) (.tmp 38) rfl rfl rfl rfl w64) ?_
    simp only [nf0, nf1, nf2, nf3, nf4]
    refine si_mv (.bool false) ?_
    simp only [nf0, nf1, nf2, nf3, nf4]
    refine si_mv (.bool true) ?_
    simp only [nf0, nf1, nf2, nf3, nf4]
    refine si_value (v := (.bool false)) (by rfl) (run_not (.tmp 41) rfl (b := true) rfl w64) ?_
    simp only [nf0, nf1, nf2, nf3, nf4]
    refine si_mv (.bool false) ?_
    simp only [nf0, nf1, nf2, nf3, nf4]
    refine si_mv (.bool false) ?_
    simp only [nf0, nf1, nf2, nf3, nf4]
    refine si_mv (.int .i64 (nth (got from_ xs) k_)) ?_
    simp only [nf0, nf1, nf2, nf3, nf4]
    refine si_mv (.int .i64 (nth xs (f_ + k_))) ?_
    simp only [nf0, nf1, nf2, nf3, nf4]
    refine si_value (v := (.bool false)) (by rfl) (run_neq_int_t (.tmp 45) (.tmp 46) rfl rfl rfl hgn w64) ?_
    simp only [nf0, nf1, nf2, nf3, nf4]
    refine si_mv (.bool false) ?_
    simp only [nf0, nf1, nf2, nf3, nf4]
    refine wpListIn_nil ?_
    show Code.wpIn _ _ _ _ _ _ _
    refine wpIn_cond_false rfl ?_
    refine wpIn_skip ?_
    show Code.wpIn _ _ _ _ _ _ _
    refine wpIn_seq ?_
    refine wpIn_region_lit ?_
    refine si_value (v := (.int .i64 (from_ + (k_ : Int)))) (by rfl) (run_loadB (.tmp 8) rfl i0_one_3 rfl B47 rfl) ?_
    simp only [nf0, nf1, nf2, nf3, nf4]
    refine si_value (v := (.int .i64 ((from_ + (k_ : Int)) + 1))) (by rfl) (run_add_in (.tmp 49) (.const (.int .i64 1)) rfl rfl rfl (by omega) w64) ?_
    simp only [nf0, nf1, nf2, nf3, nf4]
    refine si_cell (v := (.int .i64 ((from_ + (k_ : Int)) + 1))) (by rfl) (run_storeB (.tmp 8) (.tmp 50) rfl i0_one_3 B47 (show 0 < 1 by decide) rfl rfl rfl rfl) B47 ?_
    intro w66 B68 hg67
    simp only [nf0, nf1, nf2, nf3, nf4]
    replace h := h.kept hg67 n39 n40
    replace B3 := B3.kept hg67 n41
    replace B10 := B10.kept hg67 n42
    replace F18 := F18.kept hg67 n43
    replace F19 := F19.kept hg67 n44
    replace B62 := B62.kept hg67 n59.symm
    replace bel := fr_in bel hg67 (by simp)
    replace hrd := Reads.frS hr0 (lo2 lo38 lo52) hrdW_ bel
    clear hg67
    clear B47
    replace B68 : Blk w66 g34 #[.int .i64 ((from_ + (k_ : Int)) + 1)] 3 := B68
    refine wpListIn_nil ?_
    show Code.wpIn _ _ _ _ _ _ _
    refine wpIn_region_lit ?_
    refine si_value (v := (.int .i64 (k_ : Int))) (by rfl) (run_loadB (.tmp 9) rfl i0_one_3 rfl B62 rfl) ?_
    simp only [nf0, nf1, nf2, nf3, nf4]
    refine si_value (v := (.int .i64 ((k_ : Int) + 1))) (by rfl) (run_add_in (.tmp 51) (.const (.int .i64 1)) rfl rfl rfl (by omega) w66) ?_
    simp only [nf0, nf1, nf2, nf3, nf4]
    refine si_cell (v := (.int .i64 ((k_ : Int) + 1))) (by rfl) (run_storeB (.tmp 9) (.tmp 52) rfl i0_one_3 B62 (show 0 < 1 by decide) rfl rfl rfl rfl) B62 ?_
    intro w69 B71 hg70
    simp only [nf0, nf1, nf2, nf3, nf4]
    replace h := h.kept hg70 n53 n54
    replace B3 := B3.kept hg70 n55
    replace B10 := B10.kept hg70 n56
    replace F18 := F18.kept hg70 n57
    replace F19 := F19.kept hg70 n58
    replace B68 := B68.kept hg70 n59
    replace bel := fr_in bel hg70 (by simp)
    replace hrd := Reads.frS hr0 (lo2 lo38 lo52) hrdW_ bel
    clear hg70
    clear B62
    replace B71 : Blk w69 g48 #[.int .i64 ((k_ : Int) + 1)] 3 := B71
    refine wpListIn_nil ?_
    show _ ∧ _
    exact ⟨bel, h, hrd, B3, B10, F18, F19, (by rw [show from_ + ((k_ + 1 : Nat) : Int) = (from_ + (k_ : Int)) + 1 by omega]; exact B68), (by rw [show ((k_ + 1 : Nat) : Int) = (k_ : Int) + 1 by omega]; exact B71), (bl_call belg bel (lo2 lo38 lo52))⟩
  · rintro D_ W_ hD_ ⟨h, hrd, B3, B10, F18, F19, B47, B62, bel⟩ hK_
    have hgl := got_len from_ xs
    show Code.wp _ _ _ _ _
    refine wp_seq ?_
    refine wp_region_lit ?_
    refine st_mv (.int .i64 0) ?_
    simp only [nf0, nf1, nf2, nf3, nf4]
    refine wpList_nil ?_
    show Code.wp _ _ _ _ _
    refine wp_seq ?_
    refine wp_seq ?_
    cases hg72 : decide (0 ≤ from_)
    · have hp73 := of_decide_eq_false hg72
      refine wp_region_lit ?_
      refine st_mv (.int .i64 from_) ?_
      simp only [nf0, nf1, nf2, nf3, nf4]
      refine st_value (v := (.bool false)) (by rfl) ((run_geq (.tmp 53) (.const (.int .i64 0)) rfl rfl rfl W_).trans (by rw [hg72])) ?_
      simp only [nf0, nf1, nf2, nf3, nf4]
      refine st_mv (.bool false) ?_
      simp only [nf0, nf1, nf2, nf3, nf4]
      refine st_nob (j := 2) (t := 55) (c := false) rfl rfl rfl rfl rfl ?_
      simp only [nf0, nf1, nf2, nf3, nf4]
      refine st_nob (j := 2) (t := 55) (c := false) rfl rfl rfl rfl rfl ?_
      simp only [nf0, nf1, nf2, nf3, nf4]
      refine st_nob (j := 2) (t := 55) (c := false) rfl rfl rfl rfl rfl ?_
      simp only [nf0, nf1, nf2, nf3, nf4]
      refine st_nob (j := 2) (t := 55) (c := false) rfl rfl rfl rfl rfl ?_
      simp only [nf0, nf1, nf2, nf3, nf4]
      refine st_mv (.bool false) ?_
      simp only [nf0, nf1, nf2, nf3, nf4]
      refine wpList_nil ?_
      show Code.wp _ _ _ _ _
      refine wp_cond_false rfl ?_
      refine wp_skip ?_
      show Code.wp _ _ _ _ _
      refine wp_seq ?_
      refine wp_region_lit ?_
      refine st_value (v := (.int .i64 (((got from_ xs).length) : Int))) (by rfl) (run_loadB (.tmp 9) rfl i0_one_3 rfl B62 rfl) ?_
      simp only [nf0, nf1, nf2, nf3, nf4]
      refine st_mv (.int .i64 0) ?_
      simp only [nf0, nf1, nf2, nf3, nf4]
      refine st_value (v := (.bool (decide ((((got from_ xs).length) : Int) = 0)))) (by rfl) (run_eql_int (.tmp 65) (.tmp 66) rfl rfl rfl W_) ?_
      simp only [nf0, nf1, nf2, nf3, nf4]
      refine st_cell (v := (.bool (decide ((((got from_ xs).length) : Int) = 0)))) (by rfl) (run_storeB (.tmp 6) (.tmp 67) rfl i0_one_4 B10 (show 0 < 1 by decide) rfl rfl rfl rfl) B10 ?_
      intro w74 B76 hg75
      simp only [nf0, nf1, nf2, nf3, nf4]
      replace h := h.kept hg75 n13 n14
      replace B3 := B3.kept hg75 n15
      replace F18 := F18.kept hg75 n28.symm
      replace F19 := F19.kept hg75 n32.symm
      replace B47 := B47.kept hg75 n42.symm
      replace B62 := B62.kept hg75 n56.symm
      replace hK_ := hK_.kept B10 hg75
      replace bel := bl_kept0 bel hg75 lo12
      replace hrd := hr0.same bel
      clear hg75
      clear B10
      replace B76 : Blk w74 g8 #[.bool (decide ((((got from_ xs).length) : Int) = 0))] 4 := B76
      refine wpList_nil ?_
      show Code.wp _ _ _ _ _
      refine wp_ret ?_
      first | show bodyPostM _ _ _ _ _ _ _ _ | (simp only [Exit.then, Exit.inBlock]; show bodyPostM _ _ _ _ _ _ _ _)
      refine postM_mark (v := (.bool (decide ((((got from_ xs).length) : Int) = 0)))) rfl hK_ (results_cell1 rfl i0_one_4 rfl (B76.putD hK_ _)) ⟨?_, bl_putD bel (Nat.le_trans hsz63 hD_) _⟩
      rw [show (decide ((((got from_ xs).length) : Int) = 0)) = true from decide_eq_true (by omega)]
    have hp77 := of_decide_eq_true hg72
    refine wp_region_lit ?_
    refine st_mv (.int .i64 from_) ?_
    simp only [nf0, nf1, nf2, nf3, nf4]
    refine st_value (v := (.bool true)) (by rfl) ((run_geq (.tmp 53) (.const (.int .i64 0)) rfl rfl rfl W_).trans (by rw [hg72])) ?_
    simp only [nf0, nf1, nf2, nf3, nf4]
    refine st_mv (.bool true) ?_
    simp only [nf0, nf1, nf2, nf3, nf4]
    refine st_mv (.int .i64 from_) ?_
    simp only [nf0, nf1, nf2, nf3, nf4]
    refine st_value (v := (.slice A xs.length cap)) (by rfl) (run_loadB (.tmp 4) rfl i0_one_22 rfl B3 rfl) ?_
    simp only [nf0, nf1, nf2, nf3, nf4]
    refine st_value (v := (.int .i64 (xs.length : Int))) (by rfl) (run_len (.tmp 57) rfl ⟨_, Try.underlying22⟩ rfl W_) ?_
    simp only [nf0, nf1, nf2, nf3, nf4]
    refine st_value (v := (.bool (decide (from_ < (xs.length : Int))))) (by rfl) (run_lss (.tmp 56) (.tmp 58) rfl rfl rfl W_) ?_
    simp only [nf0, nf1, nf2, nf3, nf4]
    refine st_mv (.bool (decide (from_ < (xs.length : Int)))) ?_
    simp only [nf0, nf1, nf2, nf3, nf4]
    refine wpList_nil ?_
    show Code.wp _ _ _ _ _
    cases hg78 : decide (from_ < (xs.length : Int))
    · have hp79 := of_decide_eq_false hg78
      refine wp_cond_false rfl ?_
      refine wp_skip ?_
      show Code.wp _ _ _ _ _
      refine wp_seq ?_
      refine wp_region_lit ?_
      refine st_value (v := (.int .i64 (((got from_ xs).length) : Int))) (by rfl) (run_loadB (.tmp 9) rfl i0_one_3 rfl B62 rfl) ?_
      simp only [nf0, nf1, nf2, nf3, nf4]
      refine st_mv (.int .i64 0) ?_
      simp only [nf0, nf1, nf2, nf3, nf4]
      refine st_value (v := (.bool (decide ((((got from_ xs).length) : Int) = 0)))) (by rfl) (run_eql_int (.tmp 65) (.tmp 66) rfl rfl rfl W_) ?_
      simp only [nf0, nf1, nf2, nf3, nf4]
      refine st_cell (v := (.bool (decide ((((got from_ xs).length) : Int) = 0)))) (by rfl) (run_storeB (.tmp 6) (.tmp 67) rfl i0_one_4 B10 (show 0 < 1 by decide) rfl rfl rfl rfl) B10 ?_
      intro w80 B82 hg81
      simp only [nf0, nf1, nf2, nf3, nf4]
      replace h := h.kept hg81 n13 n14
      replace B3 := B3.kept hg81 n15
      replace F18 := F18.kept hg81 n28.symm
      replace F19 := F19.kept hg81 n32.symm
      replace B47 := B47.kept hg81 n42.symm
      replace B62 := B62.kept hg81 n56.symm
      replace hK_ := hK_.kept B10 hg81
      replace bel := bl_kept0 bel hg81 lo12
      replace hrd := hr0.same bel
      clear hg81
      clear B10
      replace B82 : Blk w80 g8 #[.bool (decide ((((got from_ xs).length) : Int) = 0))] 4 := B82
      refine wpList_nil ?_
      show Code.wp _ _ _ _ _
      refine wp_ret ?_
      first | show bodyPostM _ _ _ _ _ _ _ _ | (simp only [Exit.then, Exit.inBlock]; show bodyPostM _ _ _ _ _ _ _ _)
      refine postM_mark (v := (.bool (decide ((((got from_ xs).length) : Int) = 0)))) rfl hK_ (results_cell1 rfl i0_one_4 rfl (B82.putD hK_ _)) ⟨?_, bl_putD bel (Nat.le_trans hsz63 hD_) _⟩
      rw [show (decide ((((got from_ xs).length) : Int) = 0)) = true from decide_eq_true (by omega)]
    have hp83 := of_decide_eq_true hg78
    refine wp_cond_true rfl ?_
    refine wp_region_lit ?_
    refine st_value (v := (.slice A xs.length cap)) (by rfl) (run_loadB (.tmp 4) rfl i0_one_22 rfl B3 rfl) ?_
    simp only [nf0, nf1, nf2, nf3, nf4]
    refine st_value (v := (.int .i64 (xs.length : Int))) (by rfl) (run_len (.tmp 61) rfl ⟨_, Try.underlying22⟩ rfl W_) ?_
    simp only [nf0, nf1, nf2, nf3, nf4]
    refine st_mv (.int .i64 from_) ?_
    simp only [nf0, nf1, nf2, nf3, nf4]
    refine st_value (v := (.int .i64 ((xs.length : Int) - from_))) (by rfl) (run_sub_in (.tmp 62) (.tmp 63) rfl rfl rfl (by omega) W_) ?_
    simp only [nf0, nf1, nf2, nf3, nf4]
    refine st_mv (.int .i64 ((xs.length : Int) - from_)) ?_
    simp only [nf0, nf1, nf2, nf3, nf4]
    refine wpList_nil ?_
    show Code.wp _ _ _ _ _
    refine wp_seq ?_
    refine wp_region_lit ?_
    refine st_value (v := (.int .i64 (((got from_ xs).length) : Int))) (by rfl) (run_loadB (.tmp 9) rfl i0_one_3 rfl B62 rfl) ?_
    simp only [nf0, nf1, nf2, nf3, nf4]
    refine st_mv (.int .i64 ((xs.length : Int) - from_)) ?_
    simp only [nf0, nf1, nf2, nf3, nf4]
    refine st_value (v := (.bool (decide ((((got from_ xs).length) : Int) = ((xs.length : Int) - from_))))) (by rfl) (run_eql_int (.tmp 65) (.tmp 66) rfl rfl rfl W_) ?_
    simp only [nf0, nf1, nf2, nf3, nf4]
    refine st_cell (v := (.bool (decide ((((got from_ xs).length) : Int) = ((xs.length : Int) - from_))))) (by rfl) (run_storeB (.tmp 6) (.tmp 67) rfl i0_one_4 B10 (show 0 < 1 by decide) rfl rfl rfl rfl) B10 ?_
    intro w84 B86 hg85
    simp only [nf0, nf1, nf2, nf3, nf4]
    replace h := h.kept hg85 n13 n14
    replace B3 := B3.kept hg85 n15
    replace F18 := F18.kept hg85 n28.symm
    replace F19 := F19.kept hg85 n32.symm
    replace B47 := B47.kept hg85 n42.symm
    replace B62 := B62.kept hg85 n56.symm
    replace hK_ := hK_.kept B10 hg85
    replace bel := bl_kept0 bel hg85 lo12
    replace hrd := hr0.same bel
    clear hg85
    clear B10
    replace B86 : Blk w84 g8 #[.bool (decide ((((got from_ xs).length) : Int) = ((xs.length : Int) - from_)))] 4 := B86
    refine wpList_nil ?_
    show Code.wp _ _ _ _ _
    refine wp_ret ?_
    first | show bodyPostM _ _ _ _ _ _ _ _ | (simp only [Exit.then, Exit.inBlock]; show bodyPostM _ _ _ _ _ _ _ _)
    refine postM_mark (v := (.bool (decide ((((got from_ xs).length) : Int) = ((xs.length : Int) - from_))))) rfl hK_ (results_cell1 rfl i0_one_4 rfl (B86.putD hK_ _)) ⟨?_, bl_putD bel (Nat.le_trans hsz63 hD_) _⟩
    rw [show (decide ((((got from_ xs).length) : Int) = ((xs.length : Int) - from_))) = true from decide_eq_true (by omega)]
  · rintro D_ k_ W_ hD_ hlt_ hx_ hK_
    exact hx_.elim
set_option maxRecDepth 100000 in
set_option maxHeartbeats 4000000 in
theorem alike_nil {from_ : Int} (w : World) : Calls Try.prog 19 #[.pointer none, .slice none 0 0, .int .i64 from_] w fun e w' => e = .returned (.bool true) ∧ Below w.heap.size w w' := by
  have bel : Below w.heap.size w w := Below.refl _ _
  have rn : Reads w none (([] : List Int).map (Value.int .i64)) := Reads.nil _ _
  have rn0 := rn
  refine calls_marks Try.func19 rfl ?_
  simp only [Try.ntmps19, List.size_toArray, List.length_cons, List.length_nil, Nat.reduceAdd, Nat.reduceSub, Array.replicate_succ, Array.replicate_zero, List.push_toArray, List.append_toArray, List.nil_append, List.cons_append]
  refine wp_seq ?_
  refine wp_region_lit ?_
  refine st_new (cs := #[.slice none 0 0]) (t := 22) (by rfl) (run_boxV (.tmp 1) rfl (v := (.slice none 0 0)) rfl rfl _) ?_
  intro g1 w2 B3 hb4 lo5
  simp only [nf0, nf1, nf2, nf3, nf4]
  replace lo5 := low_le bel lo5
  replace bel := bl_step bel hb4
  clear hb4
  refine st_new (cs := #[.bool false]) (t := 4) (by rfl) (run_allocV rfl i1_zero_4 _) ?_
  intro g6 w7 B8 hb9 lo10
  simp only [nf0, nf1, nf2, nf3, nf4]
  have n11 := B3.ne lo10
  replace lo10 := low_le bel lo10
  replace B3 := B3.below hb9
  replace bel := bl_step bel hb9
  clear hb9
  refine wpList_nil ?_
  show Code.wp _ _ _ _ _
  refine wp_seq ?_
  refine wp_region_lit ?_
  refine st_mv (.pointer none) ?_
  simp only [nf0, nf1, nf2, nf3, nf4]
  refine st_mv (.int .i64 from_) ?_
  simp only [nf0, nf1, nf2, nf3, nf4]
  refine st_call (by rfl) (i1_run_call_11_2 (.tmp 15) (.tmp 16) rfl rfl rfl _) (each_calls none from_ w7) ?_
  rintro _ w19 ⟨B1_12, B2_13, rfl, F14, F15, lo16, lo17, n18, hf20⟩
  simp only [nf0, nf1, nf2, nf3, nf4]
  have n21 := B3.ne lo16
  have n22 := B8.ne lo16
  have n23 := B3.ne lo17
  have n24 := B8.ne lo17
  replace lo16 := low_le bel lo16
  replace lo17 := low_le bel lo17
  replace B3 := B3.below hf20
  replace B8 := B8.below hf20
  replace bel := bl_step bel hf20
  clear hf20
  refine st_mv (.func (.func 24) #[] #[.pointer (some ⟨B1_12, 0, none⟩), .pointer (some ⟨B2_13, 0, none⟩)]) ?_
  simp only [nf0, nf1, nf2, nf3, nf4]
  refine wpList_nil ?_
  show Code.wp _ _ _ _ _
  refine wp_seq ?_
  refine wp_seq ?_
  refine wp_region_facts_lit (C := Abv w19) (G := G0) [.val (.func (.func 24) #[] #[.pointer (some ⟨B1_12, 0, none⟩), .pointer (some ⟨B2_13, 0, none⟩)]), .val (.bool false), .val (.bool false), .val (.pointer none), .val (.int .i64 0), .val (.slice none 0 0), .val (.int .i64 (0 : Int)), .val (.bool false), .val (.bool false)] (by kernel_rfl) (by kernel_rfl) (Abv.start _) ?_
  refine fsteps_val (fun W hC _ => opok_value (v := (.func (.func 24) #[] #[.pointer (some ⟨B1_12, 0, none⟩), .pointer (some ⟨B2_13, 0, none⟩)])) (by rfl) (by rfl) rfl hC (G0.refl _)) ?_
  simp only [nf0, nf1, nf2, nf3, nf4]
  refine fsteps_val (fun W hC _ => opok_value (v := (.bool false)) (by rfl) (run_eqnilF (.tmp 18) (.const .nilFunc) rfl Try.underlying30 rfl rfl W) rfl hC (G0.refl _)) ?_
  simp only [nf0, nf1, nf2, nf3, nf4]
  refine fsteps_val (fun W hC _ => opok_value (v := (.bool false)) (by rfl) (by rfl) rfl hC (G0.refl _)) ?_
  simp only [nf0, nf1, nf2, nf3, nf4]
  refine fsteps_val (fun W hC _ => opok_value (v := (.pointer none)) (by rfl) (by rfl) rfl hC (G0.refl _)) ?_
  simp only [nf0, nf1, nf2, nf3, nf4]
  refine fsteps_val (fun W hC _ => opok_call (by rfl) (i1_run_call_8_1 (.tmp 21) rfl rfl W) ((len_nil W).mono fun e W' ⟨h1, h2⟩ => ⟨_, h1, rfl, hC.step h2, h2⟩)) ?_
  simp only [nf0, nf1, nf2, nf3, nf4]
  refine fsteps_val (fun W hC _ => opok_value (v := (.slice none 0 0)) (by rfl) (run_loadB (.tmp 4) rfl i1_one_22 rfl (B3.below hC) rfl) rfl hC (G0.refl _)) ?_
  simp only [nf0, nf1, nf2, nf3, nf4]
  refine fsteps_val (fun W hC _ => opok_value (v := (.int .i64 (0 : Int))) (by rfl) (run_len (.tmp 23) rfl ⟨_, Try.underlying22⟩ rfl W) rfl hC (G0.refl _)) ?_
  simp only [nf0, nf1, nf2, nf3, nf4]
  refine fsteps_val (fun W hC _ => opok_value (v := (.bool false)) (by rfl) (run_neq_int_t (.tmp 22) (.tmp 24) rfl rfl rfl rfl W) rfl hC (G0.refl _)) ?_
  simp only [nf0, nf1, nf2, nf3, nf4]
  refine fsteps_val (fun W hC _ => opok_value (v := (.bool false)) (by rfl) (by rfl) rfl hC (G0.refl _)) ?_
  simp only [nf0, nf1, nf2, nf3, nf4]
  refine fsteps_nil fun w25 hC _ => ?_
  replace hC : Below w19.heap.size w19 w25 := hC
  replace B3 := B3.below hC
  replace B8 := B8.below hC
  replace F14 := F14.below hC
  replace F15 := F15.below hC
  replace bel := bl_step bel hC
  clear hC
  show Code.wp _ _ _ _ _
  refine wp_cond_false rfl ?_
  refine wp_skip ?_
  show Code.wp _ _ _ _ _
  refine wp_seq ?_
  refine wp_region_lit ?_
  refine st_mv (.int .i64 from_) ?_
  simp only [nf0, nf1, nf2, nf3, nf4]
  refine st_new (cs := #[.int .i64 0]) (t := 3) (by rfl) (run_allocV rfl i1_zero_3 _) ?_
  intro g26 w27 B28 hb29 lo30
  simp only [nf0, nf1, nf2, nf3, nf4]
  have n31 := B3.ne lo30
  have n32 := B8.ne lo30
  have n33 := F14.ne lo30
  have n34 := F15.ne lo30
  replace lo30 := low_le bel lo30
  replace B3 := B3.below hb29
  replace B8 := B8.below hb29
  replace F14 := F14.below hb29
  replace F15 := F15.below hb29
  replace bel := bl_step bel hb29
  clear hb29
  refine st_cell (v := (.int .i64 from_)) (by rfl) (run_storeB (.tmp 8) (.tmp 27) rfl i1_one_3 B28 (show 0 < 1 by decide) rfl rfl rfl rfl) B28 ?_
  intro w35 B37 hg36
  simp only [nf0, nf1, nf2, nf3, nf4]
  replace B3 := B3.kept hg36 n31
  replace B8 := B8.kept hg36 n32
  replace F14 := F14.kept hg36 n33
  replace F15 := F15.kept hg36 n34
  replace bel := bl_kept0 bel hg36 lo30
  clear hg36
  clear B28
  replace B37 : Blk w35 g26 #[.int .i64 from_] 3 := B37
  refine wpList_nil ?_
  show Code.wp _ _ _ _ _
  refine wp_seq ?_
  refine wp_region_lit ?_
  refine st_new (cs := #[.int .i64 0]) (t := 3) (by rfl) (run_allocV rfl i1_zero_3 _) ?_
  intro g38 w39 B40 hb41 lo42
  simp only [nf0, nf1, nf2, nf3, nf4]
  have n43 := B3.ne lo42
  have n44 := B8.ne lo42
  have n45 := F14.ne lo42
  have n46 := F15.ne lo42
  have n47 := B37.ne lo42
  replace lo42 := low_le bel lo42
  replace B3 := B3.below hb41
  replace B8 := B8.below hb41
  replace F14 := F14.below hb41
  replace F15 := F15.below hb41
  replace B37 := B37.below hb41
  replace bel := bl_step bel hb41
  clear hb41
  refine st_cell (v := (.int .i64 0)) (by rfl) (run_storeB (.tmp 9) (.const (.int .i64 0)) rfl i1_one_3 B40 (show 0 < 1 by decide) rfl rfl rfl rfl) B40 ?_
  intro w48 B50 hg49
  simp only [nf0, nf1, nf2, nf3, nf4]
  replace B3 := B3.kept hg49 n43
  replace B8 := B8.kept hg49 n44
  replace F14 := F14.kept hg49 n45
  replace F15 := F15.kept hg49 n46
  replace B37 := B37.kept hg49 n47
  replace bel := bl_kept0 bel hg49 lo42
  clear hg49
  clear B40
  replace B50 : Blk w48 g38 #[.int .i64 0] 3 := B50
  refine wpList_nil ?_
  show Code.wp _ _ _ _ _
  refine wp_seq ?_
  refine wp_seq ?_
  refine wp_region_lit ?_
  refine st_mv (.func (.func 24) #[] #[.pointer (some ⟨B1_12, 0, none⟩), .pointer (some ⟨B2_13, 0, none⟩)]) ?_
  simp only [nf0, nf1, nf2, nf3, nf4]
  refine wpList_nil ?_
  show Code.wp _ _ _ _ _
  refine wp_block ?_
  have hsz51 := bel.size
  refine wp_range (m := 0) (ev := fun k_ => #[.int .i64 (from_ + (k_ : Int)), .int .i64 0]) (S := [g26, g38]) rfl rfl (enters_of Try.func24 (by kernel_rfl) rfl) (lt2 B37.lt B50.lt) (each_nil F14 F15 _ _) (fun _ => rfl) (fun k_ W_ => Blk W_ g1 #[.slice none 0 0] 22 ∧ Blk W_ g6 #[.bool false] 4 ∧ Blk W_ B1_12 #[.int .i64 from_] 3 ∧ Blk W_ B2_13 #[.pointer none] 23 ∧ Blk W_ g26 #[.int .i64 (from_ + (k_ : Int))] 3 ∧ Blk W_ g38 #[.int .i64 (k_ : Int)] 3 ∧ Below w.heap.size w W_) (fun _ _ => False) ?_ ?_ ⟨B3, B8, F14, F15, (by simpa using B37), (by simpa using B50), bel⟩ (fun k_ => ⟨#[.pointer none, .slice none 0 0, .int .i64 from_, undef, .pointer (some ⟨g1, 0, none⟩), undef, .pointer (some ⟨g6, 0, none⟩), .func (.func 24) #[] #[.pointer (some ⟨B1_12, 0, none⟩), .pointer (some ⟨B2_13, 0, none⟩)], .pointer (some ⟨g26, 0, none⟩), .pointer (some ⟨g38, 0, none⟩), .int .i64 (from_ + (k_ : Int)), .int .i64 0, undef, undef, undef, .pointer none, .int .i64 from_, .func (.func 24) #[] #[.pointer (some ⟨B1_12, 0, none⟩), .pointer (some ⟨B2_13, 0, none⟩)], .func (.func 24) #[] #[.pointer (some ⟨B1_12, 0, none⟩), .pointer (some ⟨B2_13, 0, none⟩)], .bool false, .bool false, .pointer none, .int .i64 0, .slice none 0 0, .int .i64 (0 : Int), .bool false, .bool false, .int .i64 from_, .func (.func 24) #[] #[.pointer (some ⟨B1_12, 0, none⟩), .pointer (some ⟨B2_13, 0, none⟩)], .int .i64 (from_ + (k_ : Int)), .int .i64 0, undef, undef, undef, undef, undef, undef, undef, undef, undef, undef, undef, undef, undef, undef, undef, undef, undef, undef, undef, undef, undef, undef, undef, undef, undef, undef, undef, undef, undef, undef, undef, undef, undef, undef, undef, undef, undef], []⟩) ?_ ?_ ?_ ?_
  · rintro k_ A_ B_ r_ ⟨B3, B8, F14, F15, B37, B50, bel⟩ hg_ hr_
    exact ⟨B3.own hg_ (fun r e => (hr_ r e).2), B8.own hg_ (fun r e => (hr_ r e).2), F14.own hg_ (fun r e => (hr_ r e).2), F15.own hg_ (fun r e => (hr_ r e).2), B37.own hg_ (fun r e => (hr_ r e).2), B50.own hg_ (fun r e => (hr_ r e).2), bl_own bel hsz51 hg_ (fun r e => (hr_ r e).1)⟩
  · exact fun _ _ _ _ h _ _ => h.elim
  · intro l_ k_ W_ K_ hK_
    simp only [List.zip_toArray, List.zip_cons_cons, List.zip_nil_right, List.foldl_toArray, List.foldl_cons, List.foldl_nil, nf1, nf2, nf3]
    refine wpIn_seq ?_
    refine wpIn_region_lit ?_
    refine si_mv (.int .i64 (from_ + (k_ : Int))) ?_
    simp only [nf0, nf1, nf2, nf3, nf4]
    refine wpListIn_nil ?_
    show Code.wpIn _ _ _ _ _ _ _
    refine wpIn_region_lit ?_
    refine si_mv (.int .i64 0) ?_
    simp only [nf0, nf1, nf2, nf3, nf4]
    refine wpListIn_nil ?_
    exact hK_
  · rintro l_ k_ W_ ⟨B3, B8, F14, F15, B37, B50, belg⟩ hlt_
    exact absurd hlt_ (Nat.not_lt_zero _)
  · rintro D_ W_ hD_ ⟨B3, B8, F14, F15, B37, B50, bel⟩ hK_
    show Code.wp _ _ _ _ _
    refine wp_seq ?_
    refine wp_region_lit ?_
    refine st_mv (.int .i64 0) ?_
    simp only [nf0, nf1, nf2, nf3, nf4]
    refine wpList_nil ?_
    show Code.wp _ _ _ _ _
    refine wp_seq ?_
    refine wp_seq ?_
    cases hg52 : decide (0 ≤ from_)
    · have hp53 := of_decide_eq_false hg52
      refine wp_region_lit ?_
      refine st_mv (.int .i64 from_) ?_
      simp only [nf0, nf1, nf2, nf3, nf4]
      refine st_value (v := (.bool false)) (by rfl) ((run_geq (.tmp 53) (.const (.int .i64 0)) rfl rfl rfl W_).trans (by rw [hg52])) ?_
      simp only [nf0, nf1, nf2, nf3, nf4]
      refine st_mv (.bool false) ?_
      simp only [nf0, nf1, nf2, nf3, nf4]
      refine st_nob (j := 2) (t := 55) (c := false) rfl rfl rfl rfl rfl ?_
      simp only [nf0, nf1, nf2, nf3, nf4]
      refine st_nob (j := 2) (t := 55) (c := false) rfl rfl rfl rfl rfl ?_
      simp only [nf0, nf1, nf2, nf3, nf4]
      refine st_nob (j := 2) (t := 55) (c := false) rfl rfl rfl rfl rfl ?_
      simp only [nf0, nf1, nf2, nf3, nf4]
      refine st_nob (j := 2) (t := 55) (c := false) rfl rfl rfl rfl rfl ?_
      simp only [nf0, nf1, nf2, nf3, nf4]
      refine st_mv (.bool false) ?_
      simp only [nf0, nf1, nf2, nf3, nf4]
      refine wpList_nil ?_
      show Code.wp _ _ _ _ _
      refine wp_cond_false rfl ?_
      refine wp_skip ?_
      show Code.wp _ _ _ _ _
      refine wp_seq ?_
      refine wp_region_lit ?_
      refine st_value (v := (.int .i64 (0 : Int))) (by rfl) (run_loadB (.tmp 9) rfl i1_one_3 rfl B50 rfl) ?_
      simp only [nf0, nf1, nf2, nf3, nf4]
      refine st_mv (.int .i64 0) ?_
      simp only [nf0, nf1, nf2, nf3, nf4]
      refine st_value (v := (.bool true)) (by rfl) (run_eql_int_t (.tmp 65) (.tmp 66) rfl rfl rfl rfl W_) ?_
      simp only [nf0, nf1, nf2, nf3, nf4]
      refine st_cell (v := (.bool true)) (by rfl) (run_storeB (.tmp 6) (.tmp 67) rfl i1_one_4 B8 (show 0 < 1 by decide) rfl rfl rfl rfl) B8 ?_
      intro w54 B56 hg55
      simp only [nf0, nf1, nf2, nf3, nf4]
      replace B3 := B3.kept hg55 n11
      replace F14 := F14.kept hg55 n22.symm
      replace F15 := F15.kept hg55 n24.symm
      replace B37 := B37.kept hg55 n32.symm
      replace B50 := B50.kept hg55 n44.symm
      replace hK_ := hK_.kept B8 hg55
      replace bel := bl_kept0 bel hg55 lo10
      clear hg55
      clear B8
      replace B56 : Blk w54 g6 #[.bool true] 4 := B56
      refine wpList_nil ?_
      show Code.wp _ _ _ _ _
      refine wp_ret ?_
      first | show bodyPostM _ _ _ _ _ _ _ _ | (simp only [Exit.then, Exit.inBlock]; show bodyPostM _ _ _ _ _ _ _ _)
      refine postM_mark (v := (.bool true)) rfl hK_ (results_cell1 rfl i1_one_4 rfl (B56.putD hK_ _)) ⟨?_, bl_putD bel (Nat.le_trans hsz51 hD_) _⟩
      rw [show (true) = true from rfl]
    have hp57 := of_decide_eq_true hg52
    refine wp_region_lit ?_
    refine st_mv (.int .i64 from_) ?_
    simp only [nf0, nf1, nf2, nf3, nf4]
    refine st_value (v := (.bool true)) (by rfl) ((run_geq (.tmp 53) (.const (.int .i64 0)) rfl rfl rfl W_).trans (by rw [hg52])) ?_
    simp only [nf0, nf1, nf2, nf3, nf4]
    refine st_mv (.bool true) ?_
    simp only [nf0, nf1, nf2, nf3, nf4]
    refine st_mv (.int .i64 from_) ?_
    simp only [nf0, nf1, nf2, nf3, nf4]
    refine st_value (v := (.slice none 0 0)) (by rfl) (run_loadB (.tmp 4) rfl i1_one_22 rfl B3 rfl) ?_
    simp only [nf0, nf1, nf2, nf3, nf4]
    refine st_value (v := (.int .i64 (0 : Int))) (by rfl) (run_len (.tmp 57) rfl ⟨_, Try.underlying22⟩ rfl W_) ?_
    simp only [nf0, nf1, nf2, nf3, nf4]
    refine st_value (v := (.bool (decide (from_ < (0 : Int))))) (by rfl) (run_lss (.tmp 56) (.tmp 58) rfl rfl rfl W_) ?_
    simp only [nf0, nf1, nf2, nf3, nf4]
    refine st_mv (.bool (decide (from_ < (0 : Int)))) ?_
    simp only [nf0, nf1, nf2, nf3, nf4]
    refine wpList_nil ?_
    show Code.wp _ _ _ _ _
    cases hg58 : decide (from_ < (0 : Int))
    · have hp59 := of_decide_eq_false hg58
      refine wp_cond_false rfl ?_
      refine wp_skip ?_
      show Code.wp _ _ _ _ _
      refine wp_seq ?_
      refine wp_region_lit ?_
      refine st_value (v := (.int .i64 (0 : Int))) (by rfl) (run_loadB (.tmp 9) rfl i1_one_3 rfl B50 rfl) ?_
      simp only [nf0, nf1, nf2, nf3, nf4]
      refine st_mv (.int .i64 0) ?_
      simp only [nf0, nf1, nf2, nf3, nf4]
      refine st_value (v := (.bool true)) (by rfl) (run_eql_int_t (.tmp 65) (.tmp 66) rfl rfl rfl rfl W_) ?_
      simp only [nf0, nf1, nf2, nf3, nf4]
      refine st_cell (v := (.bool true)) (by rfl) (run_storeB (.tmp 6) (.tmp 67) rfl i1_one_4 B8 (show 0 < 1 by decide) rfl rfl rfl rfl) B8 ?_
      intro w60 B62 hg61
      simp only [nf0, nf1, nf2, nf3, nf4]
      replace B3 := B3.kept hg61 n11
      replace F14 := F14.kept hg61 n22.symm
      replace F15 := F15.kept hg61 n24.symm
      replace B37 := B37.kept hg61 n32.symm
      replace B50 := B50.kept hg61 n44.symm
      replace hK_ := hK_.kept B8 hg61
      replace bel := bl_kept0 bel hg61 lo10
      clear hg61
      clear B8
      replace B62 : Blk w60 g6 #[.bool true] 4 := B62
      refine wpList_nil ?_
      show Code.wp _ _ _ _ _
      refine wp_ret ?_
      first | show bodyPostM _ _ _ _ _ _ _ _ | (simp only [Exit.then, Exit.inBlock]; show bodyPostM _ _ _ _ _ _ _ _)
      refine postM_mark (v := (.bool true)) rfl hK_ (results_cell1 rfl i1_one_4 rfl (B62.putD hK_ _)) ⟨?_, bl_putD bel (Nat.le_trans hsz51 hD_) _⟩
      rw [show (true) = true from rfl]
    have hp63 := of_decide_eq_true hg58
    refine wp_cond_true rfl ?_
    refine wp_region_lit ?_
    refine st_value (v := (.slice none 0 0)) (by rfl) (run_loadB (.tmp 4) rfl i1_one_22 rfl B3 rfl) ?_
    simp only [nf0, nf1, nf2, nf3, nf4]
    refine st_value (v := (.int .i64 (0 : Int))) (by rfl) (run_len (.tmp 61) rfl ⟨_, Try.underlying22⟩ rfl W_) ?_
    simp only [nf0, nf1, nf2, nf3, nf4]
    refine st_mv (.int .i64 from_) ?_
    simp only [nf0, nf1, nf2, nf3, nf4]
    refine st_value (v := (.int .i64 ((0 : Int) - from_))) (by rfl) (run_sub_in (.tmp 62) (.tmp 63) rfl rfl rfl (by omega) W_) ?_
    simp only [nf0, nf1, nf2, nf3, nf4]
    refine st_mv (.int .i64 ((0 : Int) - from_)) ?_
    simp only [nf0, nf1, nf2, nf3, nf4]
    refine wpList_nil ?_
    show Code.wp _ _ _ _ _
    refine wp_seq ?_
    refine wp_region_lit ?_
    refine st_value (v := (.int .i64 (0 : Int))) (by rfl) (run_loadB (.tmp 9) rfl i1_one_3 rfl B50 rfl) ?_
    simp only [nf0, nf1, nf2, nf3, nf4]
    refine st_mv (.int .i64 ((0 : Int) - from_)) ?_
    simp only [nf0, nf1, nf2, nf3, nf4]
    refine st_value (v := (.bool (decide ((0 : Int) = ((0 : Int) - from_))))) (by rfl) (run_eql_int (.tmp 65) (.tmp 66) rfl rfl rfl W_) ?_
    simp only [nf0, nf1, nf2, nf3, nf4]
    refine st_cell (v := (.bool (decide ((0 : Int) = ((0 : Int) - from_))))) (by rfl) (run_storeB (.tmp 6) (.tmp 67) rfl i1_one_4 B8 (show 0 < 1 by decide) rfl rfl rfl rfl) B8 ?_
    intro w64 B66 hg65
    simp only [nf0, nf1, nf2, nf3, nf4]
    replace B3 := B3.kept hg65 n11
    replace F14 := F14.kept hg65 n22.symm
    replace F15 := F15.kept hg65 n24.symm
    replace B37 := B37.kept hg65 n32.symm
    replace B50 := B50.kept hg65 n44.symm
    replace hK_ := hK_.kept B8 hg65
    replace bel := bl_kept0 bel hg65 lo10
    clear hg65
    clear B8
    replace B66 : Blk w64 g6 #[.bool (decide ((0 : Int) = ((0 : Int) - from_)))] 4 := B66
    refine wpList_nil ?_
    show Code.wp _ _ _ _ _
    refine wp_ret ?_
    first | show bodyPostM _ _ _ _ _ _ _ _ | (simp only [Exit.then, Exit.inBlock]; show bodyPostM _ _ _ _ _ _ _ _)
    refine postM_mark (v := (.bool (decide ((0 : Int) = ((0 : Int) - from_))))) rfl hK_ (results_cell1 rfl i1_one_4 rfl (B66.putD hK_ _)) ⟨?_, bl_putD bel (Nat.le_trans hsz51 hD_) _⟩
    rw [show (decide ((0 : Int) = ((0 : Int) - from_))) = true from decide_eq_true (by omega)]
  · rintro D_ k_ W_ hD_ hlt_ hx_ hK_
    exact hx_.elim
end Go.Proofs.Ytdhhcjhinpmeeaa

/- The document's bytes of a number. -/
import Derived.Test.YtckmihjekgbcmaaDoorCodePut
namespace Go.Proofs.YtckmihjekgbcmaaDoor
open Go.RowKit Go.WideShapes Go.ChangeShapes
set_option linter.unusedSimpArgs false
set_option linter.unusedVariables false

theorem e0_run_lit_22_1 {o : Oper} {a : Act} (x0 : Operand) (ho : o.op = .buildSlice 22 1 #[(0, x0)]) {m0 : Int} (h0 : a.eval x0 = (.int .u8 m0)) (W : World) : (execOp a.eval o).run Tryd.prog W = .ok (.value (.slice (some ⟨W.heap.size, 0, none⟩) 1 1)) (W.alloc (.cells #[(.int .u8 m0)] 5)) := by
  unfold execOp
  simp only [ho, List.map_toArray, List.map_cons, List.map_nil, h0]
  go_simp
theorem e1_run_lit_22_1 {o : Oper} {a : Act} (x0 : Operand) (ho : o.op = .buildSlice 22 1 #[(0, x0)]) {m0 : Int} (h0 : a.eval x0 = (.int .u8 m0)) (W : World) : (execOp a.eval o).run Tryd.prog W = .ok (.value (.slice (some ⟨W.heap.size, 0, none⟩) 1 1)) (W.alloc (.cells #[(.int .u8 m0)] 5)) := by
  unfold execOp
  simp only [ho, List.map_toArray, List.map_cons, List.map_nil, h0]
  go_simp
section
variable {P : Program} {o : Oper} {a : Act} (x y : Operand) {t t' : TypeId} {m n : Nat} {k : IntKind}
theorem run_mulW (ho : o.op = .binOp .mul t x y t') (hx : a.eval x = .int .u64 (m : Int)) (hy : a.eval y = .int .u64 (n : Int)) {r : Nat} (hr : m * n = r) (h : r < 2 ^ 64) (W : World) : (execOp a.eval o).run P W = .ok (.value (.int .u64 (r : Int))) W := by
  rw [run_mul x y ho hx hy W, ← Int.natCast_mul, hr, wrap_u64 _ h]
theorem run_add8 (ho : o.op = .binOp .add t x y t') (hx : a.eval x = .int .u8 (m : Int)) (hy : a.eval y = .int .u8 (n : Int)) {r : Nat} (hr : (m + n) % 256 = r) (W : World) : (execOp a.eval o).run P W = .ok (.value (.int .u8 (r : Int))) W := by
  rw [run_add x y ho hx hy W, wrap_u8, show ((m : Int) + (n : Int)) % 256 = (r : Int) by omega]
theorem run_remK (ho : o.op = .binOp .rem t x y t') (hx : a.eval x = .int k (m : Int)) (hy : a.eval y = .int k (n : Int)) (hn : 0 < n) (W : World) : (execOp a.eval o).run P W = .ok (.value (.int k ((m % n : Nat) : Int))) W := by
  unfold execOp; simp only [ho, hx, hy]
  have h0 : (n : Int) ≠ 0 := by omega
  simp [go_sem, eqGuard, h0]
  split
  · omega
  · simp [Int.tmod_eq_emod_of_nonneg (a := (m : Int)) (b := (n : Int)) (by omega)]
theorem run_quoW (ho : o.op = .binOp .quo t x y t') (hx : a.eval x = .int .u64 (m : Int)) (hy : a.eval y = .int .u64 (n : Int)) (hn : 0 < n) (hm : m < 2 ^ 64) (W : World) : (execOp a.eval o).run P W = .ok (.value (.int .u64 ((m / n : Nat) : Int))) W := by
  unfold execOp; simp only [ho, hx, hy]
  have h0 : (n : Int) ≠ 0 := by omega
  have h1 := IntWalk.u64_quo (m : Int) (n : Int) (by omega)
  rw [← Int.natCast_ediv] at h1
  simp [go_sem, eqGuard, h0]
  split
  · omega
  · rw [← Int.natCast_ediv]
    have h2 := Nat.div_le_self m n
    generalize m / n = q at *
    rw [wrap_u64 q (by omega)]
end

attribute [local irreducible] Go.wpList Go.Code.wp
set_option maxRecDepth 100000 in
set_option maxHeartbeats 4000000 in
theorem refInt_pos {q : Nat} (hq : q < 2 ^ 63) (w : World) : Calls Tryd.prog 10 #[.int .i64 (q : Int)] w fun e w' => ∃ v, e = .returned v ∧ OwnR w' w.heap.size 5 eByte v (vb (zig (q : Int))) ∧ Below w.heap.size w w' := by
  have bel : Below w.heap.size w w := Below.refl _ _
  have hz : zig (q : Int) = 2 * q := by unfold zig; rw [if_pos (by omega)]; omega
  have hvl := vb_len (u := 2 * q) (by omega)
  go_enter Tryd.func10, Tryd.ntmps10
  refine wp_seq ?_
  refine wp_region_lit ?_
  refine st_mv (.slice none 0 0) ?_
  simp only [nf0, nf1, nf2, nf3, nf4]
  refine wpList_nil ?_
  show Code.wp _ _ _ _ _
  refine wp_seq ?_
  refine wp_region_lit ?_
  refine st_mv (.int .u64 0) ?_
  simp only [nf0, nf1, nf2, nf3, nf4]
  refine wpList_nil ?_
  show Code.wp _ _ _ _ _
  refine wp_seq ?_
  refine wp_seq ?_
  refine wp_region_lit ?_
  refine st_mv (.int .i64 (q : Int)) ?_
  simp only [nf0, nf1, nf2, nf3, nf4]
  refine st_value (v := (.bool (decide (0 ≤ (q : Int))))) (by rfl) (run_geq (.tmp 5) (.const (.int .i64 0)) rfl rfl rfl w) ?_
  simp only [nf0, nf1, nf2, nf3, nf4]
  refine wpList_nil ?_
  show Code.wp _ _ _ _ _
  cases hg1 : decide (0 ≤ (q : Int))
  · have hp2 := of_decide_eq_false hg1
    exfalso
    omega
  have hp3 := of_decide_eq_true hg1
  refine wp_cond_true rfl ?_
  refine wp_region_lit ?_
  refine st_mv (.int .i64 (q : Int)) ?_
  simp only [nf0, nf1, nf2, nf3, nf4]
  refine st_value (v := (.int .u64 ((q : Nat) : Int))) (by rfl) (run_conv_i64_u64 (.tmp 7) rfl Tryd.underlying3 Tryd.underlying31 (z := (q : Int)) (z' := ((q : Nat) : Int)) rfl (by rw [wrap_u64z]; omega) w) ?_
  simp only [nf0, nf1, nf2, nf3, nf4]
  refine st_value (v := (.int .u64 ((2 * q : Nat) : Int))) (by rfl) (run_mulW (.tmp 8) (.const (.int .u64 2)) rfl (m := q) (n := 2) (r := 2 * q) rfl rfl (by omega) (by omega) w) ?_
  simp only [nf0, nf1, nf2, nf3, nf4]
  refine st_mv (.int .u64 ((2 * q : Nat) : Int)) ?_
  simp only [nf0, nf1, nf2, nf3, nf4]
  refine wpList_nil ?_
  show Code.wp _ _ _ _ _
  refine wp_seq ?_
  refine wp_region_lit ?_
  have O4 : OwnR w w.heap.size 5 eByte (.slice none 0 0) [] := OwnR.nil _ _ _ _
  refine st_mv (.slice none 0 0) ?_
  simp only [nf0, nf1, nf2, nf3, nf4]
  refine wpList_nil ?_
  show Code.wp _ _ _ _ _
  refine wp_seq ?_
  refine wp_block ?_
  refine wp_loop_left (fun n_ a_ wr_ => (fun J6 => ∃ (m : Nat) (ys : List UInt8) (v : Value), n_ = m ∧ a_ = ⟨#[.int .i64 (q : Int), J6 1, .slice none 0 0, .int .u64 ((m : Nat) : Int), v, J6 5, J6 6, J6 7, J6 8, J6 9, J6 10, J6 11, J6 12, J6 13, J6 14, J6 15, J6 16, J6 17, J6 18, J6 19, J6 20, J6 21, J6 22, J6 23, J6 24, J6 25, J6 26, J6 27, J6 28, J6 29, J6 30, J6 31], []⟩ ∧ OwnR wr_ w.heap.size 5 eByte v ys ∧ Below w.heap.size w wr_ ∧ (m < 2 ^ 64) ∧ (ys ++ vb m = vb (2 * q))) (jk a_)) (2 * q) ⟨2 * q, [], (.slice none 0 0), rfl, rfl, O4, bel, (by omega), rfl⟩ ?_
  clear O4
  clear bel
  intro n_ a_ w7 h_
  revert h_
  generalize jk a_ = J6
  rintro ⟨m, ys, v, hms, rfl, O4, bel, hm, he⟩
  have hyl : ys.length ≤ 10 := by have := congrArg List.length he; simp only [List.length_append] at this; omega
  refine wp_seq ?_
  refine wp_seq ?_
  refine wp_region_lit ?_
  refine st_mv (.int .u64 ((m : Nat) : Int)) ?_
  simp only [nf0, nf1, nf2, nf3, nf4]
  refine st_value (v := (.bool (decide ((127 : Int) < (m : Int))))) (by rfl) (run_gtr (.tmp 16) (.const (.int .u64 127)) rfl rfl rfl w7) ?_
  simp only [nf0, nf1, nf2, nf3, nf4]
  refine wpList_nil ?_
  show Code.wp _ _ _ _ _
  cases hg8 : decide ((127 : Int) < (m : Int))
  · have hp9 := of_decide_eq_false hg8
    refine wp_cond_false rfl ?_
    refine wp_exit ?_
    show Code.wp _ _ _ _ _
    refine wp_seq ?_
    refine wp_region_lit ?_
    refine st_mv v ?_
    simp only [nf0, nf1, nf2, nf3, nf4]
    refine st_mv (.int .u64 ((m : Nat) : Int)) ?_
    simp only [nf0, nf1, nf2, nf3, nf4]
    refine st_value (v := (.int .u8 ((UInt8.ofNat m).toNat : Int))) (by rfl) (run_conv_u64_u8 (.tmp 28) rfl Tryd.underlying31 Tryd.underlying5 (z := (m : Int)) (z' := ((UInt8.ofNat m).toNat : Int)) rfl (by rw [wrap_u8, ofNat_toNat (by omega)]; omega) w7) ?_
    simp only [nf0, nf1, nf2, nf3, nf4]
    refine st_lit (by rfl) (e0_run_lit_22_1 (.tmp 29) rfl rfl _) ?_
    intro g10 w11 B12 hb13 lo14
    simp only [nf0, nf1, nf2, nf3, nf4]
    have n15 := O4.off lo14
    replace lo14 := low_le bel lo14
    replace O4 := O4.same hb13
    replace bel := bl_step bel hb13
    clear hb13
    refine st_append slByte rfl (.tmp 27) (.tmp 30) rfl rfl O4 ([UInt8.ofNat m] : List UInt8) rfl rfl B12 (by simp [Enc.all, eByte]) (by simp only [List.length_cons, List.length_nil]; omega) bel.size ?_
    intro v16 w17 O18 hg19 hat20
    simp only [nf0, nf1, nf2, nf3, nf4]
    replace bel := bl_app bel O4 hg19
    clear O4 hg19 hat20
    refine st_mv v16 ?_
    simp only [nf0, nf1, nf2, nf3, nf4]
    refine wpList_nil ?_
    show Code.wp _ _ _ _ _
    refine wp_ret ?_
    first | show bodyPost _ _ _ _ _ _ | (simp only [Exit.then, Exit.inBlock]; show bodyPost _ _ _ _ _ _)
    exact bodyPost_ret (results_tmp rfl _ _ _) rfl ⟨_, rfl, by have h := O18; rw [← vb_low (by omega), he, ← hz] at h; exact h, bel⟩
  have hp21 := of_decide_eq_true hg8
  refine wp_cond_true rfl ?_
  refine wp_skip ?_
  show Code.wp _ _ _ _ _
  refine wp_block ?_
  refine wp_seq ?_
  refine wp_region_lit ?_
  refine st_mv v ?_
  simp only [nf0, nf1, nf2, nf3, nf4]
  refine st_mv (.int .u64 ((m : Nat) : Int)) ?_
  simp only [nf0, nf1, nf2, nf3, nf4]
  refine st_value (v := (.int .u64 ((m % 128 : Nat) : Int))) (by rfl) (run_remK (.tmp 19) (.const (.int .u64 128)) rfl (m := m) (n := 128) rfl rfl (by omega) w7) ?_
  simp only [nf0, nf1, nf2, nf3, nf4]
  refine st_value (v := (.int .u8 ((m % 128 : Nat) : Int))) (by rfl) (run_conv_u64_u8 (.tmp 20) rfl Tryd.underlying31 Tryd.underlying5 (z := ((m % 128 : Nat) : Int)) (z' := ((m % 128 : Nat) : Int)) rfl (by rw [wrap_u8]; omega) w7) ?_
  simp only [nf0, nf1, nf2, nf3, nf4]
  refine st_value (v := (.int .u8 ((UInt8.ofNat (m % 128 + 128)).toNat : Int))) (by rfl) (run_add8 (.tmp 21) (.const (.int .u8 128)) rfl (m := m % 128) (n := 128) rfl rfl (r := (UInt8.ofNat (m % 128 + 128)).toNat) (by rw [ofNat_toNat (by omega)]; omega) w7) ?_
  simp only [nf0, nf1, nf2, nf3, nf4]
  refine st_lit (by rfl) (e0_run_lit_22_1 (.tmp 22) rfl rfl _) ?_
  intro g22 w23 B24 hb25 lo26
  simp only [nf0, nf1, nf2, nf3, nf4]
  have n27 := O4.off lo26
  replace lo26 := low_le bel lo26
  replace O4 := O4.same hb25
  replace bel := bl_step bel hb25
  clear hb25
  refine st_append slByte rfl (.tmp 18) (.tmp 23) rfl rfl O4 ([UInt8.ofNat (m % 128 + 128)] : List UInt8) rfl rfl B24 (by simp [Enc.all, eByte]) (by simp only [List.length_cons, List.length_nil]; omega) bel.size ?_
  intro v28 w29 O30 hg31 hat32
  simp only [nf0, nf1, nf2, nf3, nf4]
  replace bel := bl_app bel O4 hg31
  clear O4 hg31 hat32
  refine st_mv v28 ?_
  simp only [nf0, nf1, nf2, nf3, nf4]
  refine wpList_nil ?_
  show Code.wp _ _ _ _ _
  refine wp_region_lit ?_
  refine st_mv (.int .u64 ((m : Nat) : Int)) ?_
  simp only [nf0, nf1, nf2, nf3, nf4]
  refine st_value (v := (.int .u64 ((m / 128 : Nat) : Int))) (by rfl) (run_quoW (.tmp 25) (.const (.int .u64 128)) rfl (m := m) (n := 128) rfl rfl (by omega) (by omega) w29) ?_
  simp only [nf0, nf1, nf2, nf3, nf4]
  refine st_mv (.int .u64 ((m / 128 : Nat) : Int)) ?_
  simp only [nf0, nf1, nf2, nf3, nf4]
  refine wpList_nil ?_
  show ∃ m, m < _ ∧ _
  exact ⟨_, (by omega), (m / 128), _, v28, rfl, rfl, O30, bel, (by omega), (by rw [← he, vb_high (u := m) (by omega), List.append_assoc]; rfl)⟩
set_option maxRecDepth 100000 in
set_option maxHeartbeats 4000000 in
theorem refInt_neg {q : Nat} (hq : q < 2 ^ 63) (w : World) : Calls Tryd.prog 10 #[.int .i64 (-(q : Int) - 1)] w fun e w' => ∃ v, e = .returned v ∧ OwnR w' w.heap.size 5 eByte v (vb (zig (-(q : Int) - 1))) ∧ Below w.heap.size w w' := by
  have bel : Below w.heap.size w w := Below.refl _ _
  have hz : zig (-(q : Int) - 1) = 2 * q + 1 := by unfold zig; rw [if_neg (by omega)]; omega
  have hvl := vb_len (u := 2 * q + 1) (by omega)
  go_enter Tryd.func10, Tryd.ntmps10
  refine wp_seq ?_
  refine wp_region_lit ?_
  refine st_mv (.slice none 0 0) ?_
  simp only [nf0, nf1, nf2, nf3, nf4]
  refine wpList_nil ?_
  show Code.wp _ _ _ _ _
  refine wp_seq ?_
  refine wp_region_lit ?_
  refine st_mv (.int .u64 0) ?_
  simp only [nf0, nf1, nf2, nf3, nf4]
  refine wpList_nil ?_
  show Code.wp _ _ _ _ _
  refine wp_seq ?_
  refine wp_seq ?_
  refine wp_region_lit ?_
  refine st_mv (.int .i64 (-(q : Int) - 1)) ?_
  simp only [nf0, nf1, nf2, nf3, nf4]
  refine st_value (v := (.bool (decide (0 ≤ (-(q : Int) - 1))))) (by rfl) (run_geq (.tmp 5) (.const (.int .i64 0)) rfl rfl rfl w) ?_
  simp only [nf0, nf1, nf2, nf3, nf4]
  refine wpList_nil ?_
  show Code.wp _ _ _ _ _
  cases hg1 : decide (0 ≤ (-(q : Int) - 1))
  rotate_left
  · have hp32 := of_decide_eq_true hg1
    exfalso
    omega
  have hp2 := of_decide_eq_false hg1
  refine wp_cond_false rfl ?_
  refine wp_region_lit ?_
  refine st_mv (.int .i64 (-(q : Int) - 1)) ?_
  simp only [nf0, nf1, nf2, nf3, nf4]
  refine st_value (v := (.int .i64 ((-(q : Int) - 1) + 1))) (by rfl) (run_add_in (.tmp 10) (.const (.int .i64 1)) rfl rfl rfl (by omega) w) ?_
  simp only [nf0, nf1, nf2, nf3, nf4]
  refine st_value (v := (.int .i64 (q : Int))) (by rfl) (run_negZ (.tmp 11) rfl (z := (-(q : Int) - 1) + 1) (z' := (q : Int)) rfl (by rw [show (0 : Int) - ((-(q : Int) - 1) + 1) = (q : Int) by omega]; exact IntWalk.i64_in _ (by omega)) w) ?_
  simp only [nf0, nf1, nf2, nf3, nf4]
  refine st_value (v := (.int .u64 ((q : Nat) : Int))) (by rfl) (run_conv_i64_u64 (.tmp 12) rfl Tryd.underlying3 Tryd.underlying31 (z := (q : Int)) (z' := ((q : Nat) : Int)) rfl (by rw [wrap_u64z]; omega) w) ?_
  simp only [nf0, nf1, nf2, nf3, nf4]
  refine st_value (v := (.int .u64 ((2 * q : Nat) : Int))) (by rfl) (run_mulW (.tmp 13) (.const (.int .u64 2)) rfl (m := q) (n := 2) (r := 2 * q) rfl rfl (by omega) (by omega) w) ?_
  simp only [nf0, nf1, nf2, nf3, nf4]
  refine st_value (v := (.int .u64 ((2 * q + 1 : Nat) : Int))) (by rfl) (run_addW (.tmp 14) (.const (.int .u64 1)) rfl (m := 2 * q) (n := 1) rfl rfl (by omega) w) ?_
  simp only [nf0, nf1, nf2, nf3, nf4]
  refine st_mv (.int .u64 ((2 * q + 1 : Nat) : Int)) ?_
  simp only [nf0, nf1, nf2, nf3, nf4]
  refine wpList_nil ?_
  show Code.wp _ _ _ _ _
  refine wp_seq ?_
  refine wp_region_lit ?_
  have O3 : OwnR w w.heap.size 5 eByte (.slice none 0 0) [] := OwnR.nil _ _ _ _
  refine st_mv (.slice none 0 0) ?_
  simp only [nf0, nf1, nf2, nf3, nf4]
  refine wpList_nil ?_
  show Code.wp _ _ _ _ _
  refine wp_seq ?_
  refine wp_block ?_
  refine wp_loop_left (fun n_ a_ wr_ => (fun J5 => ∃ (m : Nat) (ys : List UInt8) (v : Value), n_ = m ∧ a_ = ⟨#[.int .i64 (-(q : Int) - 1), J5 1, .slice none 0 0, .int .u64 ((m : Nat) : Int), v, J5 5, J5 6, J5 7, J5 8, J5 9, J5 10, J5 11, J5 12, J5 13, J5 14, J5 15, J5 16, J5 17, J5 18, J5 19, J5 20, J5 21, J5 22, J5 23, J5 24, J5 25, J5 26, J5 27, J5 28, J5 29, J5 30, J5 31], []⟩ ∧ OwnR wr_ w.heap.size 5 eByte v ys ∧ Below w.heap.size w wr_ ∧ (m < 2 ^ 64) ∧ (ys ++ vb m = vb (2 * q + 1))) (jk a_)) (2 * q + 1) ⟨2 * q + 1, [], (.slice none 0 0), rfl, rfl, O3, bel, (by omega), rfl⟩ ?_
  clear O3
  clear bel
  intro n_ a_ w6 h_
  revert h_
  generalize jk a_ = J5
  rintro ⟨m, ys, v, hms, rfl, O3, bel, hm, he⟩
  have hyl : ys.length ≤ 10 := by have := congrArg List.length he; simp only [List.length_append] at this; omega
  refine wp_seq ?_
  refine wp_seq ?_
  refine wp_region_lit ?_
  refine st_mv (.int .u64 ((m : Nat) : Int)) ?_
  simp only [nf0, nf1, nf2, nf3, nf4]
  refine st_value (v := (.bool (decide ((127 : Int) < (m : Int))))) (by rfl) (run_gtr (.tmp 16) (.const (.int .u64 127)) rfl rfl rfl w6) ?_
  simp only [nf0, nf1, nf2, nf3, nf4]
  refine wpList_nil ?_
  show Code.wp _ _ _ _ _
  cases hg7 : decide ((127 : Int) < (m : Int))
  · have hp8 := of_decide_eq_false hg7
    refine wp_cond_false rfl ?_
    refine wp_exit ?_
    show Code.wp _ _ _ _ _
    refine wp_seq ?_
    refine wp_region_lit ?_
    refine st_mv v ?_
    simp only [nf0, nf1, nf2, nf3, nf4]
    refine st_mv (.int .u64 ((m : Nat) : Int)) ?_
    simp only [nf0, nf1, nf2, nf3, nf4]
    refine st_value (v := (.int .u8 ((UInt8.ofNat m).toNat : Int))) (by rfl) (run_conv_u64_u8 (.tmp 28) rfl Tryd.underlying31 Tryd.underlying5 (z := (m : Int)) (z' := ((UInt8.ofNat m).toNat : Int)) rfl (by rw [wrap_u8, ofNat_toNat (by omega)]; omega) w6) ?_
    simp only [nf0, nf1, nf2, nf3, nf4]
    refine st_lit (by rfl) (e1_run_lit_22_1 (.tmp 29) rfl rfl _) ?_
    intro g9 w10 B11 hb12 lo13
    simp only [nf0, nf1, nf2, nf3, nf4]
    have n14 := O3.off lo13
    replace lo13 := low_le bel lo13
    replace O3 := O3.same hb12
    replace bel := bl_step bel hb12
    clear hb12
    refine st_append slByte rfl (.tmp 27) (.tmp 30) rfl rfl O3 ([UInt8.ofNat m] : List UInt8) rfl rfl B11 (by simp [Enc.all, eByte]) (by simp only [List.length_cons, List.length_nil]; omega) bel.size ?_
    intro v15 w16 O17 hg18 hat19
    simp only [nf0, nf1, nf2, nf3, nf4]
    replace bel := bl_app bel O3 hg18
    clear O3 hg18 hat19
    refine st_mv v15 ?_
    simp only [nf0, nf1, nf2, nf3, nf4]
    refine wpList_nil ?_
    show Code.wp _ _ _ _ _
    refine wp_ret ?_
    first | show bodyPost _ _ _ _ _ _ | (simp only [Exit.then, Exit.inBlock]; show bodyPost _ _ _ _ _ _)
    exact bodyPost_ret (results_tmp rfl _ _ _) rfl ⟨_, rfl, by have h := O17; rw [← vb_low (by omega), he, ← hz] at h; exact h, bel⟩
  have hp20 := of_decide_eq_true hg7
  refine wp_cond_true rfl ?_
  refine wp_skip ?_
  show Code.wp _ _ _ _ _
  refine wp_block ?_
  refine wp_seq ?_
  refine wp_region_lit ?_
  refine st_mv v ?_
  simp only [nf0, nf1, nf2, nf3, nf4]
  refine st_mv (.int .u64 ((m : Nat) : Int)) ?_
  simp only [nf0, nf1, nf2, nf3, nf4]
  refine st_value (v := (.int .u64 ((m % 128 : Nat) : Int))) (by rfl) (run_remK (.tmp 19) (.const (.int .u64 128)) rfl (m := m) (n := 128) rfl rfl (by omega) w6) ?_
  simp only [nf0, nf1, nf2, nf3, nf4]
  refine st_value (v := (.int .u8 ((m % 128 : Nat) : Int))) (by rfl) (run_conv_u64_u8 (.tmp 20) rfl Tryd.underlying31 Tryd.underlying5 (z := ((m % 128 : Nat) : Int)) (z' := ((m % 128 : Nat) : Int)) rfl (by rw [wrap_u8]; omega) w6) ?_
  simp only [nf0, nf1, nf2, nf3, nf4]
  refine st_value (v := (.int .u8 ((UInt8.ofNat (m % 128 + 128)).toNat : Int))) (by rfl) (run_add8 (.tmp 21) (.const (.int .u8 128)) rfl (m := m % 128) (n := 128) rfl rfl (r := (UInt8.ofNat (m % 128 + 128)).toNat) (by rw [ofNat_toNat (by omega)]; omega) w6) ?_
  simp only [nf0, nf1, nf2, nf3, nf4]
  refine st_lit (by rfl) (e1_run_lit_22_1 (.tmp 22) rfl rfl _) ?_
  intro g21 w22 B23 hb24 lo25
  simp only [nf0, nf1, nf2, nf3, nf4]
  have n26 := O3.off lo25
  replace lo25 := low_le bel lo25
  replace O3 := O3.same hb24
  replace bel := bl_step bel hb24
  clear hb24
  refine st_append slByte rfl (.tmp 18) (.tmp 23) rfl rfl O3 ([UInt8.ofNat (m % 128 + 128)] : List UInt8) rfl rfl B23 (by simp [Enc.all, eByte]) (by simp only [List.length_cons, List.length_nil]; omega) bel.size ?_
  intro v27 w28 O29 hg30 hat31
  simp only [nf0, nf1, nf2, nf3, nf4]
  replace bel := bl_app bel O3 hg30
  clear O3 hg30 hat31
  refine st_mv v27 ?_
  simp only [nf0, nf1, nf2, nf3, nf4]
  refine wpList_nil ?_
  show Code.wp _ _ _ _ _
  refine wp_region_lit ?_
  refine st_mv (.int .u64 ((m : Nat) : Int)) ?_
  simp only [nf0, nf1, nf2, nf3, nf4]
  refine st_value (v := (.int .u64 ((m / 128 : Nat) : Int))) (by rfl) (run_quoW (.tmp 25) (.const (.int .u64 128)) rfl (m := m) (n := 128) rfl rfl (by omega) (by omega) w28) ?_
  simp only [nf0, nf1, nf2, nf3, nf4]
  refine st_mv (.int .u64 ((m / 128 : Nat) : Int)) ?_
  simp only [nf0, nf1, nf2, nf3, nf4]
  refine wpList_nil ?_
  show ∃ m, m < _ ∧ _
  exact ⟨_, (by omega), (m / 128), _, v27, rfl, rfl, O29, bel, (by omega), (by rw [← he, vb_high (u := m) (by omega), List.append_assoc]; rfl)⟩
theorem refInt_calls {n : Int} (hn : -9223372036854775808 ≤ n ∧ n ≤ 9223372036854775807) (w : World) : Calls Tryd.prog 10 #[.int .i64 n] w fun e w' => ∃ v, e = .returned v ∧ OwnR w' w.heap.size 5 eByte v (vb (zig n)) ∧ Below w.heap.size w w' := by
  by_cases h : 0 ≤ n
  · obtain ⟨q, rfl⟩ : ∃ q : Nat, n = (q : Int) := ⟨n.toNat, by omega⟩
    exact refInt_pos (by omega) w
  · obtain ⟨q, rfl⟩ : ∃ q : Nat, n = -(q : Int) - 1 := ⟨(-n - 1).toNat, by omega⟩
    exact refInt_neg (by omega) w
end Go.Proofs.YtckmihjekgbcmaaDoor

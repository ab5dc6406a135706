/- What the law RingPlays does. -/
import Derived.Test.YtdhhcjhinpmeeaaRingPre2
namespace Go.Proofs.Ytdhhcjhinpmeeaa
open Go.RowKit Go.WideShapes Go.ChangeShapes
set_option linter.unusedSimpArgs false
set_option linter.unusedVariables false

theorem p_zero_40 : ZeroOf Try.prog 40 #[.int .u64 0, .int .i64 0, .int .i64 0] := zeroOf (z := .agg #[.int .u64 0, .int .i64 0, .int .i64 0]) (by kernel_rfl) rfl
theorem p_run_call_7_1 {o : Oper} {a : Act} (x0 : Operand) {ts : Array TypeId} (ho : o.op = .call { callee := .value (.func 7), args := #[x0], argTypes := ts }) {v0 : Value} (h0 : a.eval x0 = v0) (W : World) : (execOp a.eval o).run Try.prog W = .ok (.enter 7 #[v0]) W := by
  unfold execOp
  simp only [ho]
  subst h0
  go_simp
theorem p_run_call_12_0 {o : Oper} {a : Act}  {ts : Array TypeId} (ho : o.op = .call { callee := .value (.func 12), args := #[], argTypes := ts })  (W : World) : (execOp a.eval o).run Try.prog W = .ok (.enter 12 #[]) W := by
  unfold execOp
  simp only [ho]
  go_simp
theorem p_run_call_16_1 {o : Oper} {a : Act} (x0 : Operand) {ts : Array TypeId} (ho : o.op = .call { callee := .value (.func 16), args := #[x0], argTypes := ts }) {v0 : Value} (h0 : a.eval x0 = v0) (W : World) : (execOp a.eval o).run Try.prog W = .ok (.enter 16 #[v0]) W := by
  unfold execOp
  simp only [ho]
  subst h0
  go_simp
theorem p_run_call_17_1 {o : Oper} {a : Act} (x0 : Operand) {ts : Array TypeId} (ho : o.op = .call { callee := .value (.func 17), args := #[x0], argTypes := ts }) {v0 : Value} (h0 : a.eval x0 = v0) (W : World) : (execOp a.eval o).run Try.prog W = .ok (.enter 17 #[v0]) W := by
  unfold execOp
  simp only [ho]
  subst h0
  go_simp
theorem p_run_call_19_3 {o : Oper} {a : Act} (x0 : Operand) (x1 : Operand) (x2 : Operand) {ts : Array TypeId} (ho : o.op = .call { callee := .value (.func 19), args := #[x0, x1, x2], argTypes := ts }) {v0 : Value} (h0 : a.eval x0 = v0) {v1 : Value} (h1 : a.eval x1 = v1) {v2 : Value} (h2 : a.eval x2 = v2) (W : World) : (execOp a.eval o).run Try.prog W = .ok (.enter 19 #[v0, v1, v2]) W := by
  unfold execOp
  simp only [ho]
  subst h0 h1 h2
  go_simp

attribute [local irreducible] Go.wpList Go.Code.wp
set_option maxRecDepth 100000 in
set_option maxHeartbeats 4000000 in
theorem ringPlays_calls (room from_ : Int) (A : Option Addr) (xs : List Op3) (cap : Nat) (hcap : xs.length ≤ cap) (w : World) (hr : Reads w A (eOp.all xs)) :
    Calls Try.prog 5 #[.int .i64 room, .int .i64 from_, .slice A xs.length cap] w fun e w' => e = .returned (.bool true) ∧ Below w.heap.size w w' := by
  have bel : Below w.heap.size w w := Below.refl _ _
  obtain ⟨N, hN⟩ : ∃ N : Nat, max 0 (min room 4096) = (N : Int) := ⟨(max 0 (min room 4096)).toNat, by omega⟩
  go_enter Try.func5, Try.ntmps5
  refine wp_seq ?_
  refine wp_region_lit ?_
  refine st_mv (.bool false) ?_
  simp only [nf0, nf1, nf2, nf3, nf4]
  refine wpList_nil ?_
  show Code.wp _ _ _ _ _
  refine wp_seq ?_
  refine wp_region_lit ?_
  refine st_mv (.slice A xs.length cap) ?_
  simp only [nf0, nf1, nf2, nf3, nf4]
  refine st_mv (.slice A xs.length cap) ?_
  simp only [nf0, nf1, nf2, nf3, nf4]
  refine st_value (v := (.int .i64 (xs.length : Int))) (by rfl) (run_len (.tmp 14) rfl ⟨_, Try.underlying36⟩ rfl w) ?_
  simp only [nf0, nf1, nf2, nf3, nf4]
  refine st_value (v := (.int .i64 (min (xs.length : Int) 60))) (by rfl) (run_min2 (.tmp 15) (.const (.int .i64 60)) rfl rfl rfl w) ?_
  simp only [nf0, nf1, nf2, nf3, nf4]
  have R1 := hr.takeE 60
  refine st_value (v := (.slice A (xs.take 60).length cap)) (by rfl) (run_cut_take (.tmp 13) (.tmp 16) rfl Try.underlying36 slOp.sz rfl 60 rfl rfl hcap w) ?_
  simp only [nf0, nf1, nf2, nf3, nf4]
  refine st_mv (.slice A (xs.take 60).length cap) ?_
  simp only [nf0, nf1, nf2, nf3, nf4]
  refine wpList_nil ?_
  show Code.wp _ _ _ _ _
  refine wp_seq ?_
  have hl1 : (xs.take 60).length ≤ 60 := by rw [List.length_take]; omega
  generalize hz : xs.take 60 = zs at *
  clear hz
  refine wp_region_lit ?_
  refine st_mv (.int .i64 room) ?_
  simp only [nf0, nf1, nf2, nf3, nf4]
  refine st_call (by rfl) (p_run_call_7_1 (.tmp 18) rfl rfl _) (new_calls (X := room) (N := N) hN w) ?_
  rintro _ w8 ⟨r2, b3, rfl, R4, lo5, lo6, hf9⟩
  simp only [nf0, nf1, nf2, nf3, nf4]
  replace lo5 := low_le bel lo5
  replace lo6 := low_le bel lo6
  replace bel := bl_step bel hf9
  clear hf9
  have ne7 : r2 ≠ b3 := Rg.nerb R4
  refine st_mv (.pointer (some ⟨r2, 0, none⟩)) ?_
  simp only [nf0, nf1, nf2, nf3, nf4]
  refine wpList_nil ?_
  show Code.wp _ _ _ _ _
  refine wp_seq ?_
  refine wp_seq ?_
  refine wp_region_lit ?_
  refine st_mv (.pointer (some ⟨r2, 0, none⟩)) ?_
  simp only [nf0, nf1, nf2, nf3, nf4]
  refine st_value (v := (.bool false)) (by rfl) (run_eqnil (.tmp 20) (.const (.pointer none)) rfl Try.underlying23 (p := some ⟨r2, 0, none⟩) (b := false) rfl rfl rfl w8) ?_
  simp only [nf0, nf1, nf2, nf3, nf4]
  refine st_mv (.bool false) ?_
  simp only [nf0, nf1, nf2, nf3, nf4]
  refine st_mv (.pointer (some ⟨r2, 0, none⟩)) ?_
  simp only [nf0, nf1, nf2, nf3, nf4]
  refine st_call1 (v := (.int .i64 (N : Int))) (by rfl) (p_run_call_16_1 (.tmp 23) rfl rfl _) (room_rg R4) ?_
  intro w10 hb11
  simp only [nf0, nf1, nf2, nf3, nf4]
  replace R4 := R4.below hb11
  replace bel := bl_step bel hb11
  clear hb11
  refine st_mv (.int .i64 room) ?_
  simp only [nf0, nf1, nf2, nf3, nf4]
  refine st_call1 (v := (.int .i64 (N : Int))) (by rfl) (p_run_call_17_1 (.tmp 25) rfl rfl _) (refRoom_N hN w10) ?_
  intro w12 hb13
  simp only [nf0, nf1, nf2, nf3, nf4]
  replace R4 := R4.below hb13
  replace bel := bl_step bel hb13
  clear hb13
  refine st_value (v := (.bool false)) (by rfl) (run_neq_int_t (.tmp 24) (.tmp 26) rfl rfl rfl rfl w12) ?_
  simp only [nf0, nf1, nf2, nf3, nf4]
  refine st_mv (.bool false) ?_
  simp only [nf0, nf1, nf2, nf3, nf4]
  refine wpList_nil ?_
  show Code.wp _ _ _ _ _
  refine wp_cond_false rfl ?_
  refine wp_skip ?_
  show Code.wp _ _ _ _ _
  refine wp_seq ?_
  refine wp_region_lit ?_
  have O14 : OwnR w12 w.heap.size 3 (eInt .i64) (.slice none 0 0) [] := OwnR.nil _ _ _ _
  have n16 := Off.nil r2
  have n17 := Off.nil b3
  refine st_mv (.slice none 0 0) ?_
  simp only [nf0, nf1, nf2, nf3, nf4]
  refine wpList_nil ?_
  show Code.wp _ _ _ _ _
  refine wp_seq ?_
  refine wp_seq ?_
  refine wp_region_lit ?_
  refine st_mv (.slice A zs.length cap) ?_
  simp only [nf0, nf1, nf2, nf3, nf4]
  refine st_value (v := (.int .i64 (zs.length : Int))) (by rfl) (run_len (.tmp 29) rfl ⟨_, Try.underlying36⟩ rfl w12) ?_
  simp only [nf0, nf1, nf2, nf3, nf4]
  refine st_mv (.int .i64 0) ?_
  simp only [nf0, nf1, nf2, nf3, nf4]
  refine wpList_nil ?_
  show Code.wp _ _ _ _ _
  refine wp_block ?_
  refine wp_loop_left (fun n_ a_ wr_ => (fun J18 => ∃ (i : Nat) (ys : List Int) (v : Value), n_ = zs.length - i ∧ a_ = ⟨#[.int .i64 room, .int .i64 from_, .slice A zs.length cap, J18 3, J18 4, J18 5, J18 6, .pointer (some ⟨r2, 0, none⟩), v, J18 9, J18 10, J18 11, J18 12, J18 13, J18 14, J18 15, J18 16, J18 17, J18 18, J18 19, J18 20, J18 21, J18 22, J18 23, J18 24, J18 25, J18 26, J18 27, J18 28, .slice A zs.length cap, .int .i64 (zs.length : Int), .int .i64 (i : Int), J18 32, J18 33, J18 34, J18 35, J18 36, J18 37, J18 38, J18 39, J18 40, J18 41, J18 42, J18 43, J18 44, J18 45, J18 46, J18 47, J18 48, J18 49, J18 50, J18 51, J18 52, J18 53, J18 54, J18 55, J18 56, J18 57, J18 58, J18 59, J18 60, J18 61, J18 62, J18 63, J18 64, J18 65, J18 66, J18 67], []⟩ ∧ Rg wr_ r2 b3 N ys ∧ OwnR wr_ w.heap.size 3 (eInt .i64) v ys ∧ Off v r2 ∧ Off v b3 ∧ Below w.heap.size w wr_ ∧ (i ≤ zs.length)) (jk a_)) (zs.length - 0) ⟨0, [], (.slice none 0 0), rfl, rfl, R4, O14, n16, n17, bel, Nat.zero_le _⟩ ?_
  clear R4
  clear O14
  clear n16 n17
  clear bel
  intro n_ a_ w21 h_
  revert h_
  generalize jk a_ = J18
  rintro ⟨i, ys, v, hms, rfl, R4, O14, n19, n20, bel, hi⟩
  refine wp_seq ?_
  refine wp_region_lit ?_
  refine st_value (v := (.bool (decide ((i : Int) < (zs.length : Int))))) (by rfl) (run_lss (.tmp 31) (.tmp 30) rfl rfl rfl w21) ?_
  simp only [nf0, nf1, nf2, nf3, nf4]
  refine wpList_nil ?_
  show Code.wp _ _ _ _ _
  refine wp_seq ?_
  cases hg22 : decide ((i : Int) < (zs.length : Int))
  · have hp23 := of_decide_eq_false hg22
    refine wp_cond_false rfl ?_
    refine wp_exit ?_
    show Code.wp _ _ _ _ _
    refine wp_seq ?_
    obtain ⟨A24, c25, rfl, hc26, _, _, _⟩ := O14.reads
    refine wp_region_lit ?_
    refine st_mv (.pointer (some ⟨r2, 0, none⟩)) ?_
    simp only [nf0, nf1, nf2, nf3, nf4]
    refine st_mv (.slice A24 ys.length c25) ?_
    simp only [nf0, nf1, nf2, nf3, nf4]
    refine st_mv (.int .i64 from_) ?_
    simp only [nf0, nf1, nf2, nf3, nf4]
    refine st_call1 (v := (.bool true)) (by rfl) (p_run_call_19_3 (.tmp 61) (.tmp 62) (.tmp 63) rfl rfl rfl rfl _) (alike_rg R4 (A := A24) (cap := c25) (OwnR.rdI O14)) ?_
    intro w27 hb28
    simp only [nf0, nf1, nf2, nf3, nf4]
    replace R4 := R4.below hb28
    replace O14 := O14.same hb28
    replace bel := bl_step bel hb28
    clear hb28
    refine st_mv (.bool true) ?_
    simp only [nf0, nf1, nf2, nf3, nf4]
    refine st_call1 (v := (.bool true)) (by rfl) (p_run_call_12_0  rfl  _) (lives_calls w27) ?_
    intro w29 hb30
    simp only [nf0, nf1, nf2, nf3, nf4]
    replace R4 := R4.below hb30
    replace O14 := O14.same hb30
    replace bel := bl_step bel hb30
    clear hb30
    refine st_mv (.bool true) ?_
    simp only [nf0, nf1, nf2, nf3, nf4]
    refine st_mv (.bool true) ?_
    simp only [nf0, nf1, nf2, nf3, nf4]
    refine wpList_nil ?_
    show Code.wp _ _ _ _ _
    refine wp_ret ?_
    first | show bodyPost _ _ _ _ _ _ | (simp only [Exit.then, Exit.inBlock]; show bodyPost _ _ _ _ _ _)
    exact bodyPost_ret (results_tmp rfl _ _ _) rfl ⟨rfl, bel⟩
  have hp31 := of_decide_eq_true hg22
  refine wp_cond_true rfl ?_
  refine wp_skip ?_
  show Code.wp _ _ _ _ _
  refine wp_seq ?_
  refine wp_block ?_
  refine wp_seq ?_
  obtain ⟨b32, o33, rfl, _⟩ := (R1.same bel).at_ (by rw [Enc.all_length]; exact Nat.mul_pos (by omega) (by decide))
  obtain ⟨A34, c35, rfl, hc36, _, _, _⟩ := O14.reads
  refine wp_region_lit ?_
  refine st_value (v := (.pointer (some ⟨b32, o33 + i * 3, none⟩))) (by rfl) (run_indexAddrN (.tmp 29) (.tmp 31) rfl Try.underlying36 slOp.sz (i := i) rfl rfl (by omega) w21) ?_
  simp only [nf0, nf1, nf2, nf3, nf4]
  refine st_value (v := (.agg #[.int .u64 ((opAt zs i).1 : Int), .int .i64 ((opAt zs i).2.1), .int .i64 ((opAt zs i).2.2)])) (by rfl) (run_loadE (E := eOp) (.tmp 33) rfl aggOp rfl (R1.same bel) (opAt_get (by omega))) ?_
  simp only [nf0, nf1, nf2, nf3, nf4]
  refine st_new (cs := #[.int .u64 0, .int .i64 0, .int .i64 0]) (t := 40) (by rfl) (run_allocV rfl p_zero_40 _) ?_
  intro g37 w38 B39 hb40 lo41
  simp only [nf0, nf1, nf2, nf3, nf4]
  have n42 : r2 ≠ g37 := Nat.ne_of_lt (Nat.lt_of_lt_of_le R4.ltr lo41)
  have n43 : b3 ≠ g37 := Nat.ne_of_lt (Nat.lt_of_lt_of_le R4.ltb lo41)
  have n44 := O14.off lo41
  replace lo41 := low_le bel lo41
  replace R4 := R4.below hb40
  replace O14 := O14.same hb40
  replace bel := bl_step bel hb40
  clear hb40
  refine st_row (by rfl) (run_storeW (.tmp 10) (.tmp 34) rfl (cs := #[.int .u64 ((opAt zs i).1 : Int), .int .i64 ((opAt zs i).2.1), .int .i64 ((opAt zs i).2.2)]) aggOp rfl rfl B39 rfl (by simp [Value.oneCell'])) B39 ?_
  intro w45 B47 hg46
  simp only [nf0, nf1, nf2, nf3, nf4]
  replace R4 := R4.kept hg46 n42 n43
  replace O14 := O14.keptB hg46 n44
  replace bel := bl_kept0 bel hg46 lo41
  clear hg46
  clear B39
  refine wpList_nil ?_
  show Code.wp _ _ _ _ _
  refine wp_seq_join2 (fun a_ wr_ => ∃ (v50 : Value) (xs51 : List Int), a_ = ⟨#[.int .i64 room, .int .i64 from_, .slice (some ⟨b32, o33, none⟩) zs.length cap, J18 3, J18 4, J18 5, J18 6, .pointer (some ⟨r2, 0, none⟩), .slice A34 ys.length c35, J18 9, .pointer (some ⟨g37, 0, none⟩), v50, .bool true, J18 13, J18 14, J18 15, J18 16, J18 17, J18 18, J18 19, J18 20, J18 21, J18 22, J18 23, J18 24, J18 25, J18 26, J18 27, J18 28, .slice (some ⟨b32, o33, none⟩) zs.length cap, .int .i64 (zs.length : Int), .int .i64 (i : Int), .bool true, .pointer (some ⟨b32, o33 + i * 3, none⟩), .agg #[.int .u64 ((opAt zs i).1 : Int), .int .i64 ((opAt zs i).2.1), .int .i64 ((opAt zs i).2.2)], .tuple #[v50, .bool true], .pointer (some ⟨r2, 0, none⟩), .slice A34 ys.length c35, .int .i64 room, .int .i64 (N : Int), .agg #[.int .u64 ((opAt zs i).1 : Int), .int .i64 ((opAt zs i).2.1), .int .i64 ((opAt zs i).2.2)], .tuple #[v50, .bool true], v50, .bool true, J18 44, J18 45, J18 46, J18 47, J18 48, J18 49, J18 50, J18 51, J18 52, J18 53, J18 54, J18 55, J18 56, J18 57, J18 58, J18 59, J18 60, J18 61, J18 62, J18 63, J18 64, J18 65, J18 66, J18 67], []⟩ ∧ Rg wr_ r2 b3 N xs51 ∧ OwnR wr_ w.heap.size 3 (eInt .i64) v50 xs51 ∧ (v50.ownBlock = Value.ownBlock (.slice A34 ys.length c35) ∨ ∀ k, v50.ownBlock = some k → w45.heap.size ≤ k) ∧ Fr [r2, b3] w45 wr_) ?_ ?_
  · intro Q_ hQ_
    have HR : ∀ W, Below w45.heap.size w45 W → Rg W r2 b3 N ys := fun W h => R4.below h
    have HO : ∀ W, Below w45.heap.size w45 W → OwnR W w.heap.size 3 (eInt .i64) (.slice A34 ys.length c35) ys := fun W h => O14.same h
    have HS : ∀ W, Below w45.heap.size w45 W → w.heap.size ≤ W.heap.size := fun W h => Nat.le_trans bel.size h.size
    have c0 : w45.cell? ⟨g37, 0, none⟩ = some (.int .u64 ((opAt zs i).1 : Int)) := B47.cell 0
    have c1 : w45.cell? ⟨g37, 1, none⟩ = some (.int .i64 ((opAt zs i).2.1)) := B47.cell 1
    have c2 : w45.cell? ⟨g37, 2, none⟩ = some (.int .i64 ((opAt zs i).2.2)) := B47.cell 2
    go_region_with (first | (go_at_call 17; refine (refRoom_same hN _).mono ?_; rintro e w' ⟨rfl, rfl⟩) | (go_at_call 18; refine (do_calls (HR _ (by first | exact bl_drewN (Below.refl _ _) _ | exact bl_drew (Below.refl _ _) | exact Below.refl _ _)) (HO _ (by first | exact bl_drewN (Below.refl _ _) _ | exact bl_drew (Below.refl _ _) | exact Below.refl _ _)) hc36 (HS _ (by first | exact bl_drewN (Below.refl _ _) _ | exact bl_drew (Below.refl _ _) | exact Below.refl _ _)) n19 n20 _ _ _).mono ?_; rintro e w56 ⟨_, rfl, v50, xs51, rfl, R48, O49, hat52, hf57⟩))
    all_goals exact hQ_ _ _ ⟨_, _, rfl, R48, O49, (by exact hat52), (by first | exact fr_call (Fr.of_below (bl_drew (Below.refl _ _))) hf57 (fun j hj => .inl hj) | exact fr_call (Fr.of_below (bl_drewN (Below.refl _ _) _)) hf57 (fun j hj => .inl hj) | exact hf57)⟩
  rintro a_ w56 ⟨v50, xs51, rfl, R48, O49, hat52, hf57⟩
  replace B47 := B47.fr hf57 (ni2 n42.symm n43.symm)
  have n58 := Off.hat n19 R4.ltr hat52
  have n59 := Off.hat n20 R4.ltb hat52
  replace bel := bl_call bel hf57 (lo2 lo5 lo6)
  clear R4 O14 hf57
  clear hat52
  obtain ⟨A53, c54, rfl, hc55, _, _, _⟩ := O49.reads
  refine wp_seq ?_
  refine wp_seq ?_
  refine wp_region_lit ?_
  refine st_mv (.bool true) ?_
  simp only [nf0, nf1, nf2, nf3, nf4]
  refine st_value (v := (.bool false)) (by rfl) (run_not (.tmp 44) rfl (b := true) rfl w56) ?_
  simp only [nf0, nf1, nf2, nf3, nf4]
  refine st_mv (.bool false) ?_
  simp only [nf0, nf1, nf2, nf3, nf4]
  refine st_mv (.pointer (some ⟨r2, 0, none⟩)) ?_
  simp only [nf0, nf1, nf2, nf3, nf4]
  refine st_mv (.slice A53 xs51.length c54) ?_
  simp only [nf0, nf1, nf2, nf3, nf4]
  refine st_call1 (v := (.bool true)) (by rfl) (p_run_call_19_3 (.tmp 47) (.tmp 48) (.const (.int .i64 0)) rfl rfl rfl rfl _) (alike_rg R48 (A := A53) (cap := c54) (OwnR.rdI O49)) ?_
  intro w60 hb61
  simp only [nf0, nf1, nf2, nf3, nf4]
  replace R48 := R48.below hb61
  replace B47 := B47.below hb61
  replace O49 := O49.same hb61
  replace bel := bl_step bel hb61
  clear hb61
  refine st_value (v := (.bool false)) (by rfl) (run_not (.tmp 49) rfl (b := true) rfl w60) ?_
  simp only [nf0, nf1, nf2, nf3, nf4]
  refine st_mv (.bool false) ?_
  simp only [nf0, nf1, nf2, nf3, nf4]
  refine st_mv (.bool false) ?_
  simp only [nf0, nf1, nf2, nf3, nf4]
  refine st_mv (.pointer (some ⟨r2, 0, none⟩)) ?_
  simp only [nf0, nf1, nf2, nf3, nf4]
  refine st_mv (.slice A53 xs51.length c54) ?_
  simp only [nf0, nf1, nf2, nf3, nf4]
  refine st_mv (.int .i64 from_) ?_
  simp only [nf0, nf1, nf2, nf3, nf4]
  refine st_call1 (v := (.bool true)) (by rfl) (p_run_call_19_3 (.tmp 53) (.tmp 54) (.tmp 55) rfl rfl rfl rfl _) (alike_rg R48 (A := A53) (cap := c54) (OwnR.rdI O49)) ?_
  intro w62 hb63
  simp only [nf0, nf1, nf2, nf3, nf4]
  replace R48 := R48.below hb63
  replace B47 := B47.below hb63
  replace O49 := O49.same hb63
  replace bel := bl_step bel hb63
  clear hb63
  refine st_value (v := (.bool false)) (by rfl) (run_not (.tmp 56) rfl (b := true) rfl w62) ?_
  simp only [nf0, nf1, nf2, nf3, nf4]
  refine st_mv (.bool false) ?_
  simp only [nf0, nf1, nf2, nf3, nf4]
  refine wpList_nil ?_
  show Code.wp _ _ _ _ _
  refine wp_cond_false rfl ?_
  refine wp_skip ?_
  show Code.wp _ _ _ _ _
  refine wp_region_lit ?_
  refine st_mv (.slice A53 xs51.length c54) ?_
  simp only [nf0, nf1, nf2, nf3, nf4]
  refine st_mv (.slice A53 xs51.length c54) ?_
  simp only [nf0, nf1, nf2, nf3, nf4]
  refine wpList_nil ?_
  show Code.wp _ _ _ _ _
  refine wp_region_lit ?_
  refine st_value (v := (.int .i64 ((i : Int) + 1))) (by rfl) (run_add_in (.tmp 31) (.const (.int .i64 1)) rfl rfl rfl (by omega) w62) ?_
  simp only [nf0, nf1, nf2, nf3, nf4]
  refine st_mv (.int .i64 ((i : Int) + 1)) ?_
  simp only [nf0, nf1, nf2, nf3, nf4]
  refine wpList_nil ?_
  show ∃ m, m < _ ∧ _
  exact ⟨_, (by omega), (i + 1), xs51, (.slice A53 xs51.length c54), rfl, rfl, R48, O49, n58, n59, bel, (by omega)⟩
end Go.Proofs.Ytdhhcjhinpmeeaa

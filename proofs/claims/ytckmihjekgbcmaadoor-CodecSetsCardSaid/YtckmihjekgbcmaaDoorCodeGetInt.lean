/- codec's GetInt. -/
import Derived.Test.YtckmihjekgbcmaaDoorCodeGets
namespace Go.Proofs.YtckmihjekgbcmaaDoor
open Go.RowKit Go.WideShapes Go.ChangeShapes
set_option linter.unusedSimpArgs false
set_option linter.unusedVariables false

theorem f1_run_call_27_1 {o : Oper} {a : Act} (x0 : Operand) {ts : Array TypeId} (ho : o.op = .call { callee := .value (.func 27), args := #[x0], argTypes := ts }) {v0 : Value} (h0 : a.eval x0 = v0) (W : World) : (execOp a.eval o).run Tryd.prog W = .ok (.enter 27 #[v0]) W := by
  unfold execOp
  simp only [ho]
  subst h0
  go_simp
theorem run_mul7 {P : Program} {o : Oper} {a : Act} {t t' : TypeId} (y : Operand) {k : Nat} (ho : o.op = .binOp .mul t (.const (.int .i64 7)) y t') (hy : a.eval y = .int .i64 (k : Int)) (hk : k ≤ 1000) (W : World) : (execOp a.eval o).run P W = .ok (.value (.int .i64 ((7 * k : Nat) : Int))) W := by
  rw [run_mul_in (.const (.int .i64 7)) y ho rfl hy (by omega) W]
  rw [show (7 : Int) * (k : Int) = ((7 * k : Nat) : Int) by omega]

attribute [local irreducible] Go.wpList Go.Code.wp
set_option maxRecDepth 100000 in
set_option maxHeartbeats 4000000 in
theorem getInt_out {A : Option Addr} (l : List UInt8) (cap : Nat) {i : Int} (hi : i < 0 ∨ (l.length : Int) < i) (w : World) : Calls Tryd.prog 8 #[.slice A l.length cap, .int .i64 i] w fun e w' => e = .returned (.tuple #[.int .i64 0, .int .i64 0, .bool false]) ∧ Below w.heap.size w w' := by
  have bel : Below w.heap.size w w := Below.refl _ _
  go_enter Tryd.func8, Tryd.ntmps8
  refine wp_seq ?_
  refine wp_region_lit ?_
  refine st_mv (.int .i64 0) ?_
  simp only [nf0, nf1, nf2, nf3, nf4]
  refine st_mv (.int .i64 0) ?_
  simp only [nf0, nf1, nf2, nf3, nf4]
  refine st_mv (.bool false) ?_
  simp only [nf0, nf1, nf2, nf3, nf4]
  refine wpList_nil ?_
  show Code.wp _ _ _ _ _
  refine wp_seq ?_
  refine wp_seq ?_
  cases hg1 : decide (i < 0)
  rotate_left
  · have hp6 := of_decide_eq_true hg1
    refine wp_region_lit ?_
    refine st_mv (.int .i64 i) ?_
    simp only [nf0, nf1, nf2, nf3, nf4]
    refine st_value (v := (.bool true)) (by rfl) ((run_lss (.tmp 10) (.const (.int .i64 0)) rfl rfl rfl w).trans (by rw [hg1])) ?_
    simp only [nf0, nf1, nf2, nf3, nf4]
    refine st_mv (.bool true) ?_
    simp only [nf0, nf1, nf2, nf3, nf4]
    refine st_nob (j := 2) (t := 12) (c := true) rfl rfl rfl rfl rfl ?_
    simp only [nf0, nf1, nf2, nf3, nf4]
    refine st_nob (j := 2) (t := 12) (c := true) rfl rfl rfl rfl rfl ?_
    simp only [nf0, nf1, nf2, nf3, nf4]
    refine st_nob (j := 2) (t := 12) (c := true) rfl rfl rfl rfl rfl ?_
    simp only [nf0, nf1, nf2, nf3, nf4]
    refine st_nob (j := 2) (t := 12) (c := true) rfl rfl rfl rfl rfl ?_
    simp only [nf0, nf1, nf2, nf3, nf4]
    refine st_mv (.bool true) ?_
    simp only [nf0, nf1, nf2, nf3, nf4]
    refine wpList_nil ?_
    show Code.wp _ _ _ _ _
    refine wp_cond_true rfl ?_
    refine wp_seq ?_
    refine wp_region_lit ?_
    refine st_mv (.int .i64 0) ?_
    simp only [nf0, nf1, nf2, nf3, nf4]
    refine st_mv (.int .i64 0) ?_
    simp only [nf0, nf1, nf2, nf3, nf4]
    refine st_mv (.bool false) ?_
    simp only [nf0, nf1, nf2, nf3, nf4]
    refine wpList_nil ?_
    show Code.wp _ _ _ _ _
    refine wp_ret ?_
    first | show bodyPost _ _ _ _ _ _ | (simp only [Exit.then, Exit.inBlock]; show bodyPost _ _ _ _ _ _)
    exact bodyPost_ret (results_tmp3 rfl _ _ _) rfl ⟨rfl, bel⟩
  have hp2 := of_decide_eq_false hg1
  refine wp_region_lit ?_
  refine st_mv (.int .i64 i) ?_
  simp only [nf0, nf1, nf2, nf3, nf4]
  refine st_value (v := (.bool false)) (by rfl) ((run_lss (.tmp 10) (.const (.int .i64 0)) rfl rfl rfl w).trans (by rw [hg1])) ?_
  simp only [nf0, nf1, nf2, nf3, nf4]
  refine st_mv (.bool false) ?_
  simp only [nf0, nf1, nf2, nf3, nf4]
  refine st_mv (.int .i64 i) ?_
  simp only [nf0, nf1, nf2, nf3, nf4]
  refine st_mv (.slice A l.length cap) ?_
  simp only [nf0, nf1, nf2, nf3, nf4]
  refine st_value (v := (.int .i64 (l.length : Int))) (by rfl) (run_len (.tmp 14) rfl ⟨_, Tryd.underlying22⟩ rfl w) ?_
  simp only [nf0, nf1, nf2, nf3, nf4]
  refine st_value (v := (.bool (decide ((l.length : Int) < i)))) (by rfl) (run_gtr (.tmp 13) (.tmp 15) rfl rfl rfl w) ?_
  simp only [nf0, nf1, nf2, nf3, nf4]
  refine st_mv (.bool (decide ((l.length : Int) < i))) ?_
  simp only [nf0, nf1, nf2, nf3, nf4]
  refine wpList_nil ?_
  show Code.wp _ _ _ _ _
  cases hg3 : decide ((l.length : Int) < i)
  · have hp4 := of_decide_eq_false hg3
    exfalso
    omega
  have hp5 := of_decide_eq_true hg3
  refine wp_cond_true rfl ?_
  refine wp_seq ?_
  refine wp_region_lit ?_
  refine st_mv (.int .i64 0) ?_
  simp only [nf0, nf1, nf2, nf3, nf4]
  refine st_mv (.int .i64 0) ?_
  simp only [nf0, nf1, nf2, nf3, nf4]
  refine st_mv (.bool false) ?_
  simp only [nf0, nf1, nf2, nf3, nf4]
  refine wpList_nil ?_
  show Code.wp _ _ _ _ _
  refine wp_ret ?_
  first | show bodyPost _ _ _ _ _ _ | (simp only [Exit.then, Exit.inBlock]; show bodyPost _ _ _ _ _ _)
  exact bodyPost_ret (results_tmp3 rfl _ _ _) rfl ⟨rfl, bel⟩
set_option maxRecDepth 100000 in
set_option maxHeartbeats 4000000 in
theorem getInt_in (A : Option Addr) (l : List UInt8) (cap p : Nat) (hcap : l.length ≤ cap) (hl : l.length ≤ 10000000) (hp : p ≤ l.length) (w : World) (hr : Reads w A (eByte.all l)) : Calls Tryd.prog 8 #[.slice A l.length cap, .int .i64 (p : Int)] w fun e w' => e = .returned (gres p (getAt l p)) ∧ Below w.heap.size w w' := by
  have bel : Below w.heap.size w w := Below.refl _ _
  go_enter Tryd.func8, Tryd.ntmps8
  refine wp_seq ?_
  refine wp_region_lit ?_
  refine st_mv (.int .i64 0) ?_
  simp only [nf0, nf1, nf2, nf3, nf4]
  refine st_mv (.int .i64 0) ?_
  simp only [nf0, nf1, nf2, nf3, nf4]
  refine st_mv (.bool false) ?_
  simp only [nf0, nf1, nf2, nf3, nf4]
  refine wpList_nil ?_
  show Code.wp _ _ _ _ _
  refine wp_seq ?_
  refine wp_seq ?_
  cases hg1 : decide ((p : Int) < 0)
  rotate_left
  · have hp42 := of_decide_eq_true hg1
    exfalso
    omega
  have hp2 := of_decide_eq_false hg1
  refine wp_region_lit ?_
  refine st_mv (.int .i64 (p : Int)) ?_
  simp only [nf0, nf1, nf2, nf3, nf4]
  refine st_value (v := (.bool false)) (by rfl) ((run_lss (.tmp 10) (.const (.int .i64 0)) rfl rfl rfl w).trans (by rw [hg1])) ?_
  simp only [nf0, nf1, nf2, nf3, nf4]
  refine st_mv (.bool false) ?_
  simp only [nf0, nf1, nf2, nf3, nf4]
  refine st_mv (.int .i64 (p : Int)) ?_
  simp only [nf0, nf1, nf2, nf3, nf4]
  refine st_mv (.slice A l.length cap) ?_
  simp only [nf0, nf1, nf2, nf3, nf4]
  refine st_value (v := (.int .i64 (l.length : Int))) (by rfl) (run_len (.tmp 14) rfl ⟨_, Tryd.underlying22⟩ rfl w) ?_
  simp only [nf0, nf1, nf2, nf3, nf4]
  refine st_value (v := (.bool (decide ((l.length : Int) < (p : Int))))) (by rfl) (run_gtr (.tmp 13) (.tmp 15) rfl rfl rfl w) ?_
  simp only [nf0, nf1, nf2, nf3, nf4]
  refine st_mv (.bool (decide ((l.length : Int) < (p : Int)))) ?_
  simp only [nf0, nf1, nf2, nf3, nf4]
  refine wpList_nil ?_
  show Code.wp _ _ _ _ _
  cases hg3 : decide ((l.length : Int) < (p : Int))
  rotate_left
  · have hp41 := of_decide_eq_true hg3
    exfalso
    omega
  have hp4 := of_decide_eq_false hg3
  refine wp_cond_false rfl ?_
  refine wp_skip ?_
  show Code.wp _ _ _ _ _
  refine wp_seq ?_
  refine wp_region_lit ?_
  refine st_mv (.int .u64 0) ?_
  simp only [nf0, nf1, nf2, nf3, nf4]
  refine wpList_nil ?_
  show Code.wp _ _ _ _ _
  refine wp_seq ?_
  refine wp_seq ?_
  obtain ⟨B, hB⟩ : ∃ B, B = cutA1 A cap p := ⟨_, rfl⟩
  have hz0 : Reads w B (eByte.all ((l.drop p).take 10)) := by rw [hB]; exact Reads.cutB hr hcap
  have hZ : ((l.drop p).take 10).length ≤ 10 := by rw [List.length_take]; omega
  refine wp_region_lit ?_
  refine st_mv (.slice A l.length cap) ?_
  simp only [nf0, nf1, nf2, nf3, nf4]
  refine st_mv (.int .i64 (p : Int)) ?_
  simp only [nf0, nf1, nf2, nf3, nf4]
  refine st_mv (.slice A l.length cap) ?_
  simp only [nf0, nf1, nf2, nf3, nf4]
  refine st_value (v := (.int .i64 (l.length : Int))) (by rfl) (run_len (.tmp 20) rfl ⟨_, Tryd.underlying22⟩ rfl w) ?_
  simp only [nf0, nf1, nf2, nf3, nf4]
  refine st_mv (.int .i64 (p : Int)) ?_
  simp only [nf0, nf1, nf2, nf3, nf4]
  refine st_value (v := (.int .i64 ((p : Int) + 10))) (by rfl) (run_add_in (.tmp 22) (.const (.int .i64 10)) rfl rfl rfl (by omega) w) ?_
  simp only [nf0, nf1, nf2, nf3, nf4]
  refine st_value (v := (.int .i64 (min (l.length : Int) ((p : Int) + 10)))) (by rfl) (run_min2 (.tmp 21) (.tmp 23) rfl rfl rfl w) ?_
  simp only [nf0, nf1, nf2, nf3, nf4]
  refine st_value (v := (.slice B ((l.drop p).take 10).length (cap - p))) (by rfl) (by rw [hB]; exact run_cut10 (.tmp 18) (.tmp 19) (.tmp 24) rfl Tryd.underlying22 slByte.sz rfl rfl rfl (by omega) hcap w) ?_
  simp only [nf0, nf1, nf2, nf3, nf4]
  refine st_value (v := (.int .i64 (((l.drop p).take 10).length : Int))) (by rfl) (run_len (.tmp 25) rfl ⟨_, Tryd.underlying22⟩ rfl w) ?_
  simp only [nf0, nf1, nf2, nf3, nf4]
  refine st_mv (.int .i64 0) ?_
  simp only [nf0, nf1, nf2, nf3, nf4]
  refine wpList_nil ?_
  show Code.wp _ _ _ _ _
  refine wp_block ?_
  refine wp_loop_left (fun n_ a_ wr_ => (fun J5 => ∃ (k : Nat) (u : Nat), n_ = ((l.drop p).take 10).length - k ∧ a_ = ⟨#[.slice A l.length cap, .int .i64 (p : Int), J5 2, J5 3, J5 4, J5 5, J5 6, .int .u64 ((u : Nat) : Int), J5 8, J5 9, J5 10, J5 11, J5 12, J5 13, J5 14, J5 15, J5 16, J5 17, J5 18, J5 19, J5 20, J5 21, J5 22, J5 23, J5 24, .slice B ((l.drop p).take 10).length (cap - p), .int .i64 (((l.drop p).take 10).length : Int), .int .i64 (k : Int), J5 28, J5 29, J5 30, J5 31, J5 32, J5 33, J5 34, J5 35, J5 36, J5 37, J5 38, J5 39, J5 40, J5 41, J5 42, J5 43, J5 44, J5 45, J5 46, J5 47, J5 48, J5 49, J5 50, J5 51, J5 52, J5 53, J5 54, J5 55, J5 56, J5 57, J5 58, J5 59, J5 60, J5 61, J5 62], []⟩ ∧ Below w.heap.size w wr_ ∧ (u < 2 ^ 64) ∧ (k ≤ ((l.drop p).take 10).length) ∧ (Rdg ((l.drop p).take 10) k u)) (jk a_)) (((l.drop p).take 10).length - 0) ⟨0, 0, rfl, rfl, bel, (by omega), Nat.zero_le _, (rdg_start _)⟩ ?_
  clear bel
  intro n_ a_ w6 h_
  revert h_
  generalize jk a_ = J5
  rintro ⟨k, u, hms, rfl, bel, hum, hk, hs⟩
  refine wp_seq ?_
  refine wp_region_lit ?_
  refine st_value (v := (.bool (decide ((k : Int) < (((l.drop p).take 10).length : Int))))) (by rfl) (run_lss (.tmp 27) (.tmp 26) rfl rfl rfl w6) ?_
  simp only [nf0, nf1, nf2, nf3, nf4]
  refine wpList_nil ?_
  show Code.wp _ _ _ _ _
  refine wp_seq ?_
  cases hg7 : decide ((k : Int) < (((l.drop p).take 10).length : Int))
  · have hp8 := of_decide_eq_false hg7
    refine wp_cond_false rfl ?_
    refine wp_exit ?_
    show Code.wp _ _ _ _ _
    refine wp_seq ?_
    refine wp_region_lit ?_
    refine st_mv (.int .i64 0) ?_
    simp only [nf0, nf1, nf2, nf3, nf4]
    refine st_mv (.int .i64 0) ?_
    simp only [nf0, nf1, nf2, nf3, nf4]
    refine st_mv (.bool false) ?_
    simp only [nf0, nf1, nf2, nf3, nf4]
    refine wpList_nil ?_
    show Code.wp _ _ _ _ _
    refine wp_ret ?_
    first | show bodyPost _ _ _ _ _ _ | (simp only [Exit.then, Exit.inBlock]; show bodyPost _ _ _ _ _ _)
    refine bodyPost_ret (results_tmp3 rfl _ _ _) rfl ⟨?_, bel⟩
    have hg : getAt l p = _ := rdg_over hs (by omega)
    rw [hg]
    exact congrArg Ending.returned (by rfl)
  have hp9 := of_decide_eq_true hg7
  refine wp_cond_true rfl ?_
  refine wp_skip ?_
  show Code.wp _ _ _ _ _
  refine wp_seq ?_
  refine wp_block ?_
  refine wp_seq ?_
  obtain ⟨b10, o11, rfl, _⟩ := (hz0.same bel).at_ (by rw [eByte_all, List.length_map]; omega)
  refine wp_region_lit ?_
  refine st_mv (.int .i64 (k : Int)) ?_
  simp only [nf0, nf1, nf2, nf3, nf4]
  refine st_value (v := (.pointer (some ⟨b10, o11 + k * 1, none⟩))) (by rfl) (run_indexAddrN (.tmp 25) (.tmp 27) rfl Tryd.underlying22 slByte.sz (i := k) rfl rfl (by omega) w6) ?_
  simp only [nf0, nf1, nf2, nf3, nf4]
  refine st_value (v := (.int .u8 ((bt ((l.drop p).take 10) k).toNat : Int))) (by rfl) (run_load1 (.tmp 30) rfl Tryd.underlying5 rfl slByte.sz rfl (Reads.byteAt (hz0.same bel) k (by omega))) ?_
  simp only [nf0, nf1, nf2, nf3, nf4]
  refine st_mv (.int .i64 (k : Int)) ?_
  simp only [nf0, nf1, nf2, nf3, nf4]
  refine st_mv (.int .u8 ((bt ((l.drop p).take 10) k).toNat : Int)) ?_
  simp only [nf0, nf1, nf2, nf3, nf4]
  refine wpList_nil ?_
  show Code.wp _ _ _ _ _
  refine wp_seq ?_
  refine wp_region_lit ?_
  refine st_mv (.int .u64 ((u : Nat) : Int)) ?_
  simp only [nf0, nf1, nf2, nf3, nf4]
  refine st_mv (.int .u8 ((bt ((l.drop p).take 10) k).toNat : Int)) ?_
  simp only [nf0, nf1, nf2, nf3, nf4]
  refine st_value (v := (.int .u8 (((bt ((l.drop p).take 10) k).toNat % 128 : Nat) : Int))) (by rfl) (run_and8 (.tmp 33) (.const (.int .u8 127)) rfl (m := (bt ((l.drop p).take 10) k).toNat) (n := 127) rfl rfl (u8_lt _) (by omega) (r := (bt ((l.drop p).take 10) k).toNat % 128) (and_low (u8_lt _)) w6) ?_
  simp only [nf0, nf1, nf2, nf3, nf4]
  refine st_value (v := (.int .u64 (((bt ((l.drop p).take 10) k).toNat % 128 : Nat) : Int))) (by rfl) (run_conv_u8_u64 (.tmp 34) rfl Tryd.underlying5 Tryd.underlying31 (z := (((bt ((l.drop p).take 10) k).toNat % 128 : Nat) : Int)) (z' := (((bt ((l.drop p).take 10) k).toNat % 128 : Nat) : Int)) rfl (by rw [wrap_u64z]; omega) w6) ?_
  simp only [nf0, nf1, nf2, nf3, nf4]
  refine st_mv (.int .i64 (k : Int)) ?_
  simp only [nf0, nf1, nf2, nf3, nf4]
  refine st_value (v := (.int .i64 ((7 * k : Nat) : Int))) (by rfl) (run_mul7 (.tmp 36) rfl rfl (by omega) w6) ?_
  simp only [nf0, nf1, nf2, nf3, nf4]
  refine st_value (v := (.int .u64 ((pt (bt ((l.drop p).take 10) k) k : Nat) : Int))) (by rfl) (run_shlW (.tmp 35) (.tmp 37) rfl (m := (bt ((l.drop p).take 10) k).toNat % 128) (n := 7 * k) rfl rfl (by omega) (r := pt (bt ((l.drop p).take 10) k) k) rfl w6) ?_
  simp only [nf0, nf1, nf2, nf3, nf4]
  refine st_value (v := (.int .u64 ((u ||| pt (bt ((l.drop p).take 10) k) k : Nat) : Int))) (by rfl) (run_orW (.tmp 32) (.tmp 38) rfl (m := u) (n := pt (bt ((l.drop p).take 10) k) k) rfl rfl hum (pt_lt _ _) w6) ?_
  simp only [nf0, nf1, nf2, nf3, nf4]
  refine st_mv (.int .u64 ((u ||| pt (bt ((l.drop p).take 10) k) k : Nat) : Int)) ?_
  simp only [nf0, nf1, nf2, nf3, nf4]
  refine wpList_nil ?_
  show Code.wp _ _ _ _ _
  refine wp_seq ?_
  refine wp_seq ?_
  refine wp_region_lit ?_
  refine st_mv (.int .u8 ((bt ((l.drop p).take 10) k).toNat : Int)) ?_
  simp only [nf0, nf1, nf2, nf3, nf4]
  refine st_value (v := (.bool (decide (128 ≤ ((bt ((l.drop p).take 10) k).toNat : Int))))) (by rfl) (run_geq (.tmp 40) (.const (.int .u8 128)) rfl rfl rfl w6) ?_
  simp only [nf0, nf1, nf2, nf3, nf4]
  refine wpList_nil ?_
  show Code.wp _ _ _ _ _
  cases hg12 : decide (128 ≤ ((bt ((l.drop p).take 10) k).toNat : Int))
  rotate_left
  · have hp40 := of_decide_eq_true hg12
    refine wp_cond_true rfl ?_
    refine wp_exit ?_
    show Code.wp _ _ _ _ _
    refine wp_region_lit ?_
    refine st_value (v := (.int .i64 ((k : Int) + 1))) (by rfl) (run_add_in (.tmp 27) (.const (.int .i64 1)) rfl rfl rfl (by omega) w6) ?_
    simp only [nf0, nf1, nf2, nf3, nf4]
    refine st_mv (.int .i64 ((k : Int) + 1)) ?_
    simp only [nf0, nf1, nf2, nf3, nf4]
    refine wpList_nil ?_
    show ∃ m, m < _ ∧ _
    exact ⟨_, (by omega), (k + 1), (u ||| pt (bt ((l.drop p).take 10) k) k), rfl, rfl, bel, (Nat.or_lt_two_pow hum (pt_lt _ _)), (by omega), (rdg_cont hs (by omega) hZ (by omega))⟩
  have hp13 := of_decide_eq_false hg12
  refine wp_cond_false rfl ?_
  refine wp_skip ?_
  show Code.wp _ _ _ _ _
  refine wp_seq ?_
  refine wp_seq ?_
  cases hg14 : decide (((bt ((l.drop p).take 10) k).toNat : Int) = 0)
  · have hp15 := of_decide_eq_false hg14
    cases hg16 : decide ((k : Int) = 9)
    · have hp17 := of_decide_eq_false hg16
      refine wp_region_lit ?_
      refine st_mv (.int .u8 ((bt ((l.drop p).take 10) k).toNat : Int)) ?_
      simp only [nf0, nf1, nf2, nf3, nf4]
      refine st_value (v := (.bool false)) (by rfl) ((run_eql_int (.tmp 42) (.const (.int .u8 0)) rfl rfl rfl w6).trans (by rw [hg14])) ?_
      simp only [nf0, nf1, nf2, nf3, nf4]
      refine st_mv (.bool false) ?_
      simp only [nf0, nf1, nf2, nf3, nf4]
      refine st_nob (j := 2) (t := 44) (c := false) rfl rfl rfl rfl rfl ?_
      simp only [nf0, nf1, nf2, nf3, nf4]
      refine st_nob (j := 2) (t := 44) (c := false) rfl rfl rfl rfl rfl ?_
      simp only [nf0, nf1, nf2, nf3, nf4]
      refine st_mv (.bool false) ?_
      simp only [nf0, nf1, nf2, nf3, nf4]
      refine st_mv (.bool false) ?_
      simp only [nf0, nf1, nf2, nf3, nf4]
      refine st_mv (.int .i64 (k : Int)) ?_
      simp only [nf0, nf1, nf2, nf3, nf4]
      refine st_value (v := (.bool false)) (by rfl) ((run_eql_int (.tmp 49) (.const (.int .i64 9)) rfl rfl rfl w6).trans (by rw [hg16])) ?_
      simp only [nf0, nf1, nf2, nf3, nf4]
      refine st_mv (.bool false) ?_
      simp only [nf0, nf1, nf2, nf3, nf4]
      refine st_nob (j := 9) (t := 51) (c := false) rfl rfl rfl rfl rfl ?_
      simp only [nf0, nf1, nf2, nf3, nf4]
      refine st_nob (j := 9) (t := 51) (c := false) rfl rfl rfl rfl rfl ?_
      simp only [nf0, nf1, nf2, nf3, nf4]
      refine st_mv (.bool false) ?_
      simp only [nf0, nf1, nf2, nf3, nf4]
      refine st_mv (.bool false) ?_
      simp only [nf0, nf1, nf2, nf3, nf4]
      refine wpList_nil ?_
      show Code.wp _ _ _ _ _
      refine wp_cond_false rfl ?_
      refine wp_skip ?_
      show Code.wp _ _ _ _ _
      refine wp_seq ?_
      refine wp_region_lit ?_
      refine st_mv (.int .u64 ((u ||| pt (bt ((l.drop p).take 10) k) k : Nat) : Int)) ?_
      simp only [nf0, nf1, nf2, nf3, nf4]
      refine st_call1 (v := (.int .i64 (zag (u ||| pt (bt ((l.drop p).take 10) k) k)))) (by rfl) (f1_run_call_27_1 (.tmp 56) rfl rfl _) (unfold_calls (Nat.or_lt_two_pow hum (pt_lt _ _)) w6) ?_
      intro w18 hb19
      simp only [nf0, nf1, nf2, nf3, nf4]
      replace bel := bl_step bel hb19
      clear hb19
      refine st_mv (.int .i64 (p : Int)) ?_
      simp only [nf0, nf1, nf2, nf3, nf4]
      refine st_mv (.int .i64 (k : Int)) ?_
      simp only [nf0, nf1, nf2, nf3, nf4]
      refine st_value (v := (.int .i64 ((p : Int) + (k : Int)))) (by rfl) (run_add_in (.tmp 58) (.tmp 59) rfl rfl rfl (by omega) w18) ?_
      simp only [nf0, nf1, nf2, nf3, nf4]
      refine st_value (v := (.int .i64 (((p : Int) + (k : Int)) + 1))) (by rfl) (run_add_in (.tmp 60) (.const (.int .i64 1)) rfl rfl rfl (by omega) w18) ?_
      simp only [nf0, nf1, nf2, nf3, nf4]
      refine st_mv (.int .i64 (zag (u ||| pt (bt ((l.drop p).take 10) k) k))) ?_
      simp only [nf0, nf1, nf2, nf3, nf4]
      refine st_mv (.int .i64 (((p : Int) + (k : Int)) + 1)) ?_
      simp only [nf0, nf1, nf2, nf3, nf4]
      refine st_mv (.bool true) ?_
      simp only [nf0, nf1, nf2, nf3, nf4]
      refine wpList_nil ?_
      show Code.wp _ _ _ _ _
      refine wp_ret ?_
      first | show bodyPost _ _ _ _ _ _ | (simp only [Exit.then, Exit.inBlock]; show bodyPost _ _ _ _ _ _)
      refine bodyPost_ret (results_tmp3 rfl _ _ _) rfl ⟨?_, bel⟩
      have hg : getAt l p = _ := rdg_end hs (by omega) hZ (by omega) (by omega)
      rw [hg]
      exact congrArg Ending.returned (by show Value.tuple #[.int .i64 (zag (u ||| pt (bt ((l.drop p).take 10) k) k)), .int .i64 (((p : Int) + (k : Int)) + 1), .bool true] = _; rw [gres, show (((p : Int) + (k : Int)) + 1) = (p : Int) + ((k + 1 : Nat) : Int) by omega])
    have hp20 := of_decide_eq_true hg16
    refine wp_region_lit ?_
    refine st_mv (.int .u8 ((bt ((l.drop p).take 10) k).toNat : Int)) ?_
    simp only [nf0, nf1, nf2, nf3, nf4]
    refine st_value (v := (.bool false)) (by rfl) ((run_eql_int (.tmp 42) (.const (.int .u8 0)) rfl rfl rfl w6).trans (by rw [hg14])) ?_
    simp only [nf0, nf1, nf2, nf3, nf4]
    refine st_mv (.bool false) ?_
    simp only [nf0, nf1, nf2, nf3, nf4]
    refine st_nob (j := 2) (t := 44) (c := false) rfl rfl rfl rfl rfl ?_
    simp only [nf0, nf1, nf2, nf3, nf4]
    refine st_nob (j := 2) (t := 44) (c := false) rfl rfl rfl rfl rfl ?_
    simp only [nf0, nf1, nf2, nf3, nf4]
    refine st_mv (.bool false) ?_
    simp only [nf0, nf1, nf2, nf3, nf4]
    refine st_mv (.bool false) ?_
    simp only [nf0, nf1, nf2, nf3, nf4]
    refine st_mv (.int .i64 (k : Int)) ?_
    simp only [nf0, nf1, nf2, nf3, nf4]
    refine st_value (v := (.bool true)) (by rfl) ((run_eql_int (.tmp 49) (.const (.int .i64 9)) rfl rfl rfl w6).trans (by rw [hg16])) ?_
    simp only [nf0, nf1, nf2, nf3, nf4]
    refine st_mv (.bool true) ?_
    simp only [nf0, nf1, nf2, nf3, nf4]
    refine st_mv (.int .u8 ((bt ((l.drop p).take 10) k).toNat : Int)) ?_
    simp only [nf0, nf1, nf2, nf3, nf4]
    refine st_value (v := (.bool (decide (1 < ((bt ((l.drop p).take 10) k).toNat : Int))))) (by rfl) (run_gtr (.tmp 52) (.const (.int .u8 1)) rfl rfl rfl w6) ?_
    simp only [nf0, nf1, nf2, nf3, nf4]
    refine st_mv (.bool (decide (1 < ((bt ((l.drop p).take 10) k).toNat : Int)))) ?_
    simp only [nf0, nf1, nf2, nf3, nf4]
    refine st_mv (.bool (decide (1 < ((bt ((l.drop p).take 10) k).toNat : Int)))) ?_
    simp only [nf0, nf1, nf2, nf3, nf4]
    refine wpList_nil ?_
    show Code.wp _ _ _ _ _
    cases hg21 : decide (1 < ((bt ((l.drop p).take 10) k).toNat : Int))
    rotate_left
    · have hp25 := of_decide_eq_true hg21
      refine wp_cond_true rfl ?_
      refine wp_seq ?_
      refine wp_region_lit ?_
      refine st_mv (.int .i64 0) ?_
      simp only [nf0, nf1, nf2, nf3, nf4]
      refine st_mv (.int .i64 0) ?_
      simp only [nf0, nf1, nf2, nf3, nf4]
      refine st_mv (.bool false) ?_
      simp only [nf0, nf1, nf2, nf3, nf4]
      refine wpList_nil ?_
      show Code.wp _ _ _ _ _
      refine wp_ret ?_
      first | show bodyPost _ _ _ _ _ _ | (simp only [Exit.then, Exit.inBlock]; show bodyPost _ _ _ _ _ _)
      refine bodyPost_ret (results_tmp3 rfl _ _ _) rfl ⟨?_, bel⟩
      have hg : getAt l p = _ := rdg_bad hs (by omega) hZ (by omega) (by omega)
      rw [hg]
      exact congrArg Ending.returned (by rfl)
    have hp22 := of_decide_eq_false hg21
    refine wp_cond_false rfl ?_
    refine wp_skip ?_
    show Code.wp _ _ _ _ _
    refine wp_seq ?_
    refine wp_region_lit ?_
    refine st_mv (.int .u64 ((u ||| pt (bt ((l.drop p).take 10) k) k : Nat) : Int)) ?_
    simp only [nf0, nf1, nf2, nf3, nf4]
    refine st_call1 (v := (.int .i64 (zag (u ||| pt (bt ((l.drop p).take 10) k) k)))) (by rfl) (f1_run_call_27_1 (.tmp 56) rfl rfl _) (unfold_calls (Nat.or_lt_two_pow hum (pt_lt _ _)) w6) ?_
    intro w23 hb24
    simp only [nf0, nf1, nf2, nf3, nf4]
    replace bel := bl_step bel hb24
    clear hb24
    refine st_mv (.int .i64 (p : Int)) ?_
    simp only [nf0, nf1, nf2, nf3, nf4]
    refine st_mv (.int .i64 (k : Int)) ?_
    simp only [nf0, nf1, nf2, nf3, nf4]
    refine st_value (v := (.int .i64 ((p : Int) + (k : Int)))) (by rfl) (run_add_in (.tmp 58) (.tmp 59) rfl rfl rfl (by omega) w23) ?_
    simp only [nf0, nf1, nf2, nf3, nf4]
    refine st_value (v := (.int .i64 (((p : Int) + (k : Int)) + 1))) (by rfl) (run_add_in (.tmp 60) (.const (.int .i64 1)) rfl rfl rfl (by omega) w23) ?_
    simp only [nf0, nf1, nf2, nf3, nf4]
    refine st_mv (.int .i64 (zag (u ||| pt (bt ((l.drop p).take 10) k) k))) ?_
    simp only [nf0, nf1, nf2, nf3, nf4]
    refine st_mv (.int .i64 (((p : Int) + (k : Int)) + 1)) ?_
    simp only [nf0, nf1, nf2, nf3, nf4]
    refine st_mv (.bool true) ?_
    simp only [nf0, nf1, nf2, nf3, nf4]
    refine wpList_nil ?_
    show Code.wp _ _ _ _ _
    refine wp_ret ?_
    first | show bodyPost _ _ _ _ _ _ | (simp only [Exit.then, Exit.inBlock]; show bodyPost _ _ _ _ _ _)
    refine bodyPost_ret (results_tmp3 rfl _ _ _) rfl ⟨?_, bel⟩
    have hg : getAt l p = _ := rdg_end hs (by omega) hZ (by omega) (by omega)
    rw [hg]
    exact congrArg Ending.returned (by show Value.tuple #[.int .i64 (zag (u ||| pt (bt ((l.drop p).take 10) k) k)), .int .i64 (((p : Int) + (k : Int)) + 1), .bool true] = _; rw [gres, show (((p : Int) + (k : Int)) + 1) = (p : Int) + ((k + 1 : Nat) : Int) by omega])
  have hp26 := of_decide_eq_true hg14
  cases hg27 : decide (0 < (k : Int))
  rotate_left
  · have hp39 := of_decide_eq_true hg27
    refine wp_region_lit ?_
    refine st_mv (.int .u8 ((bt ((l.drop p).take 10) k).toNat : Int)) ?_
    simp only [nf0, nf1, nf2, nf3, nf4]
    refine st_value (v := (.bool true)) (by rfl) ((run_eql_int (.tmp 42) (.const (.int .u8 0)) rfl rfl rfl w6).trans (by rw [hg14])) ?_
    simp only [nf0, nf1, nf2, nf3, nf4]
    refine st_mv (.bool true) ?_
    simp only [nf0, nf1, nf2, nf3, nf4]
    refine st_mv (.int .i64 (k : Int)) ?_
    simp only [nf0, nf1, nf2, nf3, nf4]
    refine st_value (v := (.bool true)) (by rfl) ((run_gtr (.tmp 45) (.const (.int .i64 0)) rfl rfl rfl w6).trans (by rw [hg27])) ?_
    simp only [nf0, nf1, nf2, nf3, nf4]
    refine st_mv (.bool true) ?_
    simp only [nf0, nf1, nf2, nf3, nf4]
    refine st_mv (.bool true) ?_
    simp only [nf0, nf1, nf2, nf3, nf4]
    refine st_nob (j := 6) (t := 48) (c := true) rfl rfl rfl rfl rfl ?_
    simp only [nf0, nf1, nf2, nf3, nf4]
    refine st_nob (j := 6) (t := 48) (c := true) rfl rfl rfl rfl rfl ?_
    simp only [nf0, nf1, nf2, nf3, nf4]
    refine st_nob (j := 6) (t := 48) (c := true) rfl rfl rfl rfl rfl ?_
    simp only [nf0, nf1, nf2, nf3, nf4]
    refine st_nou (j := 9) (t := 51) rfl rfl rfl rfl ?_
    simp only [nf0, nf1, nf2, nf3, nf4]
    refine st_nou (j := 9) (t := 51) rfl rfl rfl rfl ?_
    simp only [nf0, nf1, nf2, nf3, nf4]
    refine st_nob (j := 6) (t := 48) (c := true) rfl rfl rfl rfl rfl ?_
    simp only [nf0, nf1, nf2, nf3, nf4]
    refine st_mv (.bool true) ?_
    simp only [nf0, nf1, nf2, nf3, nf4]
    refine wpList_nil ?_
    show Code.wp _ _ _ _ _
    refine wp_cond_true rfl ?_
    refine wp_seq ?_
    refine wp_region_lit ?_
    refine st_mv (.int .i64 0) ?_
    simp only [nf0, nf1, nf2, nf3, nf4]
    refine st_mv (.int .i64 0) ?_
    simp only [nf0, nf1, nf2, nf3, nf4]
    refine st_mv (.bool false) ?_
    simp only [nf0, nf1, nf2, nf3, nf4]
    refine wpList_nil ?_
    show Code.wp _ _ _ _ _
    refine wp_ret ?_
    first | show bodyPost _ _ _ _ _ _ | (simp only [Exit.then, Exit.inBlock]; show bodyPost _ _ _ _ _ _)
    refine bodyPost_ret (results_tmp3 rfl _ _ _) rfl ⟨?_, bel⟩
    have hg : getAt l p = _ := rdg_bad hs (by omega) hZ (by omega) (by omega)
    rw [hg]
    exact congrArg Ending.returned (by rfl)
  have hp28 := of_decide_eq_false hg27
  cases hg29 : decide ((k : Int) = 9)
  · have hp30 := of_decide_eq_false hg29
    refine wp_region_lit ?_
    refine st_mv (.int .u8 ((bt ((l.drop p).take 10) k).toNat : Int)) ?_
    simp only [nf0, nf1, nf2, nf3, nf4]
    refine st_value (v := (.bool true)) (by rfl) ((run_eql_int (.tmp 42) (.const (.int .u8 0)) rfl rfl rfl w6).trans (by rw [hg14])) ?_
    simp only [nf0, nf1, nf2, nf3, nf4]
    refine st_mv (.bool true) ?_
    simp only [nf0, nf1, nf2, nf3, nf4]
    refine st_mv (.int .i64 (k : Int)) ?_
    simp only [nf0, nf1, nf2, nf3, nf4]
    refine st_value (v := (.bool false)) (by rfl) ((run_gtr (.tmp 45) (.const (.int .i64 0)) rfl rfl rfl w6).trans (by rw [hg27])) ?_
    simp only [nf0, nf1, nf2, nf3, nf4]
    refine st_mv (.bool false) ?_
    simp only [nf0, nf1, nf2, nf3, nf4]
    refine st_mv (.bool false) ?_
    simp only [nf0, nf1, nf2, nf3, nf4]
    refine st_mv (.int .i64 (k : Int)) ?_
    simp only [nf0, nf1, nf2, nf3, nf4]
    refine st_value (v := (.bool false)) (by rfl) ((run_eql_int (.tmp 49) (.const (.int .i64 9)) rfl rfl rfl w6).trans (by rw [hg29])) ?_
    simp only [nf0, nf1, nf2, nf3, nf4]
    refine st_mv (.bool false) ?_
    simp only [nf0, nf1, nf2, nf3, nf4]
    refine st_nob (j := 9) (t := 51) (c := false) rfl rfl rfl rfl rfl ?_
    simp only [nf0, nf1, nf2, nf3, nf4]
    refine st_nob (j := 9) (t := 51) (c := false) rfl rfl rfl rfl rfl ?_
    simp only [nf0, nf1, nf2, nf3, nf4]
    refine st_mv (.bool false) ?_
    simp only [nf0, nf1, nf2, nf3, nf4]
    refine st_mv (.bool false) ?_
    simp only [nf0, nf1, nf2, nf3, nf4]
    refine wpList_nil ?_
    show Code.wp _ _ _ _ _
    refine wp_cond_false rfl ?_
    refine wp_skip ?_
    show Code.wp _ _ _ _ _
    refine wp_seq ?_
    refine wp_region_lit ?_
    refine st_mv (.int .u64 ((u ||| pt (bt ((l.drop p).take 10) k) k : Nat) : Int)) ?_
    simp only [nf0, nf1, nf2, nf3, nf4]
    refine st_call1 (v := (.int .i64 (zag (u ||| pt (bt ((l.drop p).take 10) k) k)))) (by rfl) (f1_run_call_27_1 (.tmp 56) rfl rfl _) (unfold_calls (Nat.or_lt_two_pow hum (pt_lt _ _)) w6) ?_
    intro w31 hb32
    simp only [nf0, nf1, nf2, nf3, nf4]
    replace bel := bl_step bel hb32
    clear hb32
    refine st_mv (.int .i64 (p : Int)) ?_
    simp only [nf0, nf1, nf2, nf3, nf4]
    refine st_mv (.int .i64 (k : Int)) ?_
    simp only [nf0, nf1, nf2, nf3, nf4]
    refine st_value (v := (.int .i64 ((p : Int) + (k : Int)))) (by rfl) (run_add_in (.tmp 58) (.tmp 59) rfl rfl rfl (by omega) w31) ?_
    simp only [nf0, nf1, nf2, nf3, nf4]
    refine st_value (v := (.int .i64 (((p : Int) + (k : Int)) + 1))) (by rfl) (run_add_in (.tmp 60) (.const (.int .i64 1)) rfl rfl rfl (by omega) w31) ?_
    simp only [nf0, nf1, nf2, nf3, nf4]
    refine st_mv (.int .i64 (zag (u ||| pt (bt ((l.drop p).take 10) k) k))) ?_
    simp only [nf0, nf1, nf2, nf3, nf4]
    refine st_mv (.int .i64 (((p : Int) + (k : Int)) + 1)) ?_
    simp only [nf0, nf1, nf2, nf3, nf4]
    refine st_mv (.bool true) ?_
    simp only [nf0, nf1, nf2, nf3, nf4]
    refine wpList_nil ?_
    show Code.wp _ _ _ _ _
    refine wp_ret ?_
    first | show bodyPost _ _ _ _ _ _ | (simp only [Exit.then, Exit.inBlock]; show bodyPost _ _ _ _ _ _)
    refine bodyPost_ret (results_tmp3 rfl _ _ _) rfl ⟨?_, bel⟩
    have hg : getAt l p = _ := rdg_end hs (by omega) hZ (by omega) (by omega)
    rw [hg]
    exact congrArg Ending.returned (by show Value.tuple #[.int .i64 (zag (u ||| pt (bt ((l.drop p).take 10) k) k)), .int .i64 (((p : Int) + (k : Int)) + 1), .bool true] = _; rw [gres, show (((p : Int) + (k : Int)) + 1) = (p : Int) + ((k + 1 : Nat) : Int) by omega])
  have hp33 := of_decide_eq_true hg29
  refine wp_region_lit ?_
  refine st_mv (.int .u8 ((bt ((l.drop p).take 10) k).toNat : Int)) ?_
  simp only [nf0, nf1, nf2, nf3, nf4]
  refine st_value (v := (.bool true)) (by rfl) ((run_eql_int (.tmp 42) (.const (.int .u8 0)) rfl rfl rfl w6).trans (by rw [hg14])) ?_
  simp only [nf0, nf1, nf2, nf3, nf4]
  refine st_mv (.bool true) ?_
  simp only [nf0, nf1, nf2, nf3, nf4]
  refine st_mv (.int .i64 (k : Int)) ?_
  simp only [nf0, nf1, nf2, nf3, nf4]
  refine st_value (v := (.bool false)) (by rfl) ((run_gtr (.tmp 45) (.const (.int .i64 0)) rfl rfl rfl w6).trans (by rw [hg27])) ?_
  simp only [nf0, nf1, nf2, nf3, nf4]
  refine st_mv (.bool false) ?_
  simp only [nf0, nf1, nf2, nf3, nf4]
  refine st_mv (.bool false) ?_
  simp only [nf0, nf1, nf2, nf3, nf4]
  refine st_mv (.int .i64 (k : Int)) ?_
  simp only [nf0, nf1, nf2, nf3, nf4]
  refine st_value (v := (.bool true)) (by rfl) ((run_eql_int (.tmp 49) (.const (.int .i64 9)) rfl rfl rfl w6).trans (by rw [hg29])) ?_
  simp only [nf0, nf1, nf2, nf3, nf4]
  refine st_mv (.bool true) ?_
  simp only [nf0, nf1, nf2, nf3, nf4]
  refine st_mv (.int .u8 ((bt ((l.drop p).take 10) k).toNat : Int)) ?_
  simp only [nf0, nf1, nf2, nf3, nf4]
  refine st_value (v := (.bool (decide (1 < ((bt ((l.drop p).take 10) k).toNat : Int))))) (by rfl) (run_gtr (.tmp 52) (.const (.int .u8 1)) rfl rfl rfl w6) ?_
  simp only [nf0, nf1, nf2, nf3, nf4]
  refine st_mv (.bool (decide (1 < ((bt ((l.drop p).take 10) k).toNat : Int)))) ?_
  simp only [nf0, nf1, nf2, nf3, nf4]
  refine st_mv (.bool (decide (1 < ((bt ((l.drop p).take 10) k).toNat : Int)))) ?_
  simp only [nf0, nf1, nf2, nf3, nf4]
  refine wpList_nil ?_
  show Code.wp _ _ _ _ _
  cases hg34 : decide (1 < ((bt ((l.drop p).take 10) k).toNat : Int))
  rotate_left
  · have hp38 := of_decide_eq_true hg34
    refine wp_cond_true rfl ?_
    refine wp_seq ?_
    refine wp_region_lit ?_
    refine st_mv (.int .i64 0) ?_
    simp only [nf0, nf1, nf2, nf3, nf4]
    refine st_mv (.int .i64 0) ?_
    simp only [nf0, nf1, nf2, nf3, nf4]
    refine st_mv (.bool false) ?_
    simp only [nf0, nf1, nf2, nf3, nf4]
    refine wpList_nil ?_
    show Code.wp _ _ _ _ _
    refine wp_ret ?_
    first | show bodyPost _ _ _ _ _ _ | (simp only [Exit.then, Exit.inBlock]; show bodyPost _ _ _ _ _ _)
    refine bodyPost_ret (results_tmp3 rfl _ _ _) rfl ⟨?_, bel⟩
    have hg : getAt l p = _ := rdg_bad hs (by omega) hZ (by omega) (by omega)
    rw [hg]
    exact congrArg Ending.returned (by rfl)
  have hp35 := of_decide_eq_false hg34
  refine wp_cond_false rfl ?_
  refine wp_skip ?_
  show Code.wp _ _ _ _ _
  refine wp_seq ?_
  refine wp_region_lit ?_
  refine st_mv (.int .u64 ((u ||| pt (bt ((l.drop p).take 10) k) k : Nat) : Int)) ?_
  simp only [nf0, nf1, nf2, nf3, nf4]
  refine st_call1 (v := (.int .i64 (zag (u ||| pt (bt ((l.drop p).take 10) k) k)))) (by rfl) (f1_run_call_27_1 (.tmp 56) rfl rfl _) (unfold_calls (Nat.or_lt_two_pow hum (pt_lt _ _)) w6) ?_
  intro w36 hb37
  simp only [nf0, nf1, nf2, nf3, nf4]
  replace bel := bl_step bel hb37
  clear hb37
  refine st_mv (.int .i64 (p : Int)) ?_
  simp only [nf0, nf1, nf2, nf3, nf4]
  refine st_mv (.int .i64 (k : Int)) ?_
  simp only [nf0, nf1, nf2, nf3, nf4]
  refine st_value (v := (.int .i64 ((p : Int) + (k : Int)))) (by rfl) (run_add_in (.tmp 58) (.tmp 59) rfl rfl rfl (by omega) w36) ?_
  simp only [nf0, nf1, nf2, nf3, nf4]
  refine st_value (v := (.int .i64 (((p : Int) + (k : Int)) + 1))) (by rfl) (run_add_in (.tmp 60) (.const (.int .i64 1)) rfl rfl rfl (by omega) w36) ?_
  simp only [nf0, nf1, nf2, nf3, nf4]
  refine st_mv (.int .i64 (zag (u ||| pt (bt ((l.drop p).take 10) k) k))) ?_
  simp only [nf0, nf1, nf2, nf3, nf4]
  refine st_mv (.int .i64 (((p : Int) + (k : Int)) + 1)) ?_
  simp only [nf0, nf1, nf2, nf3, nf4]
  refine st_mv (.bool true) ?_
  simp only [nf0, nf1, nf2, nf3, nf4]
  refine wpList_nil ?_
  show Code.wp _ _ _ _ _
  refine wp_ret ?_
  first | show bodyPost _ _ _ _ _ _ | (simp only [Exit.then, Exit.inBlock]; show bodyPost _ _ _ _ _ _)
  refine bodyPost_ret (results_tmp3 rfl _ _ _) rfl ⟨?_, bel⟩
  have hg : getAt l p = _ := rdg_end hs (by omega) hZ (by omega) (by omega)
  rw [hg]
  exact congrArg Ending.returned (by show Value.tuple #[.int .i64 (zag (u ||| pt (bt ((l.drop p).take 10) k) k)), .int .i64 (((p : Int) + (k : Int)) + 1), .bool true] = _; rw [gres, show (((p : Int) + (k : Int)) + 1) = (p : Int) + ((k + 1 : Nat) : Int) by omega])
end Go.Proofs.YtckmihjekgbcmaaDoor

/- Lemmas that the chapter's laws rest on: CodeGetInt, CodeRefs, CodeRefGet, Set, Has, Put, Bits, Make, Eqs, Next, List, Sets, More, CodeRows, CodeRowsWalk, CodePuts, CodePutSet, CodeHead, CodeLives, Texts, OpenBytes, CodeSets. -/
import Derived.Test.YtckmihjekgbcmaaDoorMcb9c49cc5e
import Derived.DeepKeys
import Derived.Laws.StructEq
import Derived.LoopTactic
import Derived.Lib.TrailingZeros
import Derived.Laws.Bits64b
import Derived.Shelf.Bytes.SlSmallAll
/- codec's GetInt. -/
namespace Go.Proofs.YtckmihjekgbcmaaDoor
open Go.RowKit Go.WideShapes Go.ChangeShapes
set_option linter.unusedSimpArgs false
set_option linter.unusedVariables false

theorem f1_run_call_27_1 {o : Oper} {a : Act} (x0 : Operand) {ts : Array TypeId} (ho : o.op = .call { callee := .value (.func 27), args := #[x0], argTypes := ts }) {v0 : Value} (h0 : a.eval x0 = v0) (W : World) : (execOp a.eval o).run Tryd.prog W = .ok (.enter 27 #[v0]) W := by
  unfold execOp
  simp only [ho]
  subst h0
  go_simp
theorem run_mul7 {P : Program} {o : Oper} {a : Act} {t t' : TypeId} (y : Operand) {k : Nat} (ho : o.op = .binOp .mul t (.const (.int .i64 7)) y t') (hy : a.eval y = .int .i64 (k : Int)) (hk : k ≤ 1000) (W : World) : (execOp a.eval o).run P W = .ok (.value (.int .i64 ((7 * k : Nat) : Int))) W := by
  rw [run_mul_in (.const (.int .i64 7)) y ho rfl hy (by omega) W]
  rw [show (7 : Int) * (k : Int) = ((7 * k : Nat) : Int) by omega]

attribute [local irreducible] Go.wpList Go.Code.wp
set_option maxRecDepth 100000 in
set_option maxHeartbeats 4000000 in
theorem getInt_out {A : Option Addr} (l : List UInt8) (cap : Nat) {i : Int} (hi : i < 0 ∨ (l.length : Int) < i) (w : World) : Calls Tryd.prog 8 #[.slice A l.length cap, .int .i64 i] w fun e w' => e = .returned (.tuple #[.int .i64 0, .int .i64 0, .bool false]) ∧ Below w.heap.size w w' := by
  have bel : Below w.heap.size w w := Below.refl _ _
  go_enter Tryd.func8, Tryd.ntmps8
  refine wp_seq ?_
  refine wp_region_lit ?_
  refine st_mv (.int .i64 0) ?_
  simp only [nf0, nf1, nf2, nf3, nf4]
  refine st_mv (.int .i64 0) ?_
  simp only [nf0, nf1, nf2, nf3, nf4]
  refine st_mv (.bool false) ?_
  simp only [nf0, nf1, nf2, nf3, nf4]
  refine wpList_nil ?_
  show Code.wp _ _ _ _ _
  refine wp_seq ?_
  refine wp_seq ?_
  cases hg1 : decide (i < 0)
  rotate_left
  · have hp6 := of_decide_eq_true hg1
    refine wp_region_lit ?_
    refine st_mv (.int .i64 i) ?_
    simp only [nf0, nf1, nf2, nf3, nf4]
    refine st_value (v := (.bool true)) (by rfl) ((run_lss (.tmp 10) (.const (.int .i64 0)) rfl rfl rfl w).trans (by rw [hg1])) ?_
    simp only [nf0, nf1, nf2, nf3, nf4]
    refine st_mv (.bool true) ?_
    simp only [nf0, nf1, nf2, nf3, nf4]
    refine st_nob (j := 2) (t := 12) (c := true) rfl rfl rfl rfl rfl ?_
    simp only [nf0, nf1, nf2, nf3, nf4]
    refine st_nob (j := 2) (t := 12) (c := true) rfl rfl rfl rfl rfl ?_
    simp only [nf0, nf1, nf2, nf3, nf4]
    refine st_nob (j := 2) (t := 12) (c := true) rfl rfl rfl rfl rfl ?_
    simp only [nf0, nf1, nf2, nf3, nf4]
    refine st_nob (j := 2) (t := 12) (c := true) rfl rfl rfl rfl rfl ?_
    simp only [nf0, nf1, nf2, nf3, nf4]
    refine st_mv (.bool true) ?_
    simp only [nf0, nf1, nf2, nf3, nf4]
    refine wpList_nil ?_
    show Code.wp _ _ _ _ _
    refine wp_cond_true rfl ?_
    refine wp_seq ?_
    refine wp_region_lit ?_
    refine st_mv (.int .i64 0) ?_
    simp only [nf0, nf1, nf2, nf3, nf4]
    refine st_mv (.int .i64 0) ?_
    simp only [nf0, nf1, nf2, nf3, nf4]
    refine st_mv (.bool false) ?_
    simp only [nf0, nf1, nf2, nf3, nf4]
    refine wpList_nil ?_
    show Code.wp _ _ _ _ _
    refine wp_ret ?_
    first | show bodyPost _ _ _ _ _ _ | (simp only [Exit.then, Exit.inBlock]; show bodyPost _ _ _ _ _ _)
    exact bodyPost_ret (results_tmp3 rfl _ _ _) rfl ⟨rfl, bel⟩
  have hp2 := of_decide_eq_false hg1
  refine wp_region_lit ?_
  refine st_mv (.int .i64 i) ?_
  simp only [nf0, nf1, nf2, nf3, nf4]
  refine st_value (v := (.bool false)) (by rfl) ((run_lss (.tmp 10) (.const (.int .i64 0)) rfl rfl rfl w).trans (by rw [hg1])) ?_
  simp only [nf0, nf1, nf2, nf3, nf4]
  refine st_mv (.bool false) ?_
  simp only [nf0, nf1, nf2, nf3, nf4]
  refine st_mv (.int .i64 i) ?_
  simp only [nf0, nf1, nf2, nf3, nf4]
  refine st_mv (.slice A l.length cap) ?_
  simp only [nf0, nf1, nf2, nf3, nf4]
  refine st_value (v := (.int .i64 (l.length : Int))) (by rfl) (run_len (.tmp 14) rfl ⟨_, Tryd.underlying22⟩ rfl w) ?_
  simp only [nf0, nf1, nf2, nf3, nf4]
  refine st_value (v := (.bool (decide ((l.length : Int) < i)))) (by rfl) (run_gtr (.tmp 13) (.tmp 15) rfl rfl rfl w) ?_
  simp only [nf0, nf1, nf2, nf3, nf4]
  refine st_mv (.bool (decide ((l.length : Int) < i))) ?_
  simp only [nf0, nf1, nf2, nf3, nf4]
  refine wpList_nil ?_
  show Code.wp _ _ _ _ _
  cases hg3 : decide ((l.length : Int) < i)
  · have hp4 := of_decide_eq_false hg3
    exfalso
    omega
  have hp5 := of_decide_eq_true hg3
  refine wp_cond_true rfl ?_
  refine wp_seq ?_
  refine wp_region_lit ?_
  refine st_mv (.int .i64 0) ?_
  simp only [nf0, nf1, nf2, nf3, nf4]
  refine st_mv (.int .i64 0) ?_
  simp only [nf0, nf1, nf2, nf3, nf4]
  refine st_mv (.bool false) ?_
  simp only [nf0, nf1, nf2, nf3, nf4]
  refine wpList_nil ?_
  show Code.wp _ _ _ _ _
  refine wp_ret ?_
  first | show bodyPost _ _ _ _ _ _ | (simp only [Exit.then, Exit.inBlock]; show bodyPost _ _ _ _ _ _)
  exact bodyPost_ret (results_tmp3 rfl _ _ _) rfl ⟨rfl, bel⟩
set_option maxRecDepth 100000 in
set_option maxHeartbeats 4000000 in
theorem getInt_in (A : Option Addr) (l : List UInt8) (cap p : Nat) (hcap : l.length ≤ cap) (hl : l.length ≤ 10000000) (hp : p ≤ l.length) (w : World) (hr : Reads w A (eByte.all l)) : Calls Tryd.prog 8 #[.slice A l.length cap, .int .i64 (p : Int)] w fun e w' => e = .returned (gres p (getAt l p)) ∧ Below w.heap.size w w' := by
  have bel : Below w.heap.size w w := Below.refl _ _
  go_enter Tryd.func8, Tryd.ntmps8
  refine wp_seq ?_
  refine wp_region_lit ?_
  refine st_mv (.int .i64 0) ?_
  simp only [nf0, nf1, nf2, nf3, nf4]
  refine st_mv (.int .i64 0) ?_
  simp only [nf0, nf1, nf2, nf3, nf4]
  refine st_mv (.bool false) ?_
  simp only [nf0, nf1, nf2, nf3, nf4]
  refine wpList_nil ?_
  show Code.wp _ _ _ _ _
  refine wp_seq ?_
  refine wp_seq ?_
  cases hg1 : decide ((p : Int) < 0)
  rotate_left
  · have hp42 := of_decide_eq_true hg1
    exfalso
    omega
  have hp2 := of_decide_eq_false hg1
  refine wp_region_lit ?_
  refine st_mv (.int .i64 (p : Int)) ?_
  simp only [nf0, nf1, nf2, nf3, nf4]
  refine st_value (v := (.bool false)) (by rfl) ((run_lss (.tmp 10) (.const (.int .i64 0)) rfl rfl rfl w).trans (by rw [hg1])) ?_
  simp only [nf0, nf1, nf2, nf3, nf4]
  refine st_mv (.bool false) ?_
  simp only [nf0, nf1, nf2, nf3, nf4]
  refine st_mv (.int .i64 (p : Int)) ?_
  simp only [nf0, nf1, nf2, nf3, nf4]
  refine st_mv (.slice A l.length cap) ?_
  simp only [nf0, nf1, nf2, nf3, nf4]
  refine st_value (v := (.int .i64 (l.length : Int))) (by rfl) (run_len (.tmp 14) rfl ⟨_, Tryd.underlying22⟩ rfl w) ?_
  simp only [nf0, nf1, nf2, nf3, nf4]
  refine st_value (v := (.bool (decide ((l.length : Int) < (p : Int))))) (by rfl) (run_gtr (.tmp 13) (.tmp 15) rfl rfl rfl w) ?_
  simp only [nf0, nf1, nf2, nf3, nf4]
  refine st_mv (.bool (decide ((l.length : Int) < (p : Int)))) ?_
  simp only [nf0, nf1, nf2, nf3, nf4]
  refine wpList_nil ?_
  show Code.wp _ _ _ _ _
  cases hg3 : decide ((l.length : Int) < (p : Int))
  rotate_left
  · have hp41 := of_decide_eq_true hg3
    exfalso
    omega
  have hp4 := of_decide_eq_false hg3
  refine wp_cond_false rfl ?_
  refine wp_skip ?_
  show Code.wp _ _ _ _ _
  refine wp_seq ?_
  refine wp_region_lit ?_
  refine st_mv (.int .u64 0) ?_
  simp only [nf0, nf1, nf2, nf3, nf4]
  refine wpList_nil ?_
  show Code.wp _ _ _ _ _
  refine wp_seq ?_
  refine wp_seq ?_
  obtain ⟨B, hB⟩ : ∃ B, B = cutA1 A cap p := ⟨_, rfl⟩
  have hz0 : Reads w B (eByte.all ((l.drop p).take 10)) := by rw [hB]; exact Reads.cutB hr hcap
  have hZ : ((l.drop p).take 10).length ≤ 10 := by rw [List.length_take]; omega
  refine wp_region_lit ?_
  refine st_mv (.slice A l.length cap) ?_
  simp only [nf0, nf1, nf2, nf3, nf4]
  refine st_mv (.int .i64 (p : Int)) ?_
  simp only [nf0, nf1, nf2, nf3, nf4]
  refine st_mv (.slice A l.length cap) ?_
  simp only [nf0, nf1, nf2, nf3, nf4]
  refine st_value (v := (.int .i64 (l.length : Int))) (by rfl) (run_len (.tmp 20) rfl ⟨_, Tryd.underlying22⟩ rfl w) ?_
  simp only [nf0, nf1, nf2, nf3, nf4]
  refine st_mv (.int .i64 (p : Int)) ?_
  simp only [nf0, nf1, nf2, nf3, nf4]
  refine st_value (v := (.int .i64 ((p : Int) + 10))) (by rfl) (run_add_in (.tmp 22) (.const (.int .i64 10)) rfl rfl rfl (by omega) w) ?_
  simp only [nf0, nf1, nf2, nf3, nf4]
  refine st_value (v := (.int .i64 (min (l.length : Int) ((p : Int) + 10)))) (by rfl) (run_min2 (.tmp 21) (.tmp 23) rfl rfl rfl w) ?_
  simp only [nf0, nf1, nf2, nf3, nf4]
  refine st_value (v := (.slice B ((l.drop p).take 10).length (cap - p))) (by rfl) (by rw [hB]; exact run_cut10 (.tmp 18) (.tmp 19) (.tmp 24) rfl Tryd.underlying22 slByte.sz rfl rfl rfl (by omega) hcap w) ?_
  simp only [nf0, nf1, nf2, nf3, nf4]
  refine st_value (v := (.int .i64 (((l.drop p).take 10).length : Int))) (by rfl) (run_len (.tmp 25) rfl ⟨_, Tryd.underlying22⟩ rfl w) ?_
  simp only [nf0, nf1, nf2, nf3, nf4]
  refine st_mv (.int .i64 0) ?_
  simp only [nf0, nf1, nf2, nf3, nf4]
  refine wpList_nil ?_
  show Code.wp _ _ _ _ _
  refine wp_block ?_
  refine wp_loop_left (fun n_ a_ wr_ => (fun J5 => ∃ (k : Nat) (u : Nat), n_ = ((l.drop p).take 10).length - k ∧ a_ = ⟨#[.slice A l.length cap, .int .i64 (p : Int), J5 2, J5 3, J5 4, J5 5, J5 6, .int .u64 ((u : Nat) : Int), J5 8, J5 9, J5 10, J5 11, J5 12, J5 13, J5 14, J5 15, J5 16, J5 17, J5 18, J5 19, J5 20, J5 21, J5 22, J5 23, J5 24, .slice B ((l.drop p).take 10).length (cap - p), .int .i64 (((l.drop p).take 10).length : Int), .int .i64 (k : Int), J5 28, J5 29, J5 30, J5 31, J5 32, J5 33, J5 34, J5 35, J5 36, J5 37, J5 38, J5 39, J5 40, J5 41, J5 42, J5 43, J5 44, J5 45, J5 46, J5 47, J5 48, J5 49, J5 50, J5 51, J5 52, J5 53, J5 54, J5 55, J5 56, J5 57, J5 58, J5 59, J5 60, J5 61, J5 62], []⟩ ∧ Below w.heap.size w wr_ ∧ (u < 2 ^ 64) ∧ (k ≤ ((l.drop p).take 10).length) ∧ (Rdg ((l.drop p).take 10) k u)) (jk a_)) (((l.drop p).take 10).length - 0) ⟨0, 0, rfl, rfl, bel, (by omega), Nat.zero_le _, (rdg_start _)⟩ ?_
  clear bel
  intro n_ a_ w6 h_
  revert h_
  generalize jk a_ = J5
  rintro ⟨k, u, hms, rfl, bel, hum, hk, hs⟩
  refine wp_seq ?_
  refine wp_region_lit ?_
  refine st_value (v := (.bool (decide ((k : Int) < (((l.drop p).take 10).length : Int))))) (by rfl) (run_lss (.tmp 27) (.tmp 26) rfl rfl rfl w6) ?_
  simp only [nf0, nf1, nf2, nf3, nf4]
  refine wpList_nil ?_
  show Code.wp _ _ _ _ _
  refine wp_seq ?_
  cases hg7 : decide ((k : Int) < (((l.drop p).take 10).length : Int))
  · have hp8 := of_decide_eq_false hg7
    refine wp_cond_false rfl ?_
    refine wp_exit ?_
    show Code.wp _ _ _ _ _
    refine wp_seq ?_
    refine wp_region_lit ?_
    refine st_mv (.int .i64 0) ?_
    simp only [nf0, nf1, nf2, nf3, nf4]
    refine st_mv (.int .i64 0) ?_
    simp only [nf0, nf1, nf2, nf3, nf4]
    refine st_mv (.bool false) ?_
    simp only [nf0, nf1, nf2, nf3, nf4]
    refine wpList_nil ?_
    show Code.wp _ _ _ _ _
    refine wp_ret ?_
    first | show bodyPost _ _ _ _ _ _ | (simp only [Exit.then, Exit.inBlock]; show bodyPost _ _ _ _ _ _)
    refine bodyPost_ret (results_tmp3 rfl _ _ _) rfl ⟨?_, bel⟩
    have hg : getAt l p = _ := rdg_over hs (by omega)
    rw [hg]
    exact congrArg Ending.returned (by rfl)
  have hp9 := of_decide_eq_true hg7
  refine wp_cond_true rfl ?_
  refine wp_skip ?_
  show Code.wp _ _ _ _ _
  refine wp_seq ?_
  refine wp_block ?_
  refine wp_seq ?_
  obtain ⟨b10, o11, rfl, _⟩ := (hz0.same bel).at_ (by rw [eByte_all, List.length_map]; omega)
  refine wp_region_lit ?_
  refine st_mv (.int .i64 (k : Int)) ?_
  simp only [nf0, nf1, nf2, nf3, nf4]
  refine st_value (v := (.pointer (some ⟨b10, o11 + k * 1, none⟩))) (by rfl) (run_indexAddrN (.tmp 25) (.tmp 27) rfl Tryd.underlying22 slByte.sz (i := k) rfl rfl (by omega) w6) ?_
  simp only [nf0, nf1, nf2, nf3, nf4]
  refine st_value (v := (.int .u8 ((bt ((l.drop p).take 10) k).toNat : Int))) (by rfl) (run_load1 (.tmp 30) rfl Tryd.underlying5 rfl slByte.sz rfl (Reads.byteAt (hz0.same bel) k (by omega))) ?_
  simp only [nf0, nf1, nf2, nf3, nf4]
  refine st_mv (.int .i64 (k : Int)) ?_
  simp only [nf0, nf1, nf2, nf3, nf4]
  refine st_mv (.int .u8 ((bt ((l.drop p).take 10) k).toNat : Int)) ?_
  simp only [nf0, nf1, nf2, nf3, nf4]
  refine wpList_nil ?_
  show Code.wp _ _ _ _ _
  refine wp_seq ?_
  refine wp_region_lit ?_
  refine st_mv (.int .u64 ((u : Nat) : Int)) ?_
  simp only [nf0, nf1, nf2, nf3, nf4]
  refine st_mv (.int .u8 ((bt ((l.drop p).take 10) k).toNat : Int)) ?_
  simp only [nf0, nf1, nf2, nf3, nf4]
  refine st_value (v := (.int .u8 (((bt ((l.drop p).take 10) k).toNat % 128 : Nat) : Int))) (by rfl) (run_and8 (.tmp 33) (.const (.int .u8 127)) rfl (m := (bt ((l.drop p).take 10) k).toNat) (n := 127) rfl rfl (u8_lt _) (by omega) (r := (bt ((l.drop p).take 10) k).toNat % 128) (and_low (u8_lt _)) w6) ?_
  simp only [nf0, nf1, nf2, nf3, nf4]
  refine st_value (v := (.int .u64 (((bt ((l.drop p).take 10) k).toNat % 128 : Nat) : Int))) (by rfl) (run_conv_u8_u64 (.tmp 34) rfl Tryd.underlying5 Tryd.underlying31 (z := (((bt ((l.drop p).take 10) k).toNat % 128 : Nat) : Int)) (z' := (((bt ((l.drop p).take 10) k).toNat % 128 : Nat) : Int)) rfl (by rw [wrap_u64z]; omega) w6) ?_
  simp only [nf0, nf1, nf2, nf3, nf4]
  refine st_mv (.int .i64 (k : Int)) ?_
  simp only [nf0, nf1, nf2, nf3, nf4]
  refine st_value (v := (.int .i64 ((7 * k : Nat) : Int))) (by rfl) (run_mul7 (.tmp 36) rfl rfl (by omega) w6) ?_
  simp only [nf0, nf1, nf2, nf3, nf4]
  refine st_value (v := (.int .u64 ((pt (bt ((l.drop p).take 10) k) k : Nat) : Int))) (by rfl) (run_shlW (.tmp 35) (.tmp 37) rfl (m := (bt ((l.drop p).take 10) k).toNat % 128) (n := 7 * k) rfl rfl (by omega) (r := pt (bt ((l.drop p).take 10) k) k) rfl w6) ?_
  simp only [nf0, nf1, nf2, nf3, nf4]
  refine st_value (v := (.int .u64 ((u ||| pt (bt ((l.drop p).take 10) k) k : Nat) : Int))) (by rfl) (run_orW (.tmp 32) (.tmp 38) rfl (m := u) (n := pt (bt ((l.drop p).take 10) k) k) rfl rfl hum (pt_lt _ _) w6) ?_
  simp only [nf0, nf1, nf2, nf3, nf4]
  refine st_mv (.int .u64 ((u ||| pt (bt ((l.drop p).take 10) k) k : Nat) : Int)) ?_
  simp only [nf0, nf1, nf2, nf3, nf4]
  refine wpList_nil ?_
  show Code.wp _ _ _ _ _
  refine wp_seq ?_
  refine wp_seq ?_
  refine wp_region_lit ?_
  refine st_mv (.int .u8 ((bt ((l.drop p).take 10) k).toNat : Int)) ?_
  simp only [nf0, nf1, nf2, nf3, nf4]
  refine st_value (v := (.bool (decide (128 ≤ ((bt ((l.drop p).take 10) k).toNat : Int))))) (by rfl) (run_geq (.tmp 40) (.const (.int .u8 128)) rfl rfl rfl w6) ?_
  simp only [nf0, nf1, nf2, nf3, nf4]
  refine wpList_nil ?_
  show Code.wp _ _ _ _ _
  cases hg12 : decide (128 ≤ ((bt ((l.drop p).take 10) k).toNat : Int))
  rotate_left
  · have hp40 := of_decide_eq_true hg12
    refine wp_cond_true rfl ?_
    refine wp_exit ?_
    show Code.wp _ _ _ _ _
    refine wp_region_lit ?_
    refine st_value (v := (.int .i64 ((k : Int) + 1))) (by rfl) (run_add_in (.tmp 27) (.const (.int .i64 1)) rfl rfl rfl (by omega) w6) ?_
    simp only [nf0, nf1, nf2, nf3, nf4]
    refine st_mv (.int .i64 ((k : Int) + 1)) ?_
    simp only [nf0, nf1, nf2, nf3, nf4]
    refine wpList_nil ?_
    show ∃ m, m < _ ∧ _
    exact ⟨_, (by omega), (k + 1), (u ||| pt (bt ((l.drop p).take 10) k) k), rfl, rfl, bel, (Nat.or_lt_two_pow hum (pt_lt _ _)), (by omega), (rdg_cont hs (by omega) hZ (by omega))⟩
  have hp13 := of_decide_eq_false hg12
  refine wp_cond_false rfl ?_
  refine wp_skip ?_
  show Code.wp _ _ _ _ _
  refine wp_seq ?_
  refine wp_seq ?_
  cases hg14 : decide (((bt ((l.drop p).take 10) k).toNat : Int) = 0)
  · have hp15 := of_decide_eq_false hg14
    cases hg16 : decide ((k : Int) = 9)
    · have hp17 := of_decide_eq_false hg16
      refine wp_region_lit ?_
      refine st_mv (.int .u8 ((bt ((l.drop p).take 10) k).toNat : Int)) ?_
      simp only [nf0, nf1, nf2, nf3, nf4]
      refine st_value (v := (.bool false)) (by rfl) ((run_eql_int (.tmp 42) (.const (.int .u8 0)) rfl rfl rfl w6).trans (by rw [hg14])) ?_
      simp only [nf0, nf1, nf2, nf3, nf4]
      refine st_mv (.bool false) ?_
      simp only [nf0, nf1, nf2, nf3, nf4]
      refine st_nob (j := 2) (t := 44) (c := false) rfl rfl rfl rfl rfl ?_
      simp only [nf0, nf1, nf2, nf3, nf4]
      refine st_nob (j := 2) (t := 44) (c := false) rfl rfl rfl rfl rfl ?_
      simp only [nf0, nf1, nf2, nf3, nf4]
      refine st_mv (.bool false) ?_
      simp only [nf0, nf1, nf2, nf3, nf4]
      refine st_mv (.bool false) ?_
      simp only [nf0, nf1, nf2, nf3, nf4]
      refine st_mv (.int .i64 (k : Int)) ?_
      simp only [nf0, nf1, nf2, nf3, nf4]
      refine st_value (v := (.bool false)) (by rfl) ((run_eql_int (.tmp 49) (.const (.int .i64 9)) rfl rfl rfl w6).trans (by rw [hg16])) ?_
      simp only [nf0, nf1, nf2, nf3, nf4]
      refine st_mv (.bool false) ?_
      simp only [nf0, nf1, nf2, nf3, nf4]
      refine st_nob (j := 9) (t := 51) (c := false) rfl rfl rfl rfl rfl ?_
      simp only [nf0, nf1, nf2, nf3, nf4]
      refine st_nob (j := 9) (t := 51) (c := false) rfl rfl rfl rfl rfl ?_
      simp only [nf0, nf1, nf2, nf3, nf4]
      refine st_mv (.bool false) ?_
      simp only [nf0, nf1, nf2, nf3, nf4]
      refine st_mv (.bool false) ?_
      simp only [nf0, nf1, nf2, nf3, nf4]
      refine wpList_nil ?_
      show Code.wp _ _ _ _ _
      refine wp_cond_false rfl ?_
      refine wp_skip ?_
      show Code.wp _ _ _ _ _
      refine wp_seq ?_
      refine wp_region_lit ?_
      refine st_mv (.int .u64 ((u ||| pt (bt ((l.drop p).take 10) k) k : Nat) : Int)) ?_
      simp only [nf0, nf1, nf2, nf3, nf4]
      refine st_call1 (v := (.int .i64 (zag (u ||| pt (bt ((l.drop p).take 10) k) k)))) (by rfl) (f1_run_call_27_1 (.tmp 56) rfl rfl _) (unfold_calls (Nat.or_lt_two_pow hum (pt_lt _ _)) w6) ?_
      intro w18 hb19
      simp only [nf0, nf1, nf2, nf3, nf4]
      replace bel := bl_step bel hb19
      clear hb19
      refine st_mv (.int .i64 (p : Int)) ?_
      simp only [nf0, nf1, nf2, nf3, nf4]
      refine st_mv (.int .i64 (k : Int)) ?_
      simp only [nf0, nf1, nf2, nf3, nf4]
      refine st_value (v := (.int .i64 ((p : Int) + (k : Int)))) (by rfl) (run_add_in (.tmp 58) (.tmp 59) rfl rfl rfl (by omega) w18) ?_
      simp only [nf0, nf1, nf2, nf3, nf4]
      refine st_value (v := (.int .i64 (((p : Int) + (k : Int)) + 1))) (by rfl) (run_add_in (.tmp 60) (.const (.int .i64 1)) rfl rfl rfl (by omega) w18) ?_
      simp only [nf0, nf1, nf2, nf3, nf4]
      refine st_mv (.int .i64 (zag (u ||| pt (bt ((l.drop p).take 10) k) k))) ?_
      simp only [nf0, nf1, nf2, nf3, nf4]
      refine st_mv (.int .i64 (((p : Int) + (k : Int)) + 1)) ?_
      simp only [nf0, nf1, nf2, nf3, nf4]
      refine st_mv (.bool true) ?_
      simp only [nf0, nf1, nf2, nf3, nf4]
      refine wpList_nil ?_
      show Code.wp _ _ _ _ _
      refine wp_ret ?_
      first | show bodyPost _ _ _ _ _ _ | (simp only [Exit.then, Exit.inBlock]; show bodyPost _ _ _ _ _ _)
      refine bodyPost_ret (results_tmp3 rfl _ _ _) rfl ⟨?_, bel⟩
      have hg : getAt l p = _ := rdg_end hs (by omega) hZ (by omega) (by omega)
      rw [hg]
      exact congrArg Ending.returned (by show Value.tuple #[.int .i64 (zag (u ||| pt (bt ((l.drop p).take 10) k) k)), .int .i64 (((p : Int) + (k : Int)) + 1), .bool true] = _; rw [gres, show (((p : Int) + (k : Int)) + 1) = (p : Int) + ((k + 1 : Nat) : Int) by omega])
    have hp20 := of_decide_eq_true hg16
    refine wp_region_lit ?_
    refine st_mv (.int .u8 ((bt ((l.drop p).take 10) k).toNat : Int)) ?_
    simp only [nf0, nf1, nf2, nf3, nf4]
    refine st_value (v := (.bool false)) (by rfl) ((run_eql_int (.tmp 42) (.const (.int .u8 0)) rfl rfl rfl w6).trans (by rw [hg14])) ?_
    simp only [nf0, nf1, nf2, nf3, nf4]
    refine st_mv (.bool false) ?_
    simp only [nf0, nf1, nf2, nf3, nf4]
    refine st_nob (j := 2) (t := 44) (c := false) rfl rfl rfl rfl rfl ?_
    simp only [nf0, nf1, nf2, nf3, nf4]
    refine st_nob (j := 2) (t := 44) (c := false) rfl rfl rfl rfl rfl ?_
    simp only [nf0, nf1, nf2, nf3, nf4]
    refine st_mv (.bool false) ?_
    simp only [nf0, nf1, nf2, nf3, nf4]
    refine st_mv (.bool false) ?_
    simp only [nf0, nf1, nf2, nf3, nf4]
    refine st_mv (.int .i64 (k : Int)) ?_
    simp only [nf0, nf1, nf2, nf3, nf4]
    refine st_value (v := (.bool true)) (by rfl) ((run_eql_int (.tmp 49) (.const (.int .i64 9)) rfl rfl rfl w6).trans (by rw [hg16])) ?_
    simp only [nf0, nf1, nf2, nf3, nf4]
    refine st_mv (.bool true) ?_
    simp only [nf0, nf1, nf2, nf3, nf4]
    refine st_mv (.int .u8 ((bt ((l.drop p).take 10) k).toNat : Int)) ?_
    simp only [nf0, nf1, nf2, nf3, nf4]
    refine st_value (v := (.bool (decide (1 < ((bt ((l.drop p).take 10) k).toNat : Int))))) (by rfl) (run_gtr (.tmp 52) (.const (.int .u8 1)) rfl rfl rfl w6) ?_
    simp only [nf0, nf1, nf2, nf3, nf4]
    refine st_mv (.bool (decide (1 < ((bt ((l.drop p).take 10) k).toNat : Int)))) ?_
    simp only [nf0, nf1, nf2, nf3, nf4]
    refine st_mv (.bool (decide (1 < ((bt ((l.drop p).take 10) k).toNat : Int)))) ?_
    simp only [nf0, nf1, nf2, nf3, nf4]
    refine wpList_nil ?_
    show Code.wp _ _ _ _ _
    cases hg21 : decide (1 < ((bt ((l.drop p).take 10) k).toNat : Int))
    rotate_left
    · have hp25 := of_decide_eq_true hg21
      refine wp_cond_true rfl ?_
      refine wp_seq ?_
      refine wp_region_lit ?_
      refine st_mv (.int .i64 0) ?_
      simp only [nf0, nf1, nf2, nf3, nf4]
      refine st_mv (.int .i64 0) ?_
      simp only [nf0, nf1, nf2, nf3, nf4]
      refine st_mv (.bool false) ?_
      simp only [nf0, nf1, nf2, nf3, nf4]
      refine wpList_nil ?_
      show Code.wp _ _ _ _ _
      refine wp_ret ?_
      first | show bodyPost _ _ _ _ _ _ | (simp only [Exit.then, Exit.inBlock]; show bodyPost _ _ _ _ _ _)
      refine bodyPost_ret (results_tmp3 rfl _ _ _) rfl ⟨?_, bel⟩
      have hg : getAt l p = _ := rdg_bad hs (by omega) hZ (by omega) (by omega)
      rw [hg]
      exact congrArg Ending.returned (by rfl)
    have hp22 := of_decide_eq_false hg21
    refine wp_cond_false rfl ?_
    refine wp_skip ?_
    show Code.wp _ _ _ _ _
    refine wp_seq ?_
    refine wp_region_lit ?_
    refine st_mv (.int .u64 ((u ||| pt (bt ((l.drop p).take 10) k) k : Nat) : Int)) ?_
    simp only [nf0, nf1, nf2, nf3, nf4]
    refine st_call1 (v := (.int .i64 (zag (u ||| pt (bt ((l.drop p).take 10) k) k)))) (by rfl) (f1_run_call_27_1 (.tmp 56) rfl rfl _) (unfold_calls (Nat.or_lt_two_pow hum (pt_lt _ _)) w6) ?_
    intro w23 hb24
    simp only [nf0, nf1, nf2, nf3, nf4]
    replace bel := bl_step bel hb24
    clear hb24
    refine st_mv (.int .i64 (p : Int)) ?_
    simp only [nf0, nf1, nf2, nf3, nf4]
    refine st_mv (.int .i64 (k : Int)) ?_
    simp only [nf0, nf1, nf2, nf3, nf4]
    refine st_value (v := (.int .i64 ((p : Int) + (k : Int)))) (by rfl) (run_add_in (.tmp 58) (.tmp 59) rfl rfl rfl (by omega) w23) ?_
    simp only [nf0, nf1, nf2, nf3, nf4]
    refine st_value (v := (.int .i64 (((p : Int) + (k : Int)) + 1))) (by rfl) (run_add_in (.tmp 60) (.const (.int .i64 1)) rfl rfl rfl (by omega) w23) ?_
    simp only [nf0, nf1, nf2, nf3, nf4]
    refine st_mv (.int .i64 (zag (u ||| pt (bt ((l.drop p).take 10) k) k))) ?_
    simp only [nf0, nf1, nf2, nf3, nf4]
    refine st_mv (.int .i64 (((p : Int) + (k : Int)) + 1)) ?_
    simp only [nf0, nf1, nf2, nf3, nf4]
    refine st_mv (.bool true) ?_
    simp only [nf0, nf1, nf2, nf3, nf4]
    refine wpList_nil ?_
    show Code.wp _ _ _ _ _
    refine wp_ret ?_
    first | show bodyPost _ _ _ _ _ _ | (simp only [Exit.then, Exit.inBlock]; show bodyPost _ _ _ _ _ _)
    refine bodyPost_ret (results_tmp3 rfl _ _ _) rfl ⟨?_, bel⟩
    have hg : getAt l p = _ := rdg_end hs (by omega) hZ (by omega) (by omega)
    rw [hg]
    exact congrArg Ending.returned (by show Value.tuple #[.int .i64 (zag (u ||| pt (bt ((l.drop p).take 10) k) k)), .int .i64 (((p : Int) + (k : Int)) + 1), .bool true] = _; rw [gres, show (((p : Int) + (k : Int)) + 1) = (p : Int) + ((k + 1 : Nat) : Int) by omega])
  have hp26 := of_decide_eq_true hg14
  cases hg27 : decide (0 < (k : Int))
  rotate_left
  · have hp39 := of_decide_eq_true hg27
    refine wp_region_lit ?_
    refine st_mv (.int .u8 ((bt ((l.drop p).take 10) k).toNat : Int)) ?_
    simp only [nf0, nf1, nf2, nf3, nf4]
    refine st_value (v := (.bool true)) (by rfl) ((run_eql_int (.tmp 42) (.const (.int .u8 0)) rfl rfl rfl w6).trans (by rw [hg14])) ?_
    simp only [nf0, nf1, nf2, nf3, nf4]
    refine st_mv (.bool true) ?_
    simp only [nf0, nf1, nf2, nf3, nf4]
    refine st_mv (.int .i64 (k : Int)) ?_
    simp only [nf0, nf1, nf2, nf3, nf4]
    refine st_value (v := (.bool true)) (by rfl) ((run_gtr (.tmp 45) (.const (.int .i64 0)) rfl rfl rfl w6).trans (by rw [hg27])) ?_
    simp only [nf0, nf1, nf2, nf3, nf4]
    refine st_mv (.bool true) ?_
    simp only [nf0, nf1, nf2, nf3, nf4]
    refine st_mv (.bool true) ?_
    simp only [nf0, nf1, nf2, nf3, nf4]
    refine st_nob (j := 6) (t := 48) (c := true) rfl rfl rfl rfl rfl ?_
    simp only [nf0, nf1, nf2, nf3, nf4]
    refine st_nob (j := 6) (t := 48) (c := true) rfl rfl rfl rfl rfl ?_
    simp only [nf0, nf1, nf2, nf3, nf4]
    refine st_nob (j := 6) (t := 48) (c := true) rfl rfl rfl rfl rfl ?_
    simp only [nf0, nf1, nf2, nf3, nf4]
    refine st_nou (j := 9) (t := 51) rfl rfl rfl rfl ?_
    simp only [nf0, nf1, nf2, nf3, nf4]
    refine st_nou (j := 9) (t := 51) rfl rfl rfl rfl ?_
    simp only [nf0, nf1, nf2, nf3, nf4]
    refine st_nob (j := 6) (t := 48) (c := true) rfl rfl rfl rfl rfl ?_
    simp only [nf0, nf1, nf2, nf3, nf4]
    refine st_mv (.bool true) ?_
    simp only [nf0, nf1, nf2, nf3, nf4]
    refine wpList_nil ?_
    show Code.wp _ _ _ _ _
    refine wp_cond_true rfl ?_
    refine wp_seq ?_
    refine wp_region_lit ?_
    refine st_mv (.int .i64 0) ?_
    simp only [nf0, nf1, nf2, nf3, nf4]
    refine st_mv (.int .i64 0) ?_
    simp only [nf0, nf1, nf2, nf3, nf4]
    refine st_mv (.bool false) ?_
    simp only [nf0, nf1, nf2, nf3, nf4]
    refine wpList_nil ?_
    show Code.wp _ _ _ _ _
    refine wp_ret ?_
    first | show bodyPost _ _ _ _ _ _ | (simp only [Exit.then, Exit.inBlock]; show bodyPost _ _ _ _ _ _)
    refine bodyPost_ret (results_tmp3 rfl _ _ _) rfl ⟨?_, bel⟩
    have hg : getAt l p = _ := rdg_bad hs (by omega) hZ (by omega) (by omega)
    rw [hg]
    exact congrArg Ending.returned (by rfl)
  have hp28 := of_decide_eq_false hg27
  cases hg29 : decide ((k : Int) = 9)
  · have hp30 := of_decide_eq_false hg29
    refine wp_region_lit ?_
    refine st_mv (.int .u8 ((bt ((l.drop p).take 10) k).toNat : Int)) ?_
    simp only [nf0, nf1, nf2, nf3, nf4]
    refine st_value (v := (.bool true)) (by rfl) ((run_eql_int (.tmp 42) (.const (.int .u8 0)) rfl rfl rfl w6).trans (by rw [hg14])) ?_
    simp only [nf0, nf1, nf2, nf3, nf4]
    refine st_mv (.bool true) ?_
    simp only [nf0, nf1, nf2, nf3, nf4]
    refine st_mv (.int .i64 (k : Int)) ?_
    simp only [nf0, nf1, nf2, nf3, nf4]
    refine st_value (v := (.bool false)) (by rfl) ((run_gtr (.tmp 45) (.const (.int .i64 0)) rfl rfl rfl w6).trans (by rw [hg27])) ?_
    simp only [nf0, nf1, nf2, nf3, nf4]
    refine st_mv (.bool false) ?_
    simp only [nf0, nf1, nf2, nf3, nf4]
    refine st_mv (.bool false) ?_
    simp only [nf0, nf1, nf2, nf3, nf4]
    refine st_mv (.int .i64 (k : Int)) ?_
    simp only [nf0, nf1, nf2, nf3, nf4]
    refine st_value (v := (.bool false)) (by rfl) ((run_eql_int (.tmp 49) (.const (.int .i64 9)) rfl rfl rfl w6).trans (by rw [hg29])) ?_
    simp only [nf0, nf1, nf2, nf3, nf4]
    refine st_mv (.bool false) ?_
    simp only [nf0, nf1, nf2, nf3, nf4]
    refine st_nob (j := 9) (t := 51) (c := false) rfl rfl rfl rfl rfl ?_
    simp only [nf0, nf1, nf2, nf3, nf4]
    refine st_nob (j := 9) (t := 51) (c := false) rfl rfl rfl rfl rfl ?_
    simp only [nf0, nf1, nf2, nf3, nf4]
    refine st_mv (.bool false) ?_
    simp only [nf0, nf1, nf2, nf3, nf4]
    refine st_mv (.bool false) ?_
    simp only [nf0, nf1, nf2, nf3, nf4]
    refine wpList_nil ?_
    show Code.wp _ _ _ _ _
    refine wp_cond_false rfl ?_
    refine wp_skip ?_
    show Code.wp _ _ _ _ _
    refine wp_seq ?_
    refine wp_region_lit ?_
    refine st_mv (.int .u64 ((u ||| pt (bt ((l.drop p).take 10) k) k : Nat) : Int)) ?_
    simp only [nf0, nf1, nf2, nf3, nf4]
    refine st_call1 (v := (.int .i64 (zag (u ||| pt (bt ((l.drop p).take 10) k) k)))) (by rfl) (f1_run_call_27_1 (.tmp 56) rfl rfl _) (unfold_calls (Nat.or_lt_two_pow hum (pt_lt _ _)) w6) ?_
    intro w31 hb32
    simp only [nf0, nf1, nf2, nf3, nf4]
    replace bel := bl_step bel hb32
    clear hb32
    refine st_mv (.int .i64 (p : Int)) ?_
    simp only [nf0, nf1, nf2, nf3, nf4]
    refine st_mv (.int .i64 (k : Int)) ?_
    simp only [nf0, nf1, nf2, nf3, nf4]
    refine st_value (v := (.int .i64 ((p : Int) + (k : Int)))) (by rfl) (run_add_in (.tmp 58) (.tmp 59) rfl rfl rfl (by omega) w31) ?_
    simp only [nf0, nf1, nf2, nf3, nf4]
    refine st_value (v := (.int .i64 (((p : Int) + (k : Int)) + 1))) (by rfl) (run_add_in (.tmp 60) (.const (.int .i64 1)) rfl rfl rfl (by omega) w31) ?_
    simp only [nf0, nf1, nf2, nf3, nf4]
    refine st_mv (.int .i64 (zag (u ||| pt (bt ((l.drop p).take 10) k) k))) ?_
    simp only [nf0, nf1, nf2, nf3, nf4]
    refine st_mv (.int .i64 (((p : Int) + (k : Int)) + 1)) ?_
    simp only [nf0, nf1, nf2, nf3, nf4]
    refine st_mv (.bool true) ?_
    simp only [nf0, nf1, nf2, nf3, nf4]
    refine wpList_nil ?_
    show Code.wp _ _ _ _ _
    refine wp_ret ?_
    first | show bodyPost _ _ _ _ _ _ | (simp only [Exit.then, Exit.inBlock]; show bodyPost _ _ _ _ _ _)
    refine bodyPost_ret (results_tmp3 rfl _ _ _) rfl ⟨?_, bel⟩
    have hg : getAt l p = _ := rdg_end hs (by omega) hZ (by omega) (by omega)
    rw [hg]
    exact congrArg Ending.returned (by show Value.tuple #[.int .i64 (zag (u ||| pt (bt ((l.drop p).take 10) k) k)), .int .i64 (((p : Int) + (k : Int)) + 1), .bool true] = _; rw [gres, show (((p : Int) + (k : Int)) + 1) = (p : Int) + ((k + 1 : Nat) : Int) by omega])
  have hp33 := of_decide_eq_true hg29
  refine wp_region_lit ?_
  refine st_mv (.int .u8 ((bt ((l.drop p).take 10) k).toNat : Int)) ?_
  simp only [nf0, nf1, nf2, nf3, nf4]
  refine st_value (v := (.bool true)) (by rfl) ((run_eql_int (.tmp 42) (.const (.int .u8 0)) rfl rfl rfl w6).trans (by rw [hg14])) ?_
  simp only [nf0, nf1, nf2, nf3, nf4]
  refine st_mv (.bool true) ?_
  simp only [nf0, nf1, nf2, nf3, nf4]
  refine st_mv (.int .i64 (k : Int)) ?_
  simp only [nf0, nf1, nf2, nf3, nf4]
  refine st_value (v := (.bool false)) (by rfl) ((run_gtr (.tmp 45) (.const (.int .i64 0)) rfl rfl rfl w6).trans (by rw [hg27])) ?_
  simp only [nf0, nf1, nf2, nf3, nf4]
  refine st_mv (.bool false) ?_
  simp only [nf0, nf1, nf2, nf3, nf4]
  refine st_mv (.bool false) ?_
  simp only [nf0, nf1, nf2, nf3, nf4]
  refine st_mv (.int .i64 (k : Int)) ?_
  simp only [nf0, nf1, nf2, nf3, nf4]
  refine st_value (v := (.bool true)) (by rfl) ((run_eql_int (.tmp 49) (.const (.int .i64 9)) rfl rfl rfl w6).trans (by rw [hg29])) ?_
  simp only [nf0, nf1, nf2, nf3, nf4]
  refine st_mv (.bool true) ?_
  simp only [nf0, nf1, nf2, nf3, nf4]
  refine st_mv (.int .u8 ((bt ((l.drop p).take 10) k).toNat : Int)) ?_
  simp only [nf0, nf1, nf2, nf3, nf4]
  refine st_value (v := (.bool (decide (1 < ((bt ((l.drop p).take 10) k).toNat : Int))))) (by rfl) (run_gtr (.tmp 52) (.const (.int .u8 1)) rfl rfl rfl w6) ?_
  simp only [nf0, nf1, nf2, nf3, nf4]
  refine st_mv (.bool (decide (1 < ((bt ((l.drop p).take 10) k).toNat : Int)))) ?_
  simp only [nf0, nf1, nf2, nf3, nf4]
  refine st_mv (.bool (decide (1 < ((bt ((l.drop p).take 10) k).toNat : Int)))) ?_
  simp only [nf0, nf1, nf2, nf3, nf4]
  refine wpList_nil ?_
  show Code.wp _ _ _ _ _
  cases hg34 : decide (1 < ((bt ((l.drop p).take 10) k).toNat : Int))
  rotate_left
  · have hp38 := of_decide_eq_true hg34
    refine wp_cond_true rfl ?_
    refine wp_seq ?_
    refine wp_region_lit ?_
    refine st_mv (.int .i64 0) ?_
    simp only [nf0, nf1, nf2, nf3, nf4]
    refine st_mv (.int .i64 0) ?_
    simp only [nf0, nf1, nf2, nf3, nf4]
    refine st_mv (.bool false) ?_
    simp only [nf0, nf1, nf2, nf3, nf4]
    refine wpList_nil ?_
    show Code.wp _ _ _ _ _
    refine wp_ret ?_
    first | show bodyPost _ _ _ _ _ _ | (simp only [Exit.then, Exit.inBlock]; show bodyPost _ _ _ _ _ _)
    refine bodyPost_ret (results_tmp3 rfl _ _ _) rfl ⟨?_, bel⟩
    have hg : getAt l p = _ := rdg_bad hs (by omega) hZ (by omega) (by omega)
    rw [hg]
    exact congrArg Ending.returned (by rfl)
  have hp35 := of_decide_eq_false hg34
  refine wp_cond_false rfl ?_
  refine wp_skip ?_
  show Code.wp _ _ _ _ _
  refine wp_seq ?_
  refine wp_region_lit ?_
  refine st_mv (.int .u64 ((u ||| pt (bt ((l.drop p).take 10) k) k : Nat) : Int)) ?_
  simp only [nf0, nf1, nf2, nf3, nf4]
  refine st_call1 (v := (.int .i64 (zag (u ||| pt (bt ((l.drop p).take 10) k) k)))) (by rfl) (f1_run_call_27_1 (.tmp 56) rfl rfl _) (unfold_calls (Nat.or_lt_two_pow hum (pt_lt _ _)) w6) ?_
  intro w36 hb37
  simp only [nf0, nf1, nf2, nf3, nf4]
  replace bel := bl_step bel hb37
  clear hb37
  refine st_mv (.int .i64 (p : Int)) ?_
  simp only [nf0, nf1, nf2, nf3, nf4]
  refine st_mv (.int .i64 (k : Int)) ?_
  simp only [nf0, nf1, nf2, nf3, nf4]
  refine st_value (v := (.int .i64 ((p : Int) + (k : Int)))) (by rfl) (run_add_in (.tmp 58) (.tmp 59) rfl rfl rfl (by omega) w36) ?_
  simp only [nf0, nf1, nf2, nf3, nf4]
  refine st_value (v := (.int .i64 (((p : Int) + (k : Int)) + 1))) (by rfl) (run_add_in (.tmp 60) (.const (.int .i64 1)) rfl rfl rfl (by omega) w36) ?_
  simp only [nf0, nf1, nf2, nf3, nf4]
  refine st_mv (.int .i64 (zag (u ||| pt (bt ((l.drop p).take 10) k) k))) ?_
  simp only [nf0, nf1, nf2, nf3, nf4]
  refine st_mv (.int .i64 (((p : Int) + (k : Int)) + 1)) ?_
  simp only [nf0, nf1, nf2, nf3, nf4]
  refine st_mv (.bool true) ?_
  simp only [nf0, nf1, nf2, nf3, nf4]
  refine wpList_nil ?_
  show Code.wp _ _ _ _ _
  refine wp_ret ?_
  first | show bodyPost _ _ _ _ _ _ | (simp only [Exit.then, Exit.inBlock]; show bodyPost _ _ _ _ _ _)
  refine bodyPost_ret (results_tmp3 rfl _ _ _) rfl ⟨?_, bel⟩
  have hg : getAt l p = _ := rdg_end hs (by omega) hZ (by omega) (by omega)
  rw [hg]
  exact congrArg Ending.returned (by show Value.tuple #[.int .i64 (zag (u ||| pt (bt ((l.drop p).take 10) k) k)), .int .i64 (((p : Int) + (k : Int)) + 1), .bool true] = _; rw [gres, show (((p : Int) + (k : Int)) + 1) = (p : Int) + ((k + 1 : Nat) : Int) by omega])
end Go.Proofs.YtckmihjekgbcmaaDoor

/- What the document's Get reads, step by step: plain laws. -/
namespace Go.Proofs.YtckmihjekgbcmaaDoor
open Go.RowKit Go.WideShapes Go.ChangeShapes

theorem bt_cut {l : List UInt8} {p k : Nat} (h : k < ((l.drop p).take 10).length) : bt ((l.drop p).take 10) k = bt l (p + k) := by
  rw [List.length_take, List.length_drop] at h
  unfold bt
  simp only [List.getD_eq_getElem?_getD, List.getElem?_take, List.getElem?_drop]
  rw [if_pos (by omega)]
theorem part_lt {c : UInt8} {k j : Nat} (hj : j ≤ k) (hk : k ≤ 8 ∨ (k = 9 ∧ c.toNat ≤ 1)) : c.toNat % 128 * 2 ^ (7 * j) < 2 ^ 64 := by
  have h2 : 2 ^ (7 * j) ≤ 2 ^ (7 * k) := Nat.pow_le_pow_right (by omega) (by omega)
  rcases hk with hk | ⟨rfl, hc⟩
  · have h3 : 2 ^ (7 * k) ≤ 2 ^ 56 := Nat.pow_le_pow_right (by omega) (by omega)
    calc c.toNat % 128 * 2 ^ (7 * j) ≤ 127 * 2 ^ 56 := Nat.mul_le_mul (by omega) (Nat.le_trans h2 h3)
      _ < 2 ^ 64 := by decide
  · calc c.toNat % 128 * 2 ^ (7 * j) ≤ 1 * 2 ^ (7 * 9) := Nat.mul_le_mul (by omega) h2
      _ < 2 ^ 64 := by decide
theorem part_step {x j : Nat} : x * 2 ^ (7 * j) * 128 = x * 2 ^ (7 * (j + 1)) := by rw [show 7 * (j + 1) = 7 * j + 7 by omega, Nat.pow_add, Nat.mul_assoc]
theorem read_lt {c : UInt8} {k u : Nat} (hu : u < 2 ^ (7 * k)) (hk : k ≤ 8 ∨ (k = 9 ∧ c.toNat ≤ 1)) : u + c.toNat % 128 * 2 ^ (7 * k) < 2 ^ 64 := by
  rcases hk with hk | ⟨rfl, hc⟩
  · exact Nat.lt_of_lt_of_le (sum_lt hu) (Nat.pow_le_pow_right (by omega) (by omega))
  · have : c.toNat % 128 * 2 ^ (7 * 9) ≤ 1 * 2 ^ (7 * 9) := Nat.mul_le_mul_right _ (by omega)
    omega
/-- Where reading stands at the k-th byte. -/
def Rdh (Z : List UInt8) (k u : Nat) : Prop := u < 2 ^ (7 * k) ∧ gi (Z.drop k) k u = gi Z 0 0
theorem rdh_start (Z : List UInt8) : Rdh Z 0 0 := ⟨by decide, rfl⟩
theorem rdh_over {Z : List UInt8} {k u : Nat} (h : Rdh Z k u) (hk : Z.length ≤ k) : gi Z 0 0 = none := by rw [← h.2, List.drop_eq_nil_of_le hk, gi]
theorem rdh_cont {Z : List UInt8} {k u : Nat} {c : UInt8} (h : Rdh Z k u) (hk : k < Z.length) (hcz : bt Z k = c) (hc : 128 ≤ c.toNat) : Rdh Z (k + 1) (u + c.toNat % 128 * 2 ^ (7 * k)) := by
  subst hcz
  obtain ⟨h1, h2⟩ := h
  rw [drop_bt hk, gi_cont hc] at h2
  exact ⟨sum_lt h1, h2⟩
theorem rdh_bad {Z : List UInt8} {k u : Nat} {c : UInt8} (h : Rdh Z k u) (hk : k < Z.length) (hZ : Z.length ≤ 10) (hcz : bt Z k = c) (hb : (¬ 128 ≤ c.toNat ∧ c.toNat = 0 ∧ 0 < k) ∨ (k = 9 ∧ 1 < c.toNat)) : gi Z 0 0 = none := by
  subst hcz
  obtain ⟨h1, h2⟩ := h
  rw [drop_bt hk] at h2
  by_cases hc : 128 ≤ (bt Z k).toNat
  · rw [gi_cont hc, List.drop_eq_nil_of_le (by omega), gi] at h2
    exact h2.symm
  · rw [gi, if_neg hc, if_pos (by omega)] at h2
    exact h2.symm
theorem rdh_end {Z : List UInt8} {k u : Nat} {c : UInt8} (h : Rdh Z k u) (hk : k < Z.length) (hcz : bt Z k = c) (hc : ¬ 128 ≤ c.toNat) (hb : ¬ ((c.toNat = 0 ∧ 0 < k) ∨ (k = 9 ∧ 1 < c.toNat))) : gi Z 0 0 = some (u + c.toNat % 128 * 2 ^ (7 * k), k + 1) := by
  subst hcz
  obtain ⟨h1, h2⟩ := h
  rw [drop_bt hk, gi_end hc _ hb] at h2
  rw [← h2, Nat.mod_eq_of_lt (by omega)]
/-- What the document's Get answers. -/
def gres2 : Option (Nat × Nat) → Value
  | none => .tuple #[.int .i64 0, .int .i64 0]
  | some (u, m) => .tuple #[.int .i64 (zag u), .int .i64 (m : Int)]
end Go.Proofs.YtckmihjekgbcmaaDoor

/- The document's Get. -/
namespace Go.Proofs.YtckmihjekgbcmaaDoor
open Go.RowKit Go.WideShapes Go.ChangeShapes
set_option linter.unusedSimpArgs false
set_option linter.unusedVariables false


theorem halfI {m : Nat} (h : m < 2 ^ 64) : IntKind.i64.wrap ((m / 2 : Nat) : Int) = ((m / 2 : Nat) : Int) := IntWalk.i64_in _ (by omega)
theorem halfN {m : Nat} (h : m < 2 ^ 64) : IntKind.i64.wrap (0 - ((m / 2 : Nat) : Int)) = -((m / 2 : Nat) : Int) := by rw [Int.zero_sub]; exact IntWalk.i64_in _ (by omega)

attribute [local irreducible] Go.wpList Go.Code.wp
set_option maxRecDepth 100000 in
set_option maxHeartbeats 4000000 in
theorem refGet_out {A : Option Addr} (l : List UInt8) (cap : Nat) {i : Int} (hi : i < 0 ∨ (l.length : Int) < i) (w : World) : Calls Tryd.prog 9 #[.slice A l.length cap, .int .i64 i] w fun e w' => e = .returned (.tuple #[.int .i64 0, .int .i64 0]) ∧ Below w.heap.size w w' := by
  have bel : Below w.heap.size w w := Below.refl _ _
  go_enter Tryd.func9, Tryd.ntmps9
  refine wp_seq ?_
  refine wp_region_lit ?_
  refine st_mv (.int .i64 0) ?_
  simp only [nf0, nf1, nf2, nf3, nf4]
  refine st_mv (.int .i64 0) ?_
  simp only [nf0, nf1, nf2, nf3, nf4]
  refine wpList_nil ?_
  show Code.wp _ _ _ _ _
  refine wp_seq ?_
  refine wp_seq ?_
  cases hg1 : decide (i < 0)
  rotate_left
  · have hp6 := of_decide_eq_true hg1
    refine wp_region_lit ?_
    refine st_mv (.int .i64 i) ?_
    simp only [nf0, nf1, nf2, nf3, nf4]
    refine st_value (v := (.bool true)) (by rfl) ((run_lss (.tmp 12) (.const (.int .i64 0)) rfl rfl rfl w).trans (by rw [hg1])) ?_
    simp only [nf0, nf1, nf2, nf3, nf4]
    refine st_mv (.bool true) ?_
    simp only [nf0, nf1, nf2, nf3, nf4]
    refine st_nob (j := 2) (t := 14) (c := true) rfl rfl rfl rfl rfl ?_
    simp only [nf0, nf1, nf2, nf3, nf4]
    refine st_nob (j := 2) (t := 14) (c := true) rfl rfl rfl rfl rfl ?_
    simp only [nf0, nf1, nf2, nf3, nf4]
    refine st_nob (j := 2) (t := 14) (c := true) rfl rfl rfl rfl rfl ?_
    simp only [nf0, nf1, nf2, nf3, nf4]
    refine st_nob (j := 2) (t := 14) (c := true) rfl rfl rfl rfl rfl ?_
    simp only [nf0, nf1, nf2, nf3, nf4]
    refine st_mv (.bool true) ?_
    simp only [nf0, nf1, nf2, nf3, nf4]
    refine wpList_nil ?_
    show Code.wp _ _ _ _ _
    refine wp_cond_true rfl ?_
    refine wp_seq ?_
    refine wp_region_lit ?_
    refine st_mv (.int .i64 0) ?_
    simp only [nf0, nf1, nf2, nf3, nf4]
    refine st_mv (.int .i64 0) ?_
    simp only [nf0, nf1, nf2, nf3, nf4]
    refine wpList_nil ?_
    show Code.wp _ _ _ _ _
    refine wp_ret ?_
    first | show bodyPost _ _ _ _ _ _ | (simp only [Exit.then, Exit.inBlock]; show bodyPost _ _ _ _ _ _)
    exact bodyPost_ret (results_tmp2 rfl _ _ _) rfl ⟨rfl, bel⟩
  have hp2 := of_decide_eq_false hg1
  refine wp_region_lit ?_
  refine st_mv (.int .i64 i) ?_
  simp only [nf0, nf1, nf2, nf3, nf4]
  refine st_value (v := (.bool false)) (by rfl) ((run_lss (.tmp 12) (.const (.int .i64 0)) rfl rfl rfl w).trans (by rw [hg1])) ?_
  simp only [nf0, nf1, nf2, nf3, nf4]
  refine st_mv (.bool false) ?_
  simp only [nf0, nf1, nf2, nf3, nf4]
  refine st_mv (.int .i64 i) ?_
  simp only [nf0, nf1, nf2, nf3, nf4]
  refine st_mv (.slice A l.length cap) ?_
  simp only [nf0, nf1, nf2, nf3, nf4]
  refine st_value (v := (.int .i64 (l.length : Int))) (by rfl) (run_len (.tmp 16) rfl ⟨_, Tryd.underlying22⟩ rfl w) ?_
  simp only [nf0, nf1, nf2, nf3, nf4]
  refine st_value (v := (.bool (decide ((l.length : Int) < i)))) (by rfl) (run_gtr (.tmp 15) (.tmp 17) rfl rfl rfl w) ?_
  simp only [nf0, nf1, nf2, nf3, nf4]
  refine st_mv (.bool (decide ((l.length : Int) < i))) ?_
  simp only [nf0, nf1, nf2, nf3, nf4]
  refine wpList_nil ?_
  show Code.wp _ _ _ _ _
  cases hg3 : decide ((l.length : Int) < i)
  · have hp4 := of_decide_eq_false hg3
    exfalso
    omega
  have hp5 := of_decide_eq_true hg3
  refine wp_cond_true rfl ?_
  refine wp_seq ?_
  refine wp_region_lit ?_
  refine st_mv (.int .i64 0) ?_
  simp only [nf0, nf1, nf2, nf3, nf4]
  refine st_mv (.int .i64 0) ?_
  simp only [nf0, nf1, nf2, nf3, nf4]
  refine wpList_nil ?_
  show Code.wp _ _ _ _ _
  refine wp_ret ?_
  first | show bodyPost _ _ _ _ _ _ | (simp only [Exit.then, Exit.inBlock]; show bodyPost _ _ _ _ _ _)
  exact bodyPost_ret (results_tmp2 rfl _ _ _) rfl ⟨rfl, bel⟩
set_option maxRecDepth 100000 in
set_option maxHeartbeats 4000000 in
theorem refGet_in (A : Option Addr) (l : List UInt8) (cap p : Nat) (hcap : l.length ≤ cap) (hl : l.length ≤ 10000000) (hp : p ≤ l.length) (w : World) (hr : Reads w A (eByte.all l)) : Calls Tryd.prog 9 #[.slice A l.length cap, .int .i64 (p : Int)] w fun e w' => e = .returned (gres2 (getAt l p)) ∧ Below w.heap.size w w' := by
  have bel : Below w.heap.size w w := Below.refl _ _
  have hZ : ((l.drop p).take 10).length ≤ 10 := by rw [List.length_take]; omega
  go_enter Tryd.func9, Tryd.ntmps9
  refine wp_seq ?_
  refine wp_region_lit ?_
  refine st_mv (.int .i64 0) ?_
  simp only [nf0, nf1, nf2, nf3, nf4]
  refine st_mv (.int .i64 0) ?_
  simp only [nf0, nf1, nf2, nf3, nf4]
  refine wpList_nil ?_
  show Code.wp _ _ _ _ _
  refine wp_seq ?_
  refine wp_seq ?_
  cases hg1 : decide ((p : Int) < 0)
  rotate_left
  · have hp62 := of_decide_eq_true hg1
    exfalso
    omega
  have hp2 := of_decide_eq_false hg1
  refine wp_region_lit ?_
  refine st_mv (.int .i64 (p : Int)) ?_
  simp only [nf0, nf1, nf2, nf3, nf4]
  refine st_value (v := (.bool false)) (by rfl) ((run_lss (.tmp 12) (.const (.int .i64 0)) rfl rfl rfl w).trans (by rw [hg1])) ?_
  simp only [nf0, nf1, nf2, nf3, nf4]
  refine st_mv (.bool false) ?_
  simp only [nf0, nf1, nf2, nf3, nf4]
  refine st_mv (.int .i64 (p : Int)) ?_
  simp only [nf0, nf1, nf2, nf3, nf4]
  refine st_mv (.slice A l.length cap) ?_
  simp only [nf0, nf1, nf2, nf3, nf4]
  refine st_value (v := (.int .i64 (l.length : Int))) (by rfl) (run_len (.tmp 16) rfl ⟨_, Tryd.underlying22⟩ rfl w) ?_
  simp only [nf0, nf1, nf2, nf3, nf4]
  refine st_value (v := (.bool (decide ((l.length : Int) < (p : Int))))) (by rfl) (run_gtr (.tmp 15) (.tmp 17) rfl rfl rfl w) ?_
  simp only [nf0, nf1, nf2, nf3, nf4]
  refine st_mv (.bool (decide ((l.length : Int) < (p : Int)))) ?_
  simp only [nf0, nf1, nf2, nf3, nf4]
  refine wpList_nil ?_
  show Code.wp _ _ _ _ _
  cases hg3 : decide ((l.length : Int) < (p : Int))
  rotate_left
  · have hp61 := of_decide_eq_true hg3
    exfalso
    omega
  have hp4 := of_decide_eq_false hg3
  refine wp_cond_false rfl ?_
  refine wp_skip ?_
  show Code.wp _ _ _ _ _
  refine wp_seq ?_
  refine wp_region_lit ?_
  refine st_mv (.int .u64 0) ?_
  simp only [nf0, nf1, nf2, nf3, nf4]
  refine wpList_nil ?_
  show Code.wp _ _ _ _ _
  refine wp_seq ?_
  refine wp_seq ?_
  refine wp_region_lit ?_
  refine st_mv (.int .i64 0) ?_
  simp only [nf0, nf1, nf2, nf3, nf4]
  refine wpList_nil ?_
  show Code.wp _ _ _ _ _
  refine wp_block ?_
  refine wp_loop_left (fun n_ a_ wr_ => (fun J5 => ∃ (k : Nat) (u : Nat), n_ = 10 - k ∧ a_ = ⟨#[.slice A l.length cap, .int .i64 (p : Int), J5 2, J5 3, J5 4, J5 5, .int .u64 ((u : Nat) : Int), .int .i64 (k : Int), J5 8, J5 9, J5 10, J5 11, J5 12, J5 13, J5 14, J5 15, J5 16, J5 17, J5 18, J5 19, J5 20, J5 21, J5 22, J5 23, J5 24, J5 25, J5 26, J5 27, J5 28, J5 29, J5 30, J5 31, J5 32, J5 33, J5 34, J5 35, J5 36, J5 37, J5 38, J5 39, J5 40, J5 41, J5 42, J5 43, J5 44, J5 45, J5 46, J5 47, J5 48, J5 49, J5 50, J5 51, J5 52, J5 53, J5 54, J5 55, J5 56, J5 57, J5 58, J5 59, J5 60, J5 61, J5 62, J5 63, J5 64, J5 65, J5 66, J5 67, J5 68, J5 69, J5 70, J5 71, J5 72, J5 73, J5 74, J5 75, J5 76], []⟩ ∧ Below w.heap.size w wr_ ∧ (k ≤ 9) ∧ (Rdh ((l.drop p).take 10) k u)) (jk a_)) (10 - 0) ⟨0, 0, rfl, rfl, bel, (by omega), (rdh_start _)⟩ ?_
  clear bel
  intro n_ a_ w6 h_
  revert h_
  generalize jk a_ = J5
  rintro ⟨k, u, hms, rfl, bel, hk, hs⟩
  refine wp_seq ?_
  refine wp_seq ?_
  cases hg7 : decide ((k : Int) < 10)
  · have hp8 := of_decide_eq_false hg7
    exfalso
    omega
  have hp9 := of_decide_eq_true hg7
  refine wp_region_lit ?_
  refine st_mv (.int .i64 (k : Int)) ?_
  simp only [nf0, nf1, nf2, nf3, nf4]
  refine st_value (v := (.bool true)) (by rfl) ((run_lss (.tmp 20) (.const (.int .i64 10)) rfl rfl rfl w6).trans (by rw [hg7])) ?_
  simp only [nf0, nf1, nf2, nf3, nf4]
  refine st_mv (.bool true) ?_
  simp only [nf0, nf1, nf2, nf3, nf4]
  refine st_mv (.int .i64 (p : Int)) ?_
  simp only [nf0, nf1, nf2, nf3, nf4]
  refine st_mv (.int .i64 (k : Int)) ?_
  simp only [nf0, nf1, nf2, nf3, nf4]
  refine st_value (v := (.int .i64 ((p : Int) + (k : Int)))) (by rfl) (run_add_in (.tmp 23) (.tmp 24) rfl rfl rfl (by omega) w6) ?_
  simp only [nf0, nf1, nf2, nf3, nf4]
  refine st_mv (.slice A l.length cap) ?_
  simp only [nf0, nf1, nf2, nf3, nf4]
  refine st_value (v := (.int .i64 (l.length : Int))) (by rfl) (run_len (.tmp 26) rfl ⟨_, Tryd.underlying22⟩ rfl w6) ?_
  simp only [nf0, nf1, nf2, nf3, nf4]
  refine st_value (v := (.bool (decide (((p : Int) + (k : Int)) < (l.length : Int))))) (by rfl) (run_lss (.tmp 25) (.tmp 27) rfl rfl rfl w6) ?_
  simp only [nf0, nf1, nf2, nf3, nf4]
  refine st_mv (.bool (decide (((p : Int) + (k : Int)) < (l.length : Int)))) ?_
  simp only [nf0, nf1, nf2, nf3, nf4]
  refine wpList_nil ?_
  show Code.wp _ _ _ _ _
  cases hg10 : decide (((p : Int) + (k : Int)) < (l.length : Int))
  · have hp11 := of_decide_eq_false hg10
    refine wp_cond_false rfl ?_
    refine wp_exit ?_
    show Code.wp _ _ _ _ _
    refine wp_seq ?_
    refine wp_region_lit ?_
    refine st_mv (.int .i64 0) ?_
    simp only [nf0, nf1, nf2, nf3, nf4]
    refine st_mv (.int .i64 0) ?_
    simp only [nf0, nf1, nf2, nf3, nf4]
    refine wpList_nil ?_
    show Code.wp _ _ _ _ _
    refine wp_ret ?_
    first | show bodyPost _ _ _ _ _ _ | (simp only [Exit.then, Exit.inBlock]; show bodyPost _ _ _ _ _ _)
    have hg : getAt l p = none := rdh_over hs (by rw [List.length_take, List.length_drop]; omega)
    exact bodyPost_ret (results_tmp2 rfl _ _ _) rfl ⟨by rw [hg]; rfl, bel⟩
  have hp12 := of_decide_eq_true hg10
  refine wp_cond_true rfl ?_
  refine wp_skip ?_
  show Code.wp _ _ _ _ _
  refine wp_seq ?_
  refine wp_block ?_
  refine wp_seq ?_
  have hkz : k < ((l.drop p).take 10).length := by rw [List.length_take, List.length_drop]; omega
  have hcz := bt_cut hkz
  have hc8 := u8_lt (bt l (p + k))
  obtain ⟨b13, o14, rfl, _⟩ := (hr.same bel).at_ (by rw [eByte_all, List.length_map]; omega)
  refine wp_region_lit ?_
  refine st_mv (.slice (some ⟨b13, o14, none⟩) l.length cap) ?_
  simp only [nf0, nf1, nf2, nf3, nf4]
  refine st_mv (.int .i64 (p : Int)) ?_
  simp only [nf0, nf1, nf2, nf3, nf4]
  refine st_mv (.int .i64 (k : Int)) ?_
  simp only [nf0, nf1, nf2, nf3, nf4]
  refine st_value (v := (.int .i64 ((p : Int) + (k : Int)))) (by rfl) (run_add_in (.tmp 33) (.tmp 34) rfl rfl rfl (by omega) w6) ?_
  simp only [nf0, nf1, nf2, nf3, nf4]
  refine st_value (v := (.pointer (some ⟨b13, o14 + (p + k) * 1, none⟩))) (by rfl) (run_indexAddrN (.tmp 32) (.tmp 35) rfl Tryd.underlying22 slByte.sz (i := (p + k)) rfl (by exact (congrArg (Value.int .i64) (show ((p : Int) + (k : Int)) = ((p + k : Nat) : Int) by omega))) (by omega) w6) ?_
  simp only [nf0, nf1, nf2, nf3, nf4]
  refine st_value (v := (.int .u8 ((bt l (p + k)).toNat : Int))) (by rfl) (run_load1 (.tmp 36) rfl Tryd.underlying5 rfl slByte.sz rfl (Reads.byteAt (hr.same bel) (p + k) (by omega))) ?_
  simp only [nf0, nf1, nf2, nf3, nf4]
  refine st_mv (.int .u8 ((bt l (p + k)).toNat : Int)) ?_
  simp only [nf0, nf1, nf2, nf3, nf4]
  refine wpList_nil ?_
  show Code.wp _ _ _ _ _
  refine wp_seq ?_
  refine wp_seq ?_
  cases hg15 : decide ((k : Int) = 9)
  · have hp16 := of_decide_eq_false hg15
    refine wp_region_lit ?_
    refine st_mv (.int .i64 (k : Int)) ?_
    simp only [nf0, nf1, nf2, nf3, nf4]
    refine st_value (v := (.bool false)) (by rfl) ((run_eql_int (.tmp 38) (.const (.int .i64 9)) rfl rfl rfl w6).trans (by rw [hg15])) ?_
    simp only [nf0, nf1, nf2, nf3, nf4]
    refine st_mv (.bool false) ?_
    simp only [nf0, nf1, nf2, nf3, nf4]
    refine st_nob (j := 2) (t := 40) (c := false) rfl rfl rfl rfl rfl ?_
    simp only [nf0, nf1, nf2, nf3, nf4]
    refine st_nob (j := 2) (t := 40) (c := false) rfl rfl rfl rfl rfl ?_
    simp only [nf0, nf1, nf2, nf3, nf4]
    refine st_mv (.bool false) ?_
    simp only [nf0, nf1, nf2, nf3, nf4]
    refine wpList_nil ?_
    show Code.wp _ _ _ _ _
    refine wp_cond_false rfl ?_
    refine wp_skip ?_
    show Code.wp _ _ _ _ _
    refine wp_seq ?_
    refine wp_region_lit ?_
    refine st_mv (.int .u8 ((bt l (p + k)).toNat : Int)) ?_
    simp only [nf0, nf1, nf2, nf3, nf4]
    refine st_value (v := (.int .u8 (((bt l (p + k)).toNat % 128 : Nat) : Int))) (by rfl) (run_remK (.tmp 44) (.const (.int .u8 128)) rfl (k := .u8) (m := (bt l (p + k)).toNat) (n := 128) rfl rfl (by omega) w6) ?_
    simp only [nf0, nf1, nf2, nf3, nf4]
    refine st_value (v := (.int .u64 (((bt l (p + k)).toNat % 128 : Nat) : Int))) (by rfl) (run_conv_u8_u64 (.tmp 45) rfl Tryd.underlying5 Tryd.underlying31 (z := (((bt l (p + k)).toNat % 128 : Nat) : Int)) (z' := (((bt l (p + k)).toNat % 128 : Nat) : Int)) rfl (by rw [wrap_u64z]; omega) w6) ?_
    simp only [nf0, nf1, nf2, nf3, nf4]
    refine st_mv (.int .u64 (((bt l (p + k)).toNat % 128 : Nat) : Int)) ?_
    simp only [nf0, nf1, nf2, nf3, nf4]
    refine wpList_nil ?_
    show Code.wp _ _ _ _ _
    refine wp_seq ?_
    refine wp_seq ?_
    refine wp_region_lit ?_
    refine st_mv (.int .i64 0) ?_
    simp only [nf0, nf1, nf2, nf3, nf4]
    refine wpList_nil ?_
    show Code.wp _ _ _ _ _
    refine wp_block ?_
    refine wp_loop_left (fun n_ a_ wr_ => (fun J17 => ∃ (j : Nat) (q : Nat), n_ = k - j ∧ a_ = ⟨#[.slice (some ⟨b13, o14, none⟩) l.length cap, .int .i64 (p : Int), J17 2, J17 3, J5 4, J5 5, .int .u64 ((u : Nat) : Int), .int .i64 (k : Int), .int .u8 ((bt l (p + k)).toNat : Int), .int .u64 ((q : Nat) : Int), .int .i64 (j : Int), J17 11, J17 12, J17 13, J17 14, J17 15, J17 16, J17 17, J17 18, J17 19, J17 20, J17 21, J17 22, J17 23, J17 24, J17 25, J17 26, J17 27, J17 28, J17 29, J17 30, J17 31, J17 32, J17 33, J17 34, J17 35, J17 36, J17 37, J17 38, J17 39, J17 40, J17 41, J17 42, J17 43, J17 44, J17 45, J17 46, J17 47, J17 48, J17 49, J17 50, J17 51, J17 52, J17 53, J17 54, J17 55, J17 56, J17 57, J17 58, J17 59, J17 60, J17 61, J17 62, J17 63, J17 64, J17 65, J17 66, J17 67, J17 68, J17 69, J17 70, J17 71, J17 72, J17 73, J17 74, J17 75, J17 76], []⟩ ∧ Below w.heap.size w wr_ ∧ (j ≤ k) ∧ (q = (bt l (p + k)).toNat % 128 * 2 ^ (7 * j))) (jk a_)) (k - 0) ⟨0, ((bt l (p + k)).toNat % 128), rfl, rfl, bel, (by omega), (by rw [Nat.mul_zero, Nat.pow_zero, Nat.mul_one])⟩ ?_
    clear bel
    intro n_ a_ w18 h_
    revert h_
    generalize jk a_ = J17
    rintro ⟨j, q, hms, rfl, bel, hj, hq⟩
    refine wp_seq ?_
    refine wp_seq ?_
    refine wp_region_lit ?_
    refine st_mv (.int .i64 (j : Int)) ?_
    simp only [nf0, nf1, nf2, nf3, nf4]
    refine st_mv (.int .i64 (k : Int)) ?_
    simp only [nf0, nf1, nf2, nf3, nf4]
    refine st_value (v := (.bool (decide ((j : Int) < (k : Int))))) (by rfl) (run_lss (.tmp 47) (.tmp 48) rfl rfl rfl w18) ?_
    simp only [nf0, nf1, nf2, nf3, nf4]
    refine wpList_nil ?_
    show Code.wp _ _ _ _ _
    cases hg19 : decide ((j : Int) < (k : Int))
    rotate_left
    · have hp36 := of_decide_eq_true hg19
      refine wp_cond_true rfl ?_
      refine wp_skip ?_
      show Code.wp _ _ _ _ _
      refine wp_seq ?_
      refine wp_block ?_
      refine wp_region_lit ?_
      refine st_mv (.int .u64 ((q : Nat) : Int)) ?_
      simp only [nf0, nf1, nf2, nf3, nf4]
      refine st_value (v := (.int .u64 ((q * 128 : Nat) : Int))) (by rfl) (run_mulW (.tmp 52) (.const (.int .u64 128)) rfl (m := q) (n := 128) (r := q * 128) rfl rfl rfl (by rw [hq, part_step]; exact part_lt (k := k) (by omega) (by omega)) w18) ?_
      simp only [nf0, nf1, nf2, nf3, nf4]
      refine st_mv (.int .u64 ((q * 128 : Nat) : Int)) ?_
      simp only [nf0, nf1, nf2, nf3, nf4]
      refine wpList_nil ?_
      show Code.wp _ _ _ _ _
      refine wp_region_lit ?_
      refine st_mv (.int .i64 (j : Int)) ?_
      simp only [nf0, nf1, nf2, nf3, nf4]
      refine st_value (v := (.int .i64 ((j : Int) + 1))) (by rfl) (run_add_in (.tmp 50) (.const (.int .i64 1)) rfl rfl rfl (by omega) w18) ?_
      simp only [nf0, nf1, nf2, nf3, nf4]
      refine st_mv (.int .i64 ((j : Int) + 1)) ?_
      simp only [nf0, nf1, nf2, nf3, nf4]
      refine wpList_nil ?_
      show ∃ m, m < _ ∧ _
      exact ⟨_, (by omega), (j + 1), (q * 128), rfl, rfl, bel, (by omega), (by rw [hq, part_step])⟩
    have hp20 := of_decide_eq_false hg19
    refine wp_cond_false rfl ?_
    refine wp_exit ?_
    show Code.wp _ _ _ _ _
    refine wp_seq ?_
    obtain rfl : k = j := by omega
    subst hq
    refine wp_region_lit ?_
    refine st_mv (.int .u64 ((u : Nat) : Int)) ?_
    simp only [nf0, nf1, nf2, nf3, nf4]
    refine st_mv (.int .u64 (((bt l (p + k)).toNat % 128 * 2 ^ (7 * k) : Nat) : Int)) ?_
    simp only [nf0, nf1, nf2, nf3, nf4]
    refine st_value (v := (.int .u64 ((u + (bt l (p + k)).toNat % 128 * 2 ^ (7 * k) : Nat) : Int))) (by rfl) (run_addW (.tmp 54) (.tmp 55) rfl (m := u) (n := (bt l (p + k)).toNat % 128 * 2 ^ (7 * k)) rfl rfl (read_lt hs.1 (by omega)) w18) ?_
    simp only [nf0, nf1, nf2, nf3, nf4]
    refine st_mv (.int .u64 ((u + (bt l (p + k)).toNat % 128 * 2 ^ (7 * k) : Nat) : Int)) ?_
    simp only [nf0, nf1, nf2, nf3, nf4]
    refine wpList_nil ?_
    show Code.wp _ _ _ _ _
    refine wp_seq ?_
    refine wp_seq ?_
    refine wp_region_lit ?_
    refine st_mv (.int .u8 ((bt l (p + k)).toNat : Int)) ?_
    simp only [nf0, nf1, nf2, nf3, nf4]
    refine st_value (v := (.bool (decide (128 ≤ ((bt l (p + k)).toNat : Int))))) (by rfl) (run_geq (.tmp 57) (.const (.int .u8 128)) rfl rfl rfl w18) ?_
    simp only [nf0, nf1, nf2, nf3, nf4]
    refine wpList_nil ?_
    show Code.wp _ _ _ _ _
    cases hg21 : decide (128 ≤ ((bt l (p + k)).toNat : Int))
    rotate_left
    · have hp35 := of_decide_eq_true hg21
      refine wp_cond_true rfl ?_
      refine wp_exit ?_
      show Code.wp _ _ _ _ _
      refine wp_region_lit ?_
      refine st_mv (.int .i64 (k : Int)) ?_
      simp only [nf0, nf1, nf2, nf3, nf4]
      refine st_value (v := (.int .i64 ((k : Int) + 1))) (by rfl) (run_add_in (.tmp 30) (.const (.int .i64 1)) rfl rfl rfl (by omega) w18) ?_
      simp only [nf0, nf1, nf2, nf3, nf4]
      refine st_mv (.int .i64 ((k : Int) + 1)) ?_
      simp only [nf0, nf1, nf2, nf3, nf4]
      refine wpList_nil ?_
      show ∃ m, m < _ ∧ _
      exact ⟨_, (by omega), (k + 1), (u + (bt l (p + k)).toNat % 128 * 2 ^ (7 * k)), rfl, rfl, bel, (by omega), (rdh_cont hs hkz hcz (by omega))⟩
    have hp22 := of_decide_eq_false hg21
    refine wp_cond_false rfl ?_
    refine wp_skip ?_
    show Code.wp _ _ _ _ _
    refine wp_seq ?_
    refine wp_seq ?_
    cases hg23 : decide (0 < (k : Int))
    · have hp24 := of_decide_eq_false hg23
      refine wp_region_lit ?_
      refine st_mv (.int .i64 (k : Int)) ?_
      simp only [nf0, nf1, nf2, nf3, nf4]
      refine st_value (v := (.bool false)) (by rfl) ((run_gtr (.tmp 59) (.const (.int .i64 0)) rfl rfl rfl w18).trans (by rw [hg23])) ?_
      simp only [nf0, nf1, nf2, nf3, nf4]
      refine st_mv (.bool false) ?_
      simp only [nf0, nf1, nf2, nf3, nf4]
      refine st_nob (j := 2) (t := 61) (c := false) rfl rfl rfl rfl rfl ?_
      simp only [nf0, nf1, nf2, nf3, nf4]
      refine st_nob (j := 2) (t := 61) (c := false) rfl rfl rfl rfl rfl ?_
      simp only [nf0, nf1, nf2, nf3, nf4]
      refine st_mv (.bool false) ?_
      simp only [nf0, nf1, nf2, nf3, nf4]
      refine wpList_nil ?_
      show Code.wp _ _ _ _ _
      refine wp_cond_false rfl ?_
      refine wp_skip ?_
      show Code.wp _ _ _ _ _
      refine wp_seq ?_
      refine wp_region_lit ?_
      refine st_mv (.int .u64 ((u + (bt l (p + k)).toNat % 128 * 2 ^ (7 * k) : Nat) : Int)) ?_
      simp only [nf0, nf1, nf2, nf3, nf4]
      refine st_value (v := (.int .u64 (((u + (bt l (p + k)).toNat % 128 * 2 ^ (7 * k)) / 2 : Nat) : Int))) (by rfl) (run_quoW (.tmp 65) (.const (.int .u64 2)) rfl (m := (u + (bt l (p + k)).toNat % 128 * 2 ^ (7 * k))) (n := 2) rfl rfl (by omega) (read_lt hs.1 (by omega)) w18) ?_
      simp only [nf0, nf1, nf2, nf3, nf4]
      refine st_value (v := (.int .i64 (((u + (bt l (p + k)).toNat % 128 * 2 ^ (7 * k)) / 2 : Nat) : Int))) (by rfl) (run_conv_u64_i64 (.tmp 66) rfl Tryd.underlying31 Tryd.underlying3 (z := (((u + (bt l (p + k)).toNat % 128 * 2 ^ (7 * k)) / 2 : Nat) : Int)) (z' := (((u + (bt l (p + k)).toNat % 128 * 2 ^ (7 * k)) / 2 : Nat) : Int)) rfl (halfI (read_lt (c := (bt l (p + k))) hs.1 (by omega))) w18) ?_
      simp only [nf0, nf1, nf2, nf3, nf4]
      refine st_mv (.int .i64 (((u + (bt l (p + k)).toNat % 128 * 2 ^ (7 * k)) / 2 : Nat) : Int)) ?_
      simp only [nf0, nf1, nf2, nf3, nf4]
      refine wpList_nil ?_
      show Code.wp _ _ _ _ _
      refine wp_seq ?_
      refine wp_seq ?_
      have hhf : (u + (bt l (p + k)).toNat % 128 * 2 ^ (7 * k)) / 2 < 9223372036854775808 := by have h := read_lt (c := (bt l (p + k))) hs.1 (by omega); generalize (u + (bt l (p + k)).toNat % 128 * 2 ^ (7 * k)) = m at *; omega
      refine wp_region_lit ?_
      refine st_mv (.int .u64 ((u + (bt l (p + k)).toNat % 128 * 2 ^ (7 * k) : Nat) : Int)) ?_
      simp only [nf0, nf1, nf2, nf3, nf4]
      refine st_value (v := (.int .u64 (((u + (bt l (p + k)).toNat % 128 * 2 ^ (7 * k)) % 2 : Nat) : Int))) (by rfl) (run_remK (.tmp 68) (.const (.int .u64 2)) rfl (k := .u64) (m := (u + (bt l (p + k)).toNat % 128 * 2 ^ (7 * k))) (n := 2) rfl rfl (by omega) w18) ?_
      simp only [nf0, nf1, nf2, nf3, nf4]
      refine st_value (v := (.bool (decide ((((u + (bt l (p + k)).toNat % 128 * 2 ^ (7 * k)) % 2 : Nat) : Int) = 1)))) (by rfl) (run_eql_int (.tmp 69) (.const (.int .u64 1)) rfl rfl rfl w18) ?_
      simp only [nf0, nf1, nf2, nf3, nf4]
      refine wpList_nil ?_
      show Code.wp _ _ _ _ _
      cases hg25 : decide ((((u + (bt l (p + k)).toNat % 128 * 2 ^ (7 * k)) % 2 : Nat) : Int) = 1)
      · have hp26 := of_decide_eq_false hg25
        refine wp_cond_false rfl ?_
        refine wp_skip ?_
        show Code.wp _ _ _ _ _
        refine wp_seq ?_
        refine wp_region_lit ?_
        refine st_mv (.int .i64 (((u + (bt l (p + k)).toNat % 128 * 2 ^ (7 * k)) / 2 : Nat) : Int)) ?_
        simp only [nf0, nf1, nf2, nf3, nf4]
        refine st_mv (.int .i64 (k : Int)) ?_
        simp only [nf0, nf1, nf2, nf3, nf4]
        refine st_value (v := (.int .i64 ((k : Int) + 1))) (by rfl) (run_add_in (.tmp 75) (.const (.int .i64 1)) rfl rfl rfl (by omega) w18) ?_
        simp only [nf0, nf1, nf2, nf3, nf4]
        refine st_mv (.int .i64 (((u + (bt l (p + k)).toNat % 128 * 2 ^ (7 * k)) / 2 : Nat) : Int)) ?_
        simp only [nf0, nf1, nf2, nf3, nf4]
        refine st_mv (.int .i64 ((k : Int) + 1)) ?_
        simp only [nf0, nf1, nf2, nf3, nf4]
        refine wpList_nil ?_
        show Code.wp _ _ _ _ _
        refine wp_ret ?_
        first | show bodyPost _ _ _ _ _ _ | (simp only [Exit.then, Exit.inBlock]; show bodyPost _ _ _ _ _ _)
        have hg : getAt l p = some ((u + (bt l (p + k)).toNat % 128 * 2 ^ (7 * k)), k + 1) := rdh_end hs hkz hcz (by omega) (by omega)
        refine bodyPost_ret (results_tmp2 rfl _ _ _) rfl ⟨?_, bel⟩
        rw [hg]
        show Ending.returned (Value.tuple #[.int .i64 (((u + (bt l (p + k)).toNat % 128 * 2 ^ (7 * k)) / 2 : Nat) : Int), .int .i64 ((k : Int) + 1)]) = Ending.returned (Value.tuple #[.int .i64 (zag (u + (bt l (p + k)).toNat % 128 * 2 ^ (7 * k))), .int .i64 ((k + 1 : Nat) : Int)])
        have hz : ((((u + (bt l (p + k)).toNat % 128 * 2 ^ (7 * k)) / 2 : Nat) : Int) : Int) = zag (u + (bt l (p + k)).toNat % 128 * 2 ^ (7 * k)) := by unfold zag; split <;> omega
        rw [hz, show (((k : Int) + 1) : Int) = ((k + 1 : Nat) : Int) by omega]
      have hp27 := of_decide_eq_true hg25
      refine wp_cond_true rfl ?_
      refine wp_region_lit ?_
      refine st_mv (.int .i64 (((u + (bt l (p + k)).toNat % 128 * 2 ^ (7 * k)) / 2 : Nat) : Int)) ?_
      simp only [nf0, nf1, nf2, nf3, nf4]
      refine st_value (v := (.int .i64 (-(((u + (bt l (p + k)).toNat % 128 * 2 ^ (7 * k)) / 2 : Nat) : Int)))) (by rfl) (run_negZ (.tmp 71) rfl (z := (((u + (bt l (p + k)).toNat % 128 * 2 ^ (7 * k)) / 2 : Nat) : Int)) (z' := -(((u + (bt l (p + k)).toNat % 128 * 2 ^ (7 * k)) / 2 : Nat) : Int)) rfl (halfN (read_lt (c := (bt l (p + k))) hs.1 (by omega))) w18) ?_
      simp only [nf0, nf1, nf2, nf3, nf4]
      refine st_value (v := (.int .i64 ((-(((u + (bt l (p + k)).toNat % 128 * 2 ^ (7 * k)) / 2 : Nat) : Int)) - 1))) (by rfl) (run_sub_in (.tmp 72) (.const (.int .i64 1)) rfl rfl rfl (by omega) w18) ?_
      simp only [nf0, nf1, nf2, nf3, nf4]
      refine st_mv (.int .i64 ((-(((u + (bt l (p + k)).toNat % 128 * 2 ^ (7 * k)) / 2 : Nat) : Int)) - 1)) ?_
      simp only [nf0, nf1, nf2, nf3, nf4]
      refine wpList_nil ?_
      show Code.wp _ _ _ _ _
      refine wp_seq ?_
      refine wp_region_lit ?_
      refine st_mv (.int .i64 ((-(((u + (bt l (p + k)).toNat % 128 * 2 ^ (7 * k)) / 2 : Nat) : Int)) - 1)) ?_
      simp only [nf0, nf1, nf2, nf3, nf4]
      refine st_mv (.int .i64 (k : Int)) ?_
      simp only [nf0, nf1, nf2, nf3, nf4]
      refine st_value (v := (.int .i64 ((k : Int) + 1))) (by rfl) (run_add_in (.tmp 75) (.const (.int .i64 1)) rfl rfl rfl (by omega) w18) ?_
      simp only [nf0, nf1, nf2, nf3, nf4]
      refine st_mv (.int .i64 ((-(((u + (bt l (p + k)).toNat % 128 * 2 ^ (7 * k)) / 2 : Nat) : Int)) - 1)) ?_
      simp only [nf0, nf1, nf2, nf3, nf4]
      refine st_mv (.int .i64 ((k : Int) + 1)) ?_
      simp only [nf0, nf1, nf2, nf3, nf4]
      refine wpList_nil ?_
      show Code.wp _ _ _ _ _
      refine wp_ret ?_
      first | show bodyPost _ _ _ _ _ _ | (simp only [Exit.then, Exit.inBlock]; show bodyPost _ _ _ _ _ _)
      have hg : getAt l p = some ((u + (bt l (p + k)).toNat % 128 * 2 ^ (7 * k)), k + 1) := rdh_end hs hkz hcz (by omega) (by omega)
      refine bodyPost_ret (results_tmp2 rfl _ _ _) rfl ⟨?_, bel⟩
      rw [hg]
      show Ending.returned (Value.tuple #[.int .i64 ((-(((u + (bt l (p + k)).toNat % 128 * 2 ^ (7 * k)) / 2 : Nat) : Int)) - 1), .int .i64 ((k : Int) + 1)]) = Ending.returned (Value.tuple #[.int .i64 (zag (u + (bt l (p + k)).toNat % 128 * 2 ^ (7 * k))), .int .i64 ((k + 1 : Nat) : Int)])
      have hz : (((-(((u + (bt l (p + k)).toNat % 128 * 2 ^ (7 * k)) / 2 : Nat) : Int)) - 1) : Int) = zag (u + (bt l (p + k)).toNat % 128 * 2 ^ (7 * k)) := by unfold zag; split <;> omega
      rw [hz, show (((k : Int) + 1) : Int) = ((k + 1 : Nat) : Int) by omega]
    have hp28 := of_decide_eq_true hg23
    refine wp_region_lit ?_
    refine st_mv (.int .i64 (k : Int)) ?_
    simp only [nf0, nf1, nf2, nf3, nf4]
    refine st_value (v := (.bool true)) (by rfl) ((run_gtr (.tmp 59) (.const (.int .i64 0)) rfl rfl rfl w18).trans (by rw [hg23])) ?_
    simp only [nf0, nf1, nf2, nf3, nf4]
    refine st_mv (.bool true) ?_
    simp only [nf0, nf1, nf2, nf3, nf4]
    refine st_mv (.int .u8 ((bt l (p + k)).toNat : Int)) ?_
    simp only [nf0, nf1, nf2, nf3, nf4]
    refine st_value (v := (.bool (decide (((bt l (p + k)).toNat : Int) = 0)))) (by rfl) (run_eql_int (.tmp 62) (.const (.int .u8 0)) rfl rfl rfl w18) ?_
    simp only [nf0, nf1, nf2, nf3, nf4]
    refine st_mv (.bool (decide (((bt l (p + k)).toNat : Int) = 0))) ?_
    simp only [nf0, nf1, nf2, nf3, nf4]
    refine wpList_nil ?_
    show Code.wp _ _ _ _ _
    cases hg29 : decide (((bt l (p + k)).toNat : Int) = 0)
    rotate_left
    · have hp34 := of_decide_eq_true hg29
      refine wp_cond_true rfl ?_
      refine wp_seq ?_
      refine wp_region_lit ?_
      refine st_mv (.int .i64 0) ?_
      simp only [nf0, nf1, nf2, nf3, nf4]
      refine st_mv (.int .i64 0) ?_
      simp only [nf0, nf1, nf2, nf3, nf4]
      refine wpList_nil ?_
      show Code.wp _ _ _ _ _
      refine wp_ret ?_
      first | show bodyPost _ _ _ _ _ _ | (simp only [Exit.then, Exit.inBlock]; show bodyPost _ _ _ _ _ _)
      have hg : getAt l p = none := rdh_bad hs hkz hZ hcz (by omega)
      exact bodyPost_ret (results_tmp2 rfl _ _ _) rfl ⟨by rw [hg]; rfl, bel⟩
    have hp30 := of_decide_eq_false hg29
    refine wp_cond_false rfl ?_
    refine wp_skip ?_
    show Code.wp _ _ _ _ _
    refine wp_seq ?_
    refine wp_region_lit ?_
    refine st_mv (.int .u64 ((u + (bt l (p + k)).toNat % 128 * 2 ^ (7 * k) : Nat) : Int)) ?_
    simp only [nf0, nf1, nf2, nf3, nf4]
    refine st_value (v := (.int .u64 (((u + (bt l (p + k)).toNat % 128 * 2 ^ (7 * k)) / 2 : Nat) : Int))) (by rfl) (run_quoW (.tmp 65) (.const (.int .u64 2)) rfl (m := (u + (bt l (p + k)).toNat % 128 * 2 ^ (7 * k))) (n := 2) rfl rfl (by omega) (read_lt hs.1 (by omega)) w18) ?_
    simp only [nf0, nf1, nf2, nf3, nf4]
    refine st_value (v := (.int .i64 (((u + (bt l (p + k)).toNat % 128 * 2 ^ (7 * k)) / 2 : Nat) : Int))) (by rfl) (run_conv_u64_i64 (.tmp 66) rfl Tryd.underlying31 Tryd.underlying3 (z := (((u + (bt l (p + k)).toNat % 128 * 2 ^ (7 * k)) / 2 : Nat) : Int)) (z' := (((u + (bt l (p + k)).toNat % 128 * 2 ^ (7 * k)) / 2 : Nat) : Int)) rfl (halfI (read_lt (c := (bt l (p + k))) hs.1 (by omega))) w18) ?_
    simp only [nf0, nf1, nf2, nf3, nf4]
    refine st_mv (.int .i64 (((u + (bt l (p + k)).toNat % 128 * 2 ^ (7 * k)) / 2 : Nat) : Int)) ?_
    simp only [nf0, nf1, nf2, nf3, nf4]
    refine wpList_nil ?_
    show Code.wp _ _ _ _ _
    refine wp_seq ?_
    refine wp_seq ?_
    have hhf : (u + (bt l (p + k)).toNat % 128 * 2 ^ (7 * k)) / 2 < 9223372036854775808 := by have h := read_lt (c := (bt l (p + k))) hs.1 (by omega); generalize (u + (bt l (p + k)).toNat % 128 * 2 ^ (7 * k)) = m at *; omega
    refine wp_region_lit ?_
    refine st_mv (.int .u64 ((u + (bt l (p + k)).toNat % 128 * 2 ^ (7 * k) : Nat) : Int)) ?_
    simp only [nf0, nf1, nf2, nf3, nf4]
    refine st_value (v := (.int .u64 (((u + (bt l (p + k)).toNat % 128 * 2 ^ (7 * k)) % 2 : Nat) : Int))) (by rfl) (run_remK (.tmp 68) (.const (.int .u64 2)) rfl (k := .u64) (m := (u + (bt l (p + k)).toNat % 128 * 2 ^ (7 * k))) (n := 2) rfl rfl (by omega) w18) ?_
    simp only [nf0, nf1, nf2, nf3, nf4]
    refine st_value (v := (.bool (decide ((((u + (bt l (p + k)).toNat % 128 * 2 ^ (7 * k)) % 2 : Nat) : Int) = 1)))) (by rfl) (run_eql_int (.tmp 69) (.const (.int .u64 1)) rfl rfl rfl w18) ?_
    simp only [nf0, nf1, nf2, nf3, nf4]
    refine wpList_nil ?_
    show Code.wp _ _ _ _ _
    cases hg31 : decide ((((u + (bt l (p + k)).toNat % 128 * 2 ^ (7 * k)) % 2 : Nat) : Int) = 1)
    · have hp32 := of_decide_eq_false hg31
      refine wp_cond_false rfl ?_
      refine wp_skip ?_
      show Code.wp _ _ _ _ _
      refine wp_seq ?_
      refine wp_region_lit ?_
      refine st_mv (.int .i64 (((u + (bt l (p + k)).toNat % 128 * 2 ^ (7 * k)) / 2 : Nat) : Int)) ?_
      simp only [nf0, nf1, nf2, nf3, nf4]
      refine st_mv (.int .i64 (k : Int)) ?_
      simp only [nf0, nf1, nf2, nf3, nf4]
      refine st_value (v := (.int .i64 ((k : Int) + 1))) (by rfl) (run_add_in (.tmp 75) (.const (.int .i64 1)) rfl rfl rfl (by omega) w18) ?_
      simp only [nf0, nf1, nf2, nf3, nf4]
      refine st_mv (.int .i64 (((u + (bt l (p + k)).toNat % 128 * 2 ^ (7 * k)) / 2 : Nat) : Int)) ?_
      simp only [nf0, nf1, nf2, nf3, nf4]
      refine st_mv (.int .i64 ((k : Int) + 1)) ?_
      simp only [nf0, nf1, nf2, nf3, nf4]
      refine wpList_nil ?_
      show Code.wp _ _ _ _ _
      refine wp_ret ?_
      first | show bodyPost _ _ _ _ _ _ | (simp only [Exit.then, Exit.inBlock]; show bodyPost _ _ _ _ _ _)
      have hg : getAt l p = some ((u + (bt l (p + k)).toNat % 128 * 2 ^ (7 * k)), k + 1) := rdh_end hs hkz hcz (by omega) (by omega)
      refine bodyPost_ret (results_tmp2 rfl _ _ _) rfl ⟨?_, bel⟩
      rw [hg]
      show Ending.returned (Value.tuple #[.int .i64 (((u + (bt l (p + k)).toNat % 128 * 2 ^ (7 * k)) / 2 : Nat) : Int), .int .i64 ((k : Int) + 1)]) = Ending.returned (Value.tuple #[.int .i64 (zag (u + (bt l (p + k)).toNat % 128 * 2 ^ (7 * k))), .int .i64 ((k + 1 : Nat) : Int)])
      have hz : ((((u + (bt l (p + k)).toNat % 128 * 2 ^ (7 * k)) / 2 : Nat) : Int) : Int) = zag (u + (bt l (p + k)).toNat % 128 * 2 ^ (7 * k)) := by unfold zag; split <;> omega
      rw [hz, show (((k : Int) + 1) : Int) = ((k + 1 : Nat) : Int) by omega]
    have hp33 := of_decide_eq_true hg31
    refine wp_cond_true rfl ?_
    refine wp_region_lit ?_
    refine st_mv (.int .i64 (((u + (bt l (p + k)).toNat % 128 * 2 ^ (7 * k)) / 2 : Nat) : Int)) ?_
    simp only [nf0, nf1, nf2, nf3, nf4]
    refine st_value (v := (.int .i64 (-(((u + (bt l (p + k)).toNat % 128 * 2 ^ (7 * k)) / 2 : Nat) : Int)))) (by rfl) (run_negZ (.tmp 71) rfl (z := (((u + (bt l (p + k)).toNat % 128 * 2 ^ (7 * k)) / 2 : Nat) : Int)) (z' := -(((u + (bt l (p + k)).toNat % 128 * 2 ^ (7 * k)) / 2 : Nat) : Int)) rfl (halfN (read_lt (c := (bt l (p + k))) hs.1 (by omega))) w18) ?_
    simp only [nf0, nf1, nf2, nf3, nf4]
    refine st_value (v := (.int .i64 ((-(((u + (bt l (p + k)).toNat % 128 * 2 ^ (7 * k)) / 2 : Nat) : Int)) - 1))) (by rfl) (run_sub_in (.tmp 72) (.const (.int .i64 1)) rfl rfl rfl (by omega) w18) ?_
    simp only [nf0, nf1, nf2, nf3, nf4]
    refine st_mv (.int .i64 ((-(((u + (bt l (p + k)).toNat % 128 * 2 ^ (7 * k)) / 2 : Nat) : Int)) - 1)) ?_
    simp only [nf0, nf1, nf2, nf3, nf4]
    refine wpList_nil ?_
    show Code.wp _ _ _ _ _
    refine wp_seq ?_
    refine wp_region_lit ?_
    refine st_mv (.int .i64 ((-(((u + (bt l (p + k)).toNat % 128 * 2 ^ (7 * k)) / 2 : Nat) : Int)) - 1)) ?_
    simp only [nf0, nf1, nf2, nf3, nf4]
    refine st_mv (.int .i64 (k : Int)) ?_
    simp only [nf0, nf1, nf2, nf3, nf4]
    refine st_value (v := (.int .i64 ((k : Int) + 1))) (by rfl) (run_add_in (.tmp 75) (.const (.int .i64 1)) rfl rfl rfl (by omega) w18) ?_
    simp only [nf0, nf1, nf2, nf3, nf4]
    refine st_mv (.int .i64 ((-(((u + (bt l (p + k)).toNat % 128 * 2 ^ (7 * k)) / 2 : Nat) : Int)) - 1)) ?_
    simp only [nf0, nf1, nf2, nf3, nf4]
    refine st_mv (.int .i64 ((k : Int) + 1)) ?_
    simp only [nf0, nf1, nf2, nf3, nf4]
    refine wpList_nil ?_
    show Code.wp _ _ _ _ _
    refine wp_ret ?_
    first | show bodyPost _ _ _ _ _ _ | (simp only [Exit.then, Exit.inBlock]; show bodyPost _ _ _ _ _ _)
    have hg : getAt l p = some ((u + (bt l (p + k)).toNat % 128 * 2 ^ (7 * k)), k + 1) := rdh_end hs hkz hcz (by omega) (by omega)
    refine bodyPost_ret (results_tmp2 rfl _ _ _) rfl ⟨?_, bel⟩
    rw [hg]
    show Ending.returned (Value.tuple #[.int .i64 ((-(((u + (bt l (p + k)).toNat % 128 * 2 ^ (7 * k)) / 2 : Nat) : Int)) - 1), .int .i64 ((k : Int) + 1)]) = Ending.returned (Value.tuple #[.int .i64 (zag (u + (bt l (p + k)).toNat % 128 * 2 ^ (7 * k))), .int .i64 ((k + 1 : Nat) : Int)])
    have hz : (((-(((u + (bt l (p + k)).toNat % 128 * 2 ^ (7 * k)) / 2 : Nat) : Int)) - 1) : Int) = zag (u + (bt l (p + k)).toNat % 128 * 2 ^ (7 * k)) := by unfold zag; split <;> omega
    rw [hz, show (((k : Int) + 1) : Int) = ((k + 1 : Nat) : Int) by omega]
  have hp37 := of_decide_eq_true hg15
  refine wp_region_lit ?_
  refine st_mv (.int .i64 (k : Int)) ?_
  simp only [nf0, nf1, nf2, nf3, nf4]
  refine st_value (v := (.bool true)) (by rfl) ((run_eql_int (.tmp 38) (.const (.int .i64 9)) rfl rfl rfl w6).trans (by rw [hg15])) ?_
  simp only [nf0, nf1, nf2, nf3, nf4]
  refine st_mv (.bool true) ?_
  simp only [nf0, nf1, nf2, nf3, nf4]
  refine st_mv (.int .u8 ((bt l (p + k)).toNat : Int)) ?_
  simp only [nf0, nf1, nf2, nf3, nf4]
  refine st_value (v := (.bool (decide (1 < ((bt l (p + k)).toNat : Int))))) (by rfl) (run_gtr (.tmp 41) (.const (.int .u8 1)) rfl rfl rfl w6) ?_
  simp only [nf0, nf1, nf2, nf3, nf4]
  refine st_mv (.bool (decide (1 < ((bt l (p + k)).toNat : Int)))) ?_
  simp only [nf0, nf1, nf2, nf3, nf4]
  refine wpList_nil ?_
  show Code.wp _ _ _ _ _
  cases hg38 : decide (1 < ((bt l (p + k)).toNat : Int))
  rotate_left
  · have hp60 := of_decide_eq_true hg38
    refine wp_cond_true rfl ?_
    refine wp_seq ?_
    refine wp_region_lit ?_
    refine st_mv (.int .i64 0) ?_
    simp only [nf0, nf1, nf2, nf3, nf4]
    refine st_mv (.int .i64 0) ?_
    simp only [nf0, nf1, nf2, nf3, nf4]
    refine wpList_nil ?_
    show Code.wp _ _ _ _ _
    refine wp_ret ?_
    first | show bodyPost _ _ _ _ _ _ | (simp only [Exit.then, Exit.inBlock]; show bodyPost _ _ _ _ _ _)
    have hg : getAt l p = none := rdh_bad hs hkz hZ hcz (by omega)
    exact bodyPost_ret (results_tmp2 rfl _ _ _) rfl ⟨by rw [hg]; rfl, bel⟩
  have hp39 := of_decide_eq_false hg38
  refine wp_cond_false rfl ?_
  refine wp_skip ?_
  show Code.wp _ _ _ _ _
  refine wp_seq ?_
  refine wp_region_lit ?_
  refine st_mv (.int .u8 ((bt l (p + k)).toNat : Int)) ?_
  simp only [nf0, nf1, nf2, nf3, nf4]
  refine st_value (v := (.int .u8 (((bt l (p + k)).toNat % 128 : Nat) : Int))) (by rfl) (run_remK (.tmp 44) (.const (.int .u8 128)) rfl (k := .u8) (m := (bt l (p + k)).toNat) (n := 128) rfl rfl (by omega) w6) ?_
  simp only [nf0, nf1, nf2, nf3, nf4]
  refine st_value (v := (.int .u64 (((bt l (p + k)).toNat % 128 : Nat) : Int))) (by rfl) (run_conv_u8_u64 (.tmp 45) rfl Tryd.underlying5 Tryd.underlying31 (z := (((bt l (p + k)).toNat % 128 : Nat) : Int)) (z' := (((bt l (p + k)).toNat % 128 : Nat) : Int)) rfl (by rw [wrap_u64z]; omega) w6) ?_
  simp only [nf0, nf1, nf2, nf3, nf4]
  refine st_mv (.int .u64 (((bt l (p + k)).toNat % 128 : Nat) : Int)) ?_
  simp only [nf0, nf1, nf2, nf3, nf4]
  refine wpList_nil ?_
  show Code.wp _ _ _ _ _
  refine wp_seq ?_
  refine wp_seq ?_
  refine wp_region_lit ?_
  refine st_mv (.int .i64 0) ?_
  simp only [nf0, nf1, nf2, nf3, nf4]
  refine wpList_nil ?_
  show Code.wp _ _ _ _ _
  refine wp_block ?_
  refine wp_loop_left (fun n_ a_ wr_ => (fun J40 => ∃ (j : Nat) (q : Nat), n_ = k - j ∧ a_ = ⟨#[.slice (some ⟨b13, o14, none⟩) l.length cap, .int .i64 (p : Int), J40 2, J40 3, J5 4, J5 5, .int .u64 ((u : Nat) : Int), .int .i64 (k : Int), .int .u8 ((bt l (p + k)).toNat : Int), .int .u64 ((q : Nat) : Int), .int .i64 (j : Int), J40 11, J40 12, J40 13, J40 14, J40 15, J40 16, J40 17, J40 18, J40 19, J40 20, J40 21, J40 22, J40 23, J40 24, J40 25, J40 26, J40 27, J40 28, J40 29, J40 30, J40 31, J40 32, J40 33, J40 34, J40 35, J40 36, J40 37, J40 38, J40 39, J40 40, J40 41, J40 42, J40 43, J40 44, J40 45, J40 46, J40 47, J40 48, J40 49, J40 50, J40 51, J40 52, J40 53, J40 54, J40 55, J40 56, J40 57, J40 58, J40 59, J40 60, J40 61, J40 62, J40 63, J40 64, J40 65, J40 66, J40 67, J40 68, J40 69, J40 70, J40 71, J40 72, J40 73, J40 74, J40 75, J40 76], []⟩ ∧ Below w.heap.size w wr_ ∧ (j ≤ k) ∧ (q = (bt l (p + k)).toNat % 128 * 2 ^ (7 * j))) (jk a_)) (k - 0) ⟨0, ((bt l (p + k)).toNat % 128), rfl, rfl, bel, (by omega), (by rw [Nat.mul_zero, Nat.pow_zero, Nat.mul_one])⟩ ?_
  clear bel
  intro n_ a_ w41 h_
  revert h_
  generalize jk a_ = J40
  rintro ⟨j, q, hms, rfl, bel, hj, hq⟩
  refine wp_seq ?_
  refine wp_seq ?_
  refine wp_region_lit ?_
  refine st_mv (.int .i64 (j : Int)) ?_
  simp only [nf0, nf1, nf2, nf3, nf4]
  refine st_mv (.int .i64 (k : Int)) ?_
  simp only [nf0, nf1, nf2, nf3, nf4]
  refine st_value (v := (.bool (decide ((j : Int) < (k : Int))))) (by rfl) (run_lss (.tmp 47) (.tmp 48) rfl rfl rfl w41) ?_
  simp only [nf0, nf1, nf2, nf3, nf4]
  refine wpList_nil ?_
  show Code.wp _ _ _ _ _
  cases hg42 : decide ((j : Int) < (k : Int))
  rotate_left
  · have hp59 := of_decide_eq_true hg42
    refine wp_cond_true rfl ?_
    refine wp_skip ?_
    show Code.wp _ _ _ _ _
    refine wp_seq ?_
    refine wp_block ?_
    refine wp_region_lit ?_
    refine st_mv (.int .u64 ((q : Nat) : Int)) ?_
    simp only [nf0, nf1, nf2, nf3, nf4]
    refine st_value (v := (.int .u64 ((q * 128 : Nat) : Int))) (by rfl) (run_mulW (.tmp 52) (.const (.int .u64 128)) rfl (m := q) (n := 128) (r := q * 128) rfl rfl rfl (by rw [hq, part_step]; exact part_lt (k := k) (by omega) (by omega)) w41) ?_
    simp only [nf0, nf1, nf2, nf3, nf4]
    refine st_mv (.int .u64 ((q * 128 : Nat) : Int)) ?_
    simp only [nf0, nf1, nf2, nf3, nf4]
    refine wpList_nil ?_
    show Code.wp _ _ _ _ _
    refine wp_region_lit ?_
    refine st_mv (.int .i64 (j : Int)) ?_
    simp only [nf0, nf1, nf2, nf3, nf4]
    refine st_value (v := (.int .i64 ((j : Int) + 1))) (by rfl) (run_add_in (.tmp 50) (.const (.int .i64 1)) rfl rfl rfl (by omega) w41) ?_
    simp only [nf0, nf1, nf2, nf3, nf4]
    refine st_mv (.int .i64 ((j : Int) + 1)) ?_
    simp only [nf0, nf1, nf2, nf3, nf4]
    refine wpList_nil ?_
    show ∃ m, m < _ ∧ _
    exact ⟨_, (by omega), (j + 1), (q * 128), rfl, rfl, bel, (by omega), (by rw [hq, part_step])⟩
  have hp43 := of_decide_eq_false hg42
  refine wp_cond_false rfl ?_
  refine wp_exit ?_
  show Code.wp _ _ _ _ _
  refine wp_seq ?_
  obtain rfl : k = j := by omega
  subst hq
  refine wp_region_lit ?_
  refine st_mv (.int .u64 ((u : Nat) : Int)) ?_
  simp only [nf0, nf1, nf2, nf3, nf4]
  refine st_mv (.int .u64 (((bt l (p + k)).toNat % 128 * 2 ^ (7 * k) : Nat) : Int)) ?_
  simp only [nf0, nf1, nf2, nf3, nf4]
  refine st_value (v := (.int .u64 ((u + (bt l (p + k)).toNat % 128 * 2 ^ (7 * k) : Nat) : Int))) (by rfl) (run_addW (.tmp 54) (.tmp 55) rfl (m := u) (n := (bt l (p + k)).toNat % 128 * 2 ^ (7 * k)) rfl rfl (read_lt hs.1 (by omega)) w41) ?_
  simp only [nf0, nf1, nf2, nf3, nf4]
  refine st_mv (.int .u64 ((u + (bt l (p + k)).toNat % 128 * 2 ^ (7 * k) : Nat) : Int)) ?_
  simp only [nf0, nf1, nf2, nf3, nf4]
  refine wpList_nil ?_
  show Code.wp _ _ _ _ _
  refine wp_seq ?_
  refine wp_seq ?_
  refine wp_region_lit ?_
  refine st_mv (.int .u8 ((bt l (p + k)).toNat : Int)) ?_
  simp only [nf0, nf1, nf2, nf3, nf4]
  refine st_value (v := (.bool (decide (128 ≤ ((bt l (p + k)).toNat : Int))))) (by rfl) (run_geq (.tmp 57) (.const (.int .u8 128)) rfl rfl rfl w41) ?_
  simp only [nf0, nf1, nf2, nf3, nf4]
  refine wpList_nil ?_
  show Code.wp _ _ _ _ _
  cases hg44 : decide (128 ≤ ((bt l (p + k)).toNat : Int))
  rotate_left
  · have hp58 := of_decide_eq_true hg44
    refine wp_cond_true rfl ?_
    refine wp_exit ?_
    show Code.wp _ _ _ _ _
    refine wp_region_lit ?_
    refine st_mv (.int .i64 (k : Int)) ?_
    simp only [nf0, nf1, nf2, nf3, nf4]
    refine st_value (v := (.int .i64 ((k : Int) + 1))) (by rfl) (run_add_in (.tmp 30) (.const (.int .i64 1)) rfl rfl rfl (by omega) w41) ?_
    simp only [nf0, nf1, nf2, nf3, nf4]
    refine st_mv (.int .i64 ((k : Int) + 1)) ?_
    simp only [nf0, nf1, nf2, nf3, nf4]
    refine wpList_nil ?_
    show ∃ m, m < _ ∧ _
    exact ⟨_, (by omega), (k + 1), (u + (bt l (p + k)).toNat % 128 * 2 ^ (7 * k)), rfl, rfl, bel, (by omega), (rdh_cont hs hkz hcz (by omega))⟩
  have hp45 := of_decide_eq_false hg44
  refine wp_cond_false rfl ?_
  refine wp_skip ?_
  show Code.wp _ _ _ _ _
  refine wp_seq ?_
  refine wp_seq ?_
  cases hg46 : decide (0 < (k : Int))
  · have hp47 := of_decide_eq_false hg46
    refine wp_region_lit ?_
    refine st_mv (.int .i64 (k : Int)) ?_
    simp only [nf0, nf1, nf2, nf3, nf4]
    refine st_value (v := (.bool false)) (by rfl) ((run_gtr (.tmp 59) (.const (.int .i64 0)) rfl rfl rfl w41).trans (by rw [hg46])) ?_
    simp only [nf0, nf1, nf2, nf3, nf4]
    refine st_mv (.bool false) ?_
    simp only [nf0, nf1, nf2, nf3, nf4]
    refine st_nob (j := 2) (t := 61) (c := false) rfl rfl rfl rfl rfl ?_
    simp only [nf0, nf1, nf2, nf3, nf4]
    refine st_nob (j := 2) (t := 61) (c := false) rfl rfl rfl rfl rfl ?_
    simp only [nf0, nf1, nf2, nf3, nf4]
    refine st_mv (.bool false) ?_
    simp only [nf0, nf1, nf2, nf3, nf4]
    refine wpList_nil ?_
    show Code.wp _ _ _ _ _
    refine wp_cond_false rfl ?_
    refine wp_skip ?_
    show Code.wp _ _ _ _ _
    refine wp_seq ?_
    refine wp_region_lit ?_
    refine st_mv (.int .u64 ((u + (bt l (p + k)).toNat % 128 * 2 ^ (7 * k) : Nat) : Int)) ?_
    simp only [nf0, nf1, nf2, nf3, nf4]
    refine st_value (v := (.int .u64 (((u + (bt l (p + k)).toNat % 128 * 2 ^ (7 * k)) / 2 : Nat) : Int))) (by rfl) (run_quoW (.tmp 65) (.const (.int .u64 2)) rfl (m := (u + (bt l (p + k)).toNat % 128 * 2 ^ (7 * k))) (n := 2) rfl rfl (by omega) (read_lt hs.1 (by omega)) w41) ?_
    simp only [nf0, nf1, nf2, nf3, nf4]
    refine st_value (v := (.int .i64 (((u + (bt l (p + k)).toNat % 128 * 2 ^ (7 * k)) / 2 : Nat) : Int))) (by rfl) (run_conv_u64_i64 (.tmp 66) rfl Tryd.underlying31 Tryd.underlying3 (z := (((u + (bt l (p + k)).toNat % 128 * 2 ^ (7 * k)) / 2 : Nat) : Int)) (z' := (((u + (bt l (p + k)).toNat % 128 * 2 ^ (7 * k)) / 2 : Nat) : Int)) rfl (halfI (read_lt (c := (bt l (p + k))) hs.1 (by omega))) w41) ?_
    simp only [nf0, nf1, nf2, nf3, nf4]
    refine st_mv (.int .i64 (((u + (bt l (p + k)).toNat % 128 * 2 ^ (7 * k)) / 2 : Nat) : Int)) ?_
    simp only [nf0, nf1, nf2, nf3, nf4]
    refine wpList_nil ?_
    show Code.wp _ _ _ _ _
    refine wp_seq ?_
    refine wp_seq ?_
    have hhf : (u + (bt l (p + k)).toNat % 128 * 2 ^ (7 * k)) / 2 < 9223372036854775808 := by have h := read_lt (c := (bt l (p + k))) hs.1 (by omega); generalize (u + (bt l (p + k)).toNat % 128 * 2 ^ (7 * k)) = m at *; omega
    refine wp_region_lit ?_
    refine st_mv (.int .u64 ((u + (bt l (p + k)).toNat % 128 * 2 ^ (7 * k) : Nat) : Int)) ?_
    simp only [nf0, nf1, nf2, nf3, nf4]
    refine st_value (v := (.int .u64 (((u + (bt l (p + k)).toNat % 128 * 2 ^ (7 * k)) % 2 : Nat) : Int))) (by rfl) (run_remK (.tmp 68) (.const (.int .u64 2)) rfl (k := .u64) (m := (u + (bt l (p + k)).toNat % 128 * 2 ^ (7 * k))) (n := 2) rfl rfl (by omega) w41) ?_
    simp only [nf0, nf1, nf2, nf3, nf4]
    refine st_value (v := (.bool (decide ((((u + (bt l (p + k)).toNat % 128 * 2 ^ (7 * k)) % 2 : Nat) : Int) = 1)))) (by rfl) (run_eql_int (.tmp 69) (.const (.int .u64 1)) rfl rfl rfl w41) ?_
    simp only [nf0, nf1, nf2, nf3, nf4]
    refine wpList_nil ?_
    show Code.wp _ _ _ _ _
    cases hg48 : decide ((((u + (bt l (p + k)).toNat % 128 * 2 ^ (7 * k)) % 2 : Nat) : Int) = 1)
    · have hp49 := of_decide_eq_false hg48
      refine wp_cond_false rfl ?_
      refine wp_skip ?_
      show Code.wp _ _ _ _ _
      refine wp_seq ?_
      refine wp_region_lit ?_
      refine st_mv (.int .i64 (((u + (bt l (p + k)).toNat % 128 * 2 ^ (7 * k)) / 2 : Nat) : Int)) ?_
      simp only [nf0, nf1, nf2, nf3, nf4]
      refine st_mv (.int .i64 (k : Int)) ?_
      simp only [nf0, nf1, nf2, nf3, nf4]
      refine st_value (v := (.int .i64 ((k : Int) + 1))) (by rfl) (run_add_in (.tmp 75) (.const (.int .i64 1)) rfl rfl rfl (by omega) w41) ?_
      simp only [nf0, nf1, nf2, nf3, nf4]
      refine st_mv (.int .i64 (((u + (bt l (p + k)).toNat % 128 * 2 ^ (7 * k)) / 2 : Nat) : Int)) ?_
      simp only [nf0, nf1, nf2, nf3, nf4]
      refine st_mv (.int .i64 ((k : Int) + 1)) ?_
      simp only [nf0, nf1, nf2, nf3, nf4]
      refine wpList_nil ?_
      show Code.wp _ _ _ _ _
      refine wp_ret ?_
      first | show bodyPost _ _ _ _ _ _ | (simp only [Exit.then, Exit.inBlock]; show bodyPost _ _ _ _ _ _)
      have hg : getAt l p = some ((u + (bt l (p + k)).toNat % 128 * 2 ^ (7 * k)), k + 1) := rdh_end hs hkz hcz (by omega) (by omega)
      refine bodyPost_ret (results_tmp2 rfl _ _ _) rfl ⟨?_, bel⟩
      rw [hg]
      show Ending.returned (Value.tuple #[.int .i64 (((u + (bt l (p + k)).toNat % 128 * 2 ^ (7 * k)) / 2 : Nat) : Int), .int .i64 ((k : Int) + 1)]) = Ending.returned (Value.tuple #[.int .i64 (zag (u + (bt l (p + k)).toNat % 128 * 2 ^ (7 * k))), .int .i64 ((k + 1 : Nat) : Int)])
      have hz : ((((u + (bt l (p + k)).toNat % 128 * 2 ^ (7 * k)) / 2 : Nat) : Int) : Int) = zag (u + (bt l (p + k)).toNat % 128 * 2 ^ (7 * k)) := by unfold zag; split <;> omega
      rw [hz, show (((k : Int) + 1) : Int) = ((k + 1 : Nat) : Int) by omega]
    have hp50 := of_decide_eq_true hg48
    refine wp_cond_true rfl ?_
    refine wp_region_lit ?_
    refine st_mv (.int .i64 (((u + (bt l (p + k)).toNat % 128 * 2 ^ (7 * k)) / 2 : Nat) : Int)) ?_
    simp only [nf0, nf1, nf2, nf3, nf4]
    refine st_value (v := (.int .i64 (-(((u + (bt l (p + k)).toNat % 128 * 2 ^ (7 * k)) / 2 : Nat) : Int)))) (by rfl) (run_negZ (.tmp 71) rfl (z := (((u + (bt l (p + k)).toNat % 128 * 2 ^ (7 * k)) / 2 : Nat) : Int)) (z' := -(((u + (bt l (p + k)).toNat % 128 * 2 ^ (7 * k)) / 2 : Nat) : Int)) rfl (halfN (read_lt (c := (bt l (p + k))) hs.1 (by omega))) w41) ?_
    simp only [nf0, nf1, nf2, nf3, nf4]
    refine st_value (v := (.int .i64 ((-(((u + (bt l (p + k)).toNat % 128 * 2 ^ (7 * k)) / 2 : Nat) : Int)) - 1))) (by rfl) (run_sub_in (.tmp 72) (.const (.int .i64 1)) rfl rfl rfl (by omega) w41) ?_
    simp only [nf0, nf1, nf2, nf3, nf4]
    refine st_mv (.int .i64 ((-(((u + (bt l (p + k)).toNat % 128 * 2 ^ (7 * k)) / 2 : Nat) : Int)) - 1)) ?_
    simp only [nf0, nf1, nf2, nf3, nf4]
    refine wpList_nil ?_
    show Code.wp _ _ _ _ _
    refine wp_seq ?_
    refine wp_region_lit ?_
    refine st_mv (.int .i64 ((-(((u + (bt l (p + k)).toNat % 128 * 2 ^ (7 * k)) / 2 : Nat) : Int)) - 1)) ?_
    simp only [nf0, nf1, nf2, nf3, nf4]
    refine st_mv (.int .i64 (k : Int)) ?_
    simp only [nf0, nf1, nf2, nf3, nf4]
    refine st_value (v := (.int .i64 ((k : Int) + 1))) (by rfl) (run_add_in (.tmp 75) (.const (.int .i64 1)) rfl rfl rfl (by omega) w41) ?_
    simp only [nf0, nf1, nf2, nf3, nf4]
    refine st_mv (.int .i64 ((-(((u + (bt l (p + k)).toNat % 128 * 2 ^ (7 * k)) / 2 : Nat) : Int)) - 1)) ?_
    simp only [nf0, nf1, nf2, nf3, nf4]
    refine st_mv (.int .i64 ((k : Int) + 1)) ?_
    simp only [nf0, nf1, nf2, nf3, nf4]
    refine wpList_nil ?_
    show Code.wp _ _ _ _ _
    refine wp_ret ?_
    first | show bodyPost _ _ _ _ _ _ | (simp only [Exit.then, Exit.inBlock]; show bodyPost _ _ _ _ _ _)
    have hg : getAt l p = some ((u + (bt l (p + k)).toNat % 128 * 2 ^ (7 * k)), k + 1) := rdh_end hs hkz hcz (by omega) (by omega)
    refine bodyPost_ret (results_tmp2 rfl _ _ _) rfl ⟨?_, bel⟩
    rw [hg]
    show Ending.returned (Value.tuple #[.int .i64 ((-(((u + (bt l (p + k)).toNat % 128 * 2 ^ (7 * k)) / 2 : Nat) : Int)) - 1), .int .i64 ((k : Int) + 1)]) = Ending.returned (Value.tuple #[.int .i64 (zag (u + (bt l (p + k)).toNat % 128 * 2 ^ (7 * k))), .int .i64 ((k + 1 : Nat) : Int)])
    have hz : (((-(((u + (bt l (p + k)).toNat % 128 * 2 ^ (7 * k)) / 2 : Nat) : Int)) - 1) : Int) = zag (u + (bt l (p + k)).toNat % 128 * 2 ^ (7 * k)) := by unfold zag; split <;> omega
    rw [hz, show (((k : Int) + 1) : Int) = ((k + 1 : Nat) : Int) by omega]
  have hp51 := of_decide_eq_true hg46
  refine wp_region_lit ?_
  refine st_mv (.int .i64 (k : Int)) ?_
  simp only [nf0, nf1, nf2, nf3, nf4]
  refine st_value (v := (.bool true)) (by rfl) ((run_gtr (.tmp 59) (.const (.int .i64 0)) rfl rfl rfl w41).trans (by rw [hg46])) ?_
  simp only [nf0, nf1, nf2, nf3, nf4]
  refine st_mv (.bool true) ?_
  simp only [nf0, nf1, nf2, nf3, nf4]
  refine st_mv (.int .u8 ((bt l (p + k)).toNat : Int)) ?_
  simp only [nf0, nf1, nf2, nf3, nf4]
  refine st_value (v := (.bool (decide (((bt l (p + k)).toNat : Int) = 0)))) (by rfl) (run_eql_int (.tmp 62) (.const (.int .u8 0)) rfl rfl rfl w41) ?_
  simp only [nf0, nf1, nf2, nf3, nf4]
  refine st_mv (.bool (decide (((bt l (p + k)).toNat : Int) = 0))) ?_
  simp only [nf0, nf1, nf2, nf3, nf4]
  refine wpList_nil ?_
  show Code.wp _ _ _ _ _
  cases hg52 : decide (((bt l (p + k)).toNat : Int) = 0)
  rotate_left
  · have hp57 := of_decide_eq_true hg52
    refine wp_cond_true rfl ?_
    refine wp_seq ?_
    refine wp_region_lit ?_
    refine st_mv (.int .i64 0) ?_
    simp only [nf0, nf1, nf2, nf3, nf4]
    refine st_mv (.int .i64 0) ?_
    simp only [nf0, nf1, nf2, nf3, nf4]
    refine wpList_nil ?_
    show Code.wp _ _ _ _ _
    refine wp_ret ?_
    first | show bodyPost _ _ _ _ _ _ | (simp only [Exit.then, Exit.inBlock]; show bodyPost _ _ _ _ _ _)
    have hg : getAt l p = none := rdh_bad hs hkz hZ hcz (by omega)
    exact bodyPost_ret (results_tmp2 rfl _ _ _) rfl ⟨by rw [hg]; rfl, bel⟩
  have hp53 := of_decide_eq_false hg52
  refine wp_cond_false rfl ?_
  refine wp_skip ?_
  show Code.wp _ _ _ _ _
  refine wp_seq ?_
  refine wp_region_lit ?_
  refine st_mv (.int .u64 ((u + (bt l (p + k)).toNat % 128 * 2 ^ (7 * k) : Nat) : Int)) ?_
  simp only [nf0, nf1, nf2, nf3, nf4]
  refine st_value (v := (.int .u64 (((u + (bt l (p + k)).toNat % 128 * 2 ^ (7 * k)) / 2 : Nat) : Int))) (by rfl) (run_quoW (.tmp 65) (.const (.int .u64 2)) rfl (m := (u + (bt l (p + k)).toNat % 128 * 2 ^ (7 * k))) (n := 2) rfl rfl (by omega) (read_lt hs.1 (by omega)) w41) ?_
  simp only [nf0, nf1, nf2, nf3, nf4]
  refine st_value (v := (.int .i64 (((u + (bt l (p + k)).toNat % 128 * 2 ^ (7 * k)) / 2 : Nat) : Int))) (by rfl) (run_conv_u64_i64 (.tmp 66) rfl Tryd.underlying31 Tryd.underlying3 (z := (((u + (bt l (p + k)).toNat % 128 * 2 ^ (7 * k)) / 2 : Nat) : Int)) (z' := (((u + (bt l (p + k)).toNat % 128 * 2 ^ (7 * k)) / 2 : Nat) : Int)) rfl (halfI (read_lt (c := (bt l (p + k))) hs.1 (by omega))) w41) ?_
  simp only [nf0, nf1, nf2, nf3, nf4]
  refine st_mv (.int .i64 (((u + (bt l (p + k)).toNat % 128 * 2 ^ (7 * k)) / 2 : Nat) : Int)) ?_
  simp only [nf0, nf1, nf2, nf3, nf4]
  refine wpList_nil ?_
  show Code.wp _ _ _ _ _
  refine wp_seq ?_
  refine wp_seq ?_
  have hhf : (u + (bt l (p + k)).toNat % 128 * 2 ^ (7 * k)) / 2 < 9223372036854775808 := by have h := read_lt (c := (bt l (p + k))) hs.1 (by omega); generalize (u + (bt l (p + k)).toNat % 128 * 2 ^ (7 * k)) = m at *; omega
  refine wp_region_lit ?_
  refine st_mv (.int .u64 ((u + (bt l (p + k)).toNat % 128 * 2 ^ (7 * k) : Nat) : Int)) ?_
  simp only [nf0, nf1, nf2, nf3, nf4]
  refine st_value (v := (.int .u64 (((u + (bt l (p + k)).toNat % 128 * 2 ^ (7 * k)) % 2 : Nat) : Int))) (by rfl) (run_remK (.tmp 68) (.const (.int .u64 2)) rfl (k := .u64) (m := (u + (bt l (p + k)).toNat % 128 * 2 ^ (7 * k))) (n := 2) rfl rfl (by omega) w41) ?_
  simp only [nf0, nf1, nf2, nf3, nf4]
  refine st_value (v := (.bool (decide ((((u + (bt l (p + k)).toNat % 128 * 2 ^ (7 * k)) % 2 : Nat) : Int) = 1)))) (by rfl) (run_eql_int (.tmp 69) (.const (.int .u64 1)) rfl rfl rfl w41) ?_
  simp only [nf0, nf1, nf2, nf3, nf4]
  refine wpList_nil ?_
  show Code.wp _ _ _ _ _
  cases hg54 : decide ((((u + (bt l (p + k)).toNat % 128 * 2 ^ (7 * k)) % 2 : Nat) : Int) = 1)
  · have hp55 := of_decide_eq_false hg54
    refine wp_cond_false rfl ?_
    refine wp_skip ?_
    show Code.wp _ _ _ _ _
    refine wp_seq ?_
    refine wp_region_lit ?_
    refine st_mv (.int .i64 (((u + (bt l (p + k)).toNat % 128 * 2 ^ (7 * k)) / 2 : Nat) : Int)) ?_
    simp only [nf0, nf1, nf2, nf3, nf4]
    refine st_mv (.int .i64 (k : Int)) ?_
    simp only [nf0, nf1, nf2, nf3, nf4]
    refine st_value (v := (.int .i64 ((k : Int) + 1))) (by rfl) (run_add_in (.tmp 75) (.const (.int .i64 1)) rfl rfl rfl (by omega) w41) ?_
    simp only [nf0, nf1, nf2, nf3, nf4]
    refine st_mv (.int .i64 (((u + (bt l (p + k)).toNat % 128 * 2 ^ (7 * k)) / 2 : Nat) : Int)) ?_
    simp only [nf0, nf1, nf2, nf3, nf4]
    refine st_mv (.int .i64 ((k : Int) + 1)) ?_
    simp only [nf0, nf1, nf2, nf3, nf4]
    refine wpList_nil ?_
    show Code.wp _ _ _ _ _
    refine wp_ret ?_
    first | show bodyPost _ _ _ _ _ _ | (simp only [Exit.then, Exit.inBlock]; show bodyPost _ _ _ _ _ _)
    have hg : getAt l p = some ((u + (bt l (p + k)).toNat % 128 * 2 ^ (7 * k)), k + 1) := rdh_end hs hkz hcz (by omega) (by omega)
    refine bodyPost_ret (results_tmp2 rfl _ _ _) rfl ⟨?_, bel⟩
    rw [hg]
    show Ending.returned (Value.tuple #[.int .i64 (((u + (bt l (p + k)).toNat % 128 * 2 ^ (7 * k)) / 2 : Nat) : Int), .int .i64 ((k : Int) + 1)]) = Ending.returned (Value.tuple #[.int .i64 (zag (u + (bt l (p + k)).toNat % 128 * 2 ^ (7 * k))), .int .i64 ((k + 1 : Nat) : Int)])
    have hz : ((((u + (bt l (p + k)).toNat % 128 * 2 ^ (7 * k)) / 2 : Nat) : Int) : Int) = zag (u + (bt l (p + k)).toNat % 128 * 2 ^ (7 * k)) := by unfold zag; split <;> omega
    rw [hz, show (((k : Int) + 1) : Int) = ((k + 1 : Nat) : Int) by omega]
  have hp56 := of_decide_eq_true hg54
  refine wp_cond_true rfl ?_
  refine wp_region_lit ?_
  refine st_mv (.int .i64 (((u + (bt l (p + k)).toNat % 128 * 2 ^ (7 * k)) / 2 : Nat) : Int)) ?_
  simp only [nf0, nf1, nf2, nf3, nf4]
  refine st_value (v := (.int .i64 (-(((u + (bt l (p + k)).toNat % 128 * 2 ^ (7 * k)) / 2 : Nat) : Int)))) (by rfl) (run_negZ (.tmp 71) rfl (z := (((u + (bt l (p + k)).toNat % 128 * 2 ^ (7 * k)) / 2 : Nat) : Int)) (z' := -(((u + (bt l (p + k)).toNat % 128 * 2 ^ (7 * k)) / 2 : Nat) : Int)) rfl (halfN (read_lt (c := (bt l (p + k))) hs.1 (by omega))) w41) ?_
  simp only [nf0, nf1, nf2, nf3, nf4]
  refine st_value (v := (.int .i64 ((-(((u + (bt l (p + k)).toNat % 128 * 2 ^ (7 * k)) / 2 : Nat) : Int)) - 1))) (by rfl) (run_sub_in (.tmp 72) (.const (.int .i64 1)) rfl rfl rfl (by omega) w41) ?_
  simp only [nf0, nf1, nf2, nf3, nf4]
  refine st_mv (.int .i64 ((-(((u + (bt l (p + k)).toNat % 128 * 2 ^ (7 * k)) / 2 : Nat) : Int)) - 1)) ?_
  simp only [nf0, nf1, nf2, nf3, nf4]
  refine wpList_nil ?_
  show Code.wp _ _ _ _ _
  refine wp_seq ?_
  refine wp_region_lit ?_
  refine st_mv (.int .i64 ((-(((u + (bt l (p + k)).toNat % 128 * 2 ^ (7 * k)) / 2 : Nat) : Int)) - 1)) ?_
  simp only [nf0, nf1, nf2, nf3, nf4]
  refine st_mv (.int .i64 (k : Int)) ?_
  simp only [nf0, nf1, nf2, nf3, nf4]
  refine st_value (v := (.int .i64 ((k : Int) + 1))) (by rfl) (run_add_in (.tmp 75) (.const (.int .i64 1)) rfl rfl rfl (by omega) w41) ?_
  simp only [nf0, nf1, nf2, nf3, nf4]
  refine st_mv (.int .i64 ((-(((u + (bt l (p + k)).toNat % 128 * 2 ^ (7 * k)) / 2 : Nat) : Int)) - 1)) ?_
  simp only [nf0, nf1, nf2, nf3, nf4]
  refine st_mv (.int .i64 ((k : Int) + 1)) ?_
  simp only [nf0, nf1, nf2, nf3, nf4]
  refine wpList_nil ?_
  show Code.wp _ _ _ _ _
  refine wp_ret ?_
  first | show bodyPost _ _ _ _ _ _ | (simp only [Exit.then, Exit.inBlock]; show bodyPost _ _ _ _ _ _)
  have hg : getAt l p = some ((u + (bt l (p + k)).toNat % 128 * 2 ^ (7 * k)), k + 1) := rdh_end hs hkz hcz (by omega) (by omega)
  refine bodyPost_ret (results_tmp2 rfl _ _ _) rfl ⟨?_, bel⟩
  rw [hg]
  show Ending.returned (Value.tuple #[.int .i64 ((-(((u + (bt l (p + k)).toNat % 128 * 2 ^ (7 * k)) / 2 : Nat) : Int)) - 1), .int .i64 ((k : Int) + 1)]) = Ending.returned (Value.tuple #[.int .i64 (zag (u + (bt l (p + k)).toNat % 128 * 2 ^ (7 * k))), .int .i64 ((k + 1 : Nat) : Int)])
  have hz : (((-(((u + (bt l (p + k)).toNat % 128 * 2 ^ (7 * k)) / 2 : Nat) : Int)) - 1) : Int) = zag (u + (bt l (p + k)).toNat % 128 * 2 ^ (7 * k)) := by unfold zag; split <;> omega
  rw [hz, show (((k : Int) + 1) : Int) = ((k + 1 : Nat) : Int) by omega]
end Go.Proofs.YtckmihjekgbcmaaDoor

/- A set of workers as one number of which no bit from 1024 on is set: its sixteen words, how one word changes, and when two are the same. -/
namespace Go.Proofs.YtckmihjekgbcmaaDoor
open Go.RowKit Go.WideShapes Go.ChangeShapes

/-- Word number i. -/
def wd (S i : Nat) : Nat := (S >>> (64 * i)) % 2 ^ 64
theorem wd_lt (S i : Nat) : wd S i < 2 ^ 64 := Nat.mod_lt _ (by decide)
theorem testBit_wd (S i j : Nat) : (wd S i).testBit j = (decide (j < 64) && S.testBit (64 * i + j)) := by
  unfold wd
  rw [Nat.testBit_mod_two_pow, Nat.testBit_shiftRight]

/-- No bit from 1024 on is set. -/
def Sm (S : Nat) : Prop := ∀ n, 1024 ≤ n → S.testBit n = false
theorem sm_zero : Sm 0 := fun n _ => Nat.zero_testBit n

/-- Two such numbers with the same sixteen words are one. -/
theorem eq_of_wd {S T : Nat} (hS : Sm S) (hT : Sm T) (h : ∀ i, i < 16 → wd S i = wd T i) : S = T := by
  refine Nat.eq_of_testBit_eq fun n => ?_
  by_cases hn : n < 1024
  · have := congrArg (fun x => x.testBit (n % 64)) (h (n / 64) (by omega))
    simp only [testBit_wd] at this
    rw [show 64 * (n / 64) + n % 64 = n from by omega] at this
    simpa [show n % 64 < 64 from by omega] using this
  · rw [hS n (by omega), hT n (by omega)]

/-- The sixteen cells of a set. -/
def setC (S : Nat) : List Value := (List.range 16).map fun i => Value.int .u64 (wd S i)
def setA (S : Nat) : Array Value := (setC S).toArray
theorem setC_length (S : Nat) : (setC S).length = 16 := by simp [setC]
theorem setA_size (S : Nat) : (setA S).size = 16 := by simp [setA, setC]
theorem setC_get (S i : Nat) (h : i < 16) : (setC S)[i]? = some (.int .u64 (wd S i)) := by simp [setC, h]
theorem setA_get (S i : Nat) (h : i < 16) : (setA S)[i]? = some (.int .u64 (wd S i)) := by simp [setA, setC, h]

/-- One word is another one. -/
theorem setA_set {S T i v : Nat} (hv : wd T i = v) (h : ∀ j, j < 16 → j ≠ i → wd T j = wd S j) : (setA S).setIfInBounds i (.int .u64 v) = setA T := by
  apply Array.ext
  · simp [setA, setC]
  · intro j h1 h2
    have hj : j < 16 := by simpa [setA_size] using h2
    rw [Array.getElem_setIfInBounds (by simpa [setA_size] using hj)]
    split
    · rename_i e; subst e; simp [setA, setC, hv]
    · rename_i e; simp [setA, setC, h j hj (fun q => e q.symm)]

theorem setA_inj {S T : Nat} (hS : Sm S) (hT : Sm T) (h : setA S = setA T) : S = T := by
  refine eq_of_wd hS hT fun i hi => ?_
  have := congrArg (fun x : Array Value => x[i]?) h
  simp only [setA_get _ _ hi, Option.some.injEq, Value.int.injEq, true_and] at this
  exact Int.ofNat.inj this

/-- The set of sixteen words. -/
def ofWords : List Nat → Nat
  | [] => 0
  | w :: ws => w + ofWords ws * 2 ^ 64
theorem ofWords_lt : ∀ (l : List Nat), (∀ w ∈ l, w < 2 ^ 64) → ofWords l < 2 ^ (64 * l.length)
  | [], _ => by simp [ofWords]
  | w :: ws, h => by
    have h1 := h w (by simp)
    have h2 := ofWords_lt ws (fun x hx => h x (by simp [hx]))
    simp only [ofWords, List.length_cons]
    rw [show 64 * (ws.length + 1) = 64 * ws.length + 64 from by omega, Nat.pow_add]
    have h3 : ofWords ws + 1 ≤ 2 ^ (64 * ws.length) := h2
    have := Nat.mul_le_mul_right (2 ^ 64) h3
    rw [Nat.succ_mul] at this
    omega
theorem wd_ofWords : ∀ (l : List Nat) (i : Nat), (∀ w ∈ l, w < 2 ^ 64) → i < l.length → wd (ofWords l) i = l.getD i 0
  | [], i, _, h => by simp at h
  | w :: ws, 0, hw, _ => by
    have h1 := hw w (by simp)
    simp only [wd, ofWords, Nat.mul_zero, Nat.shiftRight_zero, List.getD_cons_zero]
    rw [Nat.add_mul_mod_self_right, Nat.mod_eq_of_lt h1]
  | w :: ws, i + 1, hw, h => by
    have h1 := hw w (by simp)
    have := wd_ofWords ws i (fun x hx => hw x (by simp [hx])) (by simpa using h)
    simp only [List.getD_cons_succ]
    rw [← this]
    simp only [wd, ofWords]
    rw [show 64 * (i + 1) = 64 + 64 * i from by omega, Nat.shiftRight_add]
    congr 2
    rw [Nat.shiftRight_eq_div_pow, Nat.add_mul_div_right _ _ (by decide), Nat.div_eq_of_lt h1, Nat.zero_add]

/-- Sixteen cells that are well-formed words are a set's. -/
theorem setC_of {cs : List Value} (hl : cs.length = 16) (h : ∀ i, i < 16 → ∃ n, (cs.drop i).take 1 = [Value.int .u64 n] ∧ (Lit.int .u64 n).wf = true) : ∃ S, Sm S ∧ cs = setC S := by
  have key : ∀ m, m ≤ 16 → ∃ l : List Nat, l.length = m ∧ (∀ w ∈ l, w < 2 ^ 64) ∧ cs.take m = l.map fun (w : Nat) => Value.int .u64 (w : Int) := by
    intro m
    induction m with
    | zero => exact fun _ => ⟨[], rfl, by simp, rfl⟩
    | succ m ih =>
      intro hm
      obtain ⟨l, h1, h2, h3⟩ := ih (by omega)
      obtain ⟨n, e, wf⟩ := h m (by omega)
      have b := bounds_u64 wf
      have e2 : cs[m]? = some (Value.int .u64 n) := by
        have := congrArg (fun x : List Value => x[0]?) e
        simpa [List.getElem?_take, List.getElem?_drop] using this
      obtain ⟨q, rfl⟩ := Int.eq_ofNat_of_zero_le b.1
      refine ⟨l ++ [q], by simp [h1], ?_, ?_⟩
      · intro w hw
        rcases List.mem_append.1 hw with hw | hw
        · exact h2 w hw
        · simp at hw; subst hw; have := b.2; omega
      · rw [List.take_add_one, h3, e2]; simp
  obtain ⟨l, h1, h2, h3⟩ := key 16 (Nat.le_refl _)
  refine ⟨ofWords l, ?_, ?_⟩
  · intro n hn
    exact Nat.testBit_lt_two_pow (Nat.lt_of_lt_of_le (ofWords_lt l h2) (Nat.pow_le_pow_right (by decide) (by rw [h1]; omega)))
  · rw [List.take_of_length_le (by omega)] at h3
    rw [h3]
    apply List.ext_getElem?
    intro i
    by_cases hi : i < 16
    · rw [setC_get _ _ hi, wd_ofWords l i h2 (by omega), List.getElem?_map, List.getD_eq_getElem?_getD, List.getElem?_eq_getElem (by omega)]; rfl
    · rw [List.getElem?_eq_none (by simp; omega), List.getElem?_eq_none (by rw [setC_length]; omega)]

theorem flat_set {P : Program} {t e : TypeId} (ht : P.underlying t = some (.array 16 e)) (he : P.underlying e = some (.int .u64)) (hc : P.cellsOf e = 1) (hs : P.cellsOf t = 16) :
    Flat P t (fun cs => ∃ S, cs = setC S ∧ Sm S) := by
  intro H enc w base spare held fuel cs x h
  obtain ⟨h1, h2⟩ := flat_array ht (flat_int he) h
  rw [hc] at h2
  rw [hs] at h1
  obtain ⟨S, a, b⟩ := setC_of h1 (fun i hi => by simpa using h2 i hi)
  exact ⟨S, b, a⟩

/-! ### '==' -/
theorem u64_wf (n : Nat) (h : n < 2 ^ 64) : (Lit.int .u64 (n : Int)).wf = true := by go_wf
theorem keyLits_set {P : Program} {t e : TypeId} (ht : P.underlying t = some (.array 16 e)) (he : P.underlying e = some (.int .u64)) (hc : P.cellsOf e = 1) (hs : P.cellsOf t = 16) (D S : Nat) :
    P.keyLits (D + 2) t (setC S) = some ((List.range 16).map fun i => Lit.int .u64 (wd S i)) := by
  unfold Program.keyLits
  simp only [ht, setC_length, hs, if_true, hc, Nat.mul_one]
  have : (List.range 16).mapM (fun i => P.keyLits (D + 1) e (((setC S).drop i).take 1)) = some ((List.range 16).map fun i => [Lit.int .u64 (wd S i)]) := by
    have g : ∀ l : List Nat, (∀ i ∈ l, i < 16) → l.mapM (fun i => P.keyLits (D + 1) e (((setC S).drop i).take 1)) = some (l.map fun i => [Lit.int .u64 (wd S i)]) := by
      intro l
      induction l with
      | nil => intro _; rfl
      | cons i l ih =>
        intro h
        have e1 : ((setC S).drop i).take 1 = [.int .u64 (wd S i)] := by
          have hi := h i (by simp)
          apply List.ext_getElem?
          intro j
          cases j with
          | zero => simp [setC_get _ _ hi]
          | succ j => simp [List.getElem?_take]
        rw [List.mapM_cons, ih (fun j hj => h j (by simp [hj])), e1]
        unfold Program.keyLits
        simp [he, u64_wf _ (wd_lt S i)]
    exact g _ (by simp)
  rw [this]
  simp only [Option.map_some, Option.some.injEq]
  generalize List.range 16 = l
  induction l with
  | nil => rfl
  | cons a l ih => simp [ih]

theorem run_eq_set {P : Program} {t e : TypeId} (ht : P.underlying t = some (.array 16 e)) (he : P.underlying e = some (.int .u64)) (hc : P.cellsOf e = 1) (hs : P.cellsOf t = 16) (d : Nat) {S T : Nat} (hS : Sm S) (hT : Sm T) (w : World) :
    (Op.equalIn (d + 2) t (.agg (setA S)) (.agg (setA T))).run P w = .ok (decide (S = T)) w := by
  have hk : P.keyTypeAt 2 t = true := by simp [Program.keyTypeAt, ht, he]
  have f : ∀ U, (Value.agg (setA U)).formed P t = true := fun U => by simp [Value.formed, ht, hs, setA_size]
  obtain ⟨r, hr, hi⟩ := run_equalIn_deep d 2 t hk w 2 2 _ _ _ _ (f S) (f T) (keyLits_set ht he hc hs 0 S) (keyLits_set ht he hc hs 0 T)
  rw [hr]
  congr 1
  rw [Bool.eq_iff_iff, hi, decide_eq_true_iff]
  constructor
  · intro h
    refine eq_of_wd hS hT fun i hi => ?_
    have := congrArg (fun x : List Lit => x[i]?) h
    simp [hi] at this
    exact Int.ofNat.inj this
  · rintro rfl; rfl

/-! ### single workers -/
/-- Is n in the set? -/
def has (S : Nat) (n : Int) : Bool := decide (0 ≤ n) && S.testBit n.toNat
theorem has_nat (S n : Nat) : has S n = S.testBit n := by simp [has]
theorem has_neg (S : Nat) (n : Int) (h : n < 0) : has S n = false := by simp [has]; omega
theorem has_big {S : Nat} (hS : Sm S) {n : Int} (h : 1024 ≤ n) : has S n = false := by
  simp only [has, Bool.and_eq_false_iff]
  exact .inr (hS _ (by omega))
theorem has_word (S n : Nat) : (wd S (n / 64) / 2 ^ (n % 64)) % 2 = (S.testBit n).toNat := by
  have h := testBit_wd S (n / 64) (n % 64)
  rw [show 64 * (n / 64) + n % 64 = n from by omega, show decide (n % 64 < 64) = true from by simp; omega, Bool.true_and] at h
  rw [← h, Nat.testBit_eq_decide_div_mod_eq]
  have : wd S (n / 64) / 2 ^ (n % 64) % 2 < 2 := Nat.mod_lt _ (by decide)
  by_cases e : wd S (n / 64) / 2 ^ (n % 64) % 2 = 1
  · simp [e]
  · have : wd S (n / 64) / 2 ^ (n % 64) % 2 = 0 := by omega
    simp [this]

/-- With one more. -/
def put (S : Nat) (n : Int) : Nat := if 0 ≤ n ∧ n < 1024 then S ||| 2 ^ n.toNat else S
/-- Without one. -/
def drop (S : Nat) (n : Int) : Nat := if 0 ≤ n ∧ n < 1024 then S ^^^ (S &&& 2 ^ n.toNat) else S
theorem testBit_put (S : Nat) (n : Int) (m : Nat) : (put S n).testBit m = (S.testBit m || decide ((m : Int) = n ∧ n < 1024)) := by
  unfold put
  split
  · rename_i h
    rw [Nat.testBit_or, Nat.testBit_two_pow]
    congr 1
    rw [decide_eq_decide]
    omega
  · rename_i h
    rw [show decide ((m : Int) = n ∧ n < 1024) = false from by simp; omega, Bool.or_false]
theorem testBit_drop (S : Nat) (n : Int) (m : Nat) : (drop S n).testBit m = (S.testBit m && !decide ((m : Int) = n ∧ n < 1024)) := by
  unfold drop
  split
  · rename_i h
    rw [Nat.testBit_xor, Nat.testBit_and, Nat.testBit_two_pow]
    rw [show decide ((m : Int) = n ∧ n < 1024) = decide (n.toNat = m) from by rw [decide_eq_decide]; omega]
    cases S.testBit m <;> cases decide (n.toNat = m) <;> rfl
  · rename_i h
    rw [show decide ((m : Int) = n ∧ n < 1024) = false from by simp; omega, Bool.not_false, Bool.and_true]

theorem put_sm {S : Nat} (hS : Sm S) (n : Int) : Sm (put S n) := fun m hm => by rw [testBit_put, hS m hm]; simp; omega
theorem drop_sm {S : Nat} (hS : Sm S) (n : Int) : Sm (drop S n) := fun m hm => by rw [testBit_drop, hS m hm]; simp
theorem testBit_pow_word (n i j : Nat) : (2 ^ n).testBit (64 * i + j) = decide (n = 64 * i + j) := Nat.testBit_two_pow
end Go.Proofs.YtckmihjekgbcmaaDoor

/- What cpuset's is, Has, Put, Drop and the reference's Has do, over sets as numbers. -/
namespace Go.Proofs.YtckmihjekgbcmaaDoor
open Go.RowKit Go.WideShapes Go.ChangeShapes

theorem ret_bool {a b : Bool} (h : a = b) : Ending.returned (.bool a) = .returned (.bool b) := by rw [h]

theorem shr_mod (v k : Nat) : (((v : Int) / 2 ^ k).tmod 2 == 1) = (v / 2 ^ k % 2 == 1) := by
  have e : ((v : Int) / 2 ^ k) = ((v / 2 ^ k : Nat) : Int) := by simp
  rw [e, Int.tmod_eq_emod_of_nonneg (Int.natCast_nonneg _)]
  rw [Bool.eq_iff_iff]; simp; omega

theorem refHas_in (S n : Nat) (w : World) (h : n < 1024) : Calls Tryd.prog 33 #[.agg (setA S), .int .i64 n] w fun e w' => e = .returned (.bool (has S n)) ∧ w' = w.alloc (.cells (setA S) 33) := by
  have hg := setA_get S (n / 64) (by omega)
  have hw := has_word S n
  have hl := wd_lt S (n / 64)
  generalize wd S (n / 64) = v at *
  have hh := has_nat S n
  have HW := Lib.hid hw
  have HH := Lib.hid hh
  clear hw hh
  go_enter Tryd.func33, Tryd.ntmps33
  go_wp2
  go_ret
  refine ⟨ret_bool ?_, rfl⟩
  rw [HH.out]
  simp [shr_mod, HW.out]
  cases S.testBit n <;> rfl
theorem refHas_calls (S : Nat) (hS : Sm S) (n : Int) (w : World) : Calls Tryd.prog 33 #[.agg (setA S), .int .i64 n] w fun e w' => e = .returned (.bool (has S n)) ∧ w' = w.alloc (.cells (setA S) 33) := by
  by_cases h : 0 ≤ n ∧ n < 1024
  · obtain ⟨m, rfl⟩ := Int.eq_ofNat_of_zero_le h.1
    exact refHas_in S m w (by omega)
  · have hh : has S n = false := by
      by_cases h0 : n < 0
      · exact has_neg S n h0
      · exact has_big hS (by omega)
    rw [hh]
    by_cases h0 : n < 0
    · clear hh h hS
      go_enter Tryd.func33, Tryd.ntmps33
      go_wp2
      go_ret
      exact ⟨rfl, rfl⟩
    · have h1 : 1024 ≤ n := by omega
      clear hh h hS
      go_enter Tryd.func33, Tryd.ntmps33
      go_wp2
      go_ret
      exact ⟨rfl, rfl⟩

theorem is_calls (n : Int) (w : World) : Calls Tryd.prog 41 #[.int .i64 n] w fun e w' => e = .returned (.bool (decide (0 ≤ n ∧ n < 1024))) ∧ w = w' := by
  by_cases h : 0 ≤ n ∧ n < 1024
  · rw [decide_eq_true h]
    obtain ⟨h0, h1⟩ := h
    go_enter Tryd.func41, Tryd.ntmps41
    go_wp2
    go_ret
    exact ⟨rfl, rfl⟩
  · rw [decide_eq_false h]
    by_cases h0 : n < 0
    · clear h
      go_enter Tryd.func41, Tryd.ntmps41
      go_wp2
      go_ret
      exact ⟨rfl, rfl⟩
    · have h1 : 1024 ≤ n := by omega
      clear h
      go_enter Tryd.func41, Tryd.ntmps41
      go_wp2
      go_ret
      exact ⟨ret_bool (by simp; omega), rfl⟩
theorem is_yes (n : Int) (w : World) (h : 0 ≤ n ∧ n < 1024) : Calls Tryd.prog 41 #[.int .i64 n] w fun e w' => e = .returned (.bool true) ∧ w = w' := by
  have := is_calls n w
  rwa [decide_eq_true h] at this
theorem is_no (n : Int) (w : World) (h : ¬ (0 ≤ n ∧ n < 1024)) : Calls Tryd.prog 41 #[.int .i64 n] w fun e w' => e = .returned (.bool false) ∧ w = w' := by
  have := is_calls n w
  rwa [decide_eq_false h] at this

theorem wraps_u64 (n : Int) (h₀ : 0 ≤ n) (h₁ : n < 2 ^ 64) : IntKind.u64.wrap n = n := by
  have e : IntKind.u64.wrap n = n % 18446744073709551616 := by simp [IntKind.wrap, IntKind.bits, IntKind.signed]
  rw [e]
  omega
theorem bits64 (a b : Nat) (ha : a < 2 ^ 64) (hb : b < 2 ^ 64) : bits .and .u64 a b = ((a &&& b : Nat) : Int) ∧ bits .or .u64 a b = ((a ||| b : Nat) : Int) :=
  bits_nat .u64 64 (by decide) wraps_u64 a b ha hb
theorem bits64_not (a b : Nat) (ha : a < 2 ^ 64) (hb : b < 2 ^ 64) : bits .andNot .u64 a b = ((a ^^^ (a &&& b) : Nat) : Int) := by
  have e0 : (BitVec.ofNat 64 a &&& ~~~BitVec.ofNat 64 b).toNat = a ^^^ (a &&& b) := by
    refine Nat.eq_of_testBit_eq fun i => ?_
    rw [← BitVec.getLsbD]
    simp only [BitVec.getLsbD_and, BitVec.getLsbD_not, BitVec.getLsbD_ofNat, Nat.testBit_xor, Nat.testBit_and]
    by_cases hi : i < 64
    · simp only [hi, decide_true, Bool.true_and]
      cases a.testBit i <;> cases b.testBit i <;> rfl
    · have : a.testBit i = false := Nat.testBit_lt_two_pow (Nat.lt_of_lt_of_le ha (Nat.pow_le_pow_right (by decide) (by omega)))
      simp [hi, this]
  have e : (BitVec.ofNat IntKind.u64.bits a &&& ~~~BitVec.ofNat IntKind.u64.bits b).toNat = a ^^^ (a &&& b) := e0
  simp only [bits, BitVec.ofInt_natCast]
  rw [e]
  refine wraps_u64 _ (Int.natCast_nonneg _) ?_
  have : a ^^^ (a &&& b) < 2 ^ 64 := Nat.xor_lt_two_pow ha (Nat.and_lt_two_pow _ hb)
  exact_mod_cast this
theorem div_lt64 {v : Nat} (h : v < 2 ^ 64) (k : Nat) : v / 2 ^ k < 2 ^ 64 := Nat.lt_of_le_of_lt (Nat.div_le_self _ _) h
theorem and_one (v k : Nat) (h : v < 2 ^ 64) : (bits .and .u64 ((v : Int) / 2 ^ k) 1 == 1) = (v / 2 ^ k % 2 == 1) := by
  have e : ((v : Int) / 2 ^ k) = ((v / 2 ^ k : Nat) : Int) := by simp
  have := (bits64 (v / 2 ^ k) 1 (div_lt64 h k) (by decide)).1
  rw [e, show (1 : Int) = ((1 : Nat) : Int) from rfl, this, Nat.and_one_is_mod]
  rw [Bool.eq_iff_iff, beq_iff_eq, beq_iff_eq]
  omega

theorem has_in (S n : Nat) (w : World) (h : n < 1024) : Calls Tryd.prog 38 #[.agg (setA S), .int .i64 n] w fun e w' => e = .returned (.bool (has S n)) ∧ w' = w.alloc (.cells (setA S) 33) := by
  have hg := setA_get S (n / 64) (by omega)
  have hw := has_word S n
  have hl := wd_lt S (n / 64)
  generalize wd S (n / 64) = v at *
  have hh := has_nat S n
  have HW := Lib.hid hw
  have HH := Lib.hid hh
  clear hw hh
  go_enter Tryd.func38, Tryd.ntmps38
  go_wp2_with (go_at_call 41; refine (is_yes _ _ (by omega)).mono ?_; rintro e w' ⟨rfl, rfl⟩)
  go_ret
  refine ⟨ret_bool ?_, rfl⟩
  rw [HH.out, and_one _ _ hl, HW.out]
  cases S.testBit n <;> rfl
theorem has_calls (S : Nat) (hS : Sm S) (n : Int) (w : World) : Calls Tryd.prog 38 #[.agg (setA S), .int .i64 n] w fun e w' => e = .returned (.bool (has S n)) ∧ w' = w.alloc (.cells (setA S) 33) := by
  by_cases h : 0 ≤ n ∧ n < 1024
  · obtain ⟨m, rfl⟩ := Int.eq_ofNat_of_zero_le h.1
    exact has_in S m w (by omega)
  · have hh : has S n = false := by
      by_cases h0 : n < 0
      · exact has_neg S n h0
      · exact has_big hS (by omega)
    rw [hh]
    have HN := Lib.hid h
    clear hh h hS
    go_enter Tryd.func38, Tryd.ntmps38
    go_wp2_with (go_at_call 41; refine (is_no _ _ HN.out).mono ?_; rintro e w' ⟨rfl, rfl⟩)
    go_ret
    exact ⟨rfl, rfl⟩
end Go.Proofs.YtckmihjekgbcmaaDoor

/- What cpuset's Put and Drop do. -/
namespace Go.Proofs.YtckmihjekgbcmaaDoor
open Go.RowKit Go.WideShapes Go.ChangeShapes

theorem wd_put (S n : Nat) (h : n < 1024) : wd (put S n) (n / 64) = wd S (n / 64) ||| 2 ^ (n % 64) := by
  refine Nat.eq_of_testBit_eq fun j => ?_
  rw [testBit_wd, Nat.testBit_or, testBit_wd, testBit_put, Nat.testBit_two_pow]
  by_cases hj : j < 64
  · simp only [hj, decide_true, Bool.true_and]
    congr 1
    rw [decide_eq_decide]
    omega
  · simp only [hj, decide_false, Bool.false_and, Bool.false_or]
    rw [eq_comm, decide_eq_false_iff_not]
    omega
theorem wd_put_other (S n j : Nat) (hj : j ≠ n / 64) : wd (put S n) j = wd S j := by
  refine Nat.eq_of_testBit_eq fun i => ?_
  rw [testBit_wd, testBit_wd, testBit_put]
  by_cases hi : i < 64
  · rw [show decide (((64 * j + i : Nat) : Int) = (n : Int) ∧ (n : Int) < 1024) = false from by simp; omega, Bool.or_false]
  · simp [hi]
theorem wd_drop (S n : Nat) (h : n < 1024) : wd (drop S n) (n / 64) = wd S (n / 64) ^^^ (wd S (n / 64) &&& 2 ^ (n % 64)) := by
  refine Nat.eq_of_testBit_eq fun j => ?_
  rw [testBit_wd, Nat.testBit_xor, Nat.testBit_and, testBit_wd, testBit_drop, Nat.testBit_two_pow]
  by_cases hj : j < 64
  · simp only [hj, decide_true, Bool.true_and]
    rw [show decide (((64 * (n / 64) + j : Nat) : Int) = (n : Int) ∧ (n : Int) < 1024) = decide (n % 64 = j) from by rw [decide_eq_decide]; omega]
    cases S.testBit (64 * (n / 64) + j) <;> cases decide (n % 64 = j) <;> rfl
  · simp [hj]
theorem wd_drop_other (S n j : Nat) (hj : j ≠ n / 64) : wd (drop S n) j = wd S j := by
  refine Nat.eq_of_testBit_eq fun i => ?_
  rw [testBit_wd, testBit_wd, testBit_drop]
  by_cases hi : i < 64
  · rw [show decide (((64 * j + i : Nat) : Int) = (n : Int) ∧ (n : Int) < 1024) = false from by simp; omega, Bool.not_false, Bool.and_true]
  · simp [hi]
theorem pow64 {k : Nat} (h : k < 64) : 2 ^ k < 2 ^ 64 := Nat.pow_lt_pow_right (by decide) h

theorem put_out {S : Nat} {n : Int} (h : ¬ (0 ≤ n ∧ n < 1024)) : put S n = S := by rw [put, if_neg h]
theorem drop_out {S : Nat} {n : Int} (h : ¬ (0 ≤ n ∧ n < 1024)) : drop S n = S := by rw [drop, if_neg h]

/-! ### whole sets read from a variable, stored into one, handed back -/
theorem info_set : (Tryd.prog.info? 33).map (·.size) = some 16 := by kernel_rfl
theorem info_setA (S : Nat) : (Tryd.prog.info? 33).map (·.size) = some (setA S).size := by rw [setA_size]; exact info_set
theorem wpl_load_set {ops : Array Oper} {rest : List Oper} {o : Oper} {a : Act} {w : World} {Q : Exit → Act → World → Prop} (x : Operand) (ho : o.op = .load 33 x) (hgd : o.guard = none)
    (g : Nat) (hx : a.eval x = .pointer (some ⟨g, 0, none⟩)) (S : Nat) {t : TypeId} (hg : w.heap[g]? = some (.cells (setA S) t (0, 0)))
    (h : wpList Tryd.prog ops Q rest (a.put o.dst (.agg (setA S))) w) : wpList Tryd.prog ops Q (o :: rest) a w := by
  exact wpList_load_row hgd _ x ho g hx t _ _ _ hg Tryd.underlying33 rfl (info_setA S) h
theorem wpl_load_setG {ops : Array Oper} {rest : List Oper} {o : Oper} {a : Act} {w : World} {Q : Exit → Act → World → Prop} (x : Operand) (ho : o.op = .load 33 x) (hw : Region.wanted o (yielded ops a.tmps) = true)
    (g : Nat) (hx : a.eval x = .pointer (some ⟨g, 0, none⟩)) (S : Nat) {t : TypeId} (hg : w.heap[g]? = some (.cells (setA S) t (0, 0)))
    (h : wpList Tryd.prog ops Q rest (a.put o.dst (.agg (setA S))) w) : wpList Tryd.prog ops Q (o :: rest) a w :=
  wpList_step fun K hK => by rw [if_pos hw]; exact wp_load_row _ x ho g hx t _ _ _ hg Tryd.underlying33 rfl (info_setA S) (hK _ _ h)
theorem setA_one (S : Nat) : (setA S).all (·.oneCell') = true := by
  rw [Array.all_eq_true_iff_forall_mem]
  intro v hv
  simp [setA, setC] at hv
  obtain ⟨i, _, rfl⟩ := hv
  rfl
theorem wpl_store_set {ops : Array Oper} {rest : List Oper} {o : Oper} {a : Act} {w : World} {Q : Exit → Act → World → Prop} (x y : Operand) (ho : o.op = .store 33 x y) (hgd : o.guard = none)
    (g : Nat) (hx : a.eval x = .pointer (some ⟨g, 0, none⟩)) (S : Nat) (hy : a.eval y = .agg (setA S)) {t : TypeId} {old : Array Value} (hg : w.heap[g]? = some (.cells old t (0, 0))) (hs : old.size = 16)
    (h : wpList Tryd.prog ops Q rest (a.put o.dst undef) (w.setRow g (setA S))) : wpList Tryd.prog ops Q (o :: rest) a w :=
  wpList_store_row hgd _ x y ho g _ hx hy t old hg (info_setA S) (by rw [hs, setA_size]) (setA_one S) h
theorem res_set {fn : Func} {p : Tmp} (h : fn.results = #[.cell p 33]) (tmps : Array Value) (w : World) (g : Nat) (S : Nat) {t : TypeId}
    (hp : tmps.getD p undef = .pointer (some ⟨g, 0, none⟩)) (hg : w.heap[g]? = some (.cells (setA S) t (0, 0))) : (results fn tmps).run Tryd.prog w = .ok (.agg (setA S)) w := by
  exact results_cell_row h tmps w g t _ _ _ hp hg Tryd.underlying33 rfl (info_setA S)
theorem bl_setRow {w W : World} (h : Below w.heap.size w W) (g : Nat) (hg : w.heap.size ≤ g) (cs : Array Value) : Below w.heap.size w (W.setRow g cs) :=
  h.trans ⟨rfl, rfl, rfl, by simp, fun k hk => setRow_other W g k cs (by omega)⟩

theorem put_in (S n : Nat) (w : World) (h : n < 1024) : Calls Tryd.prog 39 #[.agg (setA S), .int .i64 n] w fun e w' => e = .returned (.agg (setA (put S n))) ∧ Below w.heap.size w w' := by
  have hg := setA_get S (n / 64) (by omega)
  have hs : (setA S).setIfInBounds (n / 64) (.int .u64 (wd S (n / 64) ||| 2 ^ (n % 64) : Nat)) = setA (put S n) := setA_set (wd_put S n h) (fun j _ hj => wd_put_other S n j hj)
  have hl := wd_lt S (n / 64)
  have hb := (bits64 (wd S (n / 64)) (2 ^ (n % 64)) hl (pow64 (by omega))).2
  have hw : IntKind.u64.wrap (2 ^ (n % 64)) = ((2 ^ (n % 64) : Nat) : Int) := by rw [wraps_u64 _ (Int.pow_nonneg (by omega)) (by exact_mod_cast pow64 (by omega))]; simp
  generalize wd S (n / 64) = v at *
  rw [← hb, ← hw] at hs
  have HS := Lib.hid hs
  clear hs hb hw
  go_enter Tryd.func39, Tryd.ntmps39
  go_wp2_with (go_at_call 41; refine (is_yes _ _ (by omega)).mono ?_; rintro e w' ⟨rfl, rfl⟩)
  go_region
  rw [HS.out]
  go_wp2_with (first
    | (refine wpl_load_set (.tmp 2) rfl rfl _ rfl (put S n) (heap_alloc2_old _ _ _) ?_)
    | (refine wpl_store_set (.tmp 4) (.tmp 16) rfl rfl _ rfl (put S n) rfl (heap_alloc2_new _ _ _) rfl ?_))
  exact bodyPost_ret (res_set rfl _ _ _ (put S n) rfl (setRow_heap _ _ _ _ _ _ (heap_alloc2_new _ _ _))) rfl ⟨rfl, bl_setRow (bl_drew (bl_alloc (bl_alloc (Below.refl _ _) _) _)) _ (by omega) _⟩
theorem put_calls (S : Nat) (n : Int) (w : World) : Calls Tryd.prog 39 #[.agg (setA S), .int .i64 n] w fun e w' => e = .returned (.agg (setA (put S n))) ∧ Below w.heap.size w w' := by
  by_cases h : 0 ≤ n ∧ n < 1024
  · obtain ⟨m, rfl⟩ := Int.eq_ofNat_of_zero_le h.1
    exact put_in S m w (by omega)
  · rw [put_out h]
    have HN := Lib.hid h
    clear h
    go_enter Tryd.func39, Tryd.ntmps39
    go_wp2_with (first
      | (go_at_call 41; refine (is_no _ _ HN.out).mono ?_; rintro e w' ⟨rfl, rfl⟩)
      | (refine wpl_load_set (.tmp 2) rfl rfl _ rfl S (heap_alloc2_old _ _ _) ?_)
      | (refine wpl_store_set (.tmp 4) (.tmp 16) rfl rfl _ rfl S rfl (heap_alloc2_new _ _ _) rfl ?_))
    exact bodyPost_ret (res_set rfl _ _ _ S rfl (setRow_heap _ _ _ _ _ _ (heap_alloc2_new _ _ _))) rfl ⟨rfl, bl_setRow (bl_alloc (bl_alloc (Below.refl _ _) _) _) _ (by omega) _⟩

end Go.Proofs.YtckmihjekgbcmaaDoor

/- What cpuset's And, Or and Minus do. -/
namespace Go.Proofs.YtckmihjekgbcmaaDoor
open Go.RowKit Go.WideShapes Go.ChangeShapes

/-- Sixteen cells out of sixteen words. -/
def wordsA (f : Nat → Nat) : Array Value := ((List.range 16).map fun j => Value.int .u64 (f j)).toArray
theorem wordsA_wd (S : Nat) : wordsA (wd S) = setA S := rfl
theorem wordsA_get (f : Nat → Nat) (i : Nat) (h : i < 16) : (wordsA f)[i]? = some (.int .u64 (f i)) := by simp [wordsA, h]
theorem wordsA_size (f : Nat → Nat) : (wordsA f).size = 16 := by simp [wordsA]
theorem wordsA_set {f g : Nat → Nat} {i v : Nat} (hv : g i = v) (h : ∀ j, j < 16 → j ≠ i → g j = f j) : (wordsA f).setIfInBounds i (.int .u64 v) = wordsA g := by
  apply Array.ext
  · simp [wordsA]
  · intro j h1 h2
    have hj : j < 16 := by simpa [wordsA_size] using h2
    rw [Array.getElem_setIfInBounds (by simpa [wordsA_size] using hj)]
    split
    · rename_i e; subst e; simp [wordsA, hv]
    · rename_i e; simp [wordsA, h j hj (fun q => e q.symm)]
theorem wordsA_eq {f g : Nat → Nat} (h : ∀ j, j < 16 → f j = g j) : wordsA f = wordsA g := by
  unfold wordsA
  congr 1
  exact List.map_congr_left fun j hj => by rw [h j (by simpa using hj)]

/-- The first of two sets without the second. -/
def minus (S T : Nat) : Nat := S ^^^ (S &&& T)
theorem testBit_minus (S T n : Nat) : (minus S T).testBit n = (S.testBit n && !T.testBit n) := by
  simp only [minus, Nat.testBit_xor, Nat.testBit_and]
  cases S.testBit n <;> cases T.testBit n <;> rfl
theorem wd_and (S T j : Nat) : wd (S &&& T) j = wd S j &&& wd T j := by
  refine Nat.eq_of_testBit_eq fun i => ?_
  simp only [testBit_wd, Nat.testBit_and]
  cases decide (i < 64) <;> simp
theorem wd_or (S T j : Nat) : wd (S ||| T) j = wd S j ||| wd T j := by
  refine Nat.eq_of_testBit_eq fun i => ?_
  simp only [testBit_wd, Nat.testBit_or]
  cases decide (i < 64) <;> simp
theorem wd_minus (S T j : Nat) : wd (minus S T) j = wd S j ^^^ (wd S j &&& wd T j) := by
  refine Nat.eq_of_testBit_eq fun i => ?_
  simp only [testBit_wd, Nat.testBit_xor, Nat.testBit_and, testBit_minus]
  cases decide (i < 64) <;> cases S.testBit (64 * j + i) <;> cases T.testBit (64 * j + i) <;> rfl
theorem and_sm {S : Nat} (T : Nat) (hS : Sm S) : Sm (S &&& T) := fun n hn => by rw [Nat.testBit_and, hS n hn, Bool.false_and]
theorem or_sm {S T : Nat} (hS : Sm S) (hT : Sm T) : Sm (S ||| T) := fun n hn => by rw [Nat.testBit_or, hS n hn, hT n hn]; rfl
theorem minus_sm {S : Nat} (T : Nat) (hS : Sm S) : Sm (minus S T) := fun n hn => by rw [testBit_minus, hS n hn, Bool.false_and]

/-- The words while the loop goes: those ahead of i are new. -/
def mixW (op : Nat → Nat → Nat) (S T i j : Nat) : Nat := if j < i then op (wd S j) (wd T j) else wd S j

/-- What the loop's rounds keep: the two variables' blocks, the result's, and what was there. -/
def BitRel (op : Nat → Nat → Nat) (S T : Nat) (w : World) (n : Value) (wr : World) : Prop :=
  ∃ i : Nat, i ≤ 16 ∧ n = .int .i64 i ∧ wr.heap[w.heap.size]? = some (.cells (wordsA (mixW op S T i)) 33 (0, 0)) ∧ wr.heap[w.heap.size + 1]? = some (.cells (setA T) 33 (0, 0)) ∧
    (∃ old, wr.heap[w.heap.size + 2]? = some (.cells old 33 (0, 0)) ∧ old.size = 16) ∧ Below w.heap.size w wr

theorem heap_alloc3_a (w : World) (A B C : Obj) : (((w.alloc A).alloc B).alloc C).heap[w.heap.size]? = some A := by
  rw [heap_alloc_old _ _ (by simp; omega)]; exact heap_alloc2_old w A B
theorem heap_alloc3_b (w : World) (A B C : Obj) : (((w.alloc A).alloc B).alloc C).heap[w.heap.size + 1]? = some B := by
  rw [heap_alloc_old _ _ (by simp)]; exact heap_alloc2_new w A B
theorem heap_alloc3_c (w : World) (A B C : Obj) : (((w.alloc A).alloc B).alloc C).heap[w.heap.size + 2]? = some C := by
  have := heap_alloc2_new (w.alloc A) B C; simpa using this

theorem mixW_zero (op : Nat → Nat → Nat) (S T : Nat) : setA S = wordsA (mixW op S T 0) := wordsA_eq fun j _ => by simp [mixW]
theorem mixW_all (op : Nat → Nat → Nat) (S T R : Nat) (h : ∀ j, wd R j = op (wd S j) (wd T j)) : wordsA (mixW op S T 16) = setA R := wordsA_eq fun j hj => by simp [mixW, hj, h]
theorem mixW_step (op : Nat → Nat → Nat) (S T i : Nat) : (wordsA (mixW op S T i)).setIfInBounds i (.int .u64 (op (wd S i) (wd T i) : Nat)) = wordsA (mixW op S T (i + 1)) :=
  wordsA_set (by simp [mixW]) fun j _ hj => by unfold mixW; split <;> split <;> first | rfl | omega


theorem or_calls (S T : Nat) (w : World) : Calls Tryd.prog 31 #[.agg (setA S), .agg (setA T)] w fun e w' => e = .returned (.agg (setA (S ||| T))) ∧ Below w.heap.size w w' := by
  go_enter Tryd.func31, Tryd.ntmps31
  go_wp2
  go_loopw [5, 6] (fun _ n wr => BitRel (fun a b => a ||| b) S T w n wr) (fun _ n _ => 16 - (intOf n).toNat)
  case atStart =>
    exact ⟨0, by omega, rfl, by rw [← mixW_zero]; exact heap_alloc3_a _ _ _ _, heap_alloc3_b _ _ _ _, ⟨_, heap_alloc3_c _ _ _ _, rfl⟩, bl_alloc (bl_alloc (bl_alloc (Below.refl _ _) _) _) _⟩
  case round =>
    obtain ⟨i, hi, rfl, hA, hB, ⟨old, hC, hold⟩, bel⟩ := hrel
    have HA := Lib.hid hA
    have HB := Lib.hid hB
    have HC := Lib.hid hC
    have HO := Lib.hid hold
    clear hA hB hC hold
    by_cases hlt : i < 16
    · have ca : wr.cell? ⟨w.heap.size, i, none⟩ = some (.int .u64 (wd S i)) := by rw [cell_of_row _ _ _ _ _ _ HA.out, wordsA_get _ _ hlt]; simp [mixW]
      have cb : wr.cell? ⟨w.heap.size + 1, i, none⟩ = some (.int .u64 (wd T i)) := by rw [cell_of_row _ _ _ _ _ _ HB.out, setA_get _ _ hlt]
      have fa : wr.frozen? ⟨w.heap.size, i, none⟩ = false := frozen_of_row _ _ _ _ _ HA.out
      have HV := Lib.hid ((bits64 _ _ (wd_lt _ _) (wd_lt _ _)).2 : bits .or .u64 (wd S i) (wd T i) = _)
      have hz := bel.size
      go_wp2
      go_region
      rw [HV.out]
      go_wp2
      go_roundw
      case rel =>
        refine ⟨i + 1, by omega, by go_num, ?_, ?_, ⟨old, ?_, HO.out⟩, ?_⟩
        · rw [← mixW_step]; exact heap_setCell_same _ _ _ _ _ _ HA.out
        · exact (heap_setCell_other _ _ _ _ (by simp)).trans HB.out
        · exact (heap_setCell_other _ _ _ _ (by simp)).trans HC.out
        · exact bl_drew (bel.setCell (Nat.le_refl _) _)
      case measure => simp [intOf]; omega
    · obtain rfl : i = 16 := by omega
      have e := mixW_all (fun a b => a ||| b) S T (S ||| T) (wd_or S T)
      go_wp2_with (first
        | (refine wpl_load_set (.tmp 2) rfl rfl _ rfl (S ||| T) (by rw [← e]; exact HA.out) ?_)
        | (refine wpl_store_set (.tmp 4) (.tmp 18) rfl rfl _ rfl (S ||| T) rfl HC.out HO.out ?_))
      exact bodyPost_ret (res_set rfl _ _ _ (S ||| T) rfl (setRow_heap _ _ _ _ _ _ HC.out)) rfl ⟨rfl, bl_setRow bel _ (by omega) _⟩

end Go.Proofs.YtckmihjekgbcmaaDoor

/- What cpuset's Of, Range, Within and Meets and the reference's Make do. -/
namespace Go.Proofs.YtckmihjekgbcmaaDoor
open Go.RowKit Go.WideShapes Go.ChangeShapes

/-- The set of those of some numbers that are workers'. -/
def mk (l : List Int) : Nat := l.foldl put 0
theorem mk_snoc (l : List Int) (n : Int) : mk (l ++ [n]) = put (mk l) n := by simp [mk]
theorem mk_take (l : List Int) (k : Nat) (h : k < l.length) : mk (l.take (k + 1)) = put (mk (l.take k)) (nth l k) := by
  rw [List.take_succ_eq_append_getElem h, mk_snoc]
  simp [nth, h]
theorem mk_sm (l : List Int) : Sm (mk l) := by
  have : ∀ (l : List Int) (S : Nat), Sm S → Sm (l.foldl put S) := by
    intro l
    induction l with
    | nil => exact fun _ h => h
    | cons n l ih => exact fun S h => ih _ (put_sm h n)
  exact this l 0 sm_zero
theorem testBit_mk (l : List Int) (m : Nat) : (mk l).testBit m = decide (m < 1024 ∧ (m : Int) ∈ l) := by
  have : ∀ (l : List Int) (S : Nat), (l.foldl put S).testBit m = (S.testBit m || decide (m < 1024 ∧ (m : Int) ∈ l)) := by
    intro l
    induction l with
    | nil => simp
    | cons n l ih =>
      intro S
      rw [List.foldl_cons, ih, testBit_put, Bool.or_assoc]
      congr 1
      rw [← Bool.decide_or, decide_eq_decide]
      simp only [List.mem_cons]
      constructor
      · rintro (⟨h1, h2⟩ | ⟨h1, h2⟩)
        · exact ⟨by omega, .inl h1⟩
        · exact ⟨h1, .inr h2⟩
      · rintro ⟨h1, h2 | h2⟩
        · exact .inl ⟨h2, by omega⟩
        · exact .inr ⟨h1, h2⟩
  rw [mk, this, Nat.zero_testBit, Bool.false_or]

theorem setA_zero : setA 0 = #[.int .u64 0, .int .u64 0, .int .u64 0, .int .u64 0, .int .u64 0, .int .u64 0, .int .u64 0, .int .u64 0, .int .u64 0, .int .u64 0, .int .u64 0, .int .u64 0, .int .u64 0, .int .u64 0, .int .u64 0, .int .u64 0] := rfl

/-- '==' of two sets; of a set and the empty one. -/
theorem run_eqS {S T : Nat} (hS : Sm S) (hT : Sm T) : ∀ w, (Op.equalIn 10000 33 (.agg (setA S)) (.agg (setA T))).run Tryd.prog w = .ok (decide (S = T)) w :=
  fun w => run_eq_set Tryd.underlying33 Tryd.underlying31 (by kernel_rfl) (by kernel_rfl) 9998 hS hT w
theorem run_eqS0 {S : Nat} (hS : Sm S) : ∀ w, (Op.equalIn 10000 33 (.agg (setA S)) (.agg #[.int .u64 0, .int .u64 0, .int .u64 0, .int .u64 0, .int .u64 0, .int .u64 0, .int .u64 0, .int .u64 0, .int .u64 0, .int .u64 0, .int .u64 0, .int .u64 0, .int .u64 0, .int .u64 0, .int .u64 0, .int .u64 0])).run Tryd.prog w = .ok (decide (S = 0)) w := by
  rw [← setA_zero]
  exact run_eqS hS sm_zero

/-- Adding a bit that is not there is or. -/
theorem add_bit (v k : Nat) (hk : k < 64) (hv : v < 2 ^ 64) (h : v.testBit k = false) : IntKind.u64.wrap ((v : Int) + IntKind.u64.wrap (2 ^ k)) = ((v ||| 2 ^ k : Nat) : Int) := by
  have hp : (2 : Nat) ^ k < 2 ^ 64 := pow64 hk
  have e1 : IntKind.u64.wrap (2 ^ k) = ((2 ^ k : Nat) : Int) := by rw [wraps_u64 _ (Int.pow_nonneg (by omega)) (by exact_mod_cast hp)]; simp
  have e2 : v + 2 ^ k = v ||| 2 ^ k := by
    have a : v &&& 2 ^ k = 0 := by
      refine Nat.eq_of_testBit_eq fun i => ?_
      rw [Nat.testBit_and, Nat.testBit_two_pow, Nat.zero_testBit]
      by_cases e : k = i
      · subst e; rw [h, Bool.false_and]
      · simp [e]
    have b := BitVec.add_eq_or_of_and_eq_zero (BitVec.ofNat 65 v) (BitVec.ofNat 65 (2 ^ k)) (by
      apply BitVec.eq_of_toNat_eq
      simp only [BitVec.toNat_and, BitVec.toNat_ofNat]
      rw [Nat.mod_eq_of_lt (by omega), Nat.mod_eq_of_lt (by omega), a])
    have c := congrArg BitVec.toNat b
    simp only [BitVec.toNat_add, BitVec.toNat_or, BitVec.toNat_ofNat] at c
    rw [Nat.mod_eq_of_lt (a := v) (by omega), Nat.mod_eq_of_lt (a := 2 ^ k) (by omega), Nat.mod_eq_of_lt (by omega)] at c
    exact c
  rw [e1, ← e2]
  have : v ||| 2 ^ k < 2 ^ 64 := Nat.or_lt_two_pow hv hp
  rw [wraps_u64]
  · simp
  · omega
  · rw [← e2] at this; omega

def MakeRel (w : World) (xs : List Int) (i : Value) (wr : World) : Prop :=
  ∃ k : Nat, k ≤ xs.length ∧ i = .int .i64 k ∧ Blk wr (w.heap.size + 1) (setA (mk (xs.take k))) 33 ∧ (∃ old, Blk wr w.heap.size old 33 ∧ old.size = 16) ∧ Below w.heap.size w wr

theorem put_has {S : Nat} {n : Int} (h : has S n = true) : put S n = S := by
  refine Nat.eq_of_testBit_eq fun m => ?_
  rw [testBit_put]
  simp only [has, Bool.and_eq_true, decide_eq_true_eq] at h
  by_cases e : (m : Int) = n
  · subst e; simp at h; rw [h]; simp
  · simp [e]

set_option maxRecDepth 100000 in
set_option maxHeartbeats 400000 in
theorem make_calls (A : Option Addr) (xs : List Int) (cap : Nat) (w : World) (hr : Reads w A (xs.map (Value.int .i64))) (hl : xs.length ≤ 9223372036854775807) :
    Calls Tryd.prog 28 #[.slice A xs.length cap] w fun e w' => e = .returned (.agg (setA (mk xs))) ∧ Below w.heap.size w w' := by
  go_enter Tryd.func28, Tryd.ntmps28
  go_wp2
  go_loopw [5, 8] (fun _ i wr => MakeRel w xs i wr) (fun _ i _ => xs.length - (intOf i).toNat)
  case atStart =>
    refine ⟨0, Nat.zero_le _, rfl, ?_, ⟨_, heap_alloc2_old _ _ _, rfl⟩, bl_alloc (bl_alloc (Below.refl _ _) _) _⟩
    rw [List.take_zero, show mk [] = 0 from rfl, setA_zero]
    exact heap_alloc2_new _ _ _
  case round =>
    obtain ⟨k, hk, rfl, hA, ⟨old, hB, hold⟩, bel⟩ := hrel
    have HA := Lib.hid hA
    have HB := Lib.hid hB
    have HO := Lib.hid hold
    clear hA hB hold
    by_cases hlt : k < xs.length
    · obtain ⟨b, off, rfl, hc⟩ := (hr.same bel).at_ (by simp; omega)
      have hcell := Reads.int_at hc k hlt
      have HT := Lib.hid (mk_take xs k hlt)
      have hz := bel.size
      have hsm := mk_sm (xs.take k)
      clear hc
      generalize mk (xs.take k) = S at *
      generalize nth xs k = n at *
      by_cases hin : 0 ≤ n ∧ n < 1024
      · obtain ⟨h0, h1⟩ := hin
        have h1 : n ≤ 1023 := by omega
        obtain ⟨n, rfl⟩ := Int.eq_ofNat_of_zero_le h0
        cases hh : has S n with
        | true =>
          have HH := Lib.hid hh
          clear hh
          go_wp2_with (first
            | (refine wpl_load_setG (.tmp 3) rfl rfl _ rfl S HA.out ?_)
            | (go_at_call 33; refine (refHas_calls _ hsm _ _).mono ?_; rintro e w' ⟨rfl, rfl⟩; rw [HH.out]))
          go_roundw
          case rel => exact ⟨k + 1, by omega, by go_num, by rw [HT.out, put_has HH.out]; exact HA.out.alloc _, ⟨old, HB.out.alloc _, HO.out⟩, bl_alloc bel _⟩
          case measure => simp [intOf]; omega
        | false =>
          have HH := Lib.hid hh
          have hb : S.testBit n = false := by rw [← has_nat]; exact hh
          clear hh
          have hg : wr.cell? ⟨w.heap.size + 1, n / 64, none⟩ = some (.int .u64 (wd S (n / 64))) := by rw [HA.out.cell, setA_get _ _ (by omega)]
          have hf : wr.frozen? ⟨w.heap.size + 1, n / 64, none⟩ = false := HA.out.free _
          have hs : (setA S).setIfInBounds (n / 64) (.int .u64 (wd S (n / 64) ||| 2 ^ (n % 64) : Nat)) = setA (put S n) := setA_set (wd_put S n (by omega)) (fun j _ hj => wd_put_other S n j hj)
          have hadd := add_bit (wd S (n / 64)) (n % 64) (by omega) (wd_lt _ _) (by rw [testBit_wd, show 64 * (n / 64) + n % 64 = n from by omega, hb, Bool.and_false])
          have HADD := Lib.hid hadd
          have HS := Lib.hid hs
          clear hadd hs hb
          have hzz := HA.out.lt
          go_wp2_with (first
            | (refine wpl_load_setG (.tmp 3) rfl rfl _ rfl S HA.out ?_)
            | (go_at_call 33; refine (refHas_calls _ hsm _ _).mono ?_; rintro e w' ⟨rfl, rfl⟩; rw [HH.out]))
          go_region
          rw [HADD.out]
          go_wp2
          go_roundw
          case rel =>
            refine ⟨k + 1, by omega, by go_num, ?_, ⟨old, ?_, HO.out⟩, ?_⟩
            · rw [HT.out, ← HS.out]; exact ((HA.out.set _ _).alloc _).drew
            · exact ((HB.out.far _ _ (by simp)).alloc _).drew
            · exact bl_drew (bl_alloc (bel.setCell (by simp) _) _)
          case measure => simp [intOf]; omega
      · have HN := Lib.hid (put_out hin : put S n = S)
        by_cases h0 : n < 0
        · go_wp2
          go_roundw
          case rel => exact ⟨k + 1, by omega, by go_num, by rw [HT.out, HN.out]; exact HA.out, ⟨old, HB.out, HO.out⟩, bel⟩
          case measure => simp [intOf]; omega
        · have h1 : 1023 < n := by omega
          go_wp2
          go_roundw
          case rel => exact ⟨k + 1, by omega, by go_num, by rw [HT.out, HN.out]; exact HA.out, ⟨old, HB.out, HO.out⟩, bel⟩
          case measure => simp [intOf]; omega
    · obtain rfl : k = xs.length := by omega
      rw [List.take_length] at HA
      go_wp2_with (first
        | (refine wpl_load_set (.tmp 3) rfl rfl _ rfl _ HA.out ?_)
        | (refine wpl_store_set (.tmp 2) (.tmp 34) rfl rfl _ rfl _ rfl HB.out HO.out ?_))
      exact bodyPost_ret (res_set rfl _ _ _ (mk xs) rfl (setRow_heap _ _ _ _ _ _ HB.out)) rfl ⟨rfl, bl_setRow bel _ (by omega) _⟩
end Go.Proofs.YtckmihjekgbcmaaDoor

/- '==' and '!=' of sets and of texts, and the load of a set: at the operation. -/
namespace Go.Proofs.YtckmihjekgbcmaaDoor
open Go.RowKit Go.WideShapes Go.ChangeShapes

theorem str_toList (l : List UInt8) : (str l).toList = l := by rw [ByteArray.toList_eq, str_data]
theorem list_beq (l m : List UInt8) : (l == m) = decide (l = m) := by rw [Bool.eq_iff_iff, beq_iff_eq, decide_eq_true_iff]

/-- '==' and '!=' of two sets. -/
theorem run_eql_set {o : Oper} {a : Act} (x y : Operand) {t' : TypeId} (ho : o.op = .binOp .eql 33 x y t') {S T : Nat} (hx : a.eval x = .agg (setA S)) (hy : a.eval y = .agg (setA T)) (hS : Sm S) (hT : Sm T) (W : World) :
    (execOp a.eval o).run Tryd.prog W = .ok (.value (.bool (decide (S = T)))) W := by
  have hg : Tryd.prog.eqGuardType Tryd.prog.depth 33 = false := by kernel_rfl
  unfold execOp
  simp only [ho, hx, hy]
  simp [eqGuard, hg, binOp, Op.equal, Op.maxDepth, run_eqS hS hT]
theorem run_neq_set {o : Oper} {a : Act} (x y : Operand) {t' : TypeId} (ho : o.op = .binOp .neq 33 x y t') {S T : Nat} (hx : a.eval x = .agg (setA S)) (hy : a.eval y = .agg (setA T)) (hS : Sm S) (hT : Sm T) (W : World) :
    (execOp a.eval o).run Tryd.prog W = .ok (.value (.bool (!decide (S = T)))) W := by
  have hg : Tryd.prog.eqGuardType Tryd.prog.depth 33 = false := by kernel_rfl
  unfold execOp
  simp only [ho, hx, hy]
  simp [eqGuard, hg, binOp, Op.equal, Op.maxDepth, run_eqS hS hT]
/-- .. of two texts. -/
theorem run_eql_text {o : Oper} {a : Act} (x y : Operand) {t t' : TypeId} (ho : o.op = .binOp .eql t x y t') {l m : List UInt8} (hx : a.eval x = .string (str l)) (hy : a.eval y = .string (str m)) (W : World) :
    (execOp a.eval o).run Tryd.prog W = .ok (.value (.bool (decide (l = m)))) W := by
  unfold execOp
  simp only [ho, hx, hy]
  simp [eqGuard, binOp, Op.stringOp, str_toList, list_beq]
theorem run_neq_text {o : Oper} {a : Act} (x y : Operand) {t t' : TypeId} (ho : o.op = .binOp .neq t x y t') {l m : List UInt8} (hx : a.eval x = .string (str l)) (hy : a.eval y = .string (str m)) (W : World) :
    (execOp a.eval o).run Tryd.prog W = .ok (.value (.bool (!decide (l = m)))) W := by
  unfold execOp
  simp only [ho, hx, hy]
  simp [eqGuard, binOp, Op.stringOp, str_toList, list_beq]
section
variable {o : Oper} {a : Act} (x y : Operand) {t t' : TypeId}
theorem run_eql_set_t (ho : o.op = .binOp .eql 33 x y t') {S T : Nat} (hx : a.eval x = .agg (setA S)) (hy : a.eval y = .agg (setA T)) (hS : Sm S) (hT : Sm T) (h : S = T) (W : World) : (execOp a.eval o).run Tryd.prog W = .ok (.value (.bool true)) W := by
  rw [run_eql_set x y ho hx hy hS hT W, decide_eq_true h]
theorem run_eql_set_f (ho : o.op = .binOp .eql 33 x y t') {S T : Nat} (hx : a.eval x = .agg (setA S)) (hy : a.eval y = .agg (setA T)) (hS : Sm S) (hT : Sm T) (h : S ≠ T) (W : World) : (execOp a.eval o).run Tryd.prog W = .ok (.value (.bool false)) W := by
  rw [run_eql_set x y ho hx hy hS hT W, decide_eq_false h]
theorem run_neq_set_t (ho : o.op = .binOp .neq 33 x y t') {S T : Nat} (hx : a.eval x = .agg (setA S)) (hy : a.eval y = .agg (setA T)) (hS : Sm S) (hT : Sm T) (h : S = T) (W : World) : (execOp a.eval o).run Tryd.prog W = .ok (.value (.bool false)) W := by
  rw [run_neq_set x y ho hx hy hS hT W, decide_eq_true h]; rfl
theorem run_neq_set_f (ho : o.op = .binOp .neq 33 x y t') {S T : Nat} (hx : a.eval x = .agg (setA S)) (hy : a.eval y = .agg (setA T)) (hS : Sm S) (hT : Sm T) (h : S ≠ T) (W : World) : (execOp a.eval o).run Tryd.prog W = .ok (.value (.bool true)) W := by
  rw [run_neq_set x y ho hx hy hS hT W, decide_eq_false h]; rfl
theorem run_eql_text_t (ho : o.op = .binOp .eql t x y t') {l m : List UInt8} (hx : a.eval x = .string (str l)) (hy : a.eval y = .string (str m)) (h : l = m) (W : World) : (execOp a.eval o).run Tryd.prog W = .ok (.value (.bool true)) W := by
  rw [run_eql_text x y ho hx hy W, decide_eq_true h]
theorem run_eql_text_f (ho : o.op = .binOp .eql t x y t') {l m : List UInt8} (hx : a.eval x = .string (str l)) (hy : a.eval y = .string (str m)) (h : l ≠ m) (W : World) : (execOp a.eval o).run Tryd.prog W = .ok (.value (.bool false)) W := by
  rw [run_eql_text x y ho hx hy W, decide_eq_false h]
theorem run_neq_text_t (ho : o.op = .binOp .neq t x y t') {l m : List UInt8} (hx : a.eval x = .string (str l)) (hy : a.eval y = .string (str m)) (h : l = m) (W : World) : (execOp a.eval o).run Tryd.prog W = .ok (.value (.bool false)) W := by
  rw [run_neq_text x y ho hx hy W, decide_eq_true h]; rfl
theorem run_neq_text_f (ho : o.op = .binOp .neq t x y t') {l m : List UInt8} (hx : a.eval x = .string (str l)) (hy : a.eval y = .string (str m)) (h : l ≠ m) (W : World) : (execOp a.eval o).run Tryd.prog W = .ok (.value (.bool true)) W := by
  rw [run_neq_text x y ho hx hy W, decide_eq_false h]; rfl
theorem run_equalIn_bool (d : Nat) {t : TypeId} (h : Tryd.prog.underlying t = some .bool) (b c : Bool) (W : World) : (Op.equalIn (d + 1) t (.bool b) (.bool c)).run Tryd.prog W = .ok (b == c) W := by simp [Op.equalIn, run_underlying h]
theorem run_eql_bool (ho : o.op = .binOp .eql 4 x y t') {b c : Bool} (hx : a.eval x = .bool b) (hy : a.eval y = .bool c) (W : World) : (execOp a.eval o).run Tryd.prog W = .ok (.value (.bool (b == c))) W := by
  have e : binOp .eql 4 (.bool b) (.bool c) = (do pure (.bool (← Op.equal 4 (.bool b) (.bool c)))) := rfl
  have r := run_equalIn_bool 9999 Tryd.underlying4 b c W
  unfold execOp
  simp only [ho, hx, hy, e]
  simp [eqGuard, Op.equal, Op.maxDepth, r]
theorem run_neq_bool (ho : o.op = .binOp .neq 4 x y t') {b c : Bool} (hx : a.eval x = .bool b) (hy : a.eval y = .bool c) (W : World) : (execOp a.eval o).run Tryd.prog W = .ok (.value (.bool (b != c))) W := by
  have e : binOp .neq 4 (.bool b) (.bool c) = (do pure (.bool (!(← Op.equal 4 (.bool b) (.bool c))))) := rfl
  have r := run_equalIn_bool 9999 Tryd.underlying4 b c W
  unfold execOp
  simp only [ho, hx, hy, e]
  simp [eqGuard, Op.equal, Op.maxDepth, r, bne]
theorem run_neq_bool_t (ho : o.op = .binOp .neq 4 x y t') {b : Bool} (hx : a.eval x = .bool b) (hy : a.eval y = .bool b) (W : World) : (execOp a.eval o).run Tryd.prog W = .ok (.value (.bool false)) W := by
  rw [run_neq_bool x y ho hx hy W]; simp
theorem run_eql_bool_t (ho : o.op = .binOp .eql 4 x y t') {b : Bool} (hx : a.eval x = .bool b) (hy : a.eval y = .bool b) (W : World) : (execOp a.eval o).run Tryd.prog W = .ok (.value (.bool true)) W := by
  rw [run_eql_bool x y ho hx hy W]; simp
end
theorem run_build_set {o : Oper} {a : Act} (ho : o.op = .build 33 #[]) (W : World) : (execOp a.eval o).run Tryd.prog W = .ok (.value (.agg (setA 0))) W := by
  unfold execOp
  simp only [ho, setA_zero]
  kernel_rfl
theorem run_load_set {o : Oper} {a : Act} {W : World} (x : Operand) (ho : o.op = .load 33 x) (g : Nat) (hx : a.eval x = .pointer (some ⟨g, 0, none⟩)) (S : Nat) {t : TypeId} (hg : Blk W g (setA S) t) : (execOp a.eval o).run Tryd.prog W = .ok (.value (.agg (setA S))) W := by
  unfold execOp
  simp only [ho, hx, Instr.loadAt, Instr.sureAddr, Sem.run_bind, Sem.run_pure, Result.andThen_ok, run_loadVar_row W g t _ _ _ _ hg Tryd.underlying33 rfl (info_setA S)]
theorem run_box_set {o : Oper} {a : Act} (x : Operand) (ho : o.op = .box 33 x) {S : Nat} (hx : a.eval x = .agg (setA S)) (W : World) : (execOp a.eval o).run Tryd.prog W = .ok (.value (.pointer (some ⟨W.heap.size, 0, none⟩))) (W.alloc (.cells (setA S) 33)) := by
  unfold execOp
  simp only [ho, hx]
  go_simp
theorem run_alloc_set {o : Oper} {a : Act} (ho : o.op = .alloc 33) (W : World) : (execOp a.eval o).run Tryd.prog W = .ok (.value (.pointer (some ⟨W.heap.size, 0, none⟩))) (W.alloc (.cells (setA 0) 33)) := by
  unfold execOp
  simp only [ho, setA_zero]
  go_simp
theorem run_store_set {o : Oper} {a : Act} (x y : Operand) (ho : o.op = .store 33 x y) {W : World} {g : Nat} (hx : a.eval x = .pointer (some ⟨g, 0, none⟩)) {S T : Nat} (hy : a.eval y = .agg (setA S)) {t : TypeId} (hg : Blk W g (setA T) t) :
    (execOp a.eval o).run Tryd.prog W = .ok .skip (W.setRow g (setA S)) := by
  unfold execOp
  simp only [ho, hx, hy, Instr.storeAt, Instr.sureAddr, Sem.run_bind, Sem.run_pure, Result.andThen_ok]
  rw [run_storeVar_row W g t 33 (setA T) (setA S) hg (info_setA S) (by rw [setA_size, setA_size]) (setA_one S)]
  rfl
end Go.Proofs.YtckmihjekgbcmaaDoor

/- What math/bits.TrailingZeros64 and cpuset's Next and First do. -/
namespace Go.Proofs.YtckmihjekgbcmaaDoor
open Go.RowKit Go.WideShapes Go.ChangeShapes

/-- The table of math/bits as its initialiser lays it. -/
def Tab (w : World) : Prop := ∀ j, j < 64 → w.cell? ⟨0, j, none⟩ = some (.int .u8 ((Lib.deBruijn64tab.getD j 0 : Nat) : Int))
theorem Tab.same {w w' : World} (h : Tab w) (hb : Below w.heap.size w w') : Tab w' := fun j hj => (hb.cell (World.block_lt_of_cell? w _ (h j hj))).trans (h j hj)
theorem Tab.low {w w' : World} {B : Nat} (h : Tab w) (hb : Below B w w') (hB : w.heap.size ≤ B) : Tab w' := h.same (hb.mono hB)
theorem Tab.alloc {w : World} (h : Tab w) (o : Obj) : Tab (w.alloc o) := h.same (bl_alloc (Below.refl _ _) o)
theorem Tab.drewN {w : World} (h : Tab w) (n : Nat) : Tab (w.drewN n) := h

theorem tz_low {x k : Nat} (hk : x.testBit k = true) (hlow : ∀ j, j < k → x.testBit j = false) (hx : x < 2 ^ 64) : x ≠ 0 ∧ k < 64 ∧ x &&& (2 ^ 64 - x) = 2 ^ k := by
  have h0 : x ≠ 0 := by rintro rfl; simp at hk
  obtain ⟨a, b⟩ := Lib.lowest_bit 64 x h0 hx
  refine ⟨h0, ?_⟩
  have e : Lib.ctz 64 x = k := by
    have h1 : x.testBit (Lib.ctz 64 x) = true := by
      have := congrArg (fun y => y.testBit (Lib.ctz 64 x)) a
      simp only [Nat.testBit_and, Nat.testBit_two_pow_self, Bool.and_eq_true] at this
      exact this.1
    have h2 : ∀ j, j < Lib.ctz 64 x → x.testBit j = false := by
      intro j hj
      have hc : Lib.ctz 64 x = Lib.ctzFrom 64 x := by rw [Lib.ctz, if_neg h0]
      obtain ⟨m, hm, _⟩ := Lib.ctzFrom_spec 64 x (by omega) hx
      rw [hm, Nat.testBit_two_pow_mul]
      rw [hc] at hj
      simp; omega
    rcases Nat.lt_trichotomy (Lib.ctz 64 x) k with h | h | h
    · rw [hlow _ h] at h1; cases h1
    · exact h
    · rw [h2 _ h] at hk; cases hk
  rw [e] at a b
  exact ⟨b, a⟩

theorem tz_key (x k : Nat) (hx : x < 2 ^ 64) (hx0 : x ≠ 0) (hlow : x &&& (2 ^ 64 - x) = 2 ^ k) :
    IntKind.u64.wrap (bits BinOp.and IntKind.u64 (x : Int) (IntKind.u64.wrap (-(x : Int))) * 285870213051353865) / 288230376151711744 = ((2 ^ k * 285870213051353865 % 18446744073709551616 / 288230376151711744 : Nat) : Int) := by
  have ew : ∀ n : Int, IntKind.u64.wrap n = n % 18446744073709551616 := fun n => by simp [IntKind.wrap, IntKind.bits, IntKind.signed]
  have e1 : IntKind.u64.wrap (-(x : Int)) = ((2 ^ 64 - x : Nat) : Int) := by rw [ew]; omega
  rw [e1, (bits64 x _ hx (by omega)).1, hlow, ew]
  omega

set_option maxHeartbeats 1000000 in
theorem tz_core (x k idx : Nat) (w : World) (hx0 : ((x : Int) == 0) = false)
    (key : IntKind.u64.wrap (bits BinOp.and IntKind.u64 (x : Int) (IntKind.u64.wrap (-(x : Int))) * 285870213051353865) / 288230376151711744 = (idx : Int))
    (hi : idx < 64) (hk : k < 64) (hcell : w.cell? ⟨0, idx, none⟩ = some (.int .u8 k)) :
    Calls Tryd.prog 40 #[.int .u64 x] w fun e w' => e = .returned (.int .i64 k) ∧ w = w' := by
  go_enter Tryd.func40, Tryd.ntmps40
  go_wp2_with (simp only [key])
  go_ret
  exact ⟨rfl, rfl⟩

theorem tz_calls (x k : Nat) (w : World) (hx : x < 2 ^ 64) (hk : x.testBit k = true) (hlow : ∀ j, j < k → x.testBit j = false) (hT : Tab w) :
    Calls Tryd.prog 40 #[.int .u64 x] w fun e w' => e = .returned (.int .i64 k) ∧ w = w' := by
  obtain ⟨h0, hk64, ha⟩ := tz_low hk hlow hx
  obtain ⟨hi, htab⟩ := Lib.deBruijn64_at _ hk64
  have hcell := hT _ hi
  rw [htab] at hcell
  exact tz_core x k _ w (by simp; omega) (tz_key x k hx h0 ha) hi hk64 hcell

/-- m is the next worker of the set from n on. -/
def IsNext (S : Nat) (n : Int) (m : Nat) : Prop := n ≤ m ∧ S.testBit m = true ∧ ∀ j : Nat, n ≤ j → j < m → S.testBit j = false
/-- There is none. -/
def NoNext (S : Nat) (n : Int) : Prop := ∀ j : Nat, n ≤ j → S.testBit j = false
theorem next_or (S : Nat) (hS : Sm S) (n : Int) : (∃ m, m < 1024 ∧ IsNext S n m) ∨ NoNext S n := by
  by_cases h : ∃ m : Nat, n ≤ m ∧ S.testBit m = true
  · obtain ⟨m, h1, h2⟩ := h
    have key : ∀ k, (∃ m : Nat, m ≤ k ∧ n ≤ m ∧ S.testBit m = true) → ∃ m, IsNext S n m := by
      intro k
      induction k with
      | zero => rintro ⟨m, a, b, c⟩; obtain rfl : m = 0 := (by omega); exact ⟨0, b, c, fun j _ hj => absurd hj (Nat.not_lt_zero j)⟩
      | succ k ih =>
        rintro ⟨m, a, b, c⟩
        by_cases g : ∃ m : Nat, m ≤ k ∧ n ≤ m ∧ S.testBit m = true
        · exact ih g
        · refine ⟨m, b, c, fun j h1 h2 => ?_⟩
          cases hb : S.testBit j with
          | false => rfl
          | true => exact absurd ⟨j, by omega, h1, hb⟩ g
    obtain ⟨m', hm'⟩ := key m ⟨m, Nat.le_refl _, h1, h2⟩
    refine .inl ⟨m', ?_, hm'⟩
    rcases Nat.lt_or_ge m' 1024 with g | g
    · exact g
    · have := hS m' g; rw [hm'.2.1] at this; cases this
  · refine .inr fun j hj => ?_
    cases hb : S.testBit j with
    | false => rfl
    | true => exact absurd ⟨j, hj, hb⟩ h

theorem testBit_shr (v k j : Nat) : (v / 2 ^ k).testBit j = v.testBit (k + j) := by rw [← Nat.shiftRight_eq_div_pow, Nat.testBit_shiftRight]
theorem zero_of_bits {x : Nat} (hx : x < 2 ^ 64) (h : ∀ j, j < 64 → x.testBit j = false) : x = 0 := by
  refine Nat.eq_of_testBit_eq fun j => ?_
  rw [Nat.zero_testBit]
  by_cases hj : j < 64
  · exact h j hj
  · exact Nat.testBit_lt_two_pow (Nat.lt_of_lt_of_le hx (Nat.pow_le_pow_right (by decide) (by omega)))

/-- The words between are empty. -/
theorem wd_zero {S : Nat} {i : Nat} (h : ∀ j, 64 * i ≤ j → j < 64 * i + 64 → S.testBit j = false) : wd S i = 0 :=
  zero_of_bits (wd_lt S i) fun j hj => by rw [testBit_wd, h _ (by omega) (by omega), Bool.and_false]

set_option maxRecDepth 100000 in
set_option maxHeartbeats 400000 in
theorem next_here (S f m : Nat) (n : Int) (w : World) (hn : max n 0 = (f : Int)) (hf : f < 1024) (h : IsNext S f m) (hm : m / 64 = f / 64) (hT : Tab w) :
    Calls Tryd.prog 37 #[.agg (setA S), .int .i64 n] w fun e w' => e = .returned (.tuple #[.int .i64 m, .bool true]) ∧ Below w.heap.size w w' := by
  have hg := setA_get S (f / 64) (by omega)
  obtain ⟨h1, h2, h3⟩ := h
  obtain ⟨q, hq⟩ : ∃ q, q = wd S (f / 64) / 2 ^ (f % 64) := ⟨_, rfl⟩
  have hqe : ((wd S (f / 64) : Nat) : Int) / 2 ^ (f % 64) = ((q : Nat) : Int) := by rw [hq]; simp
  have hql : q < 2 ^ 64 := by rw [hq]; exact div_lt64 (wd_lt _ _) _
  have hb : ∀ j, j < 64 - f % 64 → q.testBit j = S.testBit (f + j) := by
    intro j hj
    rw [hq, testBit_shr, testBit_wd, show 64 * (f / 64) + (f % 64 + j) = f + j from by omega]
    simp; omega
  have hk : q.testBit (m - f) = true := by rw [hb _ (by omega), show f + (m - f) = m from by omega, h2]
  have hlow : ∀ j, j < m - f → q.testBit j = false := fun j hj => by rw [hb _ (by omega)]; exact h3 _ (by omega) (by omega)
  have hq0 : ((q : Int) == 0) = false := by
    rw [beq_eq_false_iff_ne]; intro e
    have : q = 0 := by omega
    rw [this] at hk; simp at hk
  have hq1 : ((q : Int) != 0) = true := by rw [bne, hq0]; rfl
  have HL := Lib.hid hlow
  have HK := Lib.hid hk
  have HQ := Lib.hid hql
  have HT := Lib.hid hT
  have hmf : ((m - f : Nat) : Int) = (m : Int) - f := by omega
  have HM := Lib.hid hmf
  have hfm : (f : Int) ≤ m := by omega
  have hm2 : m < 1024 := by omega
  clear hlow hk hql hT hb hq h3 h1 h2 hmf
  go_enter Tryd.func37, Tryd.ntmps37
  go_wp2_with (go_at_call 40; refine (tz_calls _ _ _ HQ.out HK.out HL.out (HT.out.alloc _)).mono ?_; rintro e w' ⟨rfl, rfl⟩; rw [HM.out])
  go_ret2
  refine ⟨?_, bl_alloc (Below.refl _ _) _⟩
  simp
  omega

/-- What the loop over the later words keeps. -/
def LaterRel (f b : Nat) (n : Value) : Prop := ∃ i : Nat, f / 64 < i ∧ i ≤ b ∧ n = .int .i64 i

theorem word_shift_zero {S f : Nat} (h : ∀ j, f ≤ j → j < 64 * (f / 64) + 64 → S.testBit j = false) : wd S (f / 64) / 2 ^ (f % 64) = 0 :=
  zero_of_bits (div_lt64 (wd_lt _ _) _) fun j hj => by
    rw [testBit_shr, testBit_wd]
    by_cases g : f % 64 + j < 64
    · rw [h _ (by omega) (by omega), Bool.and_false]
    · simp; omega

set_option maxRecDepth 100000 in
set_option maxHeartbeats 400000 in
theorem next_later (S f m : Nat) (n : Int) (w : World) (hn : max n 0 = (f : Int)) (hf : f < 1024) (hm1 : m < 1024) (h : IsNext S f m) (hm : f / 64 < m / 64) (hT : Tab w) :
    Calls Tryd.prog 37 #[.agg (setA S), .int .i64 n] w fun e w' => e = .returned (.tuple #[.int .i64 m, .bool true]) ∧ Below w.heap.size w w' := by
  have hg := setA_get S (f / 64) (by omega)
  obtain ⟨h1, h2, h3⟩ := h
  have hq0 : wd S (f / 64) / 2 ^ (f % 64) = 0 := word_shift_zero fun j a b => h3 j (by omega) (by omega)
  have hqe : ((wd S (f / 64) : Nat) : Int) / 2 ^ (f % 64) = 0 := by
    have := congrArg (fun x : Nat => (x : Int)) hq0
    simpa using this
  have hz : ∀ i, f / 64 < i → i < m / 64 → wd S i = 0 := fun i a b => wd_zero fun j c d => h3 j (by omega) (by omega)
  have hk : (wd S (m / 64)).testBit (m % 64) = true := by rw [testBit_wd, show 64 * (m / 64) + m % 64 = m from by omega, h2]; simp; omega
  have hlow : ∀ j, j < m % 64 → (wd S (m / 64)).testBit j = false := fun j hj => by rw [testBit_wd, h3 _ (by omega) (by omega), Bool.and_false]
  have HZ := Lib.hid hz
  have HL := Lib.hid hlow
  have HK := Lib.hid hk
  have HT := Lib.hid hT
  have HQ := Lib.hid hqe
  clear hz hlow hk hT h1 h2 h3 hq0
  go_enter Tryd.func37, Tryd.ntmps37
  go_wp2
  go_loop [7] (LaterRel f (m / 64)) (fun n => 16 - (intOf n).toNat)
  case atStart => exact ⟨f / 64 + 1, by omega, by omega, by go_num⟩
  case round =>
    obtain ⟨i, hi1, hi2, rfl⟩ := hrel
    have hg2 := setA_get S i (by omega)
    by_cases hlt : i < m / 64
    · have hw : wd S i = 0 := HZ.out i hi1 hlt
      rw [hw] at hg2
      clear hw
      go_wp2
      go_round
      case rel => exact ⟨i + 1, by omega, by omega, by go_num⟩
      case measure => simp [intOf]; omega
    · obtain rfl : i = m / 64 := (by omega)
      have hv0 : ((wd S (m / 64) : Int) == 0) = false := by
        rw [beq_eq_false_iff_ne]; intro e
        have : wd S (m / 64) = 0 := by omega
        have k := HK.out
        rw [this] at k; simp at k
      have hv1 : ((wd S (m / 64) : Int) != 0) = true := by rw [bne, hv0]; rfl
      have HV := Lib.hid (wd_lt S (m / 64))
      generalize wd S (m / 64) = v at *
      go_wp2_with (go_at_call 40; refine (tz_calls _ _ _ HV.out HK.out HL.out (HT.out.alloc _)).mono ?_; rintro e w' ⟨rfl, rfl⟩)
      go_ret2
      refine ⟨?_, bl_alloc (Below.refl _ _) _⟩
      simp
      omega

set_option maxRecDepth 100000 in
set_option maxHeartbeats 400000 in
theorem next_none (S f : Nat) (n : Int) (w : World) (hn : max n 0 = (f : Int)) (hf : f < 1024) (h : NoNext S f) :
    Calls Tryd.prog 37 #[.agg (setA S), .int .i64 n] w fun e w' => e = .returned (.tuple #[.int .i64 0, .bool false]) ∧ Below w.heap.size w w' := by
  have hg := setA_get S (f / 64) (by omega)
  have hq0 : wd S (f / 64) / 2 ^ (f % 64) = 0 := word_shift_zero fun j a b => h j (by omega)
  have hqe : ((wd S (f / 64) : Nat) : Int) / 2 ^ (f % 64) = 0 := by
    have := congrArg (fun x : Nat => (x : Int)) hq0
    simpa using this
  have HZ := Lib.hid (fun i (a : f / 64 < i) => (wd_zero fun j c _ => h j (by omega) : wd S i = 0))
  have H := Lib.hid h
  clear h hq0
  go_enter Tryd.func37, Tryd.ntmps37
  go_wp2
  go_loop [7] (LaterRel f 16) (fun n => 16 - (intOf n).toNat)
  case atStart => exact ⟨f / 64 + 1, by omega, by omega, by go_num⟩
  case round =>
    obtain ⟨i, hi1, hi2, rfl⟩ := hrel
    by_cases hlt : i < 16
    · have hg2 := setA_get S i (by omega)
      have hw : wd S i = 0 := HZ.out i hi1
      rw [hw] at hg2
      clear hw
      go_wp2
      go_round
      case rel => exact ⟨i + 1, by omega, by omega, by go_num⟩
      case measure => simp [intOf]; omega
    · go_wp2
      go_ret2
      exact ⟨rfl, bl_alloc (Below.refl _ _) _⟩

theorem next_big (S : Nat) (n : Int) (w : World) (h : 1024 ≤ n) :
    Calls Tryd.prog 37 #[.agg (setA S), .int .i64 n] w fun e w' => e = .returned (.tuple #[.int .i64 0, .bool false]) ∧ Below w.heap.size w w' := by
  have hn : max n 0 = n := by omega
  go_enter Tryd.func37, Tryd.ntmps37
  go_wp2
  go_ret2
  exact ⟨rfl, bl_alloc (Below.refl _ _) _⟩

/-- The next worker, if there is one. -/
theorem next_yes (S m : Nat) (n : Int) (w : World) (hS : Sm S) (h : IsNext S n m) (hT : Tab w) :
    Calls Tryd.prog 37 #[.agg (setA S), .int .i64 n] w fun e w' => e = .returned (.tuple #[.int .i64 m, .bool true]) ∧ Below w.heap.size w w' := by
  have hm : m < 1024 := by
    rcases Nat.lt_or_ge m 1024 with g | g
    · exact g
    · have := hS m g; rw [h.2.1] at this; cases this
  obtain ⟨f, hf⟩ : ∃ f : Nat, max n 0 = f := ⟨(max n 0).toNat, by omega⟩
  have h1 := h.1
  have h' : IsNext S f m := ⟨by omega, h.2.1, fun j a b => h.2.2 j (by omega) b⟩
  by_cases g : m / 64 = f / 64
  · exact next_here S f m n w hf (by omega) h' g hT
  · exact next_later S f m n w hf (by omega) hm h' (by omega) hT
theorem next_no (S : Nat) (n : Int) (w : World) (h : NoNext S n) :
    Calls Tryd.prog 37 #[.agg (setA S), .int .i64 n] w fun e w' => e = .returned (.tuple #[.int .i64 0, .bool false]) ∧ Below w.heap.size w w' := by
  obtain ⟨f, hf⟩ : ∃ f : Nat, max n 0 = f := ⟨(max n 0).toNat, by omega⟩
  by_cases g : f < 1024
  · exact next_none S f n w hf g fun j a => h j (by omega)
  · exact next_big S n w (by omega)
end Go.Proofs.YtckmihjekgbcmaaDoor

/- What cpuset's First and List and the reference's List do. -/
namespace Go.Proofs.YtckmihjekgbcmaaDoor
open Go.RowKit Go.WideShapes Go.ChangeShapes

theorem slInt : SlT Tryd.prog 67 3 (eInt .i64) 8 := slT_of Tryd.underlying67 (z := .int .i64 0) (by kernel_rfl) rfl Nat.one_pos (by omega)

/-- The members below k, rising. -/
def mem (S k : Nat) : List Nat := (List.range k).filter fun i => S.testBit i
theorem mem_succ (S k : Nat) : mem S (k + 1) = mem S k ++ (if S.testBit k = true then [k] else []) := by
  rw [mem, mem, List.range_succ, List.filter_append]
  congr 1
  by_cases h : S.testBit k = true <;> simp [h]
theorem mem_gap (S k m : Nat) (h : ∀ j, k ≤ j → j < m → S.testBit j = false) (hkm : k ≤ m) : mem S m = mem S k := by
  obtain ⟨d, rfl⟩ : ∃ d, m = k + d := ⟨m - k, by omega⟩
  induction d with
  | zero => rfl
  | succ d ih =>
    rw [show k + (d + 1) = (k + d) + 1 from rfl, mem_succ, ih (fun j a b => h j a (by omega)) (by omega), h (k + d) (by omega) (by omega)]
    simp
theorem mem_len (S k : Nat) : (mem S k).length ≤ k := by
  have := List.length_filter_le (fun i => S.testBit i) (List.range k)
  simpa [mem] using this

def lints (l : List Nat) : List Int := l.map fun (n : Nat) => (n : Int)
theorem lints_snoc (l : List Nat) (n : Nat) : lints (l ++ [n]) = lints l ++ [(n : Int)] := by simp [lints]
theorem lints_len (l : List Nat) : (lints l).length = l.length := by simp [lints]

/-- What Next answers. -/
def NextRes (S : Nat) (n m : Int) (b : Bool) : Prop := (b = true ∧ ∃ k : Nat, m = k ∧ k < 1024 ∧ IsNext S n k) ∨ (b = false ∧ m = 0 ∧ NoNext S n)
theorem next_any (S : Nat) (hS : Sm S) (n : Int) (w : World) (hT : Tab w) :
    Calls Tryd.prog 37 #[.agg (setA S), .int .i64 n] w fun e w' => (∃ m b, e = .returned (.tuple #[.int .i64 m, .bool b]) ∧ NextRes S n m b) ∧ Below w.heap.size w w' := by
  rcases next_or S hS n with ⟨m, hm, h⟩ | h
  · exact (next_yes S m n w hS h hT).mono fun e w' ⟨he, hb⟩ => ⟨⟨m, true, he, .inl ⟨rfl, m, rfl, hm, h⟩⟩, hb⟩
  · exact (next_no S n w h).mono fun e w' ⟨he, hb⟩ => ⟨⟨0, false, he, .inr ⟨rfl, rfl, h⟩⟩, hb⟩

/-- What the loop of List keeps: the members below k are there, and what Next answers from k on. -/
def ListRel (S : Nat) (w : World) (l n ok : Value) (wr : World) : Prop :=
  ∃ (k : Nat) (m : Int) (b : Bool), k ≤ 1024 ∧ n = .int .i64 m ∧ ok = .bool b ∧ NextRes S k m b ∧
    OwnR wr (w.heap.size + 1) 3 (eInt .i64) l (lints (mem S k)) ∧ Blk wr w.heap.size (setA S) 33 ∧ Below w.heap.size w wr

def listM : Value → Value → Nat
  | n, .bool true => 1025 - (intOf n).toNat
  | _, _ => 0
theorem listM_step {S q : Nat} {m2 : Int} {b2 : Bool} (hq : q < 1024) (h : NextRes S ((q : Int) + 1) m2 b2) : listM (.int .i64 m2) (.bool b2) < listM (.int .i64 q) (.bool true) := by
  rcases h with ⟨rfl, k, rfl, hk, hn⟩ | ⟨rfl, _, _⟩
  · have := hn.1; simp [listM, intOf]; omega
  · simp [listM, intOf]; omega

end Go.Proofs.YtckmihjekgbcmaaDoor

/- What cpuset's Of, Range, Within and Meets and the reference's List do. -/
namespace Go.Proofs.YtckmihjekgbcmaaDoor
open Go.RowKit Go.WideShapes Go.ChangeShapes

def OfRel (xs : List Int) (w : World) (i : Value) (wr : World) : Prop :=
  ∃ k : Nat, k ≤ xs.length ∧ i = .int .i64 k ∧ Blk wr w.heap.size (setA (mk (xs.take k))) 33 ∧ Below w.heap.size w wr

/-- The workers from one number to another one. -/
def rng (f t : Int) : Nat := mk (((List.range 1024).map fun (n : Nat) => (n : Int)).filter fun n => f ≤ n && n ≤ t)
theorem testBit_rng (f t : Int) (m : Nat) : (rng f t).testBit m = decide (m < 1024 ∧ f ≤ m ∧ (m : Int) ≤ t) := by
  rw [rng, testBit_mk, decide_eq_decide]
  simp only [List.mem_filter, List.mem_map, List.mem_range, Bool.and_eq_true, decide_eq_true_eq]
  constructor
  · rintro ⟨h1, ⟨a, h2, h3⟩, h4⟩; exact ⟨h1, h4⟩
  · rintro ⟨h1, h2⟩; exact ⟨h1, ⟨m, h1, rfl⟩, h2⟩
theorem rng_sm (f t : Int) : Sm (rng f t) := mk_sm _

def RangeRel (f t : Int) (w : World) (i : Value) (wr : World) : Prop :=
  ∃ (n : Int) (S : Nat), max f 0 ≤ n ∧ (n ≤ max (max f 0) (min t 1023 + 1)) ∧ i = .int .i64 n ∧ (∀ m, S.testBit m = decide (max f 0 ≤ m ∧ (m : Int) < n)) ∧ Blk wr w.heap.size (setA S) 33 ∧ Below w.heap.size w wr

set_option maxRecDepth 100000 in
set_option maxHeartbeats 400000 in
theorem range_calls (f t : Int) (w : World) (hf : f ≤ 9223372036854775807) :
    Calls Tryd.prog 32 #[.int .i64 f, .int .i64 t] w fun e w' => e = .returned (.agg (setA (rng f t))) ∧ Below w.heap.size w w' := by
  go_enter Tryd.func32, Tryd.ntmps32
  go_wp2
  go_loopw [5] (fun i wr => RangeRel f t w i wr) (fun i _ => (1024 - intOf i).toNat)
  case atStart =>
    refine ⟨max f 0, 0, Int.le_refl _, by omega, rfl, fun m => ?_, ?_, bl_alloc (Below.refl _ _) _⟩
    · rw [Nat.zero_testBit, eq_comm, decide_eq_false_iff_not]; omega
    · rw [setA_zero]; exact heap_alloc_new _ _
  case round =>
    obtain ⟨n, S, h1, h2, rfl, hS, hA, bel⟩ := hrel
    have HA := Lib.hid hA
    have HS := Lib.hid hS
    clear hA hS
    by_cases hlt : n ≤ min t 1023
    · have hz := bel.size
      have h3 : n ≤ 1023 := by omega
      have h4 : 0 ≤ n := by omega
      go_wp2_with (first
        | (refine wpl_load_set (.tmp 4) rfl rfl _ rfl S HA.out ?_)
        | (go_at_call 39; refine (put_calls S n _).mono ?_; rintro e w1 ⟨rfl, hb1⟩; have HA1 := Lib.hid (HA.out.below hb1))
        | (refine wpl_store_set (.tmp 4) (.tmp 16) rfl rfl _ rfl (put S n) rfl HA1.out (setA_size S) ?_))
      go_roundw
      case rel =>
        refine ⟨n + 1, put S n, by omega, by omega, rfl, fun m => ?_, HA1.out.row _, bl_setRow (bl_step bel hb1) _ (Nat.le_refl _) _⟩
        rw [testBit_put, HS.out m, ← Bool.decide_or, decide_eq_decide]
        omega
      case measure => simp [intOf]; omega
    · have e : S = rng f t := by
        refine Nat.eq_of_testBit_eq fun m => ?_
        rw [HS.out m, testBit_rng, decide_eq_decide]
        omega
      subst e
      clear HS
      go_wp2_with (first
        | (refine wpl_load_set (.tmp 4) rfl rfl _ rfl _ HA.out ?_)
        | (refine wpl_store_set (.tmp 4) (.tmp 17) rfl rfl _ rfl _ rfl HA.out (setA_size _) ?_))
      exact bodyPost_ret (res_set rfl _ _ _ (rng f t) rfl (setRow_heap _ _ _ _ _ _ HA.out)) rfl ⟨rfl, bl_setRow bel _ (Nat.le_refl _) _⟩

def RefListRel (S : Nat) (w : World) (l n : Value) (wr : World) : Prop :=
  ∃ k : Nat, k ≤ 1024 ∧ n = .int .i64 k ∧ OwnR wr (w.heap.size + 1) 3 (eInt .i64) l (lints (mem S k)) ∧ Blk wr w.heap.size (setA S) 33 ∧ Below w.heap.size w wr

end Go.Proofs.YtckmihjekgbcmaaDoor

/- Contracts in the form that gen/wx.py takes. -/
namespace Go.Proofs.YtckmihjekgbcmaaDoor
open Go.RowKit

theorem has_below (S : Nat) (hS : Sm S) (n : Int) (w : World) : Calls Tryd.prog 38 #[.agg (setA S), .int .i64 n] w fun e w' => e = .returned (.bool (has S n)) ∧ Below w.heap.size w w' :=
  (has_calls S hS n w).mono fun _ _ ⟨h1, h2⟩ => ⟨h1, h2 ▸ bl_alloc (Below.refl _ _) _⟩
theorem refHas_below (S : Nat) (hS : Sm S) (n : Int) (w : World) : Calls Tryd.prog 33 #[.agg (setA S), .int .i64 n] w fun e w' => e = .returned (.bool (has S n)) ∧ Below w.heap.size w w' :=
  (refHas_calls S hS n w).mono fun _ _ ⟨h1, h2⟩ => ⟨h1, h2 ▸ bl_alloc (Below.refl _ _) _⟩
theorem run_index_set {o : Oper} {a : Act} (x y : Operand) (ho : o.op = .index 33 x y) {S i : Nat} {k : IntKind} (hx : a.eval x = .agg (setA S)) (hy : a.eval y = .int k (i : Int)) (h : i < 16) (W : World) :
    (execOp a.eval o).run Tryd.prog W = .ok (.value (.int .u64 ((wd S i : Nat) : Int))) W := by
  have hs : (sizeOf 31).run Tryd.prog W = .ok 1 W := by kernel_rfl
  have hagg : (isAgg 31).run Tryd.prog W = .ok false W := by kernel_rfl
  unfold execOp; simp only [ho, hx, hy]
  simp [Instr.index, asIntOf, run_underlying Tryd.underlying33, show (i : Int) < 16 from by omega, hs]
  simp [part, hagg, setA_get S i h]
  intro h16
  omega
end Go.Proofs.YtckmihjekgbcmaaDoor

/- A set's rows of neighbours: how many numbers are left out ahead of each, and how many it has, less 1: plain laws. -/
namespace Go.Proofs.YtckmihjekgbcmaaDoor
open Go.RowKit Go.WideShapes Go.ChangeShapes

/-- How many numbers from n on are in the set, one behind the other (at most so many). -/
def runFrom (S : Nat) : Nat → Nat → Nat
  | 0, _ => 0
  | f + 1, n => if S.testBit n then runFrom S f (n + 1) + 1 else 0
/-- The next number from n on that is in the set (so many are looked at). -/
def nextFrom (S : Nat) : Nat → Nat → Option Nat
  | 0, _ => none
  | f + 1, n => if S.testBit n then some n else nextFrom S f (n + 1)
/-- The rows from n on, the last one having ended ahead of at. -/
def rowsFrom (S : Nat) : Nat → Nat → Nat → List Int
  | 0, _, _ => []
  | f + 1, n, at_ => match nextFrom S 1025 n with
    | none => []
    | some m => ((m : Int) - (at_ : Int)) :: ((runFrom S 1025 m : Int) - 1) :: rowsFrom S f (m + runFrom S 1025 m) (m + runFrom S 1025 m + 1)
def rowsL (S : Nat) : List Int := rowsFrom S 1025 0 0

theorem nextFrom_some {S : Nat} : ∀ {f n m : Nat}, nextFrom S f n = some m → n ≤ m ∧ m < n + f ∧ S.testBit m = true ∧ ∀ j, n ≤ j → j < m → S.testBit j = false
  | 0, n, m, h => by simp [nextFrom] at h
  | f + 1, n, m, h => by
    rw [nextFrom] at h
    split at h
    · injection h with h; subst h; exact ⟨Nat.le_refl _, by omega, by assumption, fun j h1 h2 => by omega⟩
    · obtain ⟨h1, h2, h3, h4⟩ := nextFrom_some h
      refine ⟨by omega, by omega, h3, fun j hj hm => ?_⟩
      by_cases e : j = n
      · subst e; simpa using ‹¬ S.testBit j = true›
      · exact h4 j (by omega) hm
theorem nextFrom_none {S : Nat} : ∀ {f n : Nat}, nextFrom S f n = none → ∀ j, n ≤ j → j < n + f → S.testBit j = false
  | 0, n, _, j, h1, h2 => by omega
  | f + 1, n, h, j, h1, h2 => by
    rw [nextFrom] at h
    split at h
    · cases h
    · by_cases e : j = n
      · subst e; simpa using ‹¬ S.testBit j = true›
      · exact nextFrom_none h j (by omega) (by omega)
theorem isNext_of {S n m : Nat} (h : nextFrom S 1025 n = some m) : IsNext S (n : Int) m := by
  obtain ⟨h1, _, h3, h4⟩ := nextFrom_some h
  exact ⟨by omega, h3, fun j hj hm => h4 j (by omega) hm⟩
theorem noNext_of {S n : Nat} (hS : Sm S) (h : nextFrom S 1025 n = none) : NoNext S (n : Int) := fun j hj => by
  rcases Nat.lt_or_ge j 1024 with h1 | h1
  · exact nextFrom_none h j (by omega) (by omega)
  · exact hS j h1
theorem runFrom_step {S : Nat} : ∀ {f n : Nat}, S.testBit n = true → 0 < f → runFrom S f n = runFrom S (f - 1) (n + 1) + 1
  | 0, _, _, h => absurd h (Nat.lt_irrefl _)
  | f + 1, n, h, _ => by rw [runFrom, if_pos h, Nat.add_sub_cancel]
theorem runFrom_stop {S f n : Nat} (h : S.testBit n = false) : runFrom S f n = 0 := by
  cases f with
  | zero => rfl
  | succ f => rw [runFrom, if_neg (by simp [h])]
/-- It doesn't matter how many more are looked at, once they reach beyond the set. -/
theorem runFrom_more {S : Nat} (hS : Sm S) : ∀ (f g n : Nat), 1024 ≤ n + f → 1024 ≤ n + g → runFrom S f n = runFrom S g n
  | 0, g, n, h1, _ => by rw [runFrom_stop (f := g) (hS n (by omega))]; rfl
  | f + 1, 0, n, _, h2 => by rw [runFrom_stop (hS n (by omega))]; rfl
  | f + 1, g + 1, n, h1, h2 => by
    rw [runFrom, runFrom]
    split
    · rw [runFrom_more hS f g (n + 1) (by omega) (by omega)]
    · rfl
theorem run_at {S : Nat} (hS : Sm S) {n : Nat} (h : S.testBit n = true) : runFrom S 1025 n = runFrom S 1025 (n + 1) + 1 := by
  rw [runFrom_step h (by omega), runFrom_more hS (1025 - 1) 1025 (n + 1) (by omega) (by omega)]
theorem run_le {S : Nat} (hS : Sm S) : ∀ (f n : Nat), n ≤ 1024 → n + runFrom S f n ≤ 1024
  | 0, n, h => h
  | f + 1, n, h => by
    rw [runFrom]
    split
    · have hb : n < 1024 := by
        rcases Nat.lt_or_ge n 1024 with h1 | h1
        · exact h1
        · have := hS n h1; simp_all
      have := run_le hS f (n + 1) (by omega)
      omega
    · exact h
/-- What Next answers of a set from a place on. -/
def NX (S m : Nat) (z : Int) (b : Bool) : Prop := (b = true ∧ ∃ k : Nat, z = k ∧ nextFrom S 1025 m = some k) ∨ (b = false ∧ nextFrom S 1025 m = none)
theorem NX.yes {S m : Nat} {z : Int} {b : Bool} (h : NX S m z b) (hb : b = true) : ∃ k : Nat, z = k ∧ nextFrom S 1025 m = some k := by
  rcases h with h | h
  · exact h.2
  · rw [h.1] at hb; cases hb
theorem NX.no {S m : Nat} {z : Int} {b : Bool} (h : NX S m z b) (hb : b = false) : nextFrom S 1025 m = none := by
  rcases h with h | h
  · rw [h.1] at hb; cases hb
  · exact h.2
theorem next_all (S m : Nat) (n : Int) (hn : n = (m : Int)) (hS : Sm S) (w : World) (hT : Tab w) : Calls Tryd.prog 37 #[.agg (setA S), .int .i64 n] w fun e w' => ∃ v, e = .returned v ∧ ∃ z b, v = .tuple #[.int .i64 z, .bool b] ∧ NX S m z b ∧ Below w.heap.size w w' := by
  subst hn
  cases h : nextFrom S 1025 m with
  | none => exact (next_no S (m : Int) w (noNext_of hS h)).mono fun e w' ⟨h1, h2⟩ => ⟨_, h1, _, _, rfl, .inr ⟨rfl, h⟩, h2⟩
  | some k => exact (next_yes S k (m : Int) w hS (isNext_of h) hT).mono fun e w' ⟨h1, h2⟩ => ⟨_, h1, _, _, rfl, .inl ⟨rfl, k, rfl, h⟩, h2⟩
theorem next_lt {S m k : Nat} (hS : Sm S) (h : nextFrom S 1025 m = some k) : m ≤ k ∧ k < 1024 ∧ S.testBit k = true := by
  obtain ⟨h1, _, h3, _⟩ := nextFrom_some h
  refine ⟨h1, ?_, h3⟩
  rcases Nat.lt_or_ge k 1024 with g | g
  · exact g
  · have := hS k g; rw [h3] at this; cases this
theorem rows_end {S f m p : Nat} (h : nextFrom S 1025 m = none) : rowsFrom S f m p = [] := by
  cases f with
  | zero => rfl
  | succ f => rw [rowsFrom, h]
theorem rows_go {S f m p k : Nat} (hS : Sm S) (h : nextFrom S 1025 m = some k) (hf : 1025 ≤ f + m) : 1025 ≤ f - 1 + (k + runFrom S 1025 k) ∧
    rowsFrom S f m p = ((k : Int) - (p : Int)) :: ((runFrom S 1025 k : Int) - 1) :: rowsFrom S (f - 1) (k + runFrom S 1025 k) (k + runFrom S 1025 k + 1) := by
  obtain ⟨h1, h2, h3⟩ := next_lt hS h
  have h4 := run_at hS h3
  refine ⟨by omega, ?_⟩
  cases f with
  | zero => omega
  | succ f => rw [rowsFrom, h]; rfl
theorem has_run {S q : Nat} (hS : Sm S) (h : has S ((q : Int) + 1) = true) : runFrom S 1025 (q + 1) = runFrom S 1025 (q + 1 + 1) + 1 := by
  rw [show (q : Int) + 1 = ((q + 1 : Nat) : Int) by omega, has_nat] at h
  exact run_at hS h
theorem has_norun {S q : Nat} (h : has S ((q : Int) + 1) = false) : runFrom S 1025 (q + 1) = 0 := by
  rw [show (q : Int) + 1 = ((q + 1 : Nat) : Int) by omega, has_nat] at h
  exact runFrom_stop h
end Go.Proofs.YtckmihjekgbcmaaDoor

/- codec's rows. -/
namespace Go.Proofs.YtckmihjekgbcmaaDoor
open Go.RowKit Go.WideShapes Go.ChangeShapes
set_option linter.unusedSimpArgs false
set_option linter.unusedVariables false

theorem h_run_call_37_2 {o : Oper} {a : Act} (x0 : Operand) (x1 : Operand) {ts : Array TypeId} (ho : o.op = .call { callee := .value (.func 37), args := #[x0, x1], argTypes := ts }) {v0 : Value} (h0 : a.eval x0 = v0) {v1 : Value} (h1 : a.eval x1 = v1) (W : World) : (execOp a.eval o).run Tryd.prog W = .ok (.enter 37 #[v0, v1]) W := by
  unfold execOp
  simp only [ho]
  subst h0 h1
  go_simp
theorem h_run_call_38_2 {o : Oper} {a : Act} (x0 : Operand) (x1 : Operand) {ts : Array TypeId} (ho : o.op = .call { callee := .value (.func 38), args := #[x0, x1], argTypes := ts }) {v0 : Value} (h0 : a.eval x0 = v0) {v1 : Value} (h1 : a.eval x1 = v1) (W : World) : (execOp a.eval o).run Tryd.prog W = .ok (.enter 38 #[v0, v1]) W := by
  unfold execOp
  simp only [ho]
  subst h0 h1
  go_simp
theorem h_run_lit_67_2 {o : Oper} {a : Act} (x0 : Operand) (x1 : Operand) (ho : o.op = .buildSlice 67 2 #[(0, x0), (1, x1)]) {m0 : Int} (h0 : a.eval x0 = (.int .i64 m0)) {m1 : Int} (h1 : a.eval x1 = (.int .i64 m1)) (W : World) : (execOp a.eval o).run Tryd.prog W = .ok (.value (.slice (some ⟨W.heap.size, 0, none⟩) 2 2)) (W.alloc (.cells #[(.int .i64 m0), (.int .i64 m1)] 3)) := by
  unfold execOp
  simp only [ho, List.map_toArray, List.map_cons, List.map_nil, h0, h1]
  go_simp

attribute [local irreducible] Go.wpList Go.Code.wp
set_option maxRecDepth 100000 in
set_option maxHeartbeats 4000000 in
theorem rows_calls (S : Nat) (hS : Sm S) (w : World) (hT : Tab w) : Calls Tryd.prog 29 #[.agg (setA S)] w fun e w' => ∃ v, e = .returned v ∧ OwnR w' w.heap.size 3 (eInt .i64) v (rowsL S) ∧ Below w.heap.size w w' := by
  have bel : Below w.heap.size w w := Below.refl _ _
  go_enter Tryd.func29, Tryd.ntmps29
  refine wp_seq ?_
  refine wp_region_lit ?_
  refine st_new (by rfl) (run_box_set (.tmp 0) rfl (S := S) rfl _) ?_
  intro g1 w2 B3 hb4 lo5
  simp only [nf0, nf1, nf2, nf3, nf4]
  replace lo5 := low_le bel lo5
  replace bel := bl_step bel hb4
  clear hb4
  have O6 : OwnR w2 w.heap.size 3 (eInt .i64) (.slice none 0 0) [] := OwnR.nil _ _ _ _
  have n8 := Off.nil g1
  refine st_mv (.slice none 0 0) ?_
  simp only [nf0, nf1, nf2, nf3, nf4]
  refine wpList_nil ?_
  show Code.wp _ _ _ _ _
  refine wp_seq ?_
  refine wp_region_lit ?_
  refine st_mv (.int .i64 0) ?_
  simp only [nf0, nf1, nf2, nf3, nf4]
  refine wpList_nil ?_
  show Code.wp _ _ _ _ _
  refine wp_seq ?_
  refine wp_seq ?_
  refine wp_region_lit ?_
  refine st_value (v := (.agg (setA S))) (by rfl) (run_load_set (.tmp 1) rfl _ rfl S B3) ?_
  simp only [nf0, nf1, nf2, nf3, nf4]
  refine st_call (by rfl) (h_run_call_37_2 (.tmp 8) (.const (.int .i64 0)) rfl rfl rfl _) (next_all S 0 0 (by omega) hS w2 (hT.same bel)) ?_
  rintro _ w12 ⟨z9, b10, rfl, hx11, hf13⟩
  simp only [nf0, nf1, nf2, nf3, nf4]
  replace B3 := B3.below hf13
  replace O6 := O6.same hf13
  replace bel := bl_step bel hf13
  clear hf13
  refine st_mv (.tuple #[.int .i64 z9, .bool b10]) ?_
  simp only [nf0, nf1, nf2, nf3, nf4]
  refine st_mv (.int .i64 z9) ?_
  simp only [nf0, nf1, nf2, nf3, nf4]
  refine st_mv (.bool b10) ?_
  simp only [nf0, nf1, nf2, nf3, nf4]
  refine st_mv (.int .i64 z9) ?_
  simp only [nf0, nf1, nf2, nf3, nf4]
  refine st_mv (.bool b10) ?_
  simp only [nf0, nf1, nf2, nf3, nf4]
  refine wpList_nil ?_
  show Code.wp _ _ _ _ _
  refine wp_block ?_
  refine wp_loop_left (fun n_ a_ wr_ => (fun J14 => ∃ (m : Nat) (p : Nat) (z : Int) (b : Bool) (f : Nat) (xs : List Int) (v : Value), n_ = 1025 - m ∧ a_ = ⟨#[.agg (setA S), .pointer (some ⟨g1, 0, none⟩), v, .int .i64 (p : Int), .int .i64 z, .bool b, J14 6, J14 7, J14 8, J14 9, J14 10, J14 11, J14 12, J14 13, J14 14, J14 15, J14 16, J14 17, J14 18, J14 19, J14 20, J14 21, J14 22, J14 23, J14 24, J14 25, J14 26, J14 27, J14 28, J14 29, J14 30, J14 31, J14 32, J14 33, J14 34, J14 35, J14 36, J14 37, J14 38], []⟩ ∧ Blk wr_ g1 (setA S) 33 ∧ OwnR wr_ w.heap.size 3 (eInt .i64) v xs ∧ Off v g1 ∧ Below w.heap.size w wr_ ∧ (NX S m z b) ∧ (xs ++ rowsFrom S f m p = rowsL S) ∧ (1025 ≤ f + m) ∧ (p ≤ m + 1) ∧ (xs.length ≤ 2 * m)) (jk a_)) (1025 - 0) ⟨0, 0, z9, b10, 1025, [], (.slice none 0 0), rfl, rfl, B3, O6, n8, bel, hx11, rfl, (by omega), (by omega), (by simp)⟩ ?_
  clear B3
  clear O6
  clear n8
  clear bel
  intro n_ a_ w16 h_
  revert h_
  generalize jk a_ = J14
  rintro ⟨m, p, z, b, f, xs, v, hms, rfl, B3, O6, n15, bel, hnx, hx, hf, hp, hxl⟩
  refine wp_seq ?_
  refine wp_seq ?_
  refine wp_region_lit ?_
  refine st_mv (.bool b) ?_
  simp only [nf0, nf1, nf2, nf3, nf4]
  refine wpList_nil ?_
  show Code.wp _ _ _ _ _
  cases hg17 : b
  · have hp18 := trivial
    rw [rows_end (hnx.no hg17), List.append_nil] at hx
    refine wp_cond_false rfl ?_
    refine wp_exit ?_
    show Code.wp _ _ _ _ _
    refine wp_seq ?_
    refine wp_region_lit ?_
    refine st_mv v ?_
    simp only [nf0, nf1, nf2, nf3, nf4]
    refine st_mv v ?_
    simp only [nf0, nf1, nf2, nf3, nf4]
    refine wpList_nil ?_
    show Code.wp _ _ _ _ _
    refine wp_ret ?_
    first | show bodyPost _ _ _ _ _ _ | (simp only [Exit.then, Exit.inBlock]; show bodyPost _ _ _ _ _ _)
    exact bodyPost_ret (results_tmp rfl _ _ _) rfl ⟨_, rfl, by have h := O6; rw [hx] at h; exact h, bel⟩
  have hp19 := trivial
  obtain ⟨k, rfl, hk⟩ := hnx.yes hg17
  obtain ⟨hm1, hk1, hk2⟩ := next_lt hS hk
  have hrl := run_le hS 1025 k (by omega)
  have hra := run_at hS hk2
  obtain ⟨hf1, hf2⟩ := rows_go (p := p) hS hk hf
  refine wp_cond_true rfl ?_
  refine wp_skip ?_
  show Code.wp _ _ _ _ _
  refine wp_seq ?_
  refine wp_block ?_
  refine wp_seq ?_
  refine wp_region_lit ?_
  refine st_mv (.int .i64 (k : Int)) ?_
  simp only [nf0, nf1, nf2, nf3, nf4]
  refine st_mv (.int .i64 (k : Int)) ?_
  simp only [nf0, nf1, nf2, nf3, nf4]
  refine wpList_nil ?_
  show Code.wp _ _ _ _ _
  refine wp_seq ?_
  refine wp_block ?_
  refine wp_loop_left (fun n_ a_ wr_ => (fun J20 => ∃ (q : Nat), n_ = k + runFrom S 1025 k - q ∧ a_ = ⟨#[.agg (setA S), .pointer (some ⟨g1, 0, none⟩), v, .int .i64 (p : Int), .int .i64 (q : Int), .bool true, .int .i64 (k : Int), J20 7, J20 8, J20 9, J20 10, J20 11, J20 12, J20 13, J20 14, J20 15, J20 16, J20 17, J20 18, J20 19, J20 20, J20 21, J20 22, J20 23, J20 24, J20 25, J20 26, J20 27, J20 28, J20 29, J20 30, J20 31, J20 32, J20 33, J20 34, J20 35, J20 36, J20 37, J20 38], []⟩ ∧ Blk wr_ g1 (setA S) 33 ∧ OwnR wr_ w.heap.size 3 (eInt .i64) v xs ∧ Off v g1 ∧ Below w.heap.size w wr_ ∧ (q + 1 + runFrom S 1025 (q + 1) = k + runFrom S 1025 k) ∧ (k ≤ q)) (jk a_)) (k + runFrom S 1025 k - k) ⟨k, rfl, rfl, B3, O6, n15, bel, (by omega), (by omega)⟩ ?_
  clear B3
  clear O6
  clear n15
  clear bel
  intro n_ a_ w22 h_
  revert h_
  generalize jk a_ = J20
  rintro ⟨q, hms, rfl, B3, O6, n21, bel, hqe, hkq⟩
  refine wp_seq ?_
  refine wp_seq ?_
  refine wp_region_lit ?_
  refine st_value (v := (.agg (setA S))) (by rfl) (run_load_set (.tmp 1) rfl _ rfl S B3) ?_
  simp only [nf0, nf1, nf2, nf3, nf4]
  refine st_mv (.int .i64 (q : Int)) ?_
  simp only [nf0, nf1, nf2, nf3, nf4]
  refine st_value (v := (.int .i64 ((q : Int) + 1))) (by rfl) (run_add_in (.tmp 22) (.const (.int .i64 1)) rfl rfl rfl (by omega) w22) ?_
  simp only [nf0, nf1, nf2, nf3, nf4]
  refine st_call1 (v := (.bool (has S ((q : Int) + 1)))) (by rfl) (h_run_call_38_2 (.tmp 21) (.tmp 23) rfl rfl rfl _) (has_below S hS ((q : Int) + 1) w22) ?_
  intro w23 hb24
  simp only [nf0, nf1, nf2, nf3, nf4]
  replace B3 := B3.below hb24
  replace O6 := O6.same hb24
  replace bel := bl_step bel hb24
  clear hb24
  refine wpList_nil ?_
  show Code.wp _ _ _ _ _
  cases hg25 : has S ((q : Int) + 1)
  rotate_left
  · have hp45 := trivial
    have hrn := has_run hS hg25
    refine wp_cond_true rfl ?_
    refine wp_skip ?_
    show Code.wp _ _ _ _ _
    refine wp_block ?_
    refine wp_region_lit ?_
    refine st_mv (.int .i64 (q : Int)) ?_
    simp only [nf0, nf1, nf2, nf3, nf4]
    refine st_value (v := (.int .i64 ((q : Int) + 1))) (by rfl) (run_add_in (.tmp 25) (.const (.int .i64 1)) rfl rfl rfl (by omega) w23) ?_
    simp only [nf0, nf1, nf2, nf3, nf4]
    refine st_mv (.int .i64 ((q : Int) + 1)) ?_
    simp only [nf0, nf1, nf2, nf3, nf4]
    refine wpList_nil ?_
    show ∃ m, m < _ ∧ _
    exact ⟨_, (by omega), (q + 1), rfl, rfl, B3, O6, n21, bel, (by omega), (by omega)⟩
  have hp26 := trivial
  have hnr := has_norun hg25
  refine wp_cond_false rfl ?_
  refine wp_exit ?_
  show Code.wp _ _ _ _ _
  refine wp_seq ?_
  refine wp_region_lit ?_
  refine st_mv v ?_
  simp only [nf0, nf1, nf2, nf3, nf4]
  refine st_mv (.int .i64 (k : Int)) ?_
  simp only [nf0, nf1, nf2, nf3, nf4]
  refine st_mv (.int .i64 (p : Int)) ?_
  simp only [nf0, nf1, nf2, nf3, nf4]
  refine st_value (v := (.int .i64 ((k : Int) - (p : Int)))) (by rfl) (run_sub_in (.tmp 28) (.tmp 29) rfl rfl rfl (by omega) w23) ?_
  simp only [nf0, nf1, nf2, nf3, nf4]
  refine st_mv (.int .i64 (q : Int)) ?_
  simp only [nf0, nf1, nf2, nf3, nf4]
  refine st_mv (.int .i64 (k : Int)) ?_
  simp only [nf0, nf1, nf2, nf3, nf4]
  refine st_value (v := (.int .i64 ((q : Int) - (k : Int)))) (by rfl) (run_sub_in (.tmp 31) (.tmp 32) rfl rfl rfl (by omega) w23) ?_
  simp only [nf0, nf1, nf2, nf3, nf4]
  refine st_lit (by rfl) (h_run_lit_67_2 (.tmp 30) (.tmp 33) rfl rfl rfl _) ?_
  intro g27 w28 B29 hb30 lo31
  simp only [nf0, nf1, nf2, nf3, nf4]
  have n32 := B3.ne lo31
  have n33 := O6.off lo31
  replace lo31 := low_le bel lo31
  replace B3 := B3.below hb30
  replace O6 := O6.same hb30
  replace bel := bl_step bel hb30
  clear hb30
  refine st_append slInt rfl (.tmp 27) (.tmp 34) rfl rfl O6 ([((k : Int) - (p : Int)), ((q : Int) - (k : Int))] : List Int) rfl rfl B29 (by simp [Enc.all, eInt]) (by simp only [List.length_cons, List.length_nil]; omega) bel.size ?_
  intro v34 w35 O36 hg37 hat38
  simp only [nf0, nf1, nf2, nf3, nf4]
  have n39 := (n21 : Off _ _).app B3 hat38
  replace B3 := B3.keptR hg37 n21
  replace bel := bl_app bel O6 hg37
  clear O6 hg37 hat38
  refine st_mv v34 ?_
  simp only [nf0, nf1, nf2, nf3, nf4]
  refine wpList_nil ?_
  show Code.wp _ _ _ _ _
  refine wp_region_lit ?_
  refine st_mv (.int .i64 (q : Int)) ?_
  simp only [nf0, nf1, nf2, nf3, nf4]
  refine st_value (v := (.int .i64 ((q : Int) + 2))) (by rfl) (run_add_in (.tmp 36) (.const (.int .i64 2)) rfl rfl rfl (by omega) w35) ?_
  simp only [nf0, nf1, nf2, nf3, nf4]
  refine st_mv (.int .i64 ((q : Int) + 2)) ?_
  simp only [nf0, nf1, nf2, nf3, nf4]
  refine wpList_nil ?_
  show Code.wp _ _ _ _ _
  refine wp_region_lit ?_
  refine st_value (v := (.agg (setA S))) (by rfl) (run_load_set (.tmp 1) rfl _ rfl S B3) ?_
  simp only [nf0, nf1, nf2, nf3, nf4]
  refine st_mv (.int .i64 (q : Int)) ?_
  simp only [nf0, nf1, nf2, nf3, nf4]
  refine st_value (v := (.int .i64 ((q : Int) + 1))) (by rfl) (run_add_in (.tmp 15) (.const (.int .i64 1)) rfl rfl rfl (by omega) w35) ?_
  simp only [nf0, nf1, nf2, nf3, nf4]
  refine st_call (by rfl) (h_run_call_37_2 (.tmp 14) (.tmp 16) rfl rfl rfl _) (next_all S (q + 1) ((q : Int) + 1) (by omega) hS w35 (hT.same bel)) ?_
  rintro _ w43 ⟨z40, b41, rfl, hx42, hf44⟩
  simp only [nf0, nf1, nf2, nf3, nf4]
  replace B3 := B3.below hf44
  replace O36 := O36.same hf44
  replace bel := bl_step bel hf44
  clear hf44
  refine st_mv (.tuple #[.int .i64 z40, .bool b41]) ?_
  simp only [nf0, nf1, nf2, nf3, nf4]
  refine st_mv (.int .i64 z40) ?_
  simp only [nf0, nf1, nf2, nf3, nf4]
  refine st_mv (.bool b41) ?_
  simp only [nf0, nf1, nf2, nf3, nf4]
  refine st_mv (.int .i64 z40) ?_
  simp only [nf0, nf1, nf2, nf3, nf4]
  refine st_mv (.bool b41) ?_
  simp only [nf0, nf1, nf2, nf3, nf4]
  refine wpList_nil ?_
  show ∃ m, m < _ ∧ _
  exact ⟨_, (by omega), (q + 1), (q + 2), z40, b41, (f - 1), _, v34, rfl, rfl, B3, O36, n39, bel, hx42, (by rw [← hx, hf2, List.append_assoc, ← hqe, hnr, Nat.add_zero, show (((runFrom S 1025 k : Nat) : Int) - 1) = (q : Int) - (k : Int) by omega]; rfl), (by omega), (by omega), (by simp only [List.length_append, List.length_cons, List.length_nil]; omega)⟩
end Go.Proofs.YtckmihjekgbcmaaDoor

/- Several numbers' bytes, one behind the other; PutInt over a row of the caller's own. -/
namespace Go.Proofs.YtckmihjekgbcmaaDoor
open Go.RowKit Go.WideShapes Go.ChangeShapes

/-- A whole number of 64 bits. -/
def I64 (n : Int) : Prop := -9223372036854775808 ≤ n ∧ n ≤ 9223372036854775807
def vbs (ns : List Int) : List UInt8 := ns.flatMap fun n => vb (zig n)
theorem vbs_nil : vbs [] = [] := rfl
theorem vbs_cons (n : Int) (ns : List Int) : vbs (n :: ns) = vb (zig n) ++ vbs ns := rfl
theorem vbs_append (xs ys : List Int) : vbs (xs ++ ys) = vbs xs ++ vbs ys := by simp [vbs]
theorem vbz_len {n : Int} (h : I64 n) : (vb (zig n)).length ≤ 10 := vb_len (zig_lt h)
theorem vbs_len {ns : List Int} (h : ∀ n ∈ ns, I64 n) : (vbs ns).length ≤ 10 * ns.length := by
  induction ns with
  | nil => simp [vbs]
  | cons n ns ih =>
    rw [vbs_cons, List.length_append, List.length_cons]
    have h1 := vbz_len (h n List.mem_cons_self)
    have h2 := ih fun x hx => h x (List.mem_cons_of_mem _ hx)
    omega
theorem vbs_take {ns : List Int} {k : Nat} (hk : k < ns.length) : vbs (ns.take (k + 1)) = vbs (ns.take k) ++ vb (zig (nth ns k)) := by
  rw [List.take_add_one, vbs_append, nth_eq, List.getElem?_eq_getElem hk]
  simp [vbs, List.getD, hk]
theorem vbs_take_len {ns : List Int} (h : ∀ n ∈ ns, I64 n) (k : Nat) : (vbs (ns.take k)).length ≤ 10 * ns.length := by
  have h1 := vbs_len (ns := ns.take k) fun x hx => h x (List.mem_of_mem_take hx)
  rw [List.length_take] at h1
  omega
theorem I64_nth {ns : List Int} (h : ∀ n ∈ ns, I64 n) {k : Nat} (hk : k < ns.length) : I64 (nth ns k) := by
  rw [nth_eq, List.getD_eq_getElem?_getD, List.getElem?_eq_getElem hk]
  exact h _ (List.getElem_mem hk)
theorem putInt_own {base : Nat} {u : Value} {l : List UInt8} {w : World} (h : OwnR w base 5 eByte u l) (hb : base ≤ w.heap.size) (hl : l.length ≤ 10000000) {n : Int} (hn : I64 n) :
    Calls Tryd.prog 7 #[u, .int .i64 n] w fun e w' => ∃ v, e = .returned v ∧ (OwnR w' base 5 eByte v (l ++ vb (zig n)) ∧ Below w.heap.size w w') := by
  obtain ⟨A, c, rfl, h1, h2, h3, R⟩ := h.reads
  exact (putInt_calls A l c n hn w R hl h3).mono fun e w' ⟨v, e1, e2, e3⟩ => ⟨v, e1, e2.lower hb, e3⟩
/-- The numbers of a set's rows, and how many there are. -/
theorem rowsFrom_le {S : Nat} (hS : Sm S) : ∀ (f n p : Nat), p ≤ n + 1 → (rowsFrom S f n p).length + 2 * n ≤ 2 * 1024 ∨ rowsFrom S f n p = []
  | 0, _, _, _ => .inr rfl
  | f + 1, n, p, hp => by
    cases h : nextFrom S 1025 n with
    | none => exact .inr (rows_end h)
    | some m =>
      obtain ⟨h1, h2, h3⟩ := next_lt hS h
      have hr := run_at hS h3
      have hl := run_le hS 1025 m (by omega)
      rw [rowsFrom, h]
      refine .inl ?_
      simp only [List.length_cons]
      rcases rowsFrom_le hS f (m + runFrom S 1025 m) (m + runFrom S 1025 m + 1) (by omega) with g | g
      · omega
      · rw [g]; simp only [List.length_nil]; omega
theorem rowsL_len {S : Nat} (hS : Sm S) : (rowsL S).length ≤ 2048 := by
  rcases rowsFrom_le hS 1025 0 0 (by omega) with g | g
  · exact Nat.le_trans (Nat.le_of_add_right_le g) (Nat.le_refl _)
  · show (rowsFrom S 1025 0 0).length ≤ _
    rw [g]; simp
theorem rowsFrom_mem {S : Nat} (hS : Sm S) : ∀ (f n p : Nat), p ≤ n + 1 → ∀ x ∈ rowsFrom S f n p, -1 ≤ x ∧ x ≤ 1024
  | 0, _, _, _, x, hx => by simp [rowsFrom] at hx
  | f + 1, n, p, hp, x, hx => by
    cases h : nextFrom S 1025 n with
    | none => rw [rows_end h] at hx; cases hx
    | some m =>
      obtain ⟨h1, h2, h3⟩ := next_lt hS h
      have hr := run_at hS h3
      have hl := run_le hS 1025 m (by omega)
      rw [rowsFrom, h] at hx
      rcases List.mem_cons.1 hx with rfl | hx
      · omega
      · rcases List.mem_cons.1 hx with rfl | hx
        · omega
        · exact rowsFrom_mem hS f _ _ (by omega) x hx
theorem rowsL_I64 {S : Nat} (hS : Sm S) : ∀ n ∈ rowsL S, I64 n := fun n hn => by
  have := rowsFrom_mem hS 1025 0 0 (by omega) n hn
  unfold I64; omega
end Go.Proofs.YtckmihjekgbcmaaDoor

/- codec's put and PutSet. -/
namespace Go.Proofs.YtckmihjekgbcmaaDoor
open Go.RowKit Go.WideShapes Go.ChangeShapes
set_option linter.unusedSimpArgs false
set_option linter.unusedVariables false

theorem i_run_call_7_2 {o : Oper} {a : Act} (x0 : Operand) (x1 : Operand) {ts : Array TypeId} (ho : o.op = .call { callee := .value (.func 7), args := #[x0, x1], argTypes := ts }) {v0 : Value} (h0 : a.eval x0 = v0) {v1 : Value} (h1 : a.eval x1 = v1) (W : World) : (execOp a.eval o).run Tryd.prog W = .ok (.enter 7 #[v0, v1]) W := by
  unfold execOp
  simp only [ho]
  subst h0 h1
  go_simp
theorem j_run_call_7_2 {o : Oper} {a : Act} (x0 : Operand) (x1 : Operand) {ts : Array TypeId} (ho : o.op = .call { callee := .value (.func 7), args := #[x0, x1], argTypes := ts }) {v0 : Value} (h0 : a.eval x0 = v0) {v1 : Value} (h1 : a.eval x1 = v1) (W : World) : (execOp a.eval o).run Tryd.prog W = .ok (.enter 7 #[v0, v1]) W := by
  unfold execOp
  simp only [ho]
  subst h0 h1
  go_simp
theorem j_run_call_29_1 {o : Oper} {a : Act} (x0 : Operand) {ts : Array TypeId} (ho : o.op = .call { callee := .value (.func 29), args := #[x0], argTypes := ts }) {v0 : Value} (h0 : a.eval x0 = v0) (W : World) : (execOp a.eval o).run Tryd.prog W = .ok (.enter 29 #[v0]) W := by
  unfold execOp
  simp only [ho]
  subst h0
  go_simp
theorem j_run_call_30_2 {o : Oper} {a : Act} (x0 : Operand) (x1 : Operand) {ts : Array TypeId} (ho : o.op = .call { callee := .value (.func 30), args := #[x0, x1], argTypes := ts }) {v0 : Value} (h0 : a.eval x0 = v0) {v1 : Value} (h1 : a.eval x1 = v1) (W : World) : (execOp a.eval o).run Tryd.prog W = .ok (.enter 30 #[v0, v1]) W := by
  unfold execOp
  simp only [ho]
  subst h0 h1
  go_simp
/-- A set's bytes. -/
def setB (S : Nat) : List UInt8 := vb (zig (((rowsL S).length / 2 : Nat) : Int)) ++ vbs (rowsL S)

attribute [local irreducible] Go.wpList Go.Code.wp
set_option maxRecDepth 100000 in
set_option maxHeartbeats 4000000 in
theorem putAll_calls {base : Nat} {v0 : Value} {l : List UInt8} {w : World} (hO0 : OwnR w base 5 eByte v0 l) (hbase : base ≤ w.heap.size) {B : Option Addr} {ns : List Int} {cap : Nat} (hr : Reads w B (ns.map (Value.int .i64))) (hn : ∀ n ∈ ns, I64 n) (hl : l.length + 10 * ns.length ≤ 10000000) : Calls Tryd.prog 30 #[v0, .slice B ns.length cap] w fun e w' => ∃ v, e = .returned v ∧ (OwnR w' base 5 eByte v (l ++ vbs ns) ∧ Below w.heap.size w w') := by
  have bel : Below w.heap.size w w := Below.refl _ _
  go_enter Tryd.func30, Tryd.ntmps30
  refine wp_seq ?_
  refine wp_region_lit ?_
  refine st_mv (.slice none 0 0) ?_
  simp only [nf0, nf1, nf2, nf3, nf4]
  refine wpList_nil ?_
  show Code.wp _ _ _ _ _
  refine wp_seq ?_
  refine wp_seq ?_
  refine wp_region_lit ?_
  refine st_mv (.slice B ns.length cap) ?_
  simp only [nf0, nf1, nf2, nf3, nf4]
  refine st_value (v := (.int .i64 (ns.length : Int))) (by rfl) (run_len (.tmp 7) rfl ⟨_, Tryd.underlying67⟩ rfl w) ?_
  simp only [nf0, nf1, nf2, nf3, nf4]
  refine st_mv (.int .i64 0) ?_
  simp only [nf0, nf1, nf2, nf3, nf4]
  refine wpList_nil ?_
  show Code.wp _ _ _ _ _
  refine wp_block ?_
  refine wp_loop_left (fun n_ a_ wr_ => (fun J1 => ∃ (k : Nat) (u : Value), n_ = ns.length - k ∧ a_ = ⟨#[u, .slice B ns.length cap, J1 2, J1 3, .slice none 0 0, J1 5, J1 6, .slice B ns.length cap, .int .i64 (ns.length : Int), .int .i64 (k : Int), J1 10, J1 11, J1 12, J1 13, J1 14, J1 15, J1 16, J1 17], []⟩ ∧ Below w.heap.size w wr_ ∧ (k ≤ ns.length) ∧ (OwnR wr_ base 5 eByte u (l ++ vbs (ns.take k)))) (jk a_)) (ns.length - 0) ⟨0, v0, rfl, rfl, bel, (Nat.zero_le _), (by rw [List.take_zero, vbs_nil, List.append_nil]; exact hO0)⟩ ?_
  clear bel
  intro n_ a_ w2 h_
  revert h_
  generalize jk a_ = J1
  rintro ⟨k, u, hms, rfl, bel, hk, hO⟩
  refine wp_seq ?_
  refine wp_region_lit ?_
  refine st_value (v := (.bool (decide ((k : Int) < (ns.length : Int))))) (by rfl) (run_lss (.tmp 9) (.tmp 8) rfl rfl rfl w2) ?_
  simp only [nf0, nf1, nf2, nf3, nf4]
  refine wpList_nil ?_
  show Code.wp _ _ _ _ _
  refine wp_seq ?_
  cases hg3 : decide ((k : Int) < (ns.length : Int))
  · have hp4 := of_decide_eq_false hg3
    refine wp_cond_false rfl ?_
    refine wp_exit ?_
    show Code.wp _ _ _ _ _
    refine wp_seq ?_
    refine wp_region_lit ?_
    refine st_mv u ?_
    simp only [nf0, nf1, nf2, nf3, nf4]
    refine st_mv u ?_
    simp only [nf0, nf1, nf2, nf3, nf4]
    refine wpList_nil ?_
    show Code.wp _ _ _ _ _
    refine wp_ret ?_
    first | show bodyPost _ _ _ _ _ _ | (simp only [Exit.then, Exit.inBlock]; show bodyPost _ _ _ _ _ _)
    obtain rfl : k = ns.length := by omega
    exact bodyPost_ret (results_tmp rfl _ _ _) rfl ⟨_, rfl, by rw [List.take_length] at hO; exact hO, bel⟩
  have hp5 := of_decide_eq_true hg3
  refine wp_cond_true rfl ?_
  refine wp_skip ?_
  show Code.wp _ _ _ _ _
  refine wp_seq ?_
  refine wp_block ?_
  refine wp_seq ?_
  obtain ⟨b6, o7, rfl, _⟩ := (hr.same bel).at_ (by rw [List.length_map]; omega)
  refine wp_region_lit ?_
  refine st_value (v := (.pointer (some ⟨b6, o7 + k * 1, none⟩))) (by rfl) (run_indexAddrN (.tmp 7) (.tmp 9) rfl Tryd.underlying67 slInt.sz (i := k) rfl rfl (by omega) w2) ?_
  simp only [nf0, nf1, nf2, nf3, nf4]
  refine st_value (v := (.int .i64 (nth ns k))) (by rfl) (run_load1 (.tmp 11) rfl Tryd.underlying3 rfl slInt.sz rfl (Reads.intAt (hr.same bel) k (by omega))) ?_
  simp only [nf0, nf1, nf2, nf3, nf4]
  refine st_mv (.int .i64 (nth ns k)) ?_
  simp only [nf0, nf1, nf2, nf3, nf4]
  refine wpList_nil ?_
  show Code.wp _ _ _ _ _
  refine wp_region_lit ?_
  refine st_mv u ?_
  simp only [nf0, nf1, nf2, nf3, nf4]
  refine st_mv (.int .i64 (nth ns k)) ?_
  simp only [nf0, nf1, nf2, nf3, nf4]
  refine st_call (by rfl) (i_run_call_7_2 (.tmp 13) (.tmp 14) rfl rfl rfl _) (putInt_own hO (Nat.le_trans hbase bel.size) (by have := vbs_take_len hn k; rw [List.length_append]; omega) (I64_nth hn (k := k) (by omega))) ?_
  rintro v' w8 ⟨hO', hf9⟩
  simp only [nf0, nf1, nf2, nf3, nf4]
  replace bel := bl_step bel hf9
  clear hf9
  refine st_mv v' ?_
  simp only [nf0, nf1, nf2, nf3, nf4]
  refine wpList_nil ?_
  show Code.wp _ _ _ _ _
  refine wp_region_lit ?_
  refine st_value (v := (.int .i64 ((k : Int) + 1))) (by rfl) (run_add_in (.tmp 9) (.const (.int .i64 1)) rfl rfl rfl (by omega) w8) ?_
  simp only [nf0, nf1, nf2, nf3, nf4]
  refine st_mv (.int .i64 ((k : Int) + 1)) ?_
  simp only [nf0, nf1, nf2, nf3, nf4]
  refine wpList_nil ?_
  show ∃ m, m < _ ∧ _
  exact ⟨_, (by omega), (k + 1), v', rfl, rfl, bel, (by omega), (by rw [vbs_take (by omega), ← List.append_assoc]; exact hO')⟩
set_option maxRecDepth 100000 in
set_option maxHeartbeats 4000000 in
theorem putSet_calls (A : Option Addr) (l : List UInt8) (cap S : Nat) (hS : Sm S) (w : World) (hr : Reads w A (eByte.all l)) (hl : l.length ≤ 1000000) (hA : A = none → cap = 0) (hT : Tab w) : Calls Tryd.prog 12 #[.slice A l.length cap, .agg (setA S)] w fun e w' => ∃ v, e = .returned v ∧ OwnR w' w.heap.size 5 eByte v (l ++ setB S) ∧ Below w.heap.size w w' := by
  have bel : Below w.heap.size w w := Below.refl _ _
  go_enter Tryd.func12, Tryd.ntmps12
  refine wp_seq ?_
  refine wp_region_lit ?_
  refine st_new (by rfl) (run_box_set (.tmp 1) rfl (S := S) rfl _) ?_
  intro g1 w2 B3 hb4 lo5
  simp only [nf0, nf1, nf2, nf3, nf4]
  replace lo5 := low_le bel lo5
  replace bel := bl_step bel hb4
  clear hb4
  refine st_mv (.slice none 0 0) ?_
  simp only [nf0, nf1, nf2, nf3, nf4]
  refine wpList_nil ?_
  show Code.wp _ _ _ _ _
  refine wp_seq ?_
  refine wp_region_lit ?_
  refine st_value (v := (.agg (setA S))) (by rfl) (run_load_set (.tmp 3) rfl _ rfl S B3) ?_
  simp only [nf0, nf1, nf2, nf3, nf4]
  refine st_call (by rfl) (j_run_call_29_1 (.tmp 6) rfl rfl _) (rows_calls S hS w2 (hT.same bel)) ?_
  rintro v6 w8 ⟨O7, hf9⟩
  simp only [nf0, nf1, nf2, nf3, nf4]
  have n10 := O7.offLow B3
  have O7_ := fun k hk => (O7.lt k hk).1
  replace O7 := O7.lower bel.size
  replace B3 := B3.below hf9
  replace bel := bl_step bel hf9
  clear hf9
  refine st_mv v6 ?_
  simp only [nf0, nf1, nf2, nf3, nf4]
  refine wpList_nil ?_
  show Code.wp _ _ _ _ _
  refine wp_seq ?_
  obtain ⟨A11, c12, hv13, h14, h15, h16, R17⟩ := O7.reads
  subst hv13
  rw [eInt_all] at R17
  clear O7
  have hrl := rowsL_len hS
  have hzl := vbz_len (n := ((rowsL S).length / 2 : Nat)) (by unfold I64; omega)
  refine wp_region_lit ?_
  refine st_mv (.slice A l.length cap) ?_
  simp only [nf0, nf1, nf2, nf3, nf4]
  refine st_mv (.slice A11 (rowsL S).length c12) ?_
  simp only [nf0, nf1, nf2, nf3, nf4]
  refine st_value (v := (.int .i64 ((rowsL S).length : Int))) (by rfl) (run_len (.tmp 9) rfl ⟨_, Tryd.underlying67⟩ rfl w8) ?_
  simp only [nf0, nf1, nf2, nf3, nf4]
  refine st_value (v := (.int .i64 ((((rowsL S).length) / 2 : Nat) : Int))) (by rfl) (run_quoN (.tmp 10) (.const (.int .i64 2)) (m := ((rowsL S).length)) (n := 2) rfl rfl rfl (by omega) (by omega) (by omega) (by omega) w8) ?_
  simp only [nf0, nf1, nf2, nf3, nf4]
  refine st_call (by rfl) (j_run_call_7_2 (.tmp 8) (.tmp 11) rfl rfl rfl _) (putInt_calls A l cap ((((rowsL S).length) / 2 : Nat) : Int) (by omega) w8 (hr.same bel) (by omega) hA) ?_
  rintro v18 w20 ⟨O19, hf21⟩
  simp only [nf0, nf1, nf2, nf3, nf4]
  have n22 := O19.offLow B3
  have O19_ := fun k hk => (O19.lt k hk).1
  replace O19 := O19.lower bel.size
  replace B3 := B3.below hf21
  replace R17 := R17.same hf21
  replace bel := bl_step bel hf21
  clear hf21
  refine st_mv (.slice A11 (rowsL S).length c12) ?_
  simp only [nf0, nf1, nf2, nf3, nf4]
  refine st_call (by rfl) (j_run_call_30_2 (.tmp 12) (.tmp 13) rfl rfl rfl _) (putAll_calls O19 bel.size R17 (rowsL_I64 hS) (by rw [List.length_append]; omega)) ?_
  rintro v23 w25 ⟨O24, hf26⟩
  simp only [nf0, nf1, nf2, nf3, nf4]
  replace B3 := B3.below hf26
  replace R17 := R17.same hf26
  replace bel := bl_step bel hf26
  clear hf26
  clear O19
  refine st_mv v23 ?_
  simp only [nf0, nf1, nf2, nf3, nf4]
  refine wpList_nil ?_
  show Code.wp _ _ _ _ _
  refine wp_ret ?_
  first | show bodyPost _ _ _ _ _ _ | (simp only [Exit.then, Exit.inBlock]; show bodyPost _ _ _ _ _ _)
  exact bodyPost_ret (results_tmp rfl _ _ _) rfl ⟨_, rfl, by have h := O24; rw [List.append_assoc] at h; exact h, bel⟩
end Go.Proofs.YtckmihjekgbcmaaDoor

/- Rows that calls hand back inside a region that draws its order; the text of bytes; the document's examples' values. -/
namespace Go.Proofs.YtckmihjekgbcmaaDoor
open Go.RowKit Go.WideShapes Go.ChangeShapes

theorem run_convB {o : Oper} {a : Act} {W : World} {base : Nat} {e' : TypeId} {v : Value} {l : List UInt8} (x : Operand) (ho : o.op = .convert 22 9 x) (hx : a.eval x = v) (h : OwnR W base e' eByte v l) : (execOp a.eval o).run Tryd.prog W = .ok (.value (.string (str l))) W := by
  unfold execOp; simp only [ho, hx]
  have e := h.str 22 9 5 Tryd.underlying22 Tryd.underlying5 Tryd.underlying9
  simp [e]
theorem run_convR {o : Oper} {a : Act} {W : World} {A : Option Addr} {l : List UInt8} {cap : Nat} (x : Operand) (ho : o.op = .convert 22 9 x) (hx : a.eval x = .slice A l.length cap) (h : Reads W A (eByte.all l)) : (execOp a.eval o).run Tryd.prog W = .ok (.value (.string (str l))) W := by
  have e : (convert 22 9 (.slice A l.length cap)).run Tryd.prog W = .ok (.string (str l)) W := by
    cases l with
    | nil => exact run_convert_bytes_zero W _ 5 Tryd.underlying22 Tryd.underlying5 A cap _ Tryd.underlying9
    | cons c l =>
      obtain ⟨b, off, rfl, _⟩ := h.at_ (by rw [eByte_all]; simp)
      exact run_bytes_str _ _ 5 Tryd.underlying22 Tryd.underlying5 Tryd.underlying9 h cap
  unfold execOp; simp only [ho, hx]
  simp [e]
theorem Reads.takeB {w : World} {A : Option Addr} {xs : List UInt8} (h : Reads w A (eByte.all xs)) (n : Nat) : Reads w A (eByte.all (xs.take n)) := by
  rw [eByte_all] at h ⊢
  rw [List.map_take]; exact h.take n
theorem make_own {base : Nat} {e' : TypeId} {v : Value} {xs : List Int} {W : World} (h : OwnR W base e' (eInt .i64) v xs) (hl : xs.length ≤ 1000000) : Calls Tryd.prog 28 #[v] W fun e w' => e = .returned (.agg (setA (mk xs))) ∧ Below W.heap.size W w' := by
  obtain ⟨A, c, rfl, h1, h2, h3, R⟩ := h.reads
  rw [eInt_all] at R
  exact make_calls A xs c W R (by omega)
theorem pl1 : ([] : List UInt8) ++ vb (zig 64) = [128, 1] := by
  rw [show zig 64 = 128 from rfl, vb_high (by omega), vb_low (by omega)]; rfl
theorem pl2 : ([] : List UInt8) ++ vb (zig (-1)) = [1] := by
  rw [show zig (-1) = 1 from rfl, vb_low (by omega)]; rfl
theorem pl3 : ([] : List UInt8) ++ setB (mk ([0, 1, 2, 3, 8] : List Int)) = ([4, 0, 6, 6, 0] : List UInt8) := by
  have h1 : mk [0, 1, 2, 3, 8] = 271 := by kernel_rfl
  have h2 : rowsL 271 = [0, 3, 3, 0] := by kernel_rfl
  rw [h1, setB, h2]
  simp only [vbs, List.flatMap_cons, List.flatMap_nil]
  rw [show zig ((([0, 3, 3, 0] : List Int).length / 2 : Nat) : Int) = 4 from rfl, show zig 0 = 0 from rfl, show zig 3 = 6 from rfl, vb_low (by omega), vb_low (by omega), vb_low (by omega)]
  rfl
end Go.Proofs.YtckmihjekgbcmaaDoor

/- The document's examples (law31's lives). -/
namespace Go.Proofs.YtckmihjekgbcmaaDoor
open Go.RowKit Go.WideShapes Go.ChangeShapes
set_option linter.unusedSimpArgs false
set_option linter.unusedVariables false

theorem k_run_call_7_2 {o : Oper} {a : Act} (x0 : Operand) (x1 : Operand) {ts : Array TypeId} (ho : o.op = .call { callee := .value (.func 7), args := #[x0, x1], argTypes := ts }) {v0 : Value} (h0 : a.eval x0 = v0) {v1 : Value} (h1 : a.eval x1 = v1) (W : World) : (execOp a.eval o).run Tryd.prog W = .ok (.enter 7 #[v0, v1]) W := by
  unfold execOp
  simp only [ho]
  subst h0 h1
  go_simp
theorem k_run_call_12_2 {o : Oper} {a : Act} (x0 : Operand) (x1 : Operand) {ts : Array TypeId} (ho : o.op = .call { callee := .value (.func 12), args := #[x0, x1], argTypes := ts }) {v0 : Value} (h0 : a.eval x0 = v0) {v1 : Value} (h1 : a.eval x1 = v1) (W : World) : (execOp a.eval o).run Tryd.prog W = .ok (.enter 12 #[v0, v1]) W := by
  unfold execOp
  simp only [ho]
  subst h0 h1
  go_simp
theorem k_run_call_28_1 {o : Oper} {a : Act} (x0 : Operand) {ts : Array TypeId} (ho : o.op = .call { callee := .value (.func 28), args := #[x0], argTypes := ts }) {v0 : Value} (h0 : a.eval x0 = v0) (W : World) : (execOp a.eval o).run Tryd.prog W = .ok (.enter 28 #[v0]) W := by
  unfold execOp
  simp only [ho]
  subst h0
  go_simp
theorem k_run_lit_22_5 {o : Oper} {a : Act} (x0 : Operand) (x1 : Operand) (x2 : Operand) (x3 : Operand) (x4 : Operand) (ho : o.op = .buildSlice 22 5 #[(0, x0), (1, x1), (2, x2), (3, x3), (4, x4)]) {m0 : Int} (h0 : a.eval x0 = (.int .u8 m0)) {m1 : Int} (h1 : a.eval x1 = (.int .u8 m1)) {m2 : Int} (h2 : a.eval x2 = (.int .u8 m2)) {m3 : Int} (h3 : a.eval x3 = (.int .u8 m3)) {m4 : Int} (h4 : a.eval x4 = (.int .u8 m4)) (W : World) : (execOp a.eval o).run Tryd.prog W = .ok (.value (.slice (some ⟨W.heap.size, 0, none⟩) 5 5)) (W.alloc (.cells #[(.int .u8 m0), (.int .u8 m1), (.int .u8 m2), (.int .u8 m3), (.int .u8 m4)] 5)) := by
  unfold execOp
  simp only [ho, List.map_toArray, List.map_cons, List.map_nil, h0, h1, h2, h3, h4]
  go_simp
theorem k_run_lit_67_5 {o : Oper} {a : Act} (x0 : Operand) (x1 : Operand) (x2 : Operand) (x3 : Operand) (x4 : Operand) (ho : o.op = .buildSlice 67 5 #[(0, x0), (1, x1), (2, x2), (3, x3), (4, x4)]) {m0 : Int} (h0 : a.eval x0 = (.int .i64 m0)) {m1 : Int} (h1 : a.eval x1 = (.int .i64 m1)) {m2 : Int} (h2 : a.eval x2 = (.int .i64 m2)) {m3 : Int} (h3 : a.eval x3 = (.int .i64 m3)) {m4 : Int} (h4 : a.eval x4 = (.int .i64 m4)) (W : World) : (execOp a.eval o).run Tryd.prog W = .ok (.value (.slice (some ⟨W.heap.size, 0, none⟩) 5 5)) (W.alloc (.cells #[(.int .i64 m0), (.int .i64 m1), (.int .i64 m2), (.int .i64 m3), (.int .i64 m4)] 3)) := by
  unfold execOp
  simp only [ho, List.map_toArray, List.map_cons, List.map_nil, h0, h1, h2, h3, h4]
  go_simp

attribute [local irreducible] Go.wpList Go.Code.wp
set_option maxRecDepth 100000 in
set_option maxHeartbeats 4000000 in
theorem codeLives_calls (w : World) (hT : Tab w) : Calls Tryd.prog 11 #[] w fun e w' => e = .returned (.bool true) ∧ Below w.heap.size w w' := by
  have bel : Below w.heap.size w w := Below.refl _ _
  go_enter Tryd.func11, Tryd.ntmps11
  refine wp_seq ?_
  refine wp_region_lit ?_
  refine st_mv (.bool false) ?_
  simp only [nf0, nf1, nf2, nf3, nf4]
  refine wpList_nil ?_
  show Code.wp _ _ _ _ _
  refine wp_seq ?_
  refine wp_region_facts2_lit (C := Abv w) 18 [.ex (fun v_ z_ => OwnR z_ w.heap.size 5 eByte v_ ([] ++ vb (zig 64))) (fun v_ z_ y_ hG h => h.same hG), .val (.string (str ([] ++ vb (zig 64)))), .val (.bool true), .val (.bool true), .ex (fun v_ z_ => OwnR z_ w.heap.size 5 eByte v_ ([] ++ vb (zig (-1)))) (fun v_ z_ y_ hG h => h.same hG), .val (.string (str ([] ++ vb (zig (-1))))), .val (.bool true), .val (.bool true), .val (.bool true), .ex (fun v_ z_ => OwnR z_ w.heap.size 3 (eInt .i64) v_ ([0, 1, 2, 3, 8] : List Int)) (fun v_ z_ y_ hG h => h.same hG), .val (.agg (setA (mk ([0, 1, 2, 3, 8] : List Int)))), .ex (fun v_ z_ => OwnR z_ w.heap.size 5 eByte v_ ([] ++ setB (mk ([0, 1, 2, 3, 8] : List Int)))) (fun v_ z_ y_ hG h => h.same hG), .val (.string (str ([] ++ setB (mk ([0, 1, 2, 3, 8] : List Int))))), .ex (fun v_ z_ => OwnR z_ w.heap.size 5 eByte v_ ([4, 0, 6, 6, 0] : List UInt8)) (fun v_ z_ y_ hG h => h.same hG), .val (.string (str ([4, 0, 6, 6, 0] : List UInt8))), .val (.bool true), .val (.bool true), .val (.bool true)] w.heap.size (by kernel_rfl) (by simp) (by kernel_rfl) (by kernel_rfl) (fun _ h => h.size) (Abv.start _) ?_
  simp only [List.take_succ_cons, List.take_zero, List.drop_succ_cons, List.drop_zero]
  refine fst2_ex (fun W hC hh => ok2_callex (by rfl) (k_run_call_7_2 (.const (.slice none 0 0)) (.const (.int .i64 64)) rfl rfl rfl W) ((putInt_calls none [] 0 64 (by decide) W (Reads.nil _ _) (by simp) (fun _ => rfl)).mono fun e W' ⟨v_, h1_, h2_, h3_⟩ => ⟨v_, h1_, h2_.lower hC.size, hC.step h3_, h3_⟩)) fun v3 => ?_
  simp only [nf0, nf1, nf2, nf3, nf4]
  refine fst2_val (fun W hC hh => ok2_value (v := (.string (str ([] ++ vb (zig 64))))) (by rfl) (run_convB (.tmp 1) rfl rfl (hh _ (.head _) (by show (0 : Nat) ∈ _; decide))) rfl hC (G0.refl _)) ?_
  simp only [nf0, nf1, nf2, nf3, nf4]
  refine fst2_val (fun W hC hh => ok2_value (v := (.bool true)) (by rfl) (run_eql_text_t (.tmp 2) (.const (.string ⟨#[128, 1]⟩)) (l := ([] ++ vb (zig 64))) (m := [128, 1]) rfl rfl rfl pl1 W) rfl hC (G0.refl _)) ?_
  simp only [nf0, nf1, nf2, nf3, nf4]
  refine fst2_val (fun W hC hh => ok2_value (v := (.bool true)) (by rfl) (by rfl) rfl hC (G0.refl _)) ?_
  simp only [nf0, nf1, nf2, nf3, nf4]
  refine fst2_ex (fun W hC hh => ok2_callex (by rfl) (k_run_call_7_2 (.const (.slice none 0 0)) (.const (.int .i64 (-1))) rfl rfl rfl W) ((putInt_calls none [] 0 (-1) (by decide) W (Reads.nil _ _) (by simp) (fun _ => rfl)).mono fun e W' ⟨v_, h1_, h2_, h3_⟩ => ⟨v_, h1_, h2_.lower hC.size, hC.step h3_, h3_⟩)) fun v6 => ?_
  simp only [nf0, nf1, nf2, nf3, nf4]
  refine fst2_val (fun W hC hh => ok2_value (v := (.string (str ([] ++ vb (zig (-1)))))) (by rfl) (run_convB (.tmp 5) rfl rfl (hh _ (.head _) (by show (4 : Nat) ∈ _; decide))) rfl hC (G0.refl _)) ?_
  simp only [nf0, nf1, nf2, nf3, nf4]
  refine fst2_val (fun W hC hh => ok2_value (v := (.bool true)) (by rfl) (run_eql_text_t (.tmp 6) (.const (.string ⟨#[1]⟩)) (l := ([] ++ vb (zig (-1)))) (m := [1]) rfl rfl rfl pl2 W) rfl hC (G0.refl _)) ?_
  simp only [nf0, nf1, nf2, nf3, nf4]
  refine fst2_val (fun W hC hh => ok2_value (v := (.bool true)) (by rfl) (by rfl) rfl hC (G0.refl _)) ?_
  simp only [nf0, nf1, nf2, nf3, nf4]
  refine fst2_val (fun W hC hh => ok2_value (v := (.bool true)) (by rfl) (by rfl) rfl hC (G0.refl _)) ?_
  simp only [nf0, nf1, nf2, nf3, nf4]
  refine fst2_ex (fun W hC hh => ok2_ex (by rfl) (k_run_lit_67_5 (.const (.int .i64 0)) (.const (.int .i64 1)) (.const (.int .i64 2)) (.const (.int .i64 3)) (.const (.int .i64 8)) rfl rfl rfl rfl rfl rfl W) (OwnR.built (xs := ([0, 1, 2, 3, 8] : List Int)) (Blk.new _ _ _ _ rfl) (by rfl) hC.size (by simp) rfl) (hC.step (bl_alloc (Below.refl _ _) _)) (bl_alloc (Below.refl _ _) _)) fun v7 => ?_
  simp only [nf0, nf1, nf2, nf3, nf4]
  refine fst2_val (fun W hC hh => ok2_call (by rfl) (k_run_call_28_1 (.tmp 10) rfl rfl W) ((make_own (hh _ (.head _) (by show (9 : Nat) ∈ _; decide)) (by simp)).mono fun e W' ⟨h1, h2⟩ => ⟨h1, hC.step h2, h2⟩)) ?_
  simp only [nf0, nf1, nf2, nf3, nf4]
  refine fst2_ex (fun W hC hh => ok2_callex (by rfl) (k_run_call_12_2 (.const (.slice none 0 0)) (.tmp 11) rfl rfl rfl W) ((putSet_calls none [] 0 (mk ([0, 1, 2, 3, 8] : List Int)) (mk_sm _) W (Reads.nil _ _) (by simp) (fun _ => rfl) (hT.same (bl_step bel hC))).mono fun e W' ⟨v_, h1_, h2_, h3_⟩ => ⟨v_, h1_, h2_.lower hC.size, hC.step h3_, h3_⟩)) fun v10 => ?_
  simp only [nf0, nf1, nf2, nf3, nf4]
  refine fst2_val (fun W hC hh => ok2_value (v := (.string (str ([] ++ setB (mk ([0, 1, 2, 3, 8] : List Int)))))) (by rfl) (run_convB (.tmp 12) rfl rfl (hh _ (.head _) (by show (11 : Nat) ∈ _; decide))) rfl hC (G0.refl _)) ?_
  simp only [nf0, nf1, nf2, nf3, nf4]
  refine fst2_ex (fun W hC hh => ok2_ex (by rfl) (k_run_lit_22_5 (.const (.int .u8 4)) (.const (.int .u8 0)) (.const (.int .u8 6)) (.const (.int .u8 6)) (.const (.int .u8 0)) rfl rfl rfl rfl rfl rfl W) (OwnR.built (xs := ([4, 0, 6, 6, 0] : List UInt8)) (Blk.new _ _ _ _ rfl) (by rfl) hC.size (by simp) rfl) (hC.step (bl_alloc (Below.refl _ _) _)) (bl_alloc (Below.refl _ _) _)) fun v11 => ?_
  simp only [nf0, nf1, nf2, nf3, nf4]
  refine fst2_val (fun W hC hh => ok2_value (v := (.string (str ([4, 0, 6, 6, 0] : List UInt8)))) (by rfl) (run_convB (.tmp 14) rfl rfl (hh _ (.head _) (by show (13 : Nat) ∈ _; decide))) rfl hC (G0.refl _)) ?_
  simp only [nf0, nf1, nf2, nf3, nf4]
  refine fst2_val (fun W hC hh => ok2_value (v := (.bool true)) (by rfl) (run_eql_text_t (.tmp 13) (.tmp 15) (l := ([] ++ setB (mk ([0, 1, 2, 3, 8] : List Int)))) (m := ([4, 0, 6, 6, 0] : List UInt8)) rfl rfl rfl pl3 W) rfl hC (G0.refl _)) ?_
  simp only [nf0, nf1, nf2, nf3, nf4]
  refine fst2_val (fun W hC hh => ok2_value (v := (.bool true)) (by rfl) (by rfl) rfl hC (G0.refl _)) ?_
  simp only [nf0, nf1, nf2, nf3, nf4]
  refine fst2_val (fun W hC hh => ok2_value (v := (.bool true)) (by rfl) (by rfl) rfl hC (G0.refl _)) ?_
  simp only [nf0, nf1, nf2, nf3, nf4]
  refine fst2_nil fun w12 hC hh hnd => ?_
  replace hC : Below w.heap.size w w12 := hC
  clear hh hnd
  replace bel := bl_step bel hC
  clear hC
  refine wpList_nil ?_
  show Code.wp _ _ _ _ _
  refine wp_ret ?_
  first | show bodyPost _ _ _ _ _ _ | (simp only [Exit.then, Exit.inBlock]; show bodyPost _ _ _ _ _ _)
  exact bodyPost_ret (results_tmp rfl _ _ _) rfl ⟨rfl, bel⟩
end Go.Proofs.YtckmihjekgbcmaaDoor

/- What single operations on texts yield: joined, cut. -/
namespace Go.Proofs.YtckmihjekgbcmaaDoor
open Go.RowKit

section
variable {P : Program} {o : Oper} {a : Act} (x y : Operand) {t t' : TypeId} {k : IntKind} {m n : Int}

theorem run_add_text (ho : o.op = .binOp .add t x y t') {l m : List UInt8} (hx : a.eval x = .string (str l)) (hy : a.eval y = .string (str m)) (h : l.length + m.length ≤ 9223372036854775807) (W : World) : (execOp a.eval o).run P W = .ok (.value (.string (str (l ++ m)))) W := by
  have e : str l ++ str m = str (l ++ m) := by
    apply ByteArray.ext
    rw [ByteArray.data_append]
    simp [str]
  have hb : Op.stringOp .add (str l) (str m) = pure (.string (str (l ++ m))) := by
    unfold Op.stringOp
    simp only
    rw [if_neg (by rw [str_size, str_size, show IntKind.i64.max = 9223372036854775807 from rfl]; omega), e]
  unfold execOp; simp only [ho, hx, hy]
  simp [eqGuard, binOp, hb]
theorem run_cut_text (ho : o.op = .slice t x none (some y) none) (ht : P.underlying t = some .string) {l : List UInt8} (hx : a.eval x = .string (str l)) {N : Int} (n : Nat) (hN : N = (n : Int)) (hy : a.eval y = .int k (min (l.length : Int) N)) (W : World) :
    (execOp a.eval o).run P W = .ok (.value (.string (str (l.take n)))) W := by
  subst hN
  have h0 : (0 : Int) ≤ min (l.length : Int) (n : Int) := by omega
  have h1 : min (l.length : Int) (n : Int) ≤ ((str l).size : Int) := by rw [str_size]; omega
  have e : (str l).extract 0 (min (l.length : Int) (n : Int)).toNat = str (l.take n) := by
    apply ByteArray.ext
    rw [ByteArray.data_extract]
    apply Array.ext'
    rw [Array.toList_extract]
    simp only [str, List.extract_eq_take_drop, List.drop_zero, Nat.sub_zero]
    rw [show (min (l.length : Int) (n : Int)).toNat = min n l.length from by omega, List.take_eq_take_iff]
    omega
  unfold execOp; simp only [ho]; generalize a.eval = ρ at *
  have r2 := run_slice_string_h (P := P) W t (str l) ht k (min (l.length : Int) (n : Int)) h0 h1
  simp only [Option.map_none, Option.map_some, hx, hy, Sem.run_bind]
  rw [run_sliceAt_string W t _ _ _ _ ht, r2, e]
  rfl
end
end Go.Proofs.YtckmihjekgbcmaaDoor

/- A slice of bytes among the arguments, laid open; how many bytes a read number has. -/
namespace Go.Proofs.YtckmihjekgbcmaaDoor
open Go.RowKit Go.WideShapes Go.ChangeShapes

theorem open_bytes {H : Type} {enc : TypeId × Value → H} {w : World} {r : Reach} {b0 base : Nat} {spare : Nat → Bool} {held : Bool} {v : Value} {d : DataW H} {ps : List MemPlace}
    (hval : Value.okWide Tryd.prog w r b0 22 v) (h : DataW.Trod enc Tryd.prog w base spare held 22 v d ps) :
    ∃ (A : Option Addr) (xs : List UInt8) (cap : Nat), v = .slice A xs.length cap ∧ xs.length ≤ cap ∧ (A = none → cap = 0) ∧ Reads w A (eByte.all xs) := by
  obtain ⟨A, xs, cap, rfl, hl, _, hA, ho, hr⟩ := open_int_list Tryd.underlying22 Tryd.underlying5 (by kernel_rfl) hval h
  refine ⟨A, xs.map fun x => UInt8.ofNat x.toNat, cap, by rw [List.length_map], by rw [List.length_map]; exact hl, hA, ?_⟩
  rw [eByte_all, List.map_map]
  have e : xs.map ((fun b : UInt8 => Value.int .u8 (b.toNat : Int)) ∘ fun x => UInt8.ofNat x.toNat) = xs.map (Value.int .u8) := by
    refine List.map_congr_left fun x hx => ?_
    have h1 := ho x hx
    have h2 : 0 ≤ x ∧ x ≤ 255 := by
      simp [Lit.wf, IntKind.min, IntKind.max, IntKind.bits, IntKind.signed] at h1
      omega
    show Value.int .u8 (((UInt8.ofNat x.toNat).toNat : Nat) : Int) = _
    rw [ofNat_toNat (by omega)]
    congr 1
    omega
  rw [e]; exact hr
theorem I64_of {n : Int} (h : (Lit.int .i64 n).wf = true) : I64 n := by
  simp [Lit.wf, IntKind.min, IntKind.max, IntKind.bits, IntKind.signed] at h
  unfold I64; omega
theorem gi_len : ∀ {cs : List UInt8} {i u r k : Nat}, gi cs i u = some (r, k) → i < k ∧ k ≤ i + cs.length
  | [], i, u, r, k, h => by simp [gi] at h
  | c :: cs, i, u, r, k, h => by
    rw [gi] at h
    rw [List.length_cons]
    split at h
    · have := gi_len h; omega
    · split at h
      · cases h
      · injection h with h; injection h with h1 h2; omega
theorem getAt_len {l : List UInt8} {p u m : Nat} (h : getAt l p = some (u, m)) : 0 < m ∧ m ≤ 10 ∧ p + m ≤ l.length := by
  have h1 := gi_len h
  rw [List.length_take, List.length_drop] at h1
  omega
end Go.Proofs.YtckmihjekgbcmaaDoor

/- A set's bytes, read: plain laws. -/
namespace Go.Proofs.YtckmihjekgbcmaaDoor
open Go.RowKit Go.WideShapes Go.ChangeShapes

/-! ### what is read stands so -/
theorem gi_canon : ∀ {cs : List UInt8} {i u r k : Nat}, gi cs i u = some (r, k) → ∃ x, r = u + x * 2 ^ (7 * i) ∧ vb x = cs.take (k - i) ∧ (x ≠ 0 ∨ i = 0)
  | [], i, u, r, k, h => by simp [gi] at h
  | c :: cs, i, u, r, k, h => by
    have hc : c.toNat < 256 := UInt8.toNat_lt c
    have hcc : UInt8.ofNat c.toNat = c := by simp
    rw [gi] at h
    split at h
    · have hk := gi_len h
      obtain ⟨x, h1, h2, h3⟩ := gi_canon h
      have hx : x ≠ 0 := by rcases h3 with h3 | h3; exact h3; omega
      refine ⟨c.toNat % 128 + 128 * x, ?_, ?_, .inl (by omega)⟩
      · rw [h1, show 7 * (i + 1) = 7 * i + 7 by omega, Nat.pow_add, Nat.add_assoc, Nat.add_mul]
        congr 2
        rw [show (2 : Nat) ^ 7 = 128 from rfl, Nat.mul_comm 128 x, Nat.mul_assoc, Nat.mul_comm 128 (2 ^ (7 * i))]
      · rw [vb_high (by omega), show (c.toNat % 128 + 128 * x) % 128 + 128 = c.toNat by omega, show (c.toNat % 128 + 128 * x) / 128 = x by omega, hcc, h2, show k - i = (k - (i + 1)) + 1 by omega, List.take_succ_cons]
    · split at h
      · cases h
      · rename_i h4 h5
        injection h with h; injection h with h1 h2
        refine ⟨c.toNat, h1.symm, ?_, by omega⟩
        rw [vb_low (by omega), hcc, ← h2, Nat.add_sub_cancel_left]; rfl
theorem getAt_canon {l : List UInt8} {p u m : Nat} (h : getAt l p = some (u, m)) : vb u = (l.drop p).take m := by
  have hl := getAt_len h
  obtain ⟨x, h1, h2, _⟩ := gi_canon h
  have : x = u := by simp at h1; omega
  rw [← this, h2, List.take_take, Nat.sub_zero, Nat.min_eq_left (by omega)]
theorem getAt_vbr {u : Nat} (h : u < 2 ^ 64) (l r : List UInt8) : getAt (l ++ (vb u ++ r)) l.length = some (u, (vb u).length) := by
  unfold getAt
  rw [List.drop_left]
  have := gi_vb u 0 0 r (by omega) (by simpa using h) (.inr rfl)
  simpa using this

/-! ### rows of neighbours -/
theorem nextFrom_is {S m : Nat} : ∀ {f n : Nat}, n ≤ m → m < n + f → S.testBit m = true → (∀ j, n ≤ j → j < m → S.testBit j = false) → nextFrom S f n = some m
  | 0, n, h1, h2, _, _ => by omega
  | f + 1, n, h1, h2, h3, h4 => by
    rw [nextFrom]
    by_cases e : n = m
    · subst e; rw [if_pos h3]
    · rw [if_neg (by rw [h4 n (Nat.le_refl _) (by omega)]; simp)]
      exact nextFrom_is (by omega) (by omega) h3 fun j hj => h4 j (by omega)
theorem nextFrom_isnone {S : Nat} : ∀ {f n : Nat}, (∀ j, n ≤ j → S.testBit j = false) → nextFrom S f n = none
  | 0, _, _ => rfl
  | f + 1, n, h => by
    rw [nextFrom, if_neg (by rw [h n (Nat.le_refl _)]; simp)]
    exact nextFrom_isnone fun j hj => h j (by omega)
theorem runFrom_is {S m : Nat} : ∀ {r f : Nat}, r < f → (∀ j, m ≤ j → j < m + r → S.testBit j = true) → S.testBit (m + r) = false → runFrom S f m = r
  | _, 0, h, _, _ => by omega
  | 0, f + 1, _, _, h2 => by rw [runFrom, if_neg (by simpa using h2)]
  | r + 1, f + 1, h, h1, h2 => by
    rw [runFrom, if_pos (h1 m (Nat.le_refl _) (by omega)), runFrom_is (r := r) (by omega) (fun j a b => h1 j (by omega) (by omega)) (by rw [show m + 1 + r = m + (r + 1) by omega]; exact h2)]
theorem run_true {S m : Nat} : ∀ {f j : Nat}, m ≤ j → j < m + runFrom S f m → S.testBit j = true := by
  intro f
  induction f generalizing m with
  | zero => intro j h1 h2; simp [runFrom] at h2; omega
  | succ f ih =>
    intro j h1 h2
    rw [runFrom] at h2
    split at h2
    · by_cases e : j = m
      · subst e; assumption
      · exact ih (m := m + 1) (by omega) (by omega)
    · omega
theorem run_false {S m : Nat} (hS : Sm S) (hm : m ≤ 1024) : S.testBit (m + runFrom S 1025 m) = false := by
  have key : ∀ (f m : Nat), m < 1025 → 1025 ≤ m + f → S.testBit (m + runFrom S f m) = false := by
    intro f
    induction f with
    | zero => intro m h1 h2; omega
    | succ f ih =>
      intro m h1 h2
      rw [runFrom]
      split
      · rename_i hb
        have hm' : m < 1024 := by
          rcases Nat.lt_or_ge m 1024 with g | g
          · exact g
          · have := hS m g; simp_all
        have := ih (m + 1) (by omega) (by omega)
        rwa [show m + 1 + runFrom S f (m + 1) = m + (runFrom S f (m + 1) + 1) by omega] at this
      · rename_i hb; simpa using hb
  exact key 1025 m (by omega) (by omega)

/-! ### reading a set -/
def readRows (l : List UInt8) : Nat → Nat → Nat → Nat → Option (Nat × Nat)
  | 0, p, _, S => some (S, p)
  | c + 1, p, f, S => match getAt l p with
    | none => none
    | some (u1, m1) => match getAt l (p + m1) with
      | none => none
      | some (u2, m2) => if zag u1 < 0 ∨ zag u2 < 0 ∨ 1024 - (f : Int) ≤ zag u1 ∨ 1024 - (f : Int) - zag u1 ≤ zag u2 then none
          else readRows l c (p + m1 + m2) (min (f + (zag u1).toNat + (zag u2).toNat + 2) 1024) (S ||| rng ((f : Int) + zag u1) ((f : Int) + zag u1 + zag u2))
def setAt (l : List UInt8) (p : Nat) : Option (Nat × Nat) := match getAt l p with
  | none => none
  | some (u, m) => if zag u < 0 ∨ 1024 < zag u then none else readRows l (zag u).toNat (p + m) 0 0

theorem rng_bit {a b j : Nat} (h : b < 1024) : (rng (a : Int) (b : Int)).testBit j = decide (a ≤ j ∧ j ≤ b) := by
  rw [testBit_rng, decide_eq_decide]; omega
theorem readRows_sm {l : List UInt8} : ∀ {c p f S Y e : Nat}, Sm S → readRows l c p f S = some (Y, e) → Sm Y
  | 0, p, f, S, Y, e, hS, h => by injection h with h; injection h with h1 h2; subst h1; exact hS
  | c + 1, p, f, S, Y, e, hS, h => by
    rw [readRows] at h
    split at h
    · cases h
    · split at h
      · cases h
      · split at h
        · cases h
        · exact readRows_sm (or_sm hS (rng_sm _ _)) h
/-- What is read is written so. -/
theorem readRows_back {l : List UInt8} : ∀ {c p f S Y e : Nat}, readRows l c p f S = some (Y, e) → p ≤ l.length → f ≤ 1024 →
    ∃ V : Nat, Y = S ||| V ∧ (∀ j, V.testBit j = true → f ≤ j ∧ j < 1024) ∧ p ≤ e ∧ e ≤ l.length ∧
      ∀ (X n q fuel : Nat), Sm X → (∀ j, n ≤ j → X.testBit j = V.testBit j) → (q = f ∨ (1024 ≤ q ∧ f = 1024)) → n ≤ q → q ≤ n + 1 → 1025 ≤ fuel + n →
        (rowsFrom X fuel n q).length = 2 * c ∧ vbs (rowsFrom X fuel n q) = (l.drop p).take (e - p)
  | 0, p, f, S, Y, e, h, hp, hf => by
    injection h with h; injection h with h1 h2
    subst h1 h2
    refine ⟨0, by simp, fun j hj => by simp at hj, Nat.le_refl _, hp, fun X n q fuel hX hx _ _ _ _ => ?_⟩
    rw [rows_end (nextFrom_isnone fun j hj => by rw [hx j hj]; simp), Nat.sub_self, List.take_zero]
    exact ⟨rfl, rfl⟩
  | c + 1, p, f, S, Y, e, h, hp, hf => by
    rw [readRows] at h
    split at h
    · cases h
    · rename_i u1 m1 hg1
      split at h
      · cases h
      · rename_i u2 m2 hg2
        split at h
        · cases h
        · rename_i hz
          obtain ⟨a, ha⟩ : ∃ a : Nat, zag u1 = a := ⟨(zag u1).toNat, by omega⟩
          obtain ⟨b, hb⟩ : ∃ b : Nat, zag u2 = b := ⟨(zag u2).toNat, by omega⟩
          rw [ha, hb] at hz h
          have l1 := getAt_len hg1
          have l2 := getAt_len hg2
          have c1 := getAt_canon hg1
          have c2 := getAt_canon hg2
          have z1 : zig (a : Int) = u1 := by rw [← ha]; exact zig_zag u1
          have z2 : zig (b : Int) = u2 := by rw [← hb]; exact zig_zag u2
          rw [Int.toNat_natCast, Int.toNat_natCast] at h
          obtain ⟨V, h1, h2, h3, h4, h5⟩ := readRows_back h (by omega) (by omega)
          have hr : ∀ j, (rng ((f : Int) + (a : Int)) ((f : Int) + (a : Int) + (b : Int))).testBit j = decide (f + a ≤ j ∧ j ≤ f + a + b) := fun j => by
            rw [show (f : Int) + (a : Int) = ((f + a : Nat) : Int) by omega, show ((f + a : Nat) : Int) + (b : Int) = ((f + a + b : Nat) : Int) by omega]
            exact rng_bit (by omega)
          refine ⟨rng ((f : Int) + (a : Int)) ((f : Int) + (a : Int) + (b : Int)) ||| V, by rw [h1, Nat.or_assoc], ?_, by omega, h4, ?_⟩
          · intro j hj
            rw [Nat.testBit_or, Bool.or_eq_true, hr, decide_eq_true_eq] at hj
            rcases hj with hj | hj
            · omega
            · have := h2 j hj; omega
          · intro X n q fuel hX hx hq hnq hqn hfu
            obtain rfl : q = f := by omega
            have hx' : ∀ j, n ≤ j → X.testBit j = (decide (q + a ≤ j ∧ j ≤ q + a + b) || V.testBit j) := fun j hj => by rw [hx j hj, Nat.testBit_or, hr]
            have hV : ∀ j, j < min (q + a + b + 2) 1024 → V.testBit j = false := fun j hj => by
              cases hv : V.testBit j with
              | false => rfl
              | true => have := h2 j hv; omega
            have hn : nextFrom X 1025 n = some (q + a) := nextFrom_is (by omega) (by omega) (by rw [hx' _ (by omega)]; simp) fun j j1 j2 => by
              rw [hx' j j1, hV j (by omega), decide_eq_false (by omega)]; rfl
            have hru : runFrom X 1025 (q + a) = b + 1 := runFrom_is (by omega) (fun j j1 j2 => by rw [hx' j (by omega), decide_eq_true (by omega)]; rfl) (by
              rcases Nat.lt_or_ge (q + a + (b + 1)) 1024 with g | g
              · rw [hx' _ (by omega), hV _ (by omega), decide_eq_false (by omega)]; rfl
              · exact hX _ g)
            obtain ⟨hf1, hf2⟩ := rows_go (p := q) hX hn hfu
            rw [hru] at hf1 hf2
            obtain ⟨e1, e2⟩ := h5 X (q + a + (b + 1)) (q + a + (b + 1) + 1) (fuel - 1) hX (fun j hj => by rw [hx' j (by omega), decide_eq_false (by omega)]; rfl) (by omega) (by omega) (by omega) hf1
            rw [hf2]
            refine ⟨by simp only [List.length_cons]; omega, ?_⟩
            rw [vbs_cons, vbs_cons, e2, show ((q + a : Nat) : Int) - (q : Int) = (a : Int) by omega, show ((b + 1 : Nat) : Int) - 1 = (b : Int) by omega, z1, z2, c1, c2]
            rw [show e - p = m1 + (m2 + (e - (p + m1 + m2))) by omega, List.take_add, List.take_add, List.drop_drop, List.drop_drop]
theorem setAt_back {l : List UInt8} {Y e : Nat} (h : setAt l 0 = some (Y, e)) : e ≤ l.length ∧ setB Y = l.take e ∧ Sm Y := by
  unfold setAt at h
  split at h
  · cases h
  · rename_i u m hg
    split at h
    · cases h
    · rename_i hz
      obtain ⟨c, hc⟩ : ∃ c : Nat, zag u = c := ⟨(zag u).toNat, by omega⟩
      have hl := getAt_len hg
      have hcan := getAt_canon hg
      have z : zig (c : Int) = u := by rw [← hc]; exact zig_zag u
      rw [hc, Int.toNat_natCast] at h
      have hsm := readRows_sm (S := 0) (fun k hk => by simp) h
      obtain ⟨V, h1, h2, h3, h4, h5⟩ := readRows_back h (by omega) (by omega)
      rw [Nat.zero_or] at h1
      subst h1
      obtain ⟨e1, e2⟩ := h5 Y 0 0 1025 hsm (fun j _ => rfl) (.inl rfl) (by omega) (by omega) (by omega)
      refine ⟨h4, ?_, hsm⟩
      unfold setB rowsL
      rw [e1, show 2 * c / 2 = c by omega, z, hcan, e2, List.drop_zero, Nat.zero_add]
      conv => rhs; rw [show e = m + (e - m) by omega, List.take_add]
theorem zig_I64_lt {n : Int} (h : -1 ≤ n ∧ n ≤ 1024) : zig n < 2 ^ 64 := zig_lt (by omega)
/-- What was written is read. -/
theorem readRows_fwd {S : Nat} (hS : Sm S) : ∀ (fuel n q T : Nat) (l : List UInt8), n ≤ q → q ≤ n + 1 → (∀ j, n ≤ j → j < q → S.testBit j = false) → 1025 ≤ fuel + n →
    ∃ X, readRows (l ++ vbs (rowsFrom S fuel n q)) ((rowsFrom S fuel n q).length / 2) l.length (min q 1024) T = some (X, (l ++ vbs (rowsFrom S fuel n q)).length) ∧ ∀ j, X.testBit j = (T.testBit j || (decide (n ≤ j) && S.testBit j))
  | 0, n, q, T, l, h1, h2, h3, h4 => by
    refine ⟨T, by simp [rowsFrom, readRows, vbs], fun j => ?_⟩
    by_cases hj : n ≤ j
    · rw [hS j (by omega)]; simp
    · simp [hj]
  | fuel + 1, n, q, T, l, h1, h2, h3, h4 => by
    cases hn : nextFrom S 1025 n with
    | none =>
      refine ⟨T, by simp [rows_end hn, readRows, vbs], fun j => ?_⟩
      by_cases hj : n ≤ j
      · rw [noNext_of hS hn j (by omega)]; simp
      · simp [hj]
    | some m =>
      obtain ⟨g1, g2, g3⟩ := next_lt hS hn
      obtain ⟨_, _, _, g4⟩ := nextFrom_some hn
      have hra := run_at hS g3
      have hrl := run_le hS 1025 m (by omega)
      have hrt : ∀ j, m ≤ j → j < m + runFrom S 1025 m → S.testBit j = true := fun j => run_true
      have hrf := run_false hS (m := m) (by omega)
      obtain ⟨hf1, hf2⟩ := rows_go (p := q) hS hn h4
      rw [Nat.add_sub_cancel] at hf1 hf2
      generalize runFrom S 1025 m = r at *
      have hqm : q ≤ m := by
        rcases Nat.lt_or_ge m q with g | g
        · have := h3 m g1 g; rw [this] at g3; cases g3
        · exact g
      obtain ⟨a, rfl⟩ : ∃ a, m = q + a := ⟨m - q, by omega⟩
      obtain ⟨b, rfl⟩ : ∃ b, r = b + 1 := ⟨r - 1, by omega⟩
      rw [show ((q + a : Nat) : Int) - (q : Int) = (a : Int) by omega, show ((b + 1 : Nat) : Int) - 1 = (b : Int) by omega] at hf2
      rw [hf2, vbs_cons, vbs_cons]
      obtain ⟨X, e1, e2⟩ := readRows_fwd hS fuel (q + a + (b + 1)) (q + a + (b + 1) + 1) (T ||| rng ((min q 1024 : Nat) + (a : Int)) ((min q 1024 : Nat) + (a : Int) + (b : Int))) (l ++ (vb (zig a) ++ vb (zig b))) (by omega) (by omega) (fun j j1 j2 => (show j = q + a + (b + 1) by omega) ▸ hrf) hf1
      generalize rowsFrom S fuel (q + a + (b + 1)) (q + a + (b + 1) + 1) = rest at *
      refine ⟨X, ?_, fun j => ?_⟩
      · have k1 : getAt (l ++ (vb (zig a) ++ (vb (zig b) ++ vbs rest))) l.length = some (zig a, (vb (zig a)).length) := getAt_vbr (zig_I64_lt (by omega)) l _
        have k2 : getAt (l ++ (vb (zig a) ++ (vb (zig b) ++ vbs rest))) (l.length + (vb (zig a)).length) = some (zig b, (vb (zig b)).length) := by
          have := getAt_vbr (u := zig b) (zig_I64_lt (by omega)) (l ++ vb (zig a)) (vbs rest)
          rwa [List.append_assoc, List.length_append] at this
        rw [List.append_assoc, List.append_assoc] at e1
        rw [show (((a : Int) :: (b : Int) :: rest).length) / 2 = rest.length / 2 + 1 by simp only [List.length_cons]; omega, readRows, k1]
        dsimp only
        rw [k2]
        dsimp only
        rw [zag_zig, zag_zig, if_neg (by omega), Int.toNat_natCast, Int.toNat_natCast, ← e1]
        rw [show min (q + a + (b + 1) + 1) 1024 = min (min q 1024 + a + b + 2) 1024 by omega]
        congr 1
        simp only [List.length_append]; omega
      · rw [e2, Nat.testBit_or, show ((min q 1024 : Nat) : Int) + (a : Int) = ((q + a : Nat) : Int) by omega, show ((q + a : Nat) : Int) + (b : Int) = ((q + a + b : Nat) : Int) by omega, rng_bit (by omega)]
        rcases Nat.lt_or_ge j n with j1 | j1
        · rw [decide_eq_false (p := q + a ≤ j ∧ j ≤ q + a + b) (by omega), decide_eq_false (p := q + a + (b + 1) ≤ j) (by omega), decide_eq_false (p := n ≤ j) (by omega)]; simp
        · rw [decide_eq_true (p := n ≤ j) j1]
          rcases Nat.lt_or_ge j (q + a) with j2 | j2
          · rw [g4 j j1 j2, decide_eq_false (p := q + a ≤ j ∧ j ≤ q + a + b) (by omega)]; simp
          · rcases Nat.lt_or_ge j (q + a + (b + 1)) with j3 | j3
            · rw [hrt j j2 j3, decide_eq_true (p := q + a ≤ j ∧ j ≤ q + a + b) (by omega)]; simp
            · rw [decide_eq_false (p := q + a ≤ j ∧ j ≤ q + a + b) (by omega), decide_eq_true (p := q + a + (b + 1) ≤ j) j3]; simp
theorem rowsL_even {S : Nat} (hS : Sm S) : (rowsL S).length / 2 ≤ 1024 := by
  have := rowsL_len hS; omega
theorem setAt_fwd {S : Nat} (hS : Sm S) (l : List UInt8) : setAt (l ++ setB S) l.length = some (S, (l ++ setB S).length) := by
  have hle := rowsL_even hS
  unfold setAt setB
  rw [getAt_vbr (zig_lt (by omega)) l]
  dsimp only
  rw [zag_zig, if_neg (by omega), Int.toNat_natCast]
  obtain ⟨X, e1, e2⟩ := readRows_fwd hS 1025 0 0 0 (l ++ vb (zig (((rowsL S).length / 2 : Nat) : Int))) (by omega) (by omega) (fun j _ h => by omega) (by omega)
  have hX : X = S := Nat.eq_of_testBit_eq fun j => by rw [e2]; simp
  subst hX
  rw [List.length_append, List.append_assoc] at e1
  exact e1
end Go.Proofs.YtckmihjekgbcmaaDoor

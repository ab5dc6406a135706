/- codec's GetSet. -/
import Derived.Test.YtckmihjekgbcmaaDoorCodeSetRd
namespace Go.Proofs.YtckmihjekgbcmaaDoor
open Go.RowKit Go.WideShapes Go.ChangeShapes
set_option linter.unusedSimpArgs false
set_option linter.unusedVariables false

theorem m_run_call_8_2 {o : Oper} {a : Act} (x0 : Operand) (x1 : Operand) {ts : Array TypeId} (ho : o.op = .call { callee := .value (.func 8), args := #[x0, x1], argTypes := ts }) {v0 : Value} (h0 : a.eval x0 = v0) {v1 : Value} (h1 : a.eval x1 = v1) (W : World) : (execOp a.eval o).run Tryd.prog W = .ok (.enter 8 #[v0, v1]) W := by
  unfold execOp
  simp only [ho]
  subst h0 h1
  go_simp
theorem m_run_call_31_2 {o : Oper} {a : Act} (x0 : Operand) (x1 : Operand) {ts : Array TypeId} (ho : o.op = .call { callee := .value (.func 31), args := #[x0, x1], argTypes := ts }) {v0 : Value} (h0 : a.eval x0 = v0) {v1 : Value} (h1 : a.eval x1 = v1) (W : World) : (execOp a.eval o).run Tryd.prog W = .ok (.enter 31 #[v0, v1]) W := by
  unfold execOp
  simp only [ho]
  subst h0 h1
  go_simp
theorem m_run_call_32_2 {o : Oper} {a : Act} (x0 : Operand) (x1 : Operand) {ts : Array TypeId} (ho : o.op = .call { callee := .value (.func 32), args := #[x0, x1], argTypes := ts }) {v0 : Value} (h0 : a.eval x0 = v0) {v1 : Value} (h1 : a.eval x1 = v1) (W : World) : (execOp a.eval o).run Tryd.prog W = .ok (.enter 32 #[v0, v1]) W := by
  unfold execOp
  simp only [ho]
  subst h0 h1
  go_simp

attribute [local irreducible] Go.wpList Go.Code.wp
set_option maxRecDepth 100000 in
set_option maxHeartbeats 4000000 in
theorem getSet_calls (A : Option Addr) (l : List UInt8) (cap p0 : Nat) (hcap : l.length ≤ cap) (hl : l.length ≤ 1000000) (hp0 : p0 ≤ l.length) (w : World) (hr : Reads w A (eByte.all l)) : Calls Tryd.prog 13 #[.slice A l.length cap, .int .i64 (p0 : Int)] w fun e w' => e = .returned (sres (setAt l p0)) ∧ Below w.heap.size w w' := by
  have bel : Below w.heap.size w w := Below.refl _ _
  have hv0 := nv_I64 l p0
  have hne0 := ne_le l p0
  go_enter Tryd.func13, Tryd.ntmps13
  refine wp_seq ?_
  refine wp_region_lit ?_
  refine st_new (by rfl) (run_alloc_set rfl _) ?_
  intro g1 w2 B3 hb4 lo5
  simp only [nf0, nf1, nf2, nf3, nf4]
  replace lo5 := low_le bel lo5
  replace bel := bl_step bel hb4
  clear hb4
  refine st_mv (.int .i64 0) ?_
  simp only [nf0, nf1, nf2, nf3, nf4]
  refine st_mv (.bool false) ?_
  simp only [nf0, nf1, nf2, nf3, nf4]
  refine wpList_nil ?_
  show Code.wp _ _ _ _ _
  refine wp_seq ?_
  refine wp_region_lit ?_
  refine st_mv (.slice A l.length cap) ?_
  simp only [nf0, nf1, nf2, nf3, nf4]
  refine st_mv (.int .i64 (p0 : Int)) ?_
  simp only [nf0, nf1, nf2, nf3, nf4]
  refine st_call1 (v := (.tuple #[.int .i64 (nv l p0), .int .i64 ((ne l p0 : Nat) : Int), .bool (nk l p0)])) (by rfl) (m_run_call_8_2 (.tmp 16) (.tmp 17) rfl rfl rfl _) (getInt_tot A l cap p0 hcap (by omega) (by omega) w2 (hr.same bel)) ?_
  intro w6 hb7
  simp only [nf0, nf1, nf2, nf3, nf4]
  replace B3 := B3.below hb7
  replace bel := bl_step bel hb7
  clear hb7
  refine st_mv (.tuple #[.int .i64 (nv l p0), .int .i64 ((ne l p0 : Nat) : Int), .bool (nk l p0)]) ?_
  simp only [nf0, nf1, nf2, nf3, nf4]
  refine st_mv (.int .i64 (nv l p0)) ?_
  simp only [nf0, nf1, nf2, nf3, nf4]
  refine st_mv (.int .i64 ((ne l p0 : Nat) : Int)) ?_
  simp only [nf0, nf1, nf2, nf3, nf4]
  refine st_mv (.bool (nk l p0)) ?_
  simp only [nf0, nf1, nf2, nf3, nf4]
  refine st_mv (.int .i64 (nv l p0)) ?_
  simp only [nf0, nf1, nf2, nf3, nf4]
  refine st_mv (.int .i64 ((ne l p0 : Nat) : Int)) ?_
  simp only [nf0, nf1, nf2, nf3, nf4]
  refine st_mv (.bool (nk l p0)) ?_
  simp only [nf0, nf1, nf2, nf3, nf4]
  refine wpList_nil ?_
  show Code.wp _ _ _ _ _
  refine wp_seq ?_
  refine wp_seq ?_
  cases hg8 : nk l p0
  · have hp9 := trivial
    refine wp_region_lit ?_
    refine st_mv (.bool false) ?_
    simp only [nf0, nf1, nf2, nf3, nf4]
    refine st_value (v := (.bool true)) (by rfl) (run_not (.tmp 22) rfl (b := false) rfl w6) ?_
    simp only [nf0, nf1, nf2, nf3, nf4]
    refine st_mv (.bool true) ?_
    simp only [nf0, nf1, nf2, nf3, nf4]
    refine st_nob (j := 2) (t := 24) (c := true) rfl rfl rfl rfl rfl ?_
    simp only [nf0, nf1, nf2, nf3, nf4]
    refine st_nob (j := 2) (t := 24) (c := true) rfl rfl rfl rfl rfl ?_
    simp only [nf0, nf1, nf2, nf3, nf4]
    refine st_mv (.bool true) ?_
    simp only [nf0, nf1, nf2, nf3, nf4]
    refine st_mv (.bool true) ?_
    simp only [nf0, nf1, nf2, nf3, nf4]
    refine st_nob (j := 6) (t := 28) (c := true) rfl rfl rfl rfl rfl ?_
    simp only [nf0, nf1, nf2, nf3, nf4]
    refine st_nob (j := 6) (t := 28) (c := true) rfl rfl rfl rfl rfl ?_
    simp only [nf0, nf1, nf2, nf3, nf4]
    refine st_mv (.bool true) ?_
    simp only [nf0, nf1, nf2, nf3, nf4]
    refine wpList_nil ?_
    show Code.wp _ _ _ _ _
    refine wp_cond_true rfl ?_
    refine wp_seq ?_
    refine wp_region_lit ?_
    refine st_value (v := (.agg (setA 0))) (by rfl) (run_build_set rfl w6) ?_
    simp only [nf0, nf1, nf2, nf3, nf4]
    refine st_row (by rfl) (run_store_set (.tmp 4) (.tmp 32) rfl rfl (S := 0) rfl B3) B3 ?_
    intro w10 B12 hg11
    simp only [nf0, nf1, nf2, nf3, nf4]
    replace bel := bl_kept0 bel hg11 lo5
    clear hg11
    clear B3
    refine st_mv (.int .i64 0) ?_
    simp only [nf0, nf1, nf2, nf3, nf4]
    refine st_mv (.bool false) ?_
    simp only [nf0, nf1, nf2, nf3, nf4]
    refine wpList_nil ?_
    show Code.wp _ _ _ _ _
    refine wp_ret ?_
    first | show bodyPost _ _ _ _ _ _ | (simp only [Exit.then, Exit.inBlock]; show bodyPost _ _ _ _ _ _)
    have hE : setAt l p0 = none := setAt_no fun g1 a1 a2 => by rw [hg8] at g1; cases g1
    exact bodyPost_ret (results_set2' rfl _ _ _ _ rfl B12) rfl ⟨by rw [hE]; rfl, bel⟩
  have hp13 := trivial
  have hgk := hg8
  cases hg14 : decide ((nv l p0) < 0)
  rotate_left
  · have hp79 := of_decide_eq_true hg14
    refine wp_region_lit ?_
    refine st_mv (.bool true) ?_
    simp only [nf0, nf1, nf2, nf3, nf4]
    refine st_value (v := (.bool false)) (by rfl) (run_not (.tmp 22) rfl (b := true) rfl w6) ?_
    simp only [nf0, nf1, nf2, nf3, nf4]
    refine st_mv (.bool false) ?_
    simp only [nf0, nf1, nf2, nf3, nf4]
    refine st_mv (.int .i64 (nv l p0)) ?_
    simp only [nf0, nf1, nf2, nf3, nf4]
    refine st_value (v := (.bool true)) (by rfl) ((run_lss (.tmp 25) (.const (.int .i64 0)) rfl rfl rfl w6).trans (by rw [hg14])) ?_
    simp only [nf0, nf1, nf2, nf3, nf4]
    refine st_mv (.bool true) ?_
    simp only [nf0, nf1, nf2, nf3, nf4]
    refine st_mv (.bool true) ?_
    simp only [nf0, nf1, nf2, nf3, nf4]
    refine st_nob (j := 6) (t := 28) (c := true) rfl rfl rfl rfl rfl ?_
    simp only [nf0, nf1, nf2, nf3, nf4]
    refine st_nob (j := 6) (t := 28) (c := true) rfl rfl rfl rfl rfl ?_
    simp only [nf0, nf1, nf2, nf3, nf4]
    refine st_mv (.bool true) ?_
    simp only [nf0, nf1, nf2, nf3, nf4]
    refine wpList_nil ?_
    show Code.wp _ _ _ _ _
    refine wp_cond_true rfl ?_
    refine wp_seq ?_
    refine wp_region_lit ?_
    refine st_value (v := (.agg (setA 0))) (by rfl) (run_build_set rfl w6) ?_
    simp only [nf0, nf1, nf2, nf3, nf4]
    refine st_row (by rfl) (run_store_set (.tmp 4) (.tmp 32) rfl rfl (S := 0) rfl B3) B3 ?_
    intro w80 B82 hg81
    simp only [nf0, nf1, nf2, nf3, nf4]
    replace bel := bl_kept0 bel hg81 lo5
    clear hg81
    clear B3
    refine st_mv (.int .i64 0) ?_
    simp only [nf0, nf1, nf2, nf3, nf4]
    refine st_mv (.bool false) ?_
    simp only [nf0, nf1, nf2, nf3, nf4]
    refine wpList_nil ?_
    show Code.wp _ _ _ _ _
    refine wp_ret ?_
    first | show bodyPost _ _ _ _ _ _ | (simp only [Exit.then, Exit.inBlock]; show bodyPost _ _ _ _ _ _)
    have hE : setAt l p0 = none := setAt_no fun g1 a1 a2 => by omega
    exact bodyPost_ret (results_set2' rfl _ _ _ _ rfl B82) rfl ⟨by rw [hE]; rfl, bel⟩
  have hp15 := of_decide_eq_false hg14
  refine wp_region_lit ?_
  refine st_mv (.bool true) ?_
  simp only [nf0, nf1, nf2, nf3, nf4]
  refine st_value (v := (.bool false)) (by rfl) (run_not (.tmp 22) rfl (b := true) rfl w6) ?_
  simp only [nf0, nf1, nf2, nf3, nf4]
  refine st_mv (.bool false) ?_
  simp only [nf0, nf1, nf2, nf3, nf4]
  refine st_mv (.int .i64 (nv l p0)) ?_
  simp only [nf0, nf1, nf2, nf3, nf4]
  refine st_value (v := (.bool false)) (by rfl) ((run_lss (.tmp 25) (.const (.int .i64 0)) rfl rfl rfl w6).trans (by rw [hg14])) ?_
  simp only [nf0, nf1, nf2, nf3, nf4]
  refine st_mv (.bool false) ?_
  simp only [nf0, nf1, nf2, nf3, nf4]
  refine st_mv (.bool false) ?_
  simp only [nf0, nf1, nf2, nf3, nf4]
  refine st_mv (.int .i64 (nv l p0)) ?_
  simp only [nf0, nf1, nf2, nf3, nf4]
  refine st_value (v := (.bool (decide (1024 < (nv l p0))))) (by rfl) (run_gtr (.tmp 29) (.const (.int .i64 1024)) rfl rfl rfl w6) ?_
  simp only [nf0, nf1, nf2, nf3, nf4]
  refine st_mv (.bool (decide (1024 < (nv l p0)))) ?_
  simp only [nf0, nf1, nf2, nf3, nf4]
  refine wpList_nil ?_
  show Code.wp _ _ _ _ _
  cases hg16 : decide (1024 < (nv l p0))
  rotate_left
  · have hp75 := of_decide_eq_true hg16
    refine wp_cond_true rfl ?_
    refine wp_seq ?_
    refine wp_region_lit ?_
    refine st_value (v := (.agg (setA 0))) (by rfl) (run_build_set rfl w6) ?_
    simp only [nf0, nf1, nf2, nf3, nf4]
    refine st_row (by rfl) (run_store_set (.tmp 4) (.tmp 32) rfl rfl (S := 0) rfl B3) B3 ?_
    intro w76 B78 hg77
    simp only [nf0, nf1, nf2, nf3, nf4]
    replace bel := bl_kept0 bel hg77 lo5
    clear hg77
    clear B3
    refine st_mv (.int .i64 0) ?_
    simp only [nf0, nf1, nf2, nf3, nf4]
    refine st_mv (.bool false) ?_
    simp only [nf0, nf1, nf2, nf3, nf4]
    refine wpList_nil ?_
    show Code.wp _ _ _ _ _
    refine wp_ret ?_
    first | show bodyPost _ _ _ _ _ _ | (simp only [Exit.then, Exit.inBlock]; show bodyPost _ _ _ _ _ _)
    have hE : setAt l p0 = none := setAt_no fun g1 a1 a2 => by omega
    exact bodyPost_ret (results_set2' rfl _ _ _ _ rfl B78) rfl ⟨by rw [hE]; rfl, bel⟩
  have hp17 := of_decide_eq_false hg16
  refine wp_cond_false rfl ?_
  refine wp_skip ?_
  show Code.wp _ _ _ _ _
  refine wp_seq ?_
  refine wp_region_lit ?_
  refine st_mv (.int .i64 0) ?_
  simp only [nf0, nf1, nf2, nf3, nf4]
  refine wpList_nil ?_
  show Code.wp _ _ _ _ _
  refine wp_seq ?_
  refine wp_seq ?_
  refine wp_region_lit ?_
  refine st_mv (.int .i64 (nv l p0)) ?_
  simp only [nf0, nf1, nf2, nf3, nf4]
  refine st_mv (.int .i64 0) ?_
  simp only [nf0, nf1, nf2, nf3, nf4]
  refine wpList_nil ?_
  show Code.wp _ _ _ _ _
  refine wp_block ?_
  refine wp_loop_left (fun n_ a_ wr_ => (fun J18 => ∃ (k : Nat) (p : Nat) (f : Int) (S : Nat), n_ = (nv l p0).toNat - k ∧ a_ = ⟨#[.slice A l.length cap, .int .i64 (p0 : Int), J18 2, J18 3, .pointer (some ⟨g1, 0, none⟩), .int .i64 (p : Int), J18 6, .int .i64 (nv l p0), .int .i64 f, J18 9, J18 10, J18 11, J18 12, J18 13, J18 14, J18 15, J18 16, J18 17, J18 18, J18 19, J18 20, J18 21, J18 22, J18 23, J18 24, J18 25, J18 26, J18 27, J18 28, J18 29, J18 30, J18 31, J18 32, .int .i64 (nv l p0), .int .i64 (k : Int), J18 35, J18 36, J18 37, J18 38, J18 39, J18 40, J18 41, J18 42, J18 43, J18 44, J18 45, J18 46, J18 47, J18 48, J18 49, J18 50, J18 51, J18 52, J18 53, J18 54, J18 55, J18 56, J18 57, J18 58, J18 59, J18 60, J18 61, J18 62, J18 63, J18 64, J18 65, J18 66, J18 67, J18 68, J18 69, J18 70, J18 71, J18 72, J18 73, J18 74, J18 75, J18 76, J18 77, J18 78, J18 79, J18 80, J18 81, J18 82, J18 83, J18 84, J18 85, J18 86, J18 87, J18 88, J18 89, J18 90, J18 91, J18 92, J18 93, J18 94, J18 95, J18 96, J18 97, J18 98], []⟩ ∧ Blk wr_ g1 (setA S) 33 ∧ Below w.heap.size w wr_ ∧ (p ≤ l.length) ∧ (0 ≤ f) ∧ (f ≤ 1024) ∧ (Sm S) ∧ (readRows l ((nv l p0).toNat - k) p f.toNat S = setAt l p0)) (jk a_)) ((nv l p0).toNat - 0) ⟨0, (ne l p0), 0, 0, rfl, rfl, B3, bel, hne0, (Int.le_refl _), (by decide), sm_zero, (by exact setAt_go hgk (by omega) (by omega))⟩ ?_
  clear B3
  clear bel
  intro n_ a_ w19 h_
  revert h_
  generalize jk a_ = J18
  rintro ⟨k, p, f, S, hms, rfl, B3, bel, hp, hf0, hf1, hS, hR⟩
  have hv1 := nv_I64 l p
  have hn1 := ne_le l p
  have hv2 := nv_I64 l (ne l p)
  have hn2 := ne_le l (ne l p)
  refine wp_seq ?_
  refine wp_region_lit ?_
  refine st_value (v := (.bool (decide ((k : Int) < (nv l p0))))) (by rfl) (run_lss (.tmp 34) (.tmp 33) rfl rfl rfl w19) ?_
  simp only [nf0, nf1, nf2, nf3, nf4]
  refine wpList_nil ?_
  show Code.wp _ _ _ _ _
  refine wp_seq ?_
  cases hg20 : decide ((k : Int) < (nv l p0))
  · have hp21 := of_decide_eq_false hg20
    refine wp_cond_false rfl ?_
    refine wp_exit ?_
    show Code.wp _ _ _ _ _
    refine wp_seq ?_
    refine wp_region_lit ?_
    refine st_value (v := (.agg (setA S))) (by rfl) (run_load_set (.tmp 4) rfl _ rfl S B3) ?_
    simp only [nf0, nf1, nf2, nf3, nf4]
    refine st_mv (.int .i64 (p : Int)) ?_
    simp only [nf0, nf1, nf2, nf3, nf4]
    refine st_row (by rfl) (run_store_set (.tmp 4) (.tmp 97) rfl rfl (S := S) rfl B3) B3 ?_
    intro w22 B24 hg23
    simp only [nf0, nf1, nf2, nf3, nf4]
    replace bel := bl_kept0 bel hg23 lo5
    clear hg23
    clear B3
    refine st_mv (.int .i64 (p : Int)) ?_
    simp only [nf0, nf1, nf2, nf3, nf4]
    refine st_mv (.bool true) ?_
    simp only [nf0, nf1, nf2, nf3, nf4]
    refine wpList_nil ?_
    show Code.wp _ _ _ _ _
    refine wp_ret ?_
    first | show bodyPost _ _ _ _ _ _ | (simp only [Exit.then, Exit.inBlock]; show bodyPost _ _ _ _ _ _)
    have hE : setAt l p0 = some (S, p) := rr_end hR (by omega)
    exact bodyPost_ret (results_set2' rfl _ _ _ _ rfl B24) rfl ⟨by rw [hE]; rfl, bel⟩
  have hp25 := of_decide_eq_true hg20
  refine wp_cond_true rfl ?_
  refine wp_skip ?_
  show Code.wp _ _ _ _ _
  refine wp_seq ?_
  refine wp_block ?_
  refine wp_seq ?_
  refine wp_region_lit ?_
  refine st_mv (.slice A l.length cap) ?_
  simp only [nf0, nf1, nf2, nf3, nf4]
  refine st_mv (.int .i64 (p : Int)) ?_
  simp only [nf0, nf1, nf2, nf3, nf4]
  refine st_call1 (v := (.tuple #[.int .i64 (nv l p), .int .i64 ((ne l p : Nat) : Int), .bool (nk l p)])) (by rfl) (m_run_call_8_2 (.tmp 37) (.tmp 38) rfl rfl rfl _) (getInt_tot A l cap p hcap (by omega) (by omega) w19 (hr.same bel)) ?_
  intro w26 hb27
  simp only [nf0, nf1, nf2, nf3, nf4]
  replace B3 := B3.below hb27
  replace bel := bl_step bel hb27
  clear hb27
  refine st_mv (.tuple #[.int .i64 (nv l p), .int .i64 ((ne l p : Nat) : Int), .bool (nk l p)]) ?_
  simp only [nf0, nf1, nf2, nf3, nf4]
  refine st_mv (.int .i64 (nv l p)) ?_
  simp only [nf0, nf1, nf2, nf3, nf4]
  refine st_mv (.int .i64 ((ne l p : Nat) : Int)) ?_
  simp only [nf0, nf1, nf2, nf3, nf4]
  refine st_mv (.bool (nk l p)) ?_
  simp only [nf0, nf1, nf2, nf3, nf4]
  refine st_mv (.int .i64 (nv l p)) ?_
  simp only [nf0, nf1, nf2, nf3, nf4]
  refine st_mv (.int .i64 ((ne l p : Nat) : Int)) ?_
  simp only [nf0, nf1, nf2, nf3, nf4]
  refine st_mv (.bool (nk l p)) ?_
  simp only [nf0, nf1, nf2, nf3, nf4]
  refine wpList_nil ?_
  show Code.wp _ _ _ _ _
  refine wp_seq ?_
  refine wp_region_lit ?_
  refine st_mv (.slice A l.length cap) ?_
  simp only [nf0, nf1, nf2, nf3, nf4]
  refine st_mv (.int .i64 ((ne l p : Nat) : Int)) ?_
  simp only [nf0, nf1, nf2, nf3, nf4]
  refine st_call1 (v := (.tuple #[.int .i64 (nv l (ne l p)), .int .i64 ((ne l (ne l p) : Nat) : Int), .bool (nk l (ne l p))])) (by rfl) (m_run_call_8_2 (.tmp 44) (.tmp 45) rfl rfl rfl _) (getInt_tot A l cap (ne l p) hcap (by omega) (by omega) w26 (hr.same bel)) ?_
  intro w28 hb29
  simp only [nf0, nf1, nf2, nf3, nf4]
  replace B3 := B3.below hb29
  replace bel := bl_step bel hb29
  clear hb29
  refine st_mv (.tuple #[.int .i64 (nv l (ne l p)), .int .i64 ((ne l (ne l p) : Nat) : Int), .bool (nk l (ne l p))]) ?_
  simp only [nf0, nf1, nf2, nf3, nf4]
  refine st_mv (.int .i64 (nv l (ne l p))) ?_
  simp only [nf0, nf1, nf2, nf3, nf4]
  refine st_mv (.int .i64 ((ne l (ne l p) : Nat) : Int)) ?_
  simp only [nf0, nf1, nf2, nf3, nf4]
  refine st_mv (.bool (nk l (ne l p))) ?_
  simp only [nf0, nf1, nf2, nf3, nf4]
  refine st_mv (.int .i64 (nv l (ne l p))) ?_
  simp only [nf0, nf1, nf2, nf3, nf4]
  refine st_mv (.int .i64 ((ne l (ne l p) : Nat) : Int)) ?_
  simp only [nf0, nf1, nf2, nf3, nf4]
  refine st_mv (.bool (nk l (ne l p))) ?_
  simp only [nf0, nf1, nf2, nf3, nf4]
  refine wpList_nil ?_
  show Code.wp _ _ _ _ _
  refine wp_seq ?_
  refine wp_seq ?_
  cases hg30 : nk l p
  · have hp31 := trivial
    refine wp_region_lit ?_
    refine st_mv (.bool false) ?_
    simp only [nf0, nf1, nf2, nf3, nf4]
    refine st_value (v := (.bool true)) (by rfl) (run_not (.tmp 50) rfl (b := false) rfl w28) ?_
    simp only [nf0, nf1, nf2, nf3, nf4]
    refine st_mv (.bool true) ?_
    simp only [nf0, nf1, nf2, nf3, nf4]
    refine st_nob (j := 2) (t := 52) (c := true) rfl rfl rfl rfl rfl ?_
    simp only [nf0, nf1, nf2, nf3, nf4]
    refine st_nob (j := 2) (t := 52) (c := true) rfl rfl rfl rfl rfl ?_
    simp only [nf0, nf1, nf2, nf3, nf4]
    refine st_mv (.bool true) ?_
    simp only [nf0, nf1, nf2, nf3, nf4]
    refine st_mv (.bool true) ?_
    simp only [nf0, nf1, nf2, nf3, nf4]
    refine st_nob (j := 6) (t := 56) (c := true) rfl rfl rfl rfl rfl ?_
    simp only [nf0, nf1, nf2, nf3, nf4]
    refine st_nob (j := 6) (t := 56) (c := true) rfl rfl rfl rfl rfl ?_
    simp only [nf0, nf1, nf2, nf3, nf4]
    refine st_mv (.bool true) ?_
    simp only [nf0, nf1, nf2, nf3, nf4]
    refine st_mv (.bool true) ?_
    simp only [nf0, nf1, nf2, nf3, nf4]
    refine st_nob (j := 10) (t := 60) (c := true) rfl rfl rfl rfl rfl ?_
    simp only [nf0, nf1, nf2, nf3, nf4]
    refine st_nob (j := 10) (t := 60) (c := true) rfl rfl rfl rfl rfl ?_
    simp only [nf0, nf1, nf2, nf3, nf4]
    refine st_mv (.bool true) ?_
    simp only [nf0, nf1, nf2, nf3, nf4]
    refine st_mv (.bool true) ?_
    simp only [nf0, nf1, nf2, nf3, nf4]
    refine st_nob (j := 14) (t := 64) (c := true) rfl rfl rfl rfl rfl ?_
    simp only [nf0, nf1, nf2, nf3, nf4]
    refine st_nob (j := 14) (t := 64) (c := true) rfl rfl rfl rfl rfl ?_
    simp only [nf0, nf1, nf2, nf3, nf4]
    refine st_nob (j := 14) (t := 64) (c := true) rfl rfl rfl rfl rfl ?_
    simp only [nf0, nf1, nf2, nf3, nf4]
    refine st_nob (j := 14) (t := 64) (c := true) rfl rfl rfl rfl rfl ?_
    simp only [nf0, nf1, nf2, nf3, nf4]
    refine st_mv (.bool true) ?_
    simp only [nf0, nf1, nf2, nf3, nf4]
    refine st_mv (.bool true) ?_
    simp only [nf0, nf1, nf2, nf3, nf4]
    refine st_nob (j := 20) (t := 70) (c := true) rfl rfl rfl rfl rfl ?_
    simp only [nf0, nf1, nf2, nf3, nf4]
    refine st_nob (j := 20) (t := 70) (c := true) rfl rfl rfl rfl rfl ?_
    simp only [nf0, nf1, nf2, nf3, nf4]
    refine st_nob (j := 20) (t := 70) (c := true) rfl rfl rfl rfl rfl ?_
    simp only [nf0, nf1, nf2, nf3, nf4]
    refine st_nob (j := 20) (t := 70) (c := true) rfl rfl rfl rfl rfl ?_
    simp only [nf0, nf1, nf2, nf3, nf4]
    refine st_nob (j := 20) (t := 70) (c := true) rfl rfl rfl rfl rfl ?_
    simp only [nf0, nf1, nf2, nf3, nf4]
    refine st_nob (j := 20) (t := 70) (c := true) rfl rfl rfl rfl rfl ?_
    simp only [nf0, nf1, nf2, nf3, nf4]
    refine st_mv (.bool true) ?_
    simp only [nf0, nf1, nf2, nf3, nf4]
    refine wpList_nil ?_
    show Code.wp _ _ _ _ _
    refine wp_cond_true rfl ?_
    refine wp_seq ?_
    refine wp_region_lit ?_
    refine st_value (v := (.agg (setA 0))) (by rfl) (run_build_set rfl w28) ?_
    simp only [nf0, nf1, nf2, nf3, nf4]
    refine st_row (by rfl) (run_store_set (.tmp 4) (.tmp 78) rfl rfl (S := 0) rfl B3) B3 ?_
    intro w32 B34 hg33
    simp only [nf0, nf1, nf2, nf3, nf4]
    replace bel := bl_kept0 bel hg33 lo5
    clear hg33
    clear B3
    refine st_mv (.int .i64 0) ?_
    simp only [nf0, nf1, nf2, nf3, nf4]
    refine st_mv (.bool false) ?_
    simp only [nf0, nf1, nf2, nf3, nf4]
    refine wpList_nil ?_
    show Code.wp _ _ _ _ _
    refine wp_ret ?_
    first | show bodyPost _ _ _ _ _ _ | (simp only [Exit.then, Exit.inBlock]; show bodyPost _ _ _ _ _ _)
    have hE : setAt l p0 = none := rr_no hR (by omega) hf0 fun g1 g2 a1 a2 b1 b2 => by rw [hg30] at g1; cases g1
    exact bodyPost_ret (results_set2' rfl _ _ _ _ rfl B34) rfl ⟨by rw [hE]; rfl, bel⟩
  have hp35 := trivial
  cases hg36 : nk l (ne l p)
  · have hp37 := trivial
    refine wp_region_lit ?_
    refine st_mv (.bool true) ?_
    simp only [nf0, nf1, nf2, nf3, nf4]
    refine st_value (v := (.bool false)) (by rfl) (run_not (.tmp 50) rfl (b := true) rfl w28) ?_
    simp only [nf0, nf1, nf2, nf3, nf4]
    refine st_mv (.bool false) ?_
    simp only [nf0, nf1, nf2, nf3, nf4]
    refine st_mv (.bool false) ?_
    simp only [nf0, nf1, nf2, nf3, nf4]
    refine st_value (v := (.bool true)) (by rfl) (run_not (.tmp 53) rfl (b := false) rfl w28) ?_
    simp only [nf0, nf1, nf2, nf3, nf4]
    refine st_mv (.bool true) ?_
    simp only [nf0, nf1, nf2, nf3, nf4]
    refine st_mv (.bool true) ?_
    simp only [nf0, nf1, nf2, nf3, nf4]
    refine st_nob (j := 6) (t := 56) (c := true) rfl rfl rfl rfl rfl ?_
    simp only [nf0, nf1, nf2, nf3, nf4]
    refine st_nob (j := 6) (t := 56) (c := true) rfl rfl rfl rfl rfl ?_
    simp only [nf0, nf1, nf2, nf3, nf4]
    refine st_mv (.bool true) ?_
    simp only [nf0, nf1, nf2, nf3, nf4]
    refine st_mv (.bool true) ?_
    simp only [nf0, nf1, nf2, nf3, nf4]
    refine st_nob (j := 10) (t := 60) (c := true) rfl rfl rfl rfl rfl ?_
    simp only [nf0, nf1, nf2, nf3, nf4]
    refine st_nob (j := 10) (t := 60) (c := true) rfl rfl rfl rfl rfl ?_
    simp only [nf0, nf1, nf2, nf3, nf4]
    refine st_mv (.bool true) ?_
    simp only [nf0, nf1, nf2, nf3, nf4]
    refine st_mv (.bool true) ?_
    simp only [nf0, nf1, nf2, nf3, nf4]
    refine st_nob (j := 14) (t := 64) (c := true) rfl rfl rfl rfl rfl ?_
    simp only [nf0, nf1, nf2, nf3, nf4]
    refine st_nob (j := 14) (t := 64) (c := true) rfl rfl rfl rfl rfl ?_
    simp only [nf0, nf1, nf2, nf3, nf4]
    refine st_nob (j := 14) (t := 64) (c := true) rfl rfl rfl rfl rfl ?_
    simp only [nf0, nf1, nf2, nf3, nf4]
    refine st_nob (j := 14) (t := 64) (c := true) rfl rfl rfl rfl rfl ?_
    simp only [nf0, nf1, nf2, nf3, nf4]
    refine st_mv (.bool true) ?_
    simp only [nf0, nf1, nf2, nf3, nf4]
    refine st_mv (.bool true) ?_
    simp only [nf0, nf1, nf2, nf3, nf4]
    refine st_nob (j := 20) (t := 70) (c := true) rfl rfl rfl rfl rfl ?_
    simp only [nf0, nf1, nf2, nf3, nf4]
    refine st_nob (j := 20) (t := 70) (c := true) rfl rfl rfl rfl rfl ?_
    simp only [nf0, nf1, nf2, nf3, nf4]
    refine st_nob (j := 20) (t := 70) (c := true) rfl rfl rfl rfl rfl ?_
    simp only [nf0, nf1, nf2, nf3, nf4]
    refine st_nob (j := 20) (t := 70) (c := true) rfl rfl rfl rfl rfl ?_
    simp only [nf0, nf1, nf2, nf3, nf4]
    refine st_nob (j := 20) (t := 70) (c := true) rfl rfl rfl rfl rfl ?_
    simp only [nf0, nf1, nf2, nf3, nf4]
    refine st_nob (j := 20) (t := 70) (c := true) rfl rfl rfl rfl rfl ?_
    simp only [nf0, nf1, nf2, nf3, nf4]
    refine st_mv (.bool true) ?_
    simp only [nf0, nf1, nf2, nf3, nf4]
    refine wpList_nil ?_
    show Code.wp _ _ _ _ _
    refine wp_cond_true rfl ?_
    refine wp_seq ?_
    refine wp_region_lit ?_
    refine st_value (v := (.agg (setA 0))) (by rfl) (run_build_set rfl w28) ?_
    simp only [nf0, nf1, nf2, nf3, nf4]
    refine st_row (by rfl) (run_store_set (.tmp 4) (.tmp 78) rfl rfl (S := 0) rfl B3) B3 ?_
    intro w38 B40 hg39
    simp only [nf0, nf1, nf2, nf3, nf4]
    replace bel := bl_kept0 bel hg39 lo5
    clear hg39
    clear B3
    refine st_mv (.int .i64 0) ?_
    simp only [nf0, nf1, nf2, nf3, nf4]
    refine st_mv (.bool false) ?_
    simp only [nf0, nf1, nf2, nf3, nf4]
    refine wpList_nil ?_
    show Code.wp _ _ _ _ _
    refine wp_ret ?_
    first | show bodyPost _ _ _ _ _ _ | (simp only [Exit.then, Exit.inBlock]; show bodyPost _ _ _ _ _ _)
    have hE : setAt l p0 = none := rr_no hR (by omega) hf0 fun g1 g2 a1 a2 b1 b2 => by rw [hg36] at g2; cases g2
    exact bodyPost_ret (results_set2' rfl _ _ _ _ rfl B40) rfl ⟨by rw [hE]; rfl, bel⟩
  have hp41 := trivial
  cases hg42 : decide ((nv l p) < 0)
  rotate_left
  · have hp71 := of_decide_eq_true hg42
    refine wp_region_lit ?_
    refine st_mv (.bool true) ?_
    simp only [nf0, nf1, nf2, nf3, nf4]
    refine st_value (v := (.bool false)) (by rfl) (run_not (.tmp 50) rfl (b := true) rfl w28) ?_
    simp only [nf0, nf1, nf2, nf3, nf4]
    refine st_mv (.bool false) ?_
    simp only [nf0, nf1, nf2, nf3, nf4]
    refine st_mv (.bool true) ?_
    simp only [nf0, nf1, nf2, nf3, nf4]
    refine st_value (v := (.bool false)) (by rfl) (run_not (.tmp 53) rfl (b := true) rfl w28) ?_
    simp only [nf0, nf1, nf2, nf3, nf4]
    refine st_mv (.bool false) ?_
    simp only [nf0, nf1, nf2, nf3, nf4]
    refine st_mv (.bool false) ?_
    simp only [nf0, nf1, nf2, nf3, nf4]
    refine st_mv (.int .i64 (nv l p)) ?_
    simp only [nf0, nf1, nf2, nf3, nf4]
    refine st_value (v := (.bool true)) (by rfl) ((run_lss (.tmp 57) (.const (.int .i64 0)) rfl rfl rfl w28).trans (by rw [hg42])) ?_
    simp only [nf0, nf1, nf2, nf3, nf4]
    refine st_mv (.bool true) ?_
    simp only [nf0, nf1, nf2, nf3, nf4]
    refine st_mv (.bool true) ?_
    simp only [nf0, nf1, nf2, nf3, nf4]
    refine st_nob (j := 10) (t := 60) (c := true) rfl rfl rfl rfl rfl ?_
    simp only [nf0, nf1, nf2, nf3, nf4]
    refine st_nob (j := 10) (t := 60) (c := true) rfl rfl rfl rfl rfl ?_
    simp only [nf0, nf1, nf2, nf3, nf4]
    refine st_mv (.bool true) ?_
    simp only [nf0, nf1, nf2, nf3, nf4]
    refine st_mv (.bool true) ?_
    simp only [nf0, nf1, nf2, nf3, nf4]
    refine st_nob (j := 14) (t := 64) (c := true) rfl rfl rfl rfl rfl ?_
    simp only [nf0, nf1, nf2, nf3, nf4]
    refine st_nob (j := 14) (t := 64) (c := true) rfl rfl rfl rfl rfl ?_
    simp only [nf0, nf1, nf2, nf3, nf4]
    refine st_nob (j := 14) (t := 64) (c := true) rfl rfl rfl rfl rfl ?_
    simp only [nf0, nf1, nf2, nf3, nf4]
    refine st_nob (j := 14) (t := 64) (c := true) rfl rfl rfl rfl rfl ?_
    simp only [nf0, nf1, nf2, nf3, nf4]
    refine st_mv (.bool true) ?_
    simp only [nf0, nf1, nf2, nf3, nf4]
    refine st_mv (.bool true) ?_
    simp only [nf0, nf1, nf2, nf3, nf4]
    refine st_nob (j := 20) (t := 70) (c := true) rfl rfl rfl rfl rfl ?_
    simp only [nf0, nf1, nf2, nf3, nf4]
    refine st_nob (j := 20) (t := 70) (c := true) rfl rfl rfl rfl rfl ?_
    simp only [nf0, nf1, nf2, nf3, nf4]
    refine st_nob (j := 20) (t := 70) (c := true) rfl rfl rfl rfl rfl ?_
    simp only [nf0, nf1, nf2, nf3, nf4]
    refine st_nob (j := 20) (t := 70) (c := true) rfl rfl rfl rfl rfl ?_
    simp only [nf0, nf1, nf2, nf3, nf4]
    refine st_nob (j := 20) (t := 70) (c := true) rfl rfl rfl rfl rfl ?_
    simp only [nf0, nf1, nf2, nf3, nf4]
    refine st_nob (j := 20) (t := 70) (c := true) rfl rfl rfl rfl rfl ?_
    simp only [nf0, nf1, nf2, nf3, nf4]
    refine st_mv (.bool true) ?_
    simp only [nf0, nf1, nf2, nf3, nf4]
    refine wpList_nil ?_
    show Code.wp _ _ _ _ _
    refine wp_cond_true rfl ?_
    refine wp_seq ?_
    refine wp_region_lit ?_
    refine st_value (v := (.agg (setA 0))) (by rfl) (run_build_set rfl w28) ?_
    simp only [nf0, nf1, nf2, nf3, nf4]
    refine st_row (by rfl) (run_store_set (.tmp 4) (.tmp 78) rfl rfl (S := 0) rfl B3) B3 ?_
    intro w72 B74 hg73
    simp only [nf0, nf1, nf2, nf3, nf4]
    replace bel := bl_kept0 bel hg73 lo5
    clear hg73
    clear B3
    refine st_mv (.int .i64 0) ?_
    simp only [nf0, nf1, nf2, nf3, nf4]
    refine st_mv (.bool false) ?_
    simp only [nf0, nf1, nf2, nf3, nf4]
    refine wpList_nil ?_
    show Code.wp _ _ _ _ _
    refine wp_ret ?_
    first | show bodyPost _ _ _ _ _ _ | (simp only [Exit.then, Exit.inBlock]; show bodyPost _ _ _ _ _ _)
    have hE : setAt l p0 = none := rr_no hR (by omega) hf0 fun g1 g2 a1 a2 b1 b2 => by omega
    exact bodyPost_ret (results_set2' rfl _ _ _ _ rfl B74) rfl ⟨by rw [hE]; rfl, bel⟩
  have hp43 := of_decide_eq_false hg42
  cases hg44 : decide ((nv l (ne l p)) < 0)
  rotate_left
  · have hp67 := of_decide_eq_true hg44
    refine wp_region_lit ?_
    refine st_mv (.bool true) ?_
    simp only [nf0, nf1, nf2, nf3, nf4]
    refine st_value (v := (.bool false)) (by rfl) (run_not (.tmp 50) rfl (b := true) rfl w28) ?_
    simp only [nf0, nf1, nf2, nf3, nf4]
    refine st_mv (.bool false) ?_
    simp only [nf0, nf1, nf2, nf3, nf4]
    refine st_mv (.bool true) ?_
    simp only [nf0, nf1, nf2, nf3, nf4]
    refine st_value (v := (.bool false)) (by rfl) (run_not (.tmp 53) rfl (b := true) rfl w28) ?_
    simp only [nf0, nf1, nf2, nf3, nf4]
    refine st_mv (.bool false) ?_
    simp only [nf0, nf1, nf2, nf3, nf4]
    refine st_mv (.bool false) ?_
    simp only [nf0, nf1, nf2, nf3, nf4]
    refine st_mv (.int .i64 (nv l p)) ?_
    simp only [nf0, nf1, nf2, nf3, nf4]
    refine st_value (v := (.bool false)) (by rfl) ((run_lss (.tmp 57) (.const (.int .i64 0)) rfl rfl rfl w28).trans (by rw [hg42])) ?_
    simp only [nf0, nf1, nf2, nf3, nf4]
    refine st_mv (.bool false) ?_
    simp only [nf0, nf1, nf2, nf3, nf4]
    refine st_mv (.bool false) ?_
    simp only [nf0, nf1, nf2, nf3, nf4]
    refine st_mv (.int .i64 (nv l (ne l p))) ?_
    simp only [nf0, nf1, nf2, nf3, nf4]
    refine st_value (v := (.bool true)) (by rfl) ((run_lss (.tmp 61) (.const (.int .i64 0)) rfl rfl rfl w28).trans (by rw [hg44])) ?_
    simp only [nf0, nf1, nf2, nf3, nf4]
    refine st_mv (.bool true) ?_
    simp only [nf0, nf1, nf2, nf3, nf4]
    refine st_mv (.bool true) ?_
    simp only [nf0, nf1, nf2, nf3, nf4]
    refine st_nob (j := 14) (t := 64) (c := true) rfl rfl rfl rfl rfl ?_
    simp only [nf0, nf1, nf2, nf3, nf4]
    refine st_nob (j := 14) (t := 64) (c := true) rfl rfl rfl rfl rfl ?_
    simp only [nf0, nf1, nf2, nf3, nf4]
    refine st_nob (j := 14) (t := 64) (c := true) rfl rfl rfl rfl rfl ?_
    simp only [nf0, nf1, nf2, nf3, nf4]
    refine st_nob (j := 14) (t := 64) (c := true) rfl rfl rfl rfl rfl ?_
    simp only [nf0, nf1, nf2, nf3, nf4]
    refine st_mv (.bool true) ?_
    simp only [nf0, nf1, nf2, nf3, nf4]
    refine st_mv (.bool true) ?_
    simp only [nf0, nf1, nf2, nf3, nf4]
    refine st_nob (j := 20) (t := 70) (c := true) rfl rfl rfl rfl rfl ?_
    simp only [nf0, nf1, nf2, nf3, nf4]
    refine st_nob (j := 20) (t := 70) (c := true) rfl rfl rfl rfl rfl ?_
    simp only [nf0, nf1, nf2, nf3, nf4]
    refine st_nob (j := 20) (t := 70) (c := true) rfl rfl rfl rfl rfl ?_
    simp only [nf0, nf1, nf2, nf3, nf4]
    refine st_nob (j := 20) (t := 70) (c := true) rfl rfl rfl rfl rfl ?_
    simp only [nf0, nf1, nf2, nf3, nf4]
    refine st_nob (j := 20) (t := 70) (c := true) rfl rfl rfl rfl rfl ?_
    simp only [nf0, nf1, nf2, nf3, nf4]
    refine st_nob (j := 20) (t := 70) (c := true) rfl rfl rfl rfl rfl ?_
    simp only [nf0, nf1, nf2, nf3, nf4]
    refine st_mv (.bool true) ?_
    simp only [nf0, nf1, nf2, nf3, nf4]
    refine wpList_nil ?_
    show Code.wp _ _ _ _ _
    refine wp_cond_true rfl ?_
    refine wp_seq ?_
    refine wp_region_lit ?_
    refine st_value (v := (.agg (setA 0))) (by rfl) (run_build_set rfl w28) ?_
    simp only [nf0, nf1, nf2, nf3, nf4]
    refine st_row (by rfl) (run_store_set (.tmp 4) (.tmp 78) rfl rfl (S := 0) rfl B3) B3 ?_
    intro w68 B70 hg69
    simp only [nf0, nf1, nf2, nf3, nf4]
    replace bel := bl_kept0 bel hg69 lo5
    clear hg69
    clear B3
    refine st_mv (.int .i64 0) ?_
    simp only [nf0, nf1, nf2, nf3, nf4]
    refine st_mv (.bool false) ?_
    simp only [nf0, nf1, nf2, nf3, nf4]
    refine wpList_nil ?_
    show Code.wp _ _ _ _ _
    refine wp_ret ?_
    first | show bodyPost _ _ _ _ _ _ | (simp only [Exit.then, Exit.inBlock]; show bodyPost _ _ _ _ _ _)
    have hE : setAt l p0 = none := rr_no hR (by omega) hf0 fun g1 g2 a1 a2 b1 b2 => by omega
    exact bodyPost_ret (results_set2' rfl _ _ _ _ rfl B70) rfl ⟨by rw [hE]; rfl, bel⟩
  have hp45 := of_decide_eq_false hg44
  cases hg46 : decide ((1024 - f) ≤ (nv l p))
  rotate_left
  · have hp63 := of_decide_eq_true hg46
    refine wp_region_lit ?_
    refine st_mv (.bool true) ?_
    simp only [nf0, nf1, nf2, nf3, nf4]
    refine st_value (v := (.bool false)) (by rfl) (run_not (.tmp 50) rfl (b := true) rfl w28) ?_
    simp only [nf0, nf1, nf2, nf3, nf4]
    refine st_mv (.bool false) ?_
    simp only [nf0, nf1, nf2, nf3, nf4]
    refine st_mv (.bool true) ?_
    simp only [nf0, nf1, nf2, nf3, nf4]
    refine st_value (v := (.bool false)) (by rfl) (run_not (.tmp 53) rfl (b := true) rfl w28) ?_
    simp only [nf0, nf1, nf2, nf3, nf4]
    refine st_mv (.bool false) ?_
    simp only [nf0, nf1, nf2, nf3, nf4]
    refine st_mv (.bool false) ?_
    simp only [nf0, nf1, nf2, nf3, nf4]
    refine st_mv (.int .i64 (nv l p)) ?_
    simp only [nf0, nf1, nf2, nf3, nf4]
    refine st_value (v := (.bool false)) (by rfl) ((run_lss (.tmp 57) (.const (.int .i64 0)) rfl rfl rfl w28).trans (by rw [hg42])) ?_
    simp only [nf0, nf1, nf2, nf3, nf4]
    refine st_mv (.bool false) ?_
    simp only [nf0, nf1, nf2, nf3, nf4]
    refine st_mv (.bool false) ?_
    simp only [nf0, nf1, nf2, nf3, nf4]
    refine st_mv (.int .i64 (nv l (ne l p))) ?_
    simp only [nf0, nf1, nf2, nf3, nf4]
    refine st_value (v := (.bool false)) (by rfl) ((run_lss (.tmp 61) (.const (.int .i64 0)) rfl rfl rfl w28).trans (by rw [hg44])) ?_
    simp only [nf0, nf1, nf2, nf3, nf4]
    refine st_mv (.bool false) ?_
    simp only [nf0, nf1, nf2, nf3, nf4]
    refine st_mv (.bool false) ?_
    simp only [nf0, nf1, nf2, nf3, nf4]
    refine st_mv (.int .i64 (nv l p)) ?_
    simp only [nf0, nf1, nf2, nf3, nf4]
    refine st_mv (.int .i64 f) ?_
    simp only [nf0, nf1, nf2, nf3, nf4]
    refine st_value (v := (.int .i64 (1024 - f))) (by rfl) (run_sub_in (.const (.int .i64 1024)) (.tmp 66) rfl rfl rfl (by omega) w28) ?_
    simp only [nf0, nf1, nf2, nf3, nf4]
    refine st_value (v := (.bool true)) (by rfl) ((run_geq (.tmp 65) (.tmp 67) rfl rfl rfl w28).trans (by rw [hg46])) ?_
    simp only [nf0, nf1, nf2, nf3, nf4]
    refine st_mv (.bool true) ?_
    simp only [nf0, nf1, nf2, nf3, nf4]
    refine st_mv (.bool true) ?_
    simp only [nf0, nf1, nf2, nf3, nf4]
    refine st_nob (j := 20) (t := 70) (c := true) rfl rfl rfl rfl rfl ?_
    simp only [nf0, nf1, nf2, nf3, nf4]
    refine st_nob (j := 20) (t := 70) (c := true) rfl rfl rfl rfl rfl ?_
    simp only [nf0, nf1, nf2, nf3, nf4]
    refine st_nob (j := 20) (t := 70) (c := true) rfl rfl rfl rfl rfl ?_
    simp only [nf0, nf1, nf2, nf3, nf4]
    refine st_nob (j := 20) (t := 70) (c := true) rfl rfl rfl rfl rfl ?_
    simp only [nf0, nf1, nf2, nf3, nf4]
    refine st_nob (j := 20) (t := 70) (c := true) rfl rfl rfl rfl rfl ?_
    simp only [nf0, nf1, nf2, nf3, nf4]
    refine st_nob (j := 20) (t := 70) (c := true) rfl rfl rfl rfl rfl ?_
    simp only [nf0, nf1, nf2, nf3, nf4]
    refine st_mv (.bool true) ?_
    simp only [nf0, nf1, nf2, nf3, nf4]
    refine wpList_nil ?_
    show Code.wp _ _ _ _ _
    refine wp_cond_true rfl ?_
    refine wp_seq ?_
    refine wp_region_lit ?_
    refine st_value (v := (.agg (setA 0))) (by rfl) (run_build_set rfl w28) ?_
    simp only [nf0, nf1, nf2, nf3, nf4]
    refine st_row (by rfl) (run_store_set (.tmp 4) (.tmp 78) rfl rfl (S := 0) rfl B3) B3 ?_
    intro w64 B66 hg65
    simp only [nf0, nf1, nf2, nf3, nf4]
    replace bel := bl_kept0 bel hg65 lo5
    clear hg65
    clear B3
    refine st_mv (.int .i64 0) ?_
    simp only [nf0, nf1, nf2, nf3, nf4]
    refine st_mv (.bool false) ?_
    simp only [nf0, nf1, nf2, nf3, nf4]
    refine wpList_nil ?_
    show Code.wp _ _ _ _ _
    refine wp_ret ?_
    first | show bodyPost _ _ _ _ _ _ | (simp only [Exit.then, Exit.inBlock]; show bodyPost _ _ _ _ _ _)
    have hE : setAt l p0 = none := rr_no hR (by omega) hf0 fun g1 g2 a1 a2 b1 b2 => by omega
    exact bodyPost_ret (results_set2' rfl _ _ _ _ rfl B66) rfl ⟨by rw [hE]; rfl, bel⟩
  have hp47 := of_decide_eq_false hg46
  refine wp_region_lit ?_
  refine st_mv (.bool true) ?_
  simp only [nf0, nf1, nf2, nf3, nf4]
  refine st_value (v := (.bool false)) (by rfl) (run_not (.tmp 50) rfl (b := true) rfl w28) ?_
  simp only [nf0, nf1, nf2, nf3, nf4]
  refine st_mv (.bool false) ?_
  simp only [nf0, nf1, nf2, nf3, nf4]
  refine st_mv (.bool true) ?_
  simp only [nf0, nf1, nf2, nf3, nf4]
  refine st_value (v := (.bool false)) (by rfl) (run_not (.tmp 53) rfl (b := true) rfl w28) ?_
  simp only [nf0, nf1, nf2, nf3, nf4]
  refine st_mv (.bool false) ?_
  simp only [nf0, nf1, nf2, nf3, nf4]
  refine st_mv (.bool false) ?_
  simp only [nf0, nf1, nf2, nf3, nf4]
  refine st_mv (.int .i64 (nv l p)) ?_
  simp only [nf0, nf1, nf2, nf3, nf4]
  refine st_value (v := (.bool false)) (by rfl) ((run_lss (.tmp 57) (.const (.int .i64 0)) rfl rfl rfl w28).trans (by rw [hg42])) ?_
  simp only [nf0, nf1, nf2, nf3, nf4]
  refine st_mv (.bool false) ?_
  simp only [nf0, nf1, nf2, nf3, nf4]
  refine st_mv (.bool false) ?_
  simp only [nf0, nf1, nf2, nf3, nf4]
  refine st_mv (.int .i64 (nv l (ne l p))) ?_
  simp only [nf0, nf1, nf2, nf3, nf4]
  refine st_value (v := (.bool false)) (by rfl) ((run_lss (.tmp 61) (.const (.int .i64 0)) rfl rfl rfl w28).trans (by rw [hg44])) ?_
  simp only [nf0, nf1, nf2, nf3, nf4]
  refine st_mv (.bool false) ?_
  simp only [nf0, nf1, nf2, nf3, nf4]
  refine st_mv (.bool false) ?_
  simp only [nf0, nf1, nf2, nf3, nf4]
  refine st_mv (.int .i64 (nv l p)) ?_
  simp only [nf0, nf1, nf2, nf3, nf4]
  refine st_mv (.int .i64 f) ?_
  simp only [nf0, nf1, nf2, nf3, nf4]
  refine st_value (v := (.int .i64 (1024 - f))) (by rfl) (run_sub_in (.const (.int .i64 1024)) (.tmp 66) rfl rfl rfl (by omega) w28) ?_
  simp only [nf0, nf1, nf2, nf3, nf4]
  refine st_value (v := (.bool false)) (by rfl) ((run_geq (.tmp 65) (.tmp 67) rfl rfl rfl w28).trans (by rw [hg46])) ?_
  simp only [nf0, nf1, nf2, nf3, nf4]
  refine st_mv (.bool false) ?_
  simp only [nf0, nf1, nf2, nf3, nf4]
  refine st_mv (.bool false) ?_
  simp only [nf0, nf1, nf2, nf3, nf4]
  refine st_mv (.int .i64 (nv l (ne l p))) ?_
  simp only [nf0, nf1, nf2, nf3, nf4]
  refine st_mv (.int .i64 f) ?_
  simp only [nf0, nf1, nf2, nf3, nf4]
  refine st_value (v := (.int .i64 (1024 - f))) (by rfl) (run_sub_in (.const (.int .i64 1024)) (.tmp 72) rfl rfl rfl (by omega) w28) ?_
  simp only [nf0, nf1, nf2, nf3, nf4]
  refine st_mv (.int .i64 (nv l p)) ?_
  simp only [nf0, nf1, nf2, nf3, nf4]
  refine st_value (v := (.int .i64 ((1024 - f) - (nv l p)))) (by rfl) (run_sub_in (.tmp 73) (.tmp 74) rfl rfl rfl (by omega) w28) ?_
  simp only [nf0, nf1, nf2, nf3, nf4]
  refine st_value (v := (.bool (decide (((1024 - f) - (nv l p)) ≤ (nv l (ne l p)))))) (by rfl) (run_geq (.tmp 71) (.tmp 75) rfl rfl rfl w28) ?_
  simp only [nf0, nf1, nf2, nf3, nf4]
  refine st_mv (.bool (decide (((1024 - f) - (nv l p)) ≤ (nv l (ne l p))))) ?_
  simp only [nf0, nf1, nf2, nf3, nf4]
  refine wpList_nil ?_
  show Code.wp _ _ _ _ _
  cases hg48 : decide (((1024 - f) - (nv l p)) ≤ (nv l (ne l p)))
  rotate_left
  · have hp59 := of_decide_eq_true hg48
    refine wp_cond_true rfl ?_
    refine wp_seq ?_
    refine wp_region_lit ?_
    refine st_value (v := (.agg (setA 0))) (by rfl) (run_build_set rfl w28) ?_
    simp only [nf0, nf1, nf2, nf3, nf4]
    refine st_row (by rfl) (run_store_set (.tmp 4) (.tmp 78) rfl rfl (S := 0) rfl B3) B3 ?_
    intro w60 B62 hg61
    simp only [nf0, nf1, nf2, nf3, nf4]
    replace bel := bl_kept0 bel hg61 lo5
    clear hg61
    clear B3
    refine st_mv (.int .i64 0) ?_
    simp only [nf0, nf1, nf2, nf3, nf4]
    refine st_mv (.bool false) ?_
    simp only [nf0, nf1, nf2, nf3, nf4]
    refine wpList_nil ?_
    show Code.wp _ _ _ _ _
    refine wp_ret ?_
    first | show bodyPost _ _ _ _ _ _ | (simp only [Exit.then, Exit.inBlock]; show bodyPost _ _ _ _ _ _)
    have hE : setAt l p0 = none := rr_no hR (by omega) hf0 fun g1 g2 a1 a2 b1 b2 => by omega
    exact bodyPost_ret (results_set2' rfl _ _ _ _ rfl B62) rfl ⟨by rw [hE]; rfl, bel⟩
  have hp49 := of_decide_eq_false hg48
  refine wp_cond_false rfl ?_
  refine wp_skip ?_
  show Code.wp _ _ _ _ _
  refine wp_seq ?_
  refine wp_region_lit ?_
  refine st_mv (.int .i64 f) ?_
  simp only [nf0, nf1, nf2, nf3, nf4]
  refine st_mv (.int .i64 (nv l p)) ?_
  simp only [nf0, nf1, nf2, nf3, nf4]
  refine st_value (v := (.int .i64 (f + (nv l p)))) (by rfl) (run_add_in (.tmp 79) (.tmp 80) rfl rfl rfl (by omega) w28) ?_
  simp only [nf0, nf1, nf2, nf3, nf4]
  refine st_mv (.int .i64 (f + (nv l p))) ?_
  simp only [nf0, nf1, nf2, nf3, nf4]
  refine wpList_nil ?_
  show Code.wp _ _ _ _ _
  refine wp_seq ?_
  refine wp_region_facts2_lit (C := Abv w28) 6 [.val (.agg (setA S)), .val (.int .i64 (f + (nv l p))), .val (.int .i64 (f + (nv l p))), .val (.int .i64 (nv l (ne l p))), .val (.int .i64 ((f + (nv l p)) + (nv l (ne l p)))), .val (.agg (setA (rng (f + (nv l p)) ((f + (nv l p)) + (nv l (ne l p))))))] w28.heap.size (by kernel_rfl) (by simp) (by kernel_rfl) (by kernel_rfl) (fun _ h => h.size) (Abv.start _) ?_
  simp only [List.take_succ_cons, List.take_zero, List.drop_succ_cons, List.drop_zero]
  refine fst2_val (fun W hC hh => ok2_value (v := (.agg (setA S))) (by rfl) (run_load_set (.tmp 4) rfl _ rfl S (B3.below hC)) rfl hC (G0.refl _)) ?_
  simp only [nf0, nf1, nf2, nf3, nf4]
  refine fst2_val (fun W hC hh => ok2_value (v := (.int .i64 (f + (nv l p)))) (by rfl) (by rfl) rfl hC (G0.refl _)) ?_
  simp only [nf0, nf1, nf2, nf3, nf4]
  refine fst2_val (fun W hC hh => ok2_value (v := (.int .i64 (f + (nv l p)))) (by rfl) (by rfl) rfl hC (G0.refl _)) ?_
  simp only [nf0, nf1, nf2, nf3, nf4]
  refine fst2_val (fun W hC hh => ok2_value (v := (.int .i64 (nv l (ne l p)))) (by rfl) (by rfl) rfl hC (G0.refl _)) ?_
  simp only [nf0, nf1, nf2, nf3, nf4]
  refine fst2_val (fun W hC hh => ok2_value (v := (.int .i64 ((f + (nv l p)) + (nv l (ne l p))))) (by rfl) (run_add_in (.tmp 84) (.tmp 85) rfl rfl rfl (by omega) W) rfl hC (G0.refl _)) ?_
  simp only [nf0, nf1, nf2, nf3, nf4]
  refine fst2_val (fun W hC hh => ok2_call (by rfl) (m_run_call_32_2 (.tmp 83) (.tmp 86) rfl rfl rfl W) ((range_calls (f + (nv l p)) ((f + (nv l p)) + (nv l (ne l p))) W (by omega)).mono fun e W' ⟨h1, h2⟩ => ⟨h1, hC.step h2, h2⟩)) ?_
  simp only [nf0, nf1, nf2, nf3, nf4]
  refine fst2_nil fun w50 hC hh hnd => ?_
  replace hC : Below w28.heap.size w28 w50 := hC
  clear hh hnd
  replace B3 := B3.below hC
  replace bel := bl_step bel hC
  clear hC
  refine st_call1 (v := (.agg (setA (S ||| (rng (f + (nv l p)) ((f + (nv l p)) + (nv l (ne l p)))))))) (by rfl) (m_run_call_31_2 (.tmp 82) (.tmp 87) rfl rfl rfl _) (or_calls S (rng (f + (nv l p)) ((f + (nv l p)) + (nv l (ne l p)))) w50) ?_
  intro w51 hb52
  simp only [nf0, nf1, nf2, nf3, nf4]
  replace B3 := B3.below hb52
  replace bel := bl_step bel hb52
  clear hb52
  refine st_row (by rfl) (run_store_set (.tmp 4) (.tmp 88) rfl rfl (S := (S ||| (rng (f + (nv l p)) ((f + (nv l p)) + (nv l (ne l p)))))) rfl B3) B3 ?_
  intro w53 B55 hg54
  simp only [nf0, nf1, nf2, nf3, nf4]
  replace bel := bl_kept0 bel hg54 lo5
  clear hg54
  clear B3
  refine wpList_nil ?_
  show Code.wp _ _ _ _ _
  refine wp_seq ?_
  refine wp_region_lit ?_
  refine st_mv (.int .i64 (f + (nv l p))) ?_
  simp only [nf0, nf1, nf2, nf3, nf4]
  refine st_mv (.int .i64 (nv l (ne l p))) ?_
  simp only [nf0, nf1, nf2, nf3, nf4]
  refine st_value (v := (.int .i64 ((nv l (ne l p)) + 2))) (by rfl) (run_add_in (.tmp 90) (.const (.int .i64 2)) rfl rfl rfl (by omega) w53) ?_
  simp only [nf0, nf1, nf2, nf3, nf4]
  refine st_value (v := (.int .i64 ((f + (nv l p)) + ((nv l (ne l p)) + 2)))) (by rfl) (run_add_in (.tmp 89) (.tmp 91) rfl rfl rfl (by omega) w53) ?_
  simp only [nf0, nf1, nf2, nf3, nf4]
  refine st_mv (.int .i64 ((f + (nv l p)) + ((nv l (ne l p)) + 2))) ?_
  simp only [nf0, nf1, nf2, nf3, nf4]
  refine wpList_nil ?_
  show Code.wp _ _ _ _ _
  refine wp_seq ?_
  refine wp_region_lit ?_
  refine st_mv (.int .i64 ((ne l (ne l p) : Nat) : Int)) ?_
  simp only [nf0, nf1, nf2, nf3, nf4]
  refine st_mv (.int .i64 ((ne l (ne l p) : Nat) : Int)) ?_
  simp only [nf0, nf1, nf2, nf3, nf4]
  refine wpList_nil ?_
  show Code.wp _ _ _ _ _
  refine wp_seq ?_
  refine wp_region_lit ?_
  refine st_mv (.int .i64 ((f + (nv l p)) + ((nv l (ne l p)) + 2))) ?_
  simp only [nf0, nf1, nf2, nf3, nf4]
  refine st_value (v := (.bool (decide (1024 < ((f + (nv l p)) + ((nv l (ne l p)) + 2)))))) (by rfl) (run_gtr (.tmp 94) (.const (.int .i64 1024)) rfl rfl rfl w53) ?_
  simp only [nf0, nf1, nf2, nf3, nf4]
  refine wpList_nil ?_
  show Code.wp _ _ _ _ _
  cases hg56 : decide (1024 < ((f + (nv l p)) + ((nv l (ne l p)) + 2)))
  · have hp57 := of_decide_eq_false hg56
    refine wp_cond_false rfl ?_
    refine wp_skip ?_
    show Code.wp _ _ _ _ _
    refine wp_region_lit ?_
    refine st_value (v := (.int .i64 ((k : Int) + 1))) (by rfl) (run_add_in (.tmp 34) (.const (.int .i64 1)) rfl rfl rfl (by omega) w53) ?_
    simp only [nf0, nf1, nf2, nf3, nf4]
    refine st_mv (.int .i64 ((k : Int) + 1)) ?_
    simp only [nf0, nf1, nf2, nf3, nf4]
    refine wpList_nil ?_
    show ∃ m, m < _ ∧ _
    exact ⟨_, (by omega), (k + 1), (ne l (ne l p)), ((f + (nv l p)) + ((nv l (ne l p)) + 2)), _, rfl, rfl, B55, bel, hn2, (by omega), (by omega), (or_sm hS (rng_sm _ _)), (rr_go hR (by omega) hf0 hf1 hg30 hg36 (by omega) (by omega) (by omega) (by omega) (by omega))⟩
  have hp58 := of_decide_eq_true hg56
  refine wp_cond_true rfl ?_
  refine wp_region_lit ?_
  refine st_mv (.int .i64 1024) ?_
  simp only [nf0, nf1, nf2, nf3, nf4]
  refine wpList_nil ?_
  show Code.wp _ _ _ _ _
  refine wp_region_lit ?_
  refine st_value (v := (.int .i64 ((k : Int) + 1))) (by rfl) (run_add_in (.tmp 34) (.const (.int .i64 1)) rfl rfl rfl (by omega) w53) ?_
  simp only [nf0, nf1, nf2, nf3, nf4]
  refine st_mv (.int .i64 ((k : Int) + 1)) ?_
  simp only [nf0, nf1, nf2, nf3, nf4]
  refine wpList_nil ?_
  show ∃ m, m < _ ∧ _
  exact ⟨_, (by omega), (k + 1), (ne l (ne l p)), 1024, _, rfl, rfl, B55, bel, hn2, (by omega), (by omega), (or_sm hS (rng_sm _ _)), (rr_go hR (by omega) hf0 hf1 hg30 hg36 (by omega) (by omega) (by omega) (by omega) (by omega))⟩
end Go.Proofs.YtckmihjekgbcmaaDoor

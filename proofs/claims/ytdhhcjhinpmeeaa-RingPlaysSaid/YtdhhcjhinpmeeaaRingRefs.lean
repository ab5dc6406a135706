/- The document's answer for rows: Room, Put, Without. -/
import Derived.Test.YtdhhcjhinpmeeaaRingRef
namespace Go.Proofs.Ytdhhcjhinpmeeaa
open Go.RowKit Go.WideShapes Go.ChangeShapes
set_option linter.unusedSimpArgs false
set_option linter.unusedVariables false

theorem q1_run_lit_22_0 {o : Oper} {a : Act}  (ho : o.op = .buildSlice 22 0 #[])  (W : World) : (execOp a.eval o).run Try.prog W = .ok (.value (.slice (some ⟨W.heap.size, 0, none⟩) 0 0)) (W.alloc (.cells #[] 3)) := by
  unfold execOp
  simp only [ho, List.map_toArray, List.map_cons, List.map_nil]
  go_simp
theorem q1_run_lit_22_1 {o : Oper} {a : Act} (x0 : Operand) (ho : o.op = .buildSlice 22 1 #[(0, x0)]) {m0 : Int} (h0 : a.eval x0 = (.int .i64 m0)) (W : World) : (execOp a.eval o).run Try.prog W = .ok (.value (.slice (some ⟨W.heap.size, 0, none⟩) 1 1)) (W.alloc (.cells #[(.int .i64 m0)] 3)) := by
  unfold execOp
  simp only [ho, List.map_toArray, List.map_cons, List.map_nil, h0]
  go_simp
theorem q2_run_lit_22_0 {o : Oper} {a : Act}  (ho : o.op = .buildSlice 22 0 #[])  (W : World) : (execOp a.eval o).run Try.prog W = .ok (.value (.slice (some ⟨W.heap.size, 0, none⟩) 0 0)) (W.alloc (.cells #[] 3)) := by
  unfold execOp
  simp only [ho, List.map_toArray, List.map_cons, List.map_nil]
  go_simp

attribute [local irreducible] Go.wpList Go.Code.wp
set_option maxRecDepth 100000 in
set_option maxHeartbeats 4000000 in
theorem refRoom_calls (X : Int) (w : World) : Calls Try.prog 17 #[.int .i64 X] w fun e w' => e = .returned (.int .i64 (max 0 (min X 4096))) ∧ Below w.heap.size w w' := by
  have bel : Below w.heap.size w w := Below.refl _ _
  go_enter Try.func17, Try.ntmps17
  refine wp_seq ?_
  refine wp_region_lit ?_
  refine st_mv (.int .i64 0) ?_
  simp only [nf0, nf1, nf2, nf3, nf4]
  refine wpList_nil ?_
  show Code.wp _ _ _ _ _
  refine wp_seq ?_
  refine wp_seq ?_
  refine wp_region_lit ?_
  refine st_mv (.int .i64 X) ?_
  simp only [nf0, nf1, nf2, nf3, nf4]
  refine st_value (v := (.bool (decide (X < 0)))) (by rfl) (run_lss (.tmp 3) (.const (.int .i64 0)) rfl rfl rfl w) ?_
  simp only [nf0, nf1, nf2, nf3, nf4]
  refine wpList_nil ?_
  show Code.wp _ _ _ _ _
  cases hg1 : decide (X < 0)
  rotate_left
  · have hp6 := of_decide_eq_true hg1
    refine wp_cond_true rfl ?_
    refine wp_seq ?_
    refine wp_region_lit ?_
    refine st_mv (.int .i64 0) ?_
    simp only [nf0, nf1, nf2, nf3, nf4]
    refine wpList_nil ?_
    show Code.wp _ _ _ _ _
    refine wp_ret ?_
    first | show bodyPost _ _ _ _ _ _ | (simp only [Exit.then, Exit.inBlock]; show bodyPost _ _ _ _ _ _)
    exact bodyPost_ret (results_tmp rfl _ _ _) rfl ⟨by exact congrArg (fun z => Ending.returned (.int .i64 z)) (show (0 : Int) = max 0 (min X 4096) by omega), bel⟩
  have hp2 := of_decide_eq_false hg1
  refine wp_cond_false rfl ?_
  refine wp_skip ?_
  show Code.wp _ _ _ _ _
  refine wp_seq ?_
  refine wp_seq ?_
  refine wp_region_lit ?_
  refine st_mv (.int .i64 X) ?_
  simp only [nf0, nf1, nf2, nf3, nf4]
  refine st_value (v := (.bool (decide (4096 < X)))) (by rfl) (run_gtr (.tmp 5) (.const (.int .i64 4096)) rfl rfl rfl w) ?_
  simp only [nf0, nf1, nf2, nf3, nf4]
  refine wpList_nil ?_
  show Code.wp _ _ _ _ _
  cases hg3 : decide (4096 < X)
  rotate_left
  · have hp5 := of_decide_eq_true hg3
    refine wp_cond_true rfl ?_
    refine wp_seq ?_
    refine wp_region_lit ?_
    refine st_mv (.int .i64 4096) ?_
    simp only [nf0, nf1, nf2, nf3, nf4]
    refine wpList_nil ?_
    show Code.wp _ _ _ _ _
    refine wp_ret ?_
    first | show bodyPost _ _ _ _ _ _ | (simp only [Exit.then, Exit.inBlock]; show bodyPost _ _ _ _ _ _)
    exact bodyPost_ret (results_tmp rfl _ _ _) rfl ⟨by exact congrArg (fun z => Ending.returned (.int .i64 z)) (show (4096 : Int) = max 0 (min X 4096) by omega), bel⟩
  have hp4 := of_decide_eq_false hg3
  refine wp_cond_false rfl ?_
  refine wp_skip ?_
  show Code.wp _ _ _ _ _
  refine wp_seq ?_
  refine wp_region_lit ?_
  refine st_mv (.int .i64 X) ?_
  simp only [nf0, nf1, nf2, nf3, nf4]
  refine st_mv (.int .i64 X) ?_
  simp only [nf0, nf1, nf2, nf3, nf4]
  refine wpList_nil ?_
  show Code.wp _ _ _ _ _
  refine wp_ret ?_
  first | show bodyPost _ _ _ _ _ _ | (simp only [Exit.then, Exit.inBlock]; show bodyPost _ _ _ _ _ _)
  exact bodyPost_ret (results_tmp rfl _ _ _) rfl ⟨by exact congrArg (fun z => Ending.returned (.int .i64 z)) (show (X : Int) = max 0 (min X 4096) by omega), bel⟩
set_option maxRecDepth 100000 in
set_option maxHeartbeats 4000000 in
theorem refPut_calls (A : Option Addr) (l : List Int) (cap p : Nat) (hcap : l.length ≤ cap) (hl : l.length ≤ 5000) (hp : p ≤ l.length) {X : Int} (hX : X = (p : Int)) (x : Int) (w : World) (hr : Reads w A (l.map (Value.int .i64))) : Calls Try.prog 25 #[.slice A l.length cap, .int .i64 X, .int .i64 x] w fun e w' => ∃ v, e = .returned v ∧ OwnR w' w.heap.size 3 (eInt .i64) v (ins l p x) ∧ Below w.heap.size w w' := by
  have bel : Below w.heap.size w w := Below.refl _ _
  go_enter Try.func25, Try.ntmps25
  refine wp_seq ?_
  refine wp_region_lit ?_
  refine st_mv (.slice none 0 0) ?_
  simp only [nf0, nf1, nf2, nf3, nf4]
  refine wpList_nil ?_
  show Code.wp _ _ _ _ _
  refine wp_seq ?_
  refine wp_region_lit ?_
  refine st_lit (by rfl) (q1_run_lit_22_0  rfl  _) ?_
  intro g1 w2 B3 hb4 lo5
  simp only [nf0, nf1, nf2, nf3, nf4]
  replace lo5 := low_le bel lo5
  replace bel := bl_step bel hb4
  clear hb4
  have O6 : OwnR w2 w.heap.size 3 (eInt .i64) (.slice (some ⟨g1, 0, none⟩) 0 0) [] := OwnR.built B3 rfl lo5 (by simp) rfl
  refine st_mv (.slice A l.length cap) ?_
  simp only [nf0, nf1, nf2, nf3, nf4]
  refine st_mv (.int .i64 X) ?_
  simp only [nf0, nf1, nf2, nf3, nf4]
  have R7 := hr.takeI p
  refine st_value (v := (.slice A (l.take p).length cap)) (by rfl) (run_cutp (.tmp 9) (.tmp 10) rfl Try.underlying22 slInt'.sz rfl rfl (p := p) (by omega) (by omega) hcap w2) ?_
  simp only [nf0, nf1, nf2, nf3, nf4]
  refine st_appends slInt' rfl (.tmp 8) (.tmp 11) rfl rfl O6 (l.take p) rfl rfl (by rw [eInt_all]; exact (R7.same bel)) (by simp only [List.length_nil, List.length_take]; omega) bel.size ?_
  intro v8 w9 O10 hg11 hat12
  simp only [nf0, nf1, nf2, nf3, nf4]
  replace bel := bl_app bel O6 hg11
  clear O6 hg11 hat12
  replace O10 : OwnR w9 w.heap.size 3 (eInt .i64) v8 (l.take p) := by rw [List.nil_append] at O10; exact O10
  refine st_mv v8 ?_
  simp only [nf0, nf1, nf2, nf3, nf4]
  refine wpList_nil ?_
  show Code.wp _ _ _ _ _
  refine wp_seq ?_
  refine wp_region_lit ?_
  refine st_mv v8 ?_
  simp only [nf0, nf1, nf2, nf3, nf4]
  refine st_mv (.int .i64 x) ?_
  simp only [nf0, nf1, nf2, nf3, nf4]
  refine st_lit (by rfl) (q1_run_lit_22_1 (.tmp 14) rfl rfl _) ?_
  intro g13 w14 B15 hb16 lo17
  simp only [nf0, nf1, nf2, nf3, nf4]
  have n18 := O10.off lo17
  replace lo17 := low_le bel lo17
  replace O10 := O10.same hb16
  replace bel := bl_step bel hb16
  clear hb16
  refine st_append slInt' rfl (.tmp 13) (.tmp 15) rfl rfl O10 ([x] : List Int) rfl rfl B15 (by simp [Enc.all, eInt]) (by simp only [List.length_take, List.length_cons, List.length_nil]; omega) bel.size ?_
  intro v19 w20 O21 hg22 hat23
  simp only [nf0, nf1, nf2, nf3, nf4]
  replace bel := bl_app bel O10 hg22
  clear O10 hg22 hat23
  refine st_mv v19 ?_
  simp only [nf0, nf1, nf2, nf3, nf4]
  refine wpList_nil ?_
  show Code.wp _ _ _ _ _
  refine wp_seq ?_
  refine wp_region_lit ?_
  refine st_mv v19 ?_
  simp only [nf0, nf1, nf2, nf3, nf4]
  refine st_mv (.slice A l.length cap) ?_
  simp only [nf0, nf1, nf2, nf3, nf4]
  refine st_mv (.int .i64 X) ?_
  simp only [nf0, nf1, nf2, nf3, nf4]
  have R24 := Reads.cutA (p := p) hr hcap
  refine st_value (v := (.slice (cutA A cap p) (l.drop p).length (cap - p))) (by rfl) (run_cutlo (.tmp 18) (.tmp 19) rfl Try.underlying22 slInt'.sz rfl rfl (p := p) (by omega) (by omega) hcap w20) ?_
  simp only [nf0, nf1, nf2, nf3, nf4]
  refine st_appends slInt' rfl (.tmp 17) (.tmp 20) rfl rfl O21 (l.drop p) rfl rfl (by rw [eInt_all]; exact (R24.same bel)) (by simp only [List.length_append, List.length_take, List.length_drop, List.length_cons, List.length_nil]; omega) bel.size ?_
  intro v25 w26 O27 hg28 hat29
  simp only [nf0, nf1, nf2, nf3, nf4]
  replace bel := bl_app bel O21 hg28
  clear O21 hg28 hat29
  refine st_mv v25 ?_
  simp only [nf0, nf1, nf2, nf3, nf4]
  refine wpList_nil ?_
  show Code.wp _ _ _ _ _
  refine wp_ret ?_
  first | show bodyPost _ _ _ _ _ _ | (simp only [Exit.then, Exit.inBlock]; show bodyPost _ _ _ _ _ _)
  exact bodyPost_ret (results_tmp rfl _ _ _) rfl ⟨_, rfl, by have h := O27; rw [List.append_assoc] at h; exact h, bel⟩
set_option maxRecDepth 100000 in
set_option maxHeartbeats 4000000 in
theorem refWithout_calls (A : Option Addr) (l : List Int) (cap p : Nat) (hcap : l.length ≤ cap) (hl : l.length ≤ 5000) (hp : p < l.length) {X : Int} (hX : X = (p : Int)) (w : World) (hr : Reads w A (l.map (Value.int .i64))) : Calls Try.prog 27 #[.slice A l.length cap, .int .i64 X] w fun e w' => ∃ v, e = .returned v ∧ OwnR w' w.heap.size 3 (eInt .i64) v (wo l p) ∧ Below w.heap.size w w' := by
  have bel : Below w.heap.size w w := Below.refl _ _
  go_enter Try.func27, Try.ntmps27
  refine wp_seq ?_
  refine wp_region_lit ?_
  refine st_mv (.slice none 0 0) ?_
  simp only [nf0, nf1, nf2, nf3, nf4]
  refine wpList_nil ?_
  show Code.wp _ _ _ _ _
  refine wp_seq ?_
  refine wp_region_facts2_lit (C := Abv w) 9 [.ex (fun v_ z_ => ∃ g, v_ = .slice (some ⟨g, 0, none⟩) 0 0 ∧ Blk z_ g #[] 3 ∧ w.heap.size ≤ g) (fun v_ z_ y_ hG ⟨g, h1, h2, h3⟩ => ⟨g, h1, h2.below hG, h3⟩), .val (.slice A l.length cap), .val (.int .i64 X), .val (.slice A (l.take p).length cap), .ex (fun v_ z_ => OwnR z_ w.heap.size 3 (eInt .i64) v_ (l.take p)) (fun v_ z_ y_ hG h => h.same hG), .val (.slice A l.length cap), .val (.int .i64 X), .val (.int .i64 (X + 1)), .val (.slice (cutA A cap (p + 1)) (l.drop (p + 1)).length (cap - (p + 1)))] w.heap.size (by kernel_rfl) (by simp) (by kernel_rfl) (by kernel_rfl) (fun _ h => h.size) (Abv.start _) ?_
  simp only [List.take_succ_cons, List.take_zero, List.drop_succ_cons, List.drop_zero]
  refine fst2_ex (fun W hC hh => ok2_ex (by rfl) (q2_run_lit_22_0 rfl W) ⟨_, rfl, Blk.new _ _ _ _ rfl, hC.size⟩ (hC.step (bl_alloc (Below.refl _ _) _)) (bl_alloc (Below.refl _ _) _)) fun v1 => ?_
  simp only [nf0, nf1, nf2, nf3, nf4]
  refine fst2_val (fun W hC _ => ok2_value (v := (.slice A l.length cap)) (by rfl) (by rfl) rfl hC (G0.refl _)) ?_
  simp only [nf0, nf1, nf2, nf3, nf4]
  refine fst2_val (fun W hC _ => ok2_value (v := (.int .i64 X)) (by rfl) (by rfl) rfl hC (G0.refl _)) ?_
  simp only [nf0, nf1, nf2, nf3, nf4]
  have R2 := hr.takeI p
  refine fst2_val (fun W hC _ => ok2_value (v := (.slice A (l.take p).length cap)) (by rfl) (run_cutp (.tmp 6) (.tmp 7) rfl Try.underlying22 slInt'.sz rfl rfl (p := p) (by omega) (by omega) hcap W) rfl hC (G0.refl _)) ?_
  simp only [nf0, nf1, nf2, nf3, nf4]
  refine fst2_ex (fun W hC hh => ok2_of_ex (by rfl) (by
      obtain ⟨g_, e_, hB_, hg_⟩ := (List.forall_mem_cons.1 hh).1 (by show (0 : Nat) ∈ _; decide)
      subst e_
      exact run_append_fresh (base := w.heap.size) slInt' (.tmp 5) (.tmp 8) rfl rfl hB_ (ys := (l.take p)) rfl rfl ((by rw [eInt_all]; exact (R2.same hC))) (by simp only [List.length_take, List.length_drop]; omega) hg_ hC.size) (fun _ h => hC.step h)) fun v3 => ?_
  simp only [nf0, nf1, nf2, nf3, nf4]
  refine fst2_val (fun W hC _ => ok2_value (v := (.slice A l.length cap)) (by rfl) (by rfl) rfl hC (G0.refl _)) ?_
  simp only [nf0, nf1, nf2, nf3, nf4]
  refine fst2_val (fun W hC _ => ok2_value (v := (.int .i64 X)) (by rfl) (by rfl) rfl hC (G0.refl _)) ?_
  simp only [nf0, nf1, nf2, nf3, nf4]
  refine fst2_val (fun W hC _ => ok2_value (v := (.int .i64 (X + 1))) (by rfl) (run_add_in (.tmp 11) (.const (.int .i64 1)) rfl rfl rfl (by omega) W) rfl hC (G0.refl _)) ?_
  simp only [nf0, nf1, nf2, nf3, nf4]
  have R4 := Reads.cutA (p := (p + 1)) hr hcap
  refine fst2_val (fun W hC _ => ok2_value (v := (.slice (cutA A cap (p + 1)) (l.drop (p + 1)).length (cap - (p + 1)))) (by rfl) (run_cutlo (.tmp 10) (.tmp 12) rfl Try.underlying22 slInt'.sz rfl rfl (p := (p + 1)) (by omega) (by omega) hcap W) rfl hC (G0.refl _)) ?_
  simp only [nf0, nf1, nf2, nf3, nf4]
  refine fst2_nil fun w5 hC hh hnd => ?_
  replace hC : Below w.heap.size w w5 := hC
  have O6 : OwnR w5 w.heap.size 3 (eInt .i64) v3 (l.take p) := (List.forall_mem_cons.1 hh).1
  replace hh := (List.forall_mem_cons.1 hh).2
  replace O6 := O6.lower bel.size
  replace hh := (List.forall_mem_cons.1 hh).2
  clear hh hnd
  replace bel := bl_step bel hC
  clear hC
  refine st_appends slInt' rfl (.tmp 9) (.tmp 13) rfl rfl O6 (l.drop (p + 1)) rfl rfl (by rw [eInt_all]; exact (R4.same bel)) (by simp only [List.length_append, List.length_take, List.length_drop]; omega) bel.size ?_
  intro v7 w8 O9 hg10 hat11
  simp only [nf0, nf1, nf2, nf3, nf4]
  replace bel := bl_app bel O6 hg10
  clear O6 hg10 hat11
  refine st_mv v7 ?_
  simp only [nf0, nf1, nf2, nf3, nf4]
  refine wpList_nil ?_
  show Code.wp _ _ _ _ _
  refine wp_ret ?_
  first | show bodyPost _ _ _ _ _ _ | (simp only [Exit.then, Exit.inBlock]; show bodyPost _ _ _ _ _ _)
  exact bodyPost_ret (results_tmp rfl _ _ _) rfl ⟨_, rfl, by have h := O9; exact h, bel⟩
end Go.Proofs.Ytdhhcjhinpmeeaa

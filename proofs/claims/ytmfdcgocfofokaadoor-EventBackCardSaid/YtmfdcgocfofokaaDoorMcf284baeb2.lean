/- Lemmas that the chapter's laws rest on: EvAlls, EvLives, EventBackWalk, OpenEv, EventBack. -/
import Derived.Test.YtmfdcgocfofokaaDoorM1d692fbdbd
import Derived.ChangeMaps5
/- What is read of many lines. -/
namespace Go.Proofs.YtmfdcgocfofokaaDoor
open Go.RowKit Go.WideShapes Go.ChangeShapes
set_option linter.unusedSimpArgs false
set_option linter.unusedVariables false

theorem h_zero_23 : ZeroOf Tryd.prog 23 #[.int .i64 0, .int .i64 0, .int .i64 0, .int .i64 0, .int .i64 0] := zeroOf (z := .agg #[.int .i64 0, .int .i64 0, .int .i64 0, .int .i64 0, .int .i64 0]) (by kernel_rfl) rfl
theorem h_run_call_8_1 {o : Oper} {a : Act} (x0 : Operand) {ts : Array TypeId} (ho : o.op = .call { callee := .value (.func 8), args := #[x0], argTypes := ts }) {v0 : Value} (h0 : a.eval x0 = v0) (W : World) : (execOp a.eval o).run Tryd.prog W = .ok (.enter 8 #[v0]) W := by
  unfold execOp
  simp only [ho]
  subst h0
  go_simp
theorem h_run_call_22_2 {o : Oper} {a : Act} (x0 : Operand) (x1 : Operand) {ts : Array TypeId} (ho : o.op = .call { callee := .value (.func 22), args := #[x0, x1], argTypes := ts }) {v0 : Value} (h0 : a.eval x0 = v0) {v1 : Value} (h1 : a.eval x1 = v1) (W : World) : (execOp a.eval o).run Tryd.prog W = .ok (.enter 22 #[v0, v1]) W := by
  unfold execOp
  simp only [ho]
  subst h0 h1
  go_simp
theorem h_run_lit_32_1 {o : Oper} {a : Act} (x0 : Operand) (ho : o.op = .buildSlice 32 1 #[(0, x0)]) {m0 : TEvt} (h0 : a.eval x0 = .agg #[.int .i64 m0.1, .int .i64 m0.2.1, .int .i64 m0.2.2.1, .int .i64 m0.2.2.2.1, .int .i64 m0.2.2.2.2]) (W : World) : (execOp a.eval o).run Tryd.prog W = .ok (.value (.slice (some ⟨W.heap.size, 0, none⟩) 1 1)) (W.alloc (.cells #[.int .i64 m0.1, .int .i64 m0.2.1, .int .i64 m0.2.2.1, .int .i64 m0.2.2.2.1, .int .i64 m0.2.2.2.2] 23)) := by
  unfold execOp
  simp only [ho, List.map_toArray, List.map_cons, List.map_nil, h0]
  go_simp
theorem h_run_call_9_1 {o : Oper} {a : Act} (x0 : Operand) {ts : Array TypeId} (ho : o.op = .call { callee := .value (.func 9), args := #[x0], argTypes := ts }) {v0 : Value} (h0 : a.eval x0 = v0) (W : World) : (execOp a.eval o).run Tryd.prog W = .ok (.enter 9 #[v0]) W := by
  unfold execOp
  simp only [ho]
  subst h0
  go_simp

attribute [local irreducible] Go.wpList Go.Code.wp
set_option maxRecDepth 100000 in
set_option maxHeartbeats 4000000 in
theorem parseAll_calls (l : List UInt8) (hl : l.length ≤ 100000) (w : World) : Calls Tryd.prog 19 #[.string (str l)] w fun e w' => ∃ u, e = .returned u ∧ ∃ v, u = .tuple #[v, .int .i64 (paA l).2] ∧ OwnR w' w.heap.size 23 eEvt v (paA l).1 ∧ Below w.heap.size w w' := by
  have bel : Below w.heap.size w w := Below.refl _ _
  have hpl := pieces_len 10 l
  have hcl : l.count 10 ≤ l.length := List.count_le_length
  have hnl : ∀ x ∈ (pieces 10 l), x.length ≤ l.length := fun x hx => pieces_mem hx
  go_enter Tryd.func19, Tryd.ntmps19
  refine wp_seq ?_
  refine wp_region_lit ?_
  have O1 : OwnR w w.heap.size 23 eEvt (.slice none 0 0) [] := OwnR.nil _ _ _ _
  refine st_mv (.slice none 0 0) ?_
  simp only [nf0, nf1, nf2, nf3, nf4]
  refine st_mv (.int .i64 0) ?_
  simp only [nf0, nf1, nf2, nf3, nf4]
  refine wpList_nil ?_
  show Code.wp _ _ _ _ _
  refine wp_seq ?_
  refine wp_region_lit ?_
  refine st_mv (.string (str l)) ?_
  simp only [nf0, nf1, nf2, nf3, nf4]
  refine st_call (by rfl) (h_run_call_22_2 (.tmp 10) (.const (.string ⟨#[10]⟩)) rfl rfl rfl _) (splits_calls l 10 (by omega) w) ?_
  rintro v3 w5 ⟨O4, hf6⟩
  simp only [nf0, nf1, nf2, nf3, nf4]
  have n7 := O4.offLow2 O1
  have O4_ := fun k hk => (O4.lt k hk).1
  replace O4 := O4.lower bel.size
  replace O1 := O1.same hf6
  replace bel := bl_step bel hf6
  clear hf6
  refine st_mv v3 ?_
  simp only [nf0, nf1, nf2, nf3, nf4]
  refine wpList_nil ?_
  show Code.wp _ _ _ _ _
  refine wp_seq ?_
  obtain ⟨A8, c9, hv10, h11, h12, h13, R14⟩ := O4.reads
  subst hv10
  obtain ⟨b15, o16, rfl, _⟩ := R14.at_ (by rw [Enc.all_length]; exact Nat.mul_pos (by omega) (by decide))
  refine wp_region_lit ?_
  refine st_mv (.slice (some ⟨b15, o16, none⟩) (pieces 10 l).length c9) ?_
  simp only [nf0, nf1, nf2, nf3, nf4]
  refine st_value (v := (.int .i64 ((pieces 10 l).length : Int))) (by rfl) (run_len (.tmp 12) rfl ⟨_, Tryd.underlying42⟩ rfl w5) ?_
  simp only [nf0, nf1, nf2, nf3, nf4]
  refine st_value (v := (.int .i64 ((l.count 10 : Nat) : Int))) (by rfl) ((run_sub_in (.tmp 13) (.const (.int .i64 1)) rfl rfl rfl (by omega) w5).trans (by rw [show ((pieces 10 l).length : Int) - 1 = ((l.count 10 : Nat) : Int) by omega])) ?_
  simp only [nf0, nf1, nf2, nf3, nf4]
  refine st_mv (.int .i64 ((l.count 10 : Nat) : Int)) ?_
  simp only [nf0, nf1, nf2, nf3, nf4]
  refine wpList_nil ?_
  show Code.wp _ _ _ _ _
  refine wp_seq ?_
  refine wp_seq ?_
  refine wp_region_lit ?_
  refine st_mv (.slice (some ⟨b15, o16, none⟩) (pieces 10 l).length c9) ?_
  simp only [nf0, nf1, nf2, nf3, nf4]
  refine st_mv (.int .i64 ((l.count 10 : Nat) : Int)) ?_
  simp only [nf0, nf1, nf2, nf3, nf4]
  have R17 := R14.takeE (l.count 10)
  refine st_value (v := (.slice (some ⟨b15, o16, none⟩) ((pieces 10 l).take (l.count 10)).length c9)) (by rfl) (run_cutq (.tmp 15) (.tmp 16) rfl Tryd.underlying42 slTx.sz rfl rfl (p := (l.count 10)) (by omega) (by omega) h11 w5) ?_
  simp only [nf0, nf1, nf2, nf3, nf4]
  refine st_value (v := (.int .i64 (((pieces 10 l).take (l.count 10)).length : Int))) (by rfl) (run_len (.tmp 17) rfl ⟨_, Tryd.underlying42⟩ rfl w5) ?_
  simp only [nf0, nf1, nf2, nf3, nf4]
  refine st_mv (.int .i64 0) ?_
  simp only [nf0, nf1, nf2, nf3, nf4]
  refine wpList_nil ?_
  show Code.wp _ _ _ _ _
  refine wp_block ?_
  have R18 := rd_take (l.count 10) O4
  have htl : ((pieces 10 l).take (l.count 10)).length = l.count 10 := by rw [List.length_take]; omega
  refine wp_loop_left (fun n_ a_ wr_ => (fun J19 => ∃ (k : Nat) (xs : List TEvt) (va : Value), n_ = l.count 10 - k ∧ a_ = ⟨#[.string (str l), J19 1, va, J19 3, .slice (some ⟨b15, o16, none⟩) (pieces 10 l).length c9, .int .i64 ((l.count 10 : Nat) : Int), J19 6, J19 7, J19 8, J19 9, J19 10, J19 11, J19 12, J19 13, J19 14, J19 15, J19 16, .slice (some ⟨b15, o16, none⟩) ((pieces 10 l).take (l.count 10)).length c9, .int .i64 (((pieces 10 l).take (l.count 10)).length : Int), .int .i64 (k : Int), J19 20, J19 21, J19 22, J19 23, J19 24, J19 25, J19 26, J19 27, J19 28, J19 29, J19 30, J19 31, J19 32, J19 33, J19 34, J19 35, J19 36, J19 37, J19 38, J19 39, J19 40, J19 41, J19 42, J19 43, J19 44, J19 45], []⟩ ∧ OwnR wr_ w.heap.size 23 eEvt va xs ∧ OwnR wr_ w.heap.size 9 eTx (.slice (some ⟨b15, o16, none⟩) (pieces 10 l).length c9) (pieces 10 l) ∧ Reads wr_ (some ⟨b15, o16, none⟩) (Enc.all eTx (pieces 10 l)) ∧ Reads wr_ (some ⟨b15, o16, none⟩) (Enc.all eTx ((pieces 10 l).take (l.count 10))) ∧ Off2 va (.slice (some ⟨b15, o16, none⟩) (pieces 10 l).length c9) ∧ Below w.heap.size w wr_ ∧ (k ≤ l.count 10) ∧ (xs.length ≤ k) ∧ (paA l = goL ((pieces 10 l).drop k) k xs)) (jk a_)) (l.count 10 - 0) ⟨0, [], (.slice none 0 0), rfl, rfl, O1, O4, R14, R18, n7.symm, bel, (Nat.zero_le _), (Nat.le_refl _), (by rw [List.drop_zero]; rfl)⟩ ?_
  clear O1
  clear O4
  clear R14
  clear R18
  clear n7
  clear bel
  intro n_ a_ w21 h_
  revert h_
  generalize jk a_ = J19
  rintro ⟨k, xs, va, hms, rfl, O1, O4, R14, R18, n20, bel, hk, hxl, hG⟩
  refine wp_seq ?_
  refine wp_region_lit ?_
  refine st_value (v := (.bool (decide ((k : Int) < (((pieces 10 l).take (l.count 10)).length : Int))))) (by rfl) (run_lss (.tmp 19) (.tmp 18) rfl rfl rfl w21) ?_
  simp only [nf0, nf1, nf2, nf3, nf4]
  refine wpList_nil ?_
  show Code.wp _ _ _ _ _
  refine wp_seq ?_
  cases hg22 : decide ((k : Int) < (((pieces 10 l).take (l.count 10)).length : Int))
  · have hp23 := of_decide_eq_false hg22
    refine wp_cond_false rfl ?_
    refine wp_exit ?_
    show Code.wp _ _ _ _ _
    refine wp_seq ?_
    refine wp_seq ?_
    obtain rfl : k = l.count 10 := by omega
    refine wp_region_lit ?_
    refine st_mv (.slice (some ⟨b15, o16, none⟩) (pieces 10 l).length c9) ?_
    simp only [nf0, nf1, nf2, nf3, nf4]
    refine st_mv (.int .i64 ((l.count 10 : Nat) : Int)) ?_
    simp only [nf0, nf1, nf2, nf3, nf4]
    refine st_value (v := (.pointer (some ⟨b15, o16 + (l.count 10) * 1, none⟩))) (by rfl) (run_indexAddrN (.tmp 38) (.tmp 39) rfl Tryd.underlying42 slTx.sz (i := (l.count 10)) rfl (by exact (congrArg (Value.int .i64) (show ((l.count 10 : Nat) : Int) = ((l.count 10 : Nat) : Int) by omega))) (by omega) w21) ?_
    simp only [nf0, nf1, nf2, nf3, nf4]
    refine st_value (v := (.string (str (tx (pieces 10 l) (l.count 10))))) (by rfl) (run_load1 (.tmp 40) rfl Tryd.underlying9 rfl slTx.sz rfl (Reads.txAt R14 (l.count 10) (by omega))) ?_
    simp only [nf0, nf1, nf2, nf3, nf4]
    refine st_value (v := (.bool (!decide ((tx (pieces 10 l) (l.count 10)) = [])))) (by rfl) (run_neq_text (.tmp 41) (.const (.string ⟨#[]⟩)) (l := (tx (pieces 10 l) (l.count 10))) (m := []) rfl rfl rfl w21) ?_
    simp only [nf0, nf1, nf2, nf3, nf4]
    refine wpList_nil ?_
    show Code.wp _ _ _ _ _
    cases hg24 : decide ((tx (pieces 10 l) (l.count 10)) = [])
    rotate_left
    · have hp30 := of_decide_eq_true hg24
      refine wp_cond_false rfl ?_
      refine wp_skip ?_
      show Code.wp _ _ _ _ _
      refine wp_seq ?_
      refine wp_region_lit ?_
      refine st_mv va ?_
      simp only [nf0, nf1, nf2, nf3, nf4]
      refine st_mv va ?_
      simp only [nf0, nf1, nf2, nf3, nf4]
      refine st_mv (.int .i64 0) ?_
      simp only [nf0, nf1, nf2, nf3, nf4]
      refine wpList_nil ?_
      show Code.wp _ _ _ _ _
      refine wp_ret ?_
      first | show bodyPost _ _ _ _ _ _ | (simp only [Exit.then, Exit.inBlock]; show bodyPost _ _ _ _ _ _)
      have hE : paA l = (xs, 0) := by rw [hG, goL_last (by omega), if_pos (by assumption)]
      refine bodyPost_ret (results_tmp2 rfl _ _ _) rfl ⟨_, rfl, _, by rw [hE]; rfl, ?_, bel⟩
      rw [hE]; exact O1
    have hp25 := of_decide_eq_false hg24
    refine wp_cond_true rfl ?_
    refine wp_seq ?_
    refine wp_region_lit ?_
    refine st_mv (.int .i64 ((l.count 10 : Nat) : Int)) ?_
    simp only [nf0, nf1, nf2, nf3, nf4]
    refine st_value (v := (.int .i64 (((l.count 10 : Nat) : Int) + 1))) (by rfl) (run_add_in (.tmp 43) (.const (.int .i64 1)) rfl rfl rfl (by omega) w21) ?_
    simp only [nf0, nf1, nf2, nf3, nf4]
    have O26 : OwnR w21 w.heap.size 23 eEvt (.slice none 0 0) [] := OwnR.nil _ _ _ _
    have n28 : Off2 (.slice none 0 0) va := Off2.nil _
    have n29 : Off2 (.slice none 0 0) (.slice (some ⟨b15, o16, none⟩) (pieces 10 l).length c9) := Off2.nil _
    refine st_mv (.slice none 0 0) ?_
    simp only [nf0, nf1, nf2, nf3, nf4]
    refine st_mv (.int .i64 (((l.count 10 : Nat) : Int) + 1)) ?_
    simp only [nf0, nf1, nf2, nf3, nf4]
    refine wpList_nil ?_
    show Code.wp _ _ _ _ _
    refine wp_ret ?_
    first | show bodyPost _ _ _ _ _ _ | (simp only [Exit.then, Exit.inBlock]; show bodyPost _ _ _ _ _ _)
    have hE : paA l = ([], ((l.count 10) : Int) + 1) := (by rw [hG, goL_last (by omega), if_neg (by assumption)])
    refine bodyPost_ret (results_tmp2 rfl _ _ _) rfl ⟨_, rfl, _, by rw [hE]; rfl, ?_, bel⟩
    rw [hE]; exact OwnR.nil _ _ _ _
  have hp31 := of_decide_eq_true hg22
  refine wp_cond_true rfl ?_
  refine wp_skip ?_
  show Code.wp _ _ _ _ _
  refine wp_seq ?_
  refine wp_block ?_
  refine wp_seq ?_
  refine wp_region_lit ?_
  refine st_mv (.int .i64 (k : Int)) ?_
  simp only [nf0, nf1, nf2, nf3, nf4]
  refine st_value (v := (.pointer (some ⟨b15, o16 + k * 1, none⟩))) (by rfl) (run_indexAddrN (.tmp 17) (.tmp 19) rfl Tryd.underlying42 slTx.sz (i := k) rfl rfl (by omega) w21) ?_
  simp only [nf0, nf1, nf2, nf3, nf4]
  refine st_value (v := (.string (str (tx ((pieces 10 l).take (l.count 10)) k)))) (by rfl) (run_load1 (.tmp 22) rfl Tryd.underlying9 rfl slTx.sz rfl (Reads.txAt R18 k (by omega))) ?_
  simp only [nf0, nf1, nf2, nf3, nf4]
  refine st_mv (.int .i64 (k : Int)) ?_
  simp only [nf0, nf1, nf2, nf3, nf4]
  refine st_mv (.string (str (tx ((pieces 10 l).take (l.count 10)) k))) ?_
  simp only [nf0, nf1, nf2, nf3, nf4]
  refine wpList_nil ?_
  show Code.wp _ _ _ _ _
  refine wp_seq ?_
  refine wp_region_lit ?_
  refine st_mv (.string (str (tx ((pieces 10 l).take (l.count 10)) k))) ?_
  simp only [nf0, nf1, nf2, nf3, nf4]
  refine st_call1 (v := (.tuple #[.agg #[.int .i64 ((pE (tx ((pieces 10 l).take (l.count 10)) k)).1.1), .int .i64 ((pE (tx ((pieces 10 l).take (l.count 10)) k)).1.2.1), .int .i64 ((pE (tx ((pieces 10 l).take (l.count 10)) k)).1.2.2.1), .int .i64 ((pE (tx ((pieces 10 l).take (l.count 10)) k)).1.2.2.2.1), .int .i64 ((pE (tx ((pieces 10 l).take (l.count 10)) k)).1.2.2.2.2)], .bool ((pE (tx ((pieces 10 l).take (l.count 10)) k)).2)])) (by rfl) (h_run_call_8_1 (.tmp 25) rfl rfl _) (parse_calls (tx ((pieces 10 l).take (l.count 10)) k) (Nat.le_trans (hnl _ (by rw [tx_take (by omega)]; exact tx_mem (by omega))) (by omega)) w21) ?_
  intro w32 hb33
  simp only [nf0, nf1, nf2, nf3, nf4]
  replace O1 := O1.same hb33
  replace O4 := O4.same hb33
  replace R14 := R14.same hb33
  replace R18 := R18.same hb33
  replace bel := bl_step bel hb33
  clear hb33
  refine st_mv (.tuple #[.agg #[.int .i64 ((pE (tx ((pieces 10 l).take (l.count 10)) k)).1.1), .int .i64 ((pE (tx ((pieces 10 l).take (l.count 10)) k)).1.2.1), .int .i64 ((pE (tx ((pieces 10 l).take (l.count 10)) k)).1.2.2.1), .int .i64 ((pE (tx ((pieces 10 l).take (l.count 10)) k)).1.2.2.2.1), .int .i64 ((pE (tx ((pieces 10 l).take (l.count 10)) k)).1.2.2.2.2)], .bool ((pE (tx ((pieces 10 l).take (l.count 10)) k)).2)]) ?_
  simp only [nf0, nf1, nf2, nf3, nf4]
  refine st_mv (.agg #[.int .i64 ((pE (tx ((pieces 10 l).take (l.count 10)) k)).1.1), .int .i64 ((pE (tx ((pieces 10 l).take (l.count 10)) k)).1.2.1), .int .i64 ((pE (tx ((pieces 10 l).take (l.count 10)) k)).1.2.2.1), .int .i64 ((pE (tx ((pieces 10 l).take (l.count 10)) k)).1.2.2.2.1), .int .i64 ((pE (tx ((pieces 10 l).take (l.count 10)) k)).1.2.2.2.2)]) ?_
  simp only [nf0, nf1, nf2, nf3, nf4]
  refine st_mv (.bool ((pE (tx ((pieces 10 l).take (l.count 10)) k)).2)) ?_
  simp only [nf0, nf1, nf2, nf3, nf4]
  refine st_new (cs := #[.int .i64 0, .int .i64 0, .int .i64 0, .int .i64 0, .int .i64 0]) (t := 23) (by rfl) (run_allocV rfl h_zero_23 _) ?_
  intro g34 w35 B36 hb37 lo38
  simp only [nf0, nf1, nf2, nf3, nf4]
  have n39 := O1.off lo38
  have n40 := O4.off lo38
  replace lo38 := low_le bel lo38
  replace O1 := O1.same hb37
  replace O4 := O4.same hb37
  replace R14 := R14.same hb37
  replace R18 := R18.same hb37
  replace bel := bl_step bel hb37
  clear hb37
  refine st_row (by rfl) (run_storeW (.tmp 8) (.tmp 27) rfl (cs := #[.int .i64 ((pE (tx ((pieces 10 l).take (l.count 10)) k)).1.1), .int .i64 ((pE (tx ((pieces 10 l).take (l.count 10)) k)).1.2.1), .int .i64 ((pE (tx ((pieces 10 l).take (l.count 10)) k)).1.2.2.1), .int .i64 ((pE (tx ((pieces 10 l).take (l.count 10)) k)).1.2.2.2.1), .int .i64 ((pE (tx ((pieces 10 l).take (l.count 10)) k)).1.2.2.2.2)]) aggEvt rfl rfl B36 rfl (by simp [Value.oneCell'])) B36 ?_
  intro w41 B43 hg42
  simp only [nf0, nf1, nf2, nf3, nf4]
  replace O1 := O1.keptB hg42 n39
  replace O4 := O4.keptB hg42 n40
  replace bel := bl_kept0 bel hg42 lo38
  replace R14 := OwnR.rdE O4
  replace R18 := rd_take (l.count 10) O4
  clear hg42
  clear B36
  refine st_mv (.bool ((pE (tx ((pieces 10 l).take (l.count 10)) k)).2)) ?_
  simp only [nf0, nf1, nf2, nf3, nf4]
  refine wpList_nil ?_
  show Code.wp _ _ _ _ _
  refine wp_seq ?_
  refine wp_seq ?_
  refine wp_region_lit ?_
  refine st_mv (.bool ((pE (tx ((pieces 10 l).take (l.count 10)) k)).2)) ?_
  simp only [nf0, nf1, nf2, nf3, nf4]
  refine st_value (v := (.bool (!((pE (tx ((pieces 10 l).take (l.count 10)) k)).2)))) (by rfl) (run_not (.tmp 29) rfl (b := (pE (tx ((pieces 10 l).take (l.count 10)) k)).2) rfl w41) ?_
  simp only [nf0, nf1, nf2, nf3, nf4]
  refine wpList_nil ?_
  show Code.wp _ _ _ _ _
  cases hg44 : (pE (tx ((pieces 10 l).take (l.count 10)) k)).2
  · have hp45 := trivial
    refine wp_cond_true rfl ?_
    refine wp_seq ?_
    refine wp_region_lit ?_
    refine st_mv (.int .i64 (k : Int)) ?_
    simp only [nf0, nf1, nf2, nf3, nf4]
    refine st_value (v := (.int .i64 ((k : Int) + 1))) (by rfl) (run_add_in (.tmp 31) (.const (.int .i64 1)) rfl rfl rfl (by omega) w41) ?_
    simp only [nf0, nf1, nf2, nf3, nf4]
    have O46 : OwnR w41 w.heap.size 23 eEvt (.slice none 0 0) [] := OwnR.nil _ _ _ _
    have n48 : Off2 (.slice none 0 0) va := Off2.nil _
    have n49 : Off2 (.slice none 0 0) (.slice (some ⟨b15, o16, none⟩) (pieces 10 l).length c9) := Off2.nil _
    have n50 := Off.nil g34
    refine st_mv (.slice none 0 0) ?_
    simp only [nf0, nf1, nf2, nf3, nf4]
    refine st_mv (.int .i64 ((k : Int) + 1)) ?_
    simp only [nf0, nf1, nf2, nf3, nf4]
    refine wpList_nil ?_
    show Code.wp _ _ _ _ _
    refine wp_ret ?_
    first | show bodyPost _ _ _ _ _ _ | (simp only [Exit.then, Exit.inBlock]; show bodyPost _ _ _ _ _ _)
    have hE : paA l = ([], (k : Int) + 1) := (by rw [hG, goL_step (by omega), ← tx_take (n := l.count 10) (by omega), if_neg (by simp only [Bool.not_eq_true]; assumption)])
    refine bodyPost_ret (results_tmp2 rfl _ _ _) rfl ⟨_, rfl, _, by rw [hE]; rfl, ?_, bel⟩
    rw [hE]; exact OwnR.nil _ _ _ _
  have hp51 := trivial
  refine wp_cond_false rfl ?_
  refine wp_skip ?_
  show Code.wp _ _ _ _ _
  refine wp_region_lit ?_
  refine st_mv va ?_
  simp only [nf0, nf1, nf2, nf3, nf4]
  refine st_value (v := (.agg #[.int .i64 ((pE (tx ((pieces 10 l).take (l.count 10)) k)).1.1), .int .i64 ((pE (tx ((pieces 10 l).take (l.count 10)) k)).1.2.1), .int .i64 ((pE (tx ((pieces 10 l).take (l.count 10)) k)).1.2.2.1), .int .i64 ((pE (tx ((pieces 10 l).take (l.count 10)) k)).1.2.2.2.1), .int .i64 ((pE (tx ((pieces 10 l).take (l.count 10)) k)).1.2.2.2.2)])) (by rfl) (run_loadW (.tmp 8) rfl (cs := #[.int .i64 ((pE (tx ((pieces 10 l).take (l.count 10)) k)).1.1), .int .i64 ((pE (tx ((pieces 10 l).take (l.count 10)) k)).1.2.1), .int .i64 ((pE (tx ((pieces 10 l).take (l.count 10)) k)).1.2.2.1), .int .i64 ((pE (tx ((pieces 10 l).take (l.count 10)) k)).1.2.2.2.1), .int .i64 ((pE (tx ((pieces 10 l).take (l.count 10)) k)).1.2.2.2.2)]) aggEvt rfl B43) ?_
  simp only [nf0, nf1, nf2, nf3, nf4]
  refine st_lit (by rfl) (h_run_lit_32_1 (.tmp 34) rfl (m0 := (((pE (tx ((pieces 10 l).take (l.count 10)) k)).1.1), ((pE (tx ((pieces 10 l).take (l.count 10)) k)).1.2.1), ((pE (tx ((pieces 10 l).take (l.count 10)) k)).1.2.2.1), ((pE (tx ((pieces 10 l).take (l.count 10)) k)).1.2.2.2.1), ((pE (tx ((pieces 10 l).take (l.count 10)) k)).1.2.2.2.2))) rfl _) ?_
  intro g52 w53 B54 hb55 lo56
  simp only [nf0, nf1, nf2, nf3, nf4]
  have n57 := O1.off lo56
  have n58 := O4.off lo56
  have n59 := B43.ne lo56
  replace lo56 := low_le bel lo56
  replace O1 := O1.same hb55
  replace O4 := O4.same hb55
  replace R14 := R14.same hb55
  replace R18 := R18.same hb55
  replace B43 := B43.below hb55
  replace bel := bl_step bel hb55
  clear hb55
  refine st_append slEvt rfl (.tmp 33) (.tmp 35) rfl rfl O1 ([(((pE (tx ((pieces 10 l).take (l.count 10)) k)).1.1), ((pE (tx ((pieces 10 l).take (l.count 10)) k)).1.2.1), ((pE (tx ((pieces 10 l).take (l.count 10)) k)).1.2.2.1), ((pE (tx ((pieces 10 l).take (l.count 10)) k)).1.2.2.2.1), ((pE (tx ((pieces 10 l).take (l.count 10)) k)).1.2.2.2.2))] : List TEvt) rfl rfl B54 (by simp [Enc.all, eEvt]) (by simp only [List.length_cons, List.length_nil]; omega) bel.size ?_
  intro v60 w61 O62 hg63 hat64
  simp only [nf0, nf1, nf2, nf3, nf4]
  have n65 := Off2.app n20 O4 hat64
  replace O4 := O4.keptR hg63 n20.symm
  have n66 := (n39 : Off _ _).app B43 hat64
  replace B43 := B43.keptR hg63 n39
  replace bel := bl_app bel O1 hg63
  clear O1 hg63 hat64
  replace R14 := OwnR.rdE O4
  replace R18 := rd_take (l.count 10) O4
  refine st_mv v60 ?_
  simp only [nf0, nf1, nf2, nf3, nf4]
  refine wpList_nil ?_
  show Code.wp _ _ _ _ _
  refine wp_region_lit ?_
  refine st_value (v := (.int .i64 ((k : Int) + 1))) (by rfl) (run_add_in (.tmp 19) (.const (.int .i64 1)) rfl rfl rfl (by omega) w61) ?_
  simp only [nf0, nf1, nf2, nf3, nf4]
  refine st_mv (.int .i64 ((k : Int) + 1)) ?_
  simp only [nf0, nf1, nf2, nf3, nf4]
  refine wpList_nil ?_
  show ∃ m, m < _ ∧ _
  exact ⟨_, (by omega), (k + 1), _, v60, rfl, rfl, O62, O4, R14, R18, n65, bel, (by omega), (by rw [List.length_append, List.length_cons, List.length_nil]; omega), (by rw [hG, goL_step (by omega), ← tx_take (n := l.count 10) (by omega), if_pos (by assumption)])⟩
set_option maxRecDepth 100000 in
set_option maxHeartbeats 4000000 in
theorem refParseAll_calls (l : List UInt8) (hl : l.length ≤ 100000) (w : World) : Calls Tryd.prog 20 #[.string (str l)] w fun e w' => ∃ u, e = .returned u ∧ ∃ v, u = .tuple #[v, .int .i64 (paA l).2] ∧ OwnR w' w.heap.size 23 eEvt v (paA l).1 ∧ Below w.heap.size w w' := by
  have bel : Below w.heap.size w w := Below.refl _ _
  go_enter Tryd.func20, Tryd.ntmps20
  refine wp_seq ?_
  refine wp_region_lit ?_
  have O1 : OwnR w w.heap.size 23 eEvt (.slice none 0 0) [] := OwnR.nil _ _ _ _
  refine st_mv (.slice none 0 0) ?_
  simp only [nf0, nf1, nf2, nf3, nf4]
  refine st_mv (.int .i64 0) ?_
  simp only [nf0, nf1, nf2, nf3, nf4]
  refine wpList_nil ?_
  show Code.wp _ _ _ _ _
  refine wp_seq ?_
  refine wp_region_lit ?_
  have O3 : OwnR w w.heap.size 23 eEvt (.slice none 0 0) [] := OwnR.nil _ _ _ _
  have n5 : Off2 (.slice none 0 0) (.slice none 0 0) := Off2.nil _
  refine st_mv (.slice none 0 0) ?_
  simp only [nf0, nf1, nf2, nf3, nf4]
  refine wpList_nil ?_
  show Code.wp _ _ _ _ _
  refine wp_seq ?_
  refine wp_region_lit ?_
  refine st_mv (.int .i64 0) ?_
  simp only [nf0, nf1, nf2, nf3, nf4]
  refine st_mv (.int .i64 0) ?_
  simp only [nf0, nf1, nf2, nf3, nf4]
  refine wpList_nil ?_
  show Code.wp _ _ _ _ _
  refine wp_seq ?_
  refine wp_seq ?_
  refine wp_region_lit ?_
  refine st_mv (.int .i64 0) ?_
  simp only [nf0, nf1, nf2, nf3, nf4]
  refine wpList_nil ?_
  show Code.wp _ _ _ _ _
  refine wp_block ?_
  refine wp_loop_left (fun n_ a_ wr_ => (fun J6 => ∃ (i : Nat) (fr : Nat) (at_ : Nat) (xs : List TEvt) (va : Value), n_ = l.length - i ∧ a_ = ⟨#[.string (str l), J6 1, J6 2, J6 3, va, .int .i64 (fr : Int), .int .i64 (at_ : Int), .int .i64 (i : Int), J6 8, J6 9, J6 10, J6 11, J6 12, J6 13, J6 14, J6 15, J6 16, J6 17, J6 18, J6 19, J6 20, J6 21, J6 22, J6 23, J6 24, J6 25, J6 26, J6 27, J6 28, J6 29, J6 30, J6 31, J6 32, J6 33, J6 34, J6 35, J6 36, J6 37, J6 38, J6 39, J6 40, J6 41, J6 42, J6 43, J6 44, J6 45], []⟩ ∧ OwnR wr_ w.heap.size 23 eEvt (.slice none 0 0) [] ∧ OwnR wr_ w.heap.size 23 eEvt va xs ∧ Off2 (.slice none 0 0) va ∧ Below w.heap.size w wr_ ∧ (i ≤ l.length) ∧ (fr ≤ i) ∧ (at_ ≤ i ∧ xs.length ≤ i) ∧ (∀ j, fr ≤ j → j < i → chr l j ≠ 10) ∧ (paA l = goL (pieces 10 (l.drop fr)) at_ xs)) (jk a_)) (l.length - 0) ⟨0, 0, 0, [], (.slice none 0 0), rfl, rfl, O1, O3, n5.symm, bel, (Nat.zero_le _), (Nat.le_refl _), ⟨Nat.le_refl _, Nat.le_refl _⟩, (fun j _ h => absurd h (Nat.not_lt_zero _)), (by rw [List.drop_zero]; rfl)⟩ ?_
  clear O1
  clear O3
  clear n5
  clear bel
  intro n_ a_ w8 h_
  revert h_
  generalize jk a_ = J6
  rintro ⟨i, fr, at_, xs, va, hms, rfl, O1, O3, n7, bel, hi, hfr, hat, hno, hG⟩
  refine wp_seq ?_
  refine wp_seq ?_
  refine wp_region_lit ?_
  refine st_mv (.int .i64 (i : Int)) ?_
  simp only [nf0, nf1, nf2, nf3, nf4]
  refine st_mv (.string (str l)) ?_
  simp only [nf0, nf1, nf2, nf3, nf4]
  refine st_value (v := (.int .i64 (l.length : Int))) (by rfl) (run_len_text (.tmp 11) rfl Tryd.underlying9 (l := l) rfl w8) ?_
  simp only [nf0, nf1, nf2, nf3, nf4]
  refine st_value (v := (.bool (decide ((i : Int) < (l.length : Int))))) (by rfl) (run_lss (.tmp 10) (.tmp 12) rfl rfl rfl w8) ?_
  simp only [nf0, nf1, nf2, nf3, nf4]
  refine wpList_nil ?_
  show Code.wp _ _ _ _ _
  cases hg9 : decide ((i : Int) < (l.length : Int))
  · have hp10 := of_decide_eq_false hg9
    refine wp_cond_false rfl ?_
    refine wp_exit ?_
    show Code.wp _ _ _ _ _
    refine wp_seq ?_
    refine wp_seq ?_
    obtain rfl : i = l.length := by omega
    refine wp_region_lit ?_
    refine st_mv (.int .i64 (fr : Int)) ?_
    simp only [nf0, nf1, nf2, nf3, nf4]
    refine st_mv (.string (str l)) ?_
    simp only [nf0, nf1, nf2, nf3, nf4]
    refine st_value (v := (.int .i64 (l.length : Int))) (by rfl) (run_len_text (.tmp 40) rfl Tryd.underlying9 (l := l) rfl w8) ?_
    simp only [nf0, nf1, nf2, nf3, nf4]
    refine st_value (v := (.bool (decide ((fr : Int) < (l.length : Int))))) (by rfl) (run_lss (.tmp 39) (.tmp 41) rfl rfl rfl w8) ?_
    simp only [nf0, nf1, nf2, nf3, nf4]
    refine wpList_nil ?_
    show Code.wp _ _ _ _ _
    cases hg11 : decide ((fr : Int) < (l.length : Int))
    · have hp12 := of_decide_eq_false hg11
      refine wp_cond_false rfl ?_
      refine wp_skip ?_
      show Code.wp _ _ _ _ _
      refine wp_seq ?_
      refine wp_region_lit ?_
      refine st_mv va ?_
      simp only [nf0, nf1, nf2, nf3, nf4]
      refine st_mv va ?_
      simp only [nf0, nf1, nf2, nf3, nf4]
      refine st_mv (.int .i64 0) ?_
      simp only [nf0, nf1, nf2, nf3, nf4]
      refine wpList_nil ?_
      show Code.wp _ _ _ _ _
      refine wp_ret ?_
      first | show bodyPost _ _ _ _ _ _ | (simp only [Exit.then, Exit.inBlock]; show bodyPost _ _ _ _ _ _)
      have hE : paA l = (xs, 0) := (by rw [hG, line_end hno, goL_one, if_pos (List.drop_of_length_le (by omega))])
      refine bodyPost_ret (results_tmp2 rfl _ _ _) rfl ⟨_, rfl, _, by rw [hE]; rfl, ?_, bel⟩
      rw [hE]; exact O3
    have hp13 := of_decide_eq_true hg11
    refine wp_cond_true rfl ?_
    refine wp_seq ?_
    refine wp_region_lit ?_
    refine st_mv (.int .i64 (at_ : Int)) ?_
    simp only [nf0, nf1, nf2, nf3, nf4]
    refine st_value (v := (.int .i64 ((at_ : Int) + 1))) (by rfl) (run_add_in (.tmp 43) (.const (.int .i64 1)) rfl rfl rfl (by omega) w8) ?_
    simp only [nf0, nf1, nf2, nf3, nf4]
    have O14 : OwnR w8 w.heap.size 23 eEvt (.slice none 0 0) [] := OwnR.nil _ _ _ _
    have n16 : Off2 (.slice none 0 0) (.slice none 0 0) := Off2.nil _
    have n17 : Off2 (.slice none 0 0) va := Off2.nil _
    refine st_mv (.slice none 0 0) ?_
    simp only [nf0, nf1, nf2, nf3, nf4]
    refine st_mv (.int .i64 ((at_ : Int) + 1)) ?_
    simp only [nf0, nf1, nf2, nf3, nf4]
    refine wpList_nil ?_
    show Code.wp _ _ _ _ _
    refine wp_ret ?_
    first | show bodyPost _ _ _ _ _ _ | (simp only [Exit.then, Exit.inBlock]; show bodyPost _ _ _ _ _ _)
    have hE : paA l = ([], (at_ : Int) + 1) := (by rw [hG, line_end hno, goL_one, if_neg (fun e => by have := congrArg List.length e; rw [List.length_drop] at this; simp at this; omega)])
    refine bodyPost_ret (results_tmp2 rfl _ _ _) rfl ⟨_, rfl, _, by rw [hE]; rfl, ?_, bel⟩
    rw [hE]; exact OwnR.nil _ _ _ _
  have hp18 := of_decide_eq_true hg9
  refine wp_cond_true rfl ?_
  refine wp_skip ?_
  show Code.wp _ _ _ _ _
  refine wp_seq ?_
  refine wp_block ?_
  refine wp_seq ?_
  refine wp_seq ?_
  refine wp_region_lit ?_
  refine st_mv (.string (str l)) ?_
  simp only [nf0, nf1, nf2, nf3, nf4]
  refine st_mv (.int .i64 (i : Int)) ?_
  simp only [nf0, nf1, nf2, nf3, nf4]
  refine st_value (v := (.int .u8 (chr l i))) (by rfl) (run_index_text (.tmp 16) (.tmp 17) rfl Tryd.underlying9 (l := l) rfl rfl i (by omega) (by omega) w8) ?_
  simp only [nf0, nf1, nf2, nf3, nf4]
  refine st_value (v := (.bool (!decide ((chr l i) = 10)))) (by rfl) (run_neq_int (.tmp 18) (.const (.int .u8 10)) rfl rfl rfl w8) ?_
  simp only [nf0, nf1, nf2, nf3, nf4]
  refine wpList_nil ?_
  show Code.wp _ _ _ _ _
  cases hg19 : decide ((chr l i) = 10)
  · have hp20 := of_decide_eq_false hg19
    refine wp_cond_true rfl ?_
    refine wp_exit ?_
    show Code.wp _ _ _ _ _
    refine wp_region_lit ?_
    refine st_mv (.int .i64 (i : Int)) ?_
    simp only [nf0, nf1, nf2, nf3, nf4]
    refine st_value (v := (.int .i64 ((i : Int) + 1))) (by rfl) (run_add_in (.tmp 14) (.const (.int .i64 1)) rfl rfl rfl (by omega) w8) ?_
    simp only [nf0, nf1, nf2, nf3, nf4]
    refine st_mv (.int .i64 ((i : Int) + 1)) ?_
    simp only [nf0, nf1, nf2, nf3, nf4]
    refine wpList_nil ?_
    show ∃ m, m < _ ∧ _
    exact ⟨_, (by omega), (i + 1), fr, at_, _, va, rfl, rfl, O1, O3, n7, bel, (by omega), (by omega), (by (try simp only [List.length_append, List.length_cons, List.length_nil]); omega), (fun j h1 h2 => by rcases Nat.lt_or_ge j i with g | g; exact hno j h1 g; obtain rfl : j = i := (by omega); assumption), hG⟩
  have hp21 := of_decide_eq_true hg19
  refine wp_cond_false rfl ?_
  refine wp_skip ?_
  show Code.wp _ _ _ _ _
  refine wp_seq ?_
  refine wp_region_lit ?_
  refine st_mv (.int .i64 (at_ : Int)) ?_
  simp only [nf0, nf1, nf2, nf3, nf4]
  refine st_value (v := (.int .i64 ((at_ : Int) + 1))) (by rfl) (run_add_in (.tmp 20) (.const (.int .i64 1)) rfl rfl rfl (by omega) w8) ?_
  simp only [nf0, nf1, nf2, nf3, nf4]
  refine st_mv (.int .i64 ((at_ : Int) + 1)) ?_
  simp only [nf0, nf1, nf2, nf3, nf4]
  refine wpList_nil ?_
  show Code.wp _ _ _ _ _
  refine wp_seq ?_
  refine wp_region_lit ?_
  refine st_mv (.string (str l)) ?_
  simp only [nf0, nf1, nf2, nf3, nf4]
  refine st_mv (.int .i64 (fr : Int)) ?_
  simp only [nf0, nf1, nf2, nf3, nf4]
  refine st_mv (.int .i64 (i : Int)) ?_
  simp only [nf0, nf1, nf2, nf3, nf4]
  refine st_value (v := (.string (str ((l.take i).drop fr)))) (by rfl) (run_sub_text (.tmp 23) (.tmp 24) (.tmp 25) rfl Tryd.underlying9 (l := l) (p := fr) (q := i) rfl rfl rfl (by omega) (by omega) (by omega) (by omega) w8) ?_
  simp only [nf0, nf1, nf2, nf3, nf4]
  refine st_call1 (v := (.tuple #[.agg #[.int .i64 ((pE ((l.take i).drop fr)).1.1), .int .i64 ((pE ((l.take i).drop fr)).1.2.1), .int .i64 ((pE ((l.take i).drop fr)).1.2.2.1), .int .i64 ((pE ((l.take i).drop fr)).1.2.2.2.1), .int .i64 ((pE ((l.take i).drop fr)).1.2.2.2.2)], .bool ((pE ((l.take i).drop fr)).2)])) (by rfl) (h_run_call_9_1 (.tmp 26) rfl rfl _) (refParse_calls ((l.take i).drop fr) (by rw [List.length_drop, List.length_take]; omega) w8) ?_
  intro w22 hb23
  simp only [nf0, nf1, nf2, nf3, nf4]
  replace O1 := O1.same hb23
  replace O3 := O3.same hb23
  replace bel := bl_step bel hb23
  clear hb23
  refine st_mv (.tuple #[.agg #[.int .i64 ((pE ((l.take i).drop fr)).1.1), .int .i64 ((pE ((l.take i).drop fr)).1.2.1), .int .i64 ((pE ((l.take i).drop fr)).1.2.2.1), .int .i64 ((pE ((l.take i).drop fr)).1.2.2.2.1), .int .i64 ((pE ((l.take i).drop fr)).1.2.2.2.2)], .bool ((pE ((l.take i).drop fr)).2)]) ?_
  simp only [nf0, nf1, nf2, nf3, nf4]
  refine st_mv (.agg #[.int .i64 ((pE ((l.take i).drop fr)).1.1), .int .i64 ((pE ((l.take i).drop fr)).1.2.1), .int .i64 ((pE ((l.take i).drop fr)).1.2.2.1), .int .i64 ((pE ((l.take i).drop fr)).1.2.2.2.1), .int .i64 ((pE ((l.take i).drop fr)).1.2.2.2.2)]) ?_
  simp only [nf0, nf1, nf2, nf3, nf4]
  refine st_mv (.bool ((pE ((l.take i).drop fr)).2)) ?_
  simp only [nf0, nf1, nf2, nf3, nf4]
  refine st_new (cs := #[.int .i64 0, .int .i64 0, .int .i64 0, .int .i64 0, .int .i64 0]) (t := 23) (by rfl) (run_allocV rfl h_zero_23 _) ?_
  intro g24 w25 B26 hb27 lo28
  simp only [nf0, nf1, nf2, nf3, nf4]
  have n29 := O1.off lo28
  have n30 := O3.off lo28
  replace lo28 := low_le bel lo28
  replace O1 := O1.same hb27
  replace O3 := O3.same hb27
  replace bel := bl_step bel hb27
  clear hb27
  refine st_row (by rfl) (run_storeW (.tmp 8) (.tmp 28) rfl (cs := #[.int .i64 ((pE ((l.take i).drop fr)).1.1), .int .i64 ((pE ((l.take i).drop fr)).1.2.1), .int .i64 ((pE ((l.take i).drop fr)).1.2.2.1), .int .i64 ((pE ((l.take i).drop fr)).1.2.2.2.1), .int .i64 ((pE ((l.take i).drop fr)).1.2.2.2.2)]) aggEvt rfl rfl B26 rfl (by simp [Value.oneCell'])) B26 ?_
  intro w31 B33 hg32
  simp only [nf0, nf1, nf2, nf3, nf4]
  replace O1 := O1.keptB hg32 n29
  replace O3 := O3.keptB hg32 n30
  replace bel := bl_kept0 bel hg32 lo28
  clear hg32
  clear B26
  refine st_mv (.bool ((pE ((l.take i).drop fr)).2)) ?_
  simp only [nf0, nf1, nf2, nf3, nf4]
  refine wpList_nil ?_
  show Code.wp _ _ _ _ _
  refine wp_seq ?_
  refine wp_seq ?_
  refine wp_region_lit ?_
  refine st_mv (.bool ((pE ((l.take i).drop fr)).2)) ?_
  simp only [nf0, nf1, nf2, nf3, nf4]
  refine st_value (v := (.bool (!((pE ((l.take i).drop fr)).2)))) (by rfl) (run_not (.tmp 30) rfl (b := (pE ((l.take i).drop fr)).2) rfl w31) ?_
  simp only [nf0, nf1, nf2, nf3, nf4]
  refine wpList_nil ?_
  show Code.wp _ _ _ _ _
  cases hg34 : (pE ((l.take i).drop fr)).2
  · have hp35 := trivial
    refine wp_cond_true rfl ?_
    refine wp_seq ?_
    refine wp_region_lit ?_
    refine st_mv (.int .i64 ((at_ : Int) + 1)) ?_
    simp only [nf0, nf1, nf2, nf3, nf4]
    have O36 : OwnR w31 w.heap.size 23 eEvt (.slice none 0 0) [] := OwnR.nil _ _ _ _
    have n38 : Off2 (.slice none 0 0) (.slice none 0 0) := Off2.nil _
    have n39 : Off2 (.slice none 0 0) va := Off2.nil _
    have n40 := Off.nil g24
    refine st_mv (.slice none 0 0) ?_
    simp only [nf0, nf1, nf2, nf3, nf4]
    refine st_mv (.int .i64 ((at_ : Int) + 1)) ?_
    simp only [nf0, nf1, nf2, nf3, nf4]
    refine wpList_nil ?_
    show Code.wp _ _ _ _ _
    refine wp_ret ?_
    first | show bodyPost _ _ _ _ _ _ | (simp only [Exit.then, Exit.inBlock]; show bodyPost _ _ _ _ _ _)
    have hE : paA l = ([], ((at_ + 1 : Nat) : Int)) := (by rw [hG, line_at hfr (by omega) hno (by assumption), goL_cons (pieces_ne _ _), if_neg (by simp only [Bool.not_eq_true]; assumption)]; rfl)
    refine bodyPost_ret (results_tmp2 rfl _ _ _) rfl ⟨_, rfl, _, by rw [hE]; rfl, ?_, bel⟩
    rw [hE]; exact OwnR.nil _ _ _ _
  have hp41 := trivial
  refine wp_cond_false rfl ?_
  refine wp_skip ?_
  show Code.wp _ _ _ _ _
  refine wp_seq ?_
  refine wp_region_lit ?_
  refine st_mv va ?_
  simp only [nf0, nf1, nf2, nf3, nf4]
  refine st_value (v := (.agg #[.int .i64 ((pE ((l.take i).drop fr)).1.1), .int .i64 ((pE ((l.take i).drop fr)).1.2.1), .int .i64 ((pE ((l.take i).drop fr)).1.2.2.1), .int .i64 ((pE ((l.take i).drop fr)).1.2.2.2.1), .int .i64 ((pE ((l.take i).drop fr)).1.2.2.2.2)])) (by rfl) (run_loadW (.tmp 8) rfl (cs := #[.int .i64 ((pE ((l.take i).drop fr)).1.1), .int .i64 ((pE ((l.take i).drop fr)).1.2.1), .int .i64 ((pE ((l.take i).drop fr)).1.2.2.1), .int .i64 ((pE ((l.take i).drop fr)).1.2.2.2.1), .int .i64 ((pE ((l.take i).drop fr)).1.2.2.2.2)]) aggEvt rfl B33) ?_
  simp only [nf0, nf1, nf2, nf3, nf4]
  refine st_lit (by rfl) (h_run_lit_32_1 (.tmp 34) rfl (m0 := (((pE ((l.take i).drop fr)).1.1), ((pE ((l.take i).drop fr)).1.2.1), ((pE ((l.take i).drop fr)).1.2.2.1), ((pE ((l.take i).drop fr)).1.2.2.2.1), ((pE ((l.take i).drop fr)).1.2.2.2.2))) rfl _) ?_
  intro g42 w43 B44 hb45 lo46
  simp only [nf0, nf1, nf2, nf3, nf4]
  have n47 := O1.off lo46
  have n48 := O3.off lo46
  have n49 := B33.ne lo46
  replace lo46 := low_le bel lo46
  replace O1 := O1.same hb45
  replace O3 := O3.same hb45
  replace B33 := B33.below hb45
  replace bel := bl_step bel hb45
  clear hb45
  refine st_append slEvt rfl (.tmp 33) (.tmp 35) rfl rfl O3 ([(((pE ((l.take i).drop fr)).1.1), ((pE ((l.take i).drop fr)).1.2.1), ((pE ((l.take i).drop fr)).1.2.2.1), ((pE ((l.take i).drop fr)).1.2.2.2.1), ((pE ((l.take i).drop fr)).1.2.2.2.2))] : List TEvt) rfl rfl B44 (by simp [Enc.all, eEvt]) (by simp only [List.length_cons, List.length_nil]; omega) bel.size ?_
  intro v50 w51 O52 hg53 hat54
  simp only [nf0, nf1, nf2, nf3, nf4]
  have n55 := Off2.app n7.symm O1 hat54
  replace O1 := O1.keptR hg53 n7
  have n56 := (n30 : Off _ _).app B33 hat54
  replace B33 := B33.keptR hg53 n30
  replace bel := bl_app bel O3 hg53
  clear O3 hg53 hat54
  refine st_mv v50 ?_
  simp only [nf0, nf1, nf2, nf3, nf4]
  refine wpList_nil ?_
  show Code.wp _ _ _ _ _
  refine wp_region_lit ?_
  refine st_mv (.int .i64 (i : Int)) ?_
  simp only [nf0, nf1, nf2, nf3, nf4]
  refine st_value (v := (.int .i64 ((i : Int) + 1))) (by rfl) (run_add_in (.tmp 37) (.const (.int .i64 1)) rfl rfl rfl (by omega) w51) ?_
  simp only [nf0, nf1, nf2, nf3, nf4]
  refine st_mv (.int .i64 ((i : Int) + 1)) ?_
  simp only [nf0, nf1, nf2, nf3, nf4]
  refine wpList_nil ?_
  show Code.wp _ _ _ _ _
  refine wp_region_lit ?_
  refine st_mv (.int .i64 (i : Int)) ?_
  simp only [nf0, nf1, nf2, nf3, nf4]
  refine st_value (v := (.int .i64 ((i : Int) + 1))) (by rfl) (run_add_in (.tmp 14) (.const (.int .i64 1)) rfl rfl rfl (by omega) w51) ?_
  simp only [nf0, nf1, nf2, nf3, nf4]
  refine st_mv (.int .i64 ((i : Int) + 1)) ?_
  simp only [nf0, nf1, nf2, nf3, nf4]
  refine wpList_nil ?_
  show ∃ m, m < _ ∧ _
  exact ⟨_, (by omega), (i + 1), (i + 1), (at_ + 1), _, v50, rfl, rfl, O1, O52, n55.symm, bel, (by omega), (by omega), (by (try simp only [List.length_append, List.length_cons, List.length_nil]); omega), (fun j h1 h2 => absurd h2 (by omega)), (by rw [hG, line_at hfr (by omega) hno (by assumption), goL_cons (pieces_ne _ _), if_pos (by assumption)])⟩
end Go.Proofs.YtmfdcgocfofokaaDoor

/- The document's example. -/
namespace Go.Proofs.YtmfdcgocfofokaaDoor
open Go.RowKit Go.WideShapes Go.ChangeShapes
set_option linter.unusedSimpArgs false
set_option linter.unusedVariables false

theorem i_zero_23 : ZeroOf Tryd.prog 23 #[.int .i64 0, .int .i64 0, .int .i64 0, .int .i64 0, .int .i64 0] := zeroOf (z := .agg #[.int .i64 0, .int .i64 0, .int .i64 0, .int .i64 0, .int .i64 0]) (by kernel_rfl) rfl
theorem i_run_call_8_1 {o : Oper} {a : Act} (x0 : Operand) {ts : Array TypeId} (ho : o.op = .call { callee := .value (.func 8), args := #[x0], argTypes := ts }) {v0 : Value} (h0 : a.eval x0 = v0) (W : World) : (execOp a.eval o).run Tryd.prog W = .ok (.enter 8 #[v0]) W := by
  unfold execOp
  simp only [ho]
  subst h0
  go_simp
theorem i_run_call_12_1 {o : Oper} {a : Act} (x0 : Operand) {ts : Array TypeId} (ho : o.op = .call { callee := .value (.func 12), args := #[x0], argTypes := ts }) {v0 : Value} (h0 : a.eval x0 = v0) (W : World) : (execOp a.eval o).run Tryd.prog W = .ok (.enter 12 #[v0]) W := by
  unfold execOp
  simp only [ho]
  subst h0
  go_simp
theorem ex_pr : prE ((2, 3, 1, 2, 0) : TEvt) = [100, 105, 115, 112, 97, 116, 99, 104, 32, 51, 32, 49, 32, 50, 32, 48] := by
  simp [prE, tdecI, tdec_small, tdg, nm, nmL]
theorem ex_pE : pE [100, 105, 115, 112, 97, 116, 99, 104, 32, 51, 32, 49, 32, 50, 32, 48] = (((2, 3, 1, 2, 0) : TEvt), true) := pE_yes ⟨by unfold known; decide, by unfold okEvt; exact ⟨by decide, by decide, by decide, by decide, by decide⟩⟩ ex_pr

attribute [local irreducible] Go.wpList Go.Code.wp
set_option maxRecDepth 100000 in
set_option maxHeartbeats 4000000 in
theorem evLives_calls (w : World) : Calls Tryd.prog 7 #[] w fun e w' => e = .returned (.bool true) ∧ Below w.heap.size w w' := by
  have bel : Below w.heap.size w w := Below.refl _ _
  go_enter Tryd.func7, Tryd.ntmps7
  refine wp_seq ?_
  refine wp_region_lit ?_
  refine st_mv (.bool false) ?_
  simp only [nf0, nf1, nf2, nf3, nf4]
  refine wpList_nil ?_
  show Code.wp _ _ _ _ _
  refine wp_seq ?_
  refine wp_region_lit ?_
  refine st_value (v := (.agg #[.int .i64 2, .int .i64 3, .int .i64 1, .int .i64 2, .int .i64 0])) (by rfl) (run_buildV rfl (by kernel_rfl) w) ?_
  simp only [nf0, nf1, nf2, nf3, nf4]
  refine st_new (cs := #[.int .i64 0, .int .i64 0, .int .i64 0, .int .i64 0, .int .i64 0]) (t := 23) (by rfl) (run_allocV rfl i_zero_23 _) ?_
  intro g1 w2 B3 hb4 lo5
  simp only [nf0, nf1, nf2, nf3, nf4]
  replace lo5 := low_le bel lo5
  replace bel := bl_step bel hb4
  clear hb4
  refine st_row (by rfl) (run_storeW (.tmp 1) (.tmp 4) rfl (cs := #[.int .i64 2, .int .i64 3, .int .i64 1, .int .i64 2, .int .i64 0]) aggEvt rfl rfl B3 rfl (by simp [Value.oneCell'])) B3 ?_
  intro w6 B8 hg7
  simp only [nf0, nf1, nf2, nf3, nf4]
  replace bel := bl_kept0 bel hg7 lo5
  clear hg7
  clear B3
  refine wpList_nil ?_
  show Code.wp _ _ _ _ _
  refine wp_seq ?_
  refine wp_region_lit ?_
  refine st_call1 (v := (.tuple #[.agg #[.int .i64 2, .int .i64 3, .int .i64 1, .int .i64 2, .int .i64 0], .bool true])) (by rfl) (i_run_call_8_1 (.const (.string ⟨#[100, 105, 115, 112, 97, 116, 99, 104, 32, 51, 32, 49, 32, 50, 32, 48]⟩)) rfl rfl _) (show Calls _ _ _ _ fun e w' => e = .returned (.tuple #[.agg (eEvt.enc ((2, 3, 1, 2, 0) : TEvt)).toArray, .bool true]) ∧ Below w6.heap.size w6 w' from by have h_ := parse_calls [100, 105, 115, 112, 97, 116, 99, 104, 32, 51, 32, 49, 32, 50, 32, 48] (by decide) w6; rw [ex_pE] at h_; exact h_) ?_
  intro w9 hb10
  simp only [nf0, nf1, nf2, nf3, nf4]
  replace B8 := B8.below hb10
  replace bel := bl_step bel hb10
  clear hb10
  refine st_mv (.tuple #[.agg #[.int .i64 2, .int .i64 3, .int .i64 1, .int .i64 2, .int .i64 0], .bool true]) ?_
  simp only [nf0, nf1, nf2, nf3, nf4]
  refine st_mv (.agg #[.int .i64 2, .int .i64 3, .int .i64 1, .int .i64 2, .int .i64 0]) ?_
  simp only [nf0, nf1, nf2, nf3, nf4]
  refine st_mv (.bool true) ?_
  simp only [nf0, nf1, nf2, nf3, nf4]
  refine st_new (cs := #[.int .i64 0, .int .i64 0, .int .i64 0, .int .i64 0, .int .i64 0]) (t := 23) (by rfl) (run_allocV rfl i_zero_23 _) ?_
  intro g11 w12 B13 hb14 lo15
  simp only [nf0, nf1, nf2, nf3, nf4]
  have n16 := B8.ne lo15
  replace lo15 := low_le bel lo15
  replace B8 := B8.below hb14
  replace bel := bl_step bel hb14
  clear hb14
  refine st_row (by rfl) (run_storeW (.tmp 2) (.tmp 7) rfl (cs := #[.int .i64 2, .int .i64 3, .int .i64 1, .int .i64 2, .int .i64 0]) aggEvt rfl rfl B13 rfl (by simp [Value.oneCell'])) B13 ?_
  intro w17 B19 hg18
  simp only [nf0, nf1, nf2, nf3, nf4]
  replace B8 := B8.kept hg18 n16
  replace bel := bl_kept0 bel hg18 lo15
  clear hg18
  clear B13
  refine st_mv (.bool true) ?_
  simp only [nf0, nf1, nf2, nf3, nf4]
  refine wpList_nil ?_
  show Code.wp _ _ _ _ _
  refine wp_seq ?_
  refine wp_region_lit ?_
  refine st_value (v := (.agg #[.int .i64 2, .int .i64 3, .int .i64 1, .int .i64 2, .int .i64 0])) (by rfl) (run_loadW (.tmp 1) rfl (cs := #[.int .i64 2, .int .i64 3, .int .i64 1, .int .i64 2, .int .i64 0]) aggEvt rfl B8) ?_
  simp only [nf0, nf1, nf2, nf3, nf4]
  refine st_call1 (v := (.string (str (prE ((2, 3, 1, 2, 0) : TEvt))))) (by rfl) (i_run_call_12_1 (.tmp 9) rfl rfl _) (print_calls ((2, 3, 1, 2, 0) : TEvt) (by unfold okEvt; exact ⟨by decide, by decide, by decide, by decide, by decide⟩) w17) ?_
  intro w20 hb21
  simp only [nf0, nf1, nf2, nf3, nf4]
  replace B8 := B8.below hb21
  replace B19 := B19.below hb21
  replace bel := bl_step bel hb21
  clear hb21
  refine st_value (v := (.bool true)) (by rfl) (run_eql_text_t (.tmp 10) (.const (.string ⟨#[100, 105, 115, 112, 97, 116, 99, 104, 32, 51, 32, 49, 32, 50, 32, 48]⟩)) rfl (l := prE ((2, 3, 1, 2, 0) : TEvt)) (m := [100, 105, 115, 112, 97, 116, 99, 104, 32, 51, 32, 49, 32, 50, 32, 48]) rfl rfl ex_pr w20) ?_
  simp only [nf0, nf1, nf2, nf3, nf4]
  refine st_mv (.bool true) ?_
  simp only [nf0, nf1, nf2, nf3, nf4]
  refine st_mv (.bool true) ?_
  simp only [nf0, nf1, nf2, nf3, nf4]
  refine st_mv (.bool true) ?_
  simp only [nf0, nf1, nf2, nf3, nf4]
  refine st_mv (.bool true) ?_
  simp only [nf0, nf1, nf2, nf3, nf4]
  refine st_value (v := (.agg #[.int .i64 2, .int .i64 3, .int .i64 1, .int .i64 2, .int .i64 0])) (by rfl) (run_loadW (.tmp 2) rfl (cs := #[.int .i64 2, .int .i64 3, .int .i64 1, .int .i64 2, .int .i64 0]) aggEvt rfl B19) ?_
  simp only [nf0, nf1, nf2, nf3, nf4]
  refine st_value (v := (.agg #[.int .i64 2, .int .i64 3, .int .i64 1, .int .i64 2, .int .i64 0])) (by rfl) (run_loadW (.tmp 1) rfl (cs := #[.int .i64 2, .int .i64 3, .int .i64 1, .int .i64 2, .int .i64 0]) aggEvt rfl B8) ?_
  simp only [nf0, nf1, nf2, nf3, nf4]
  refine st_value (v := (.bool true)) (by rfl) ((run_eql_agg (.tmp 16) (.tmp 17) rfl eqEvt (p := ((2, 3, 1, 2, 0) : TEvt)) (q := ((2, 3, 1, 2, 0) : TEvt)) rfl rfl trivial trivial w20).trans (by rw [decide_eq_true rfl])) ?_
  simp only [nf0, nf1, nf2, nf3, nf4]
  refine st_mv (.bool true) ?_
  simp only [nf0, nf1, nf2, nf3, nf4]
  refine st_mv (.bool true) ?_
  simp only [nf0, nf1, nf2, nf3, nf4]
  refine wpList_nil ?_
  show Code.wp _ _ _ _ _
  refine wp_ret ?_
  first | show bodyPost _ _ _ _ _ _ | (simp only [Exit.then, Exit.inBlock]; show bodyPost _ _ _ _ _ _)
  exact bodyPost_ret (results_tmp rfl _ _ _) rfl ⟨rfl, bel⟩
end Go.Proofs.YtmfdcgocfofokaaDoor

/- What the law EventBack does. -/
namespace Go.Proofs.YtmfdcgocfofokaaDoor
open Go.RowKit Go.WideShapes Go.ChangeShapes
set_option linter.unusedSimpArgs false
set_option linter.unusedVariables false

theorem k_fld_23_0 : FieldAt Tryd.prog 23 0 0 := fieldAt_of (s := 0) Tryd.underlying23 (by kernel_rfl)
theorem k_one_3 : One Tryd.prog 3 := one_of Tryd.underlying3 rfl (by kernel_rfl)
theorem k_zero_23 : ZeroOf Tryd.prog 23 #[.int .i64 0, .int .i64 0, .int .i64 0, .int .i64 0, .int .i64 0] := zeroOf (z := .agg #[.int .i64 0, .int .i64 0, .int .i64 0, .int .i64 0, .int .i64 0]) (by kernel_rfl) rfl
theorem k_run_call_7_0 {o : Oper} {a : Act}  {ts : Array TypeId} (ho : o.op = .call { callee := .value (.func 7), args := #[], argTypes := ts })  (W : World) : (execOp a.eval o).run Tryd.prog W = .ok (.enter 7 #[]) W := by
  unfold execOp
  simp only [ho]
  go_simp
theorem k_run_call_11_1 {o : Oper} {a : Act} (x0 : Operand) {ts : Array TypeId} (ho : o.op = .call { callee := .value (.func 11), args := #[x0], argTypes := ts }) {v0 : Value} (h0 : a.eval x0 = v0) (W : World) : (execOp a.eval o).run Tryd.prog W = .ok (.enter 11 #[v0]) W := by
  unfold execOp
  simp only [ho]
  subst h0
  go_simp
theorem k_run_call_12_1 {o : Oper} {a : Act} (x0 : Operand) {ts : Array TypeId} (ho : o.op = .call { callee := .value (.func 12), args := #[x0], argTypes := ts }) {v0 : Value} (h0 : a.eval x0 = v0) (W : World) : (execOp a.eval o).run Tryd.prog W = .ok (.enter 12 #[v0]) W := by
  unfold execOp
  simp only [ho]
  subst h0
  go_simp
theorem k_run_call_15_2 {o : Oper} {a : Act} (x0 : Operand) (x1 : Operand) {ts : Array TypeId} (ho : o.op = .call { callee := .value (.func 15), args := #[x0, x1], argTypes := ts }) {v0 : Value} (h0 : a.eval x0 = v0) {v1 : Value} (h1 : a.eval x1 = v1) (W : World) : (execOp a.eval o).run Tryd.prog W = .ok (.enter 15 #[v0, v1]) W := by
  unfold execOp
  simp only [ho]
  subst h0 h1
  go_simp
theorem k_run_call_19_1 {o : Oper} {a : Act} (x0 : Operand) {ts : Array TypeId} (ho : o.op = .call { callee := .value (.func 19), args := #[x0], argTypes := ts }) {v0 : Value} (h0 : a.eval x0 = v0) (W : World) : (execOp a.eval o).run Tryd.prog W = .ok (.enter 19 #[v0]) W := by
  unfold execOp
  simp only [ho]
  subst h0
  go_simp
theorem k_run_call_21_1 {o : Oper} {a : Act} (x0 : Operand) {ts : Array TypeId} (ho : o.op = .call { callee := .value (.func 21), args := #[x0], argTypes := ts }) {v0 : Value} (h0 : a.eval x0 = v0) (W : World) : (execOp a.eval o).run Tryd.prog W = .ok (.enter 21 #[v0]) W := by
  unfold execOp
  simp only [ho]
  subst h0
  go_simp
instance (k : Int) : Decidable (known k) := by unfold known; exact inferInstance
def knB (e : TEvt) : Bool := decide (known e.1)
theorem kn_nm (e : TEvt) : knB e = !decide (nm e.1 = []) := by
  unfold knB
  by_cases h : known e.1
  · rw [decide_eq_true h, decide_eq_false (nm_known h).1]; rfl
  · rw [decide_eq_false h, decide_eq_true (nm_unknown h)]; rfl
theorem all_snoc {zs : List TEvt} {k : Nat} (h : k < zs.length) : (zs.take (k + 1)).all knB = ((zs.take k).all knB && knB (evtAt zs k)) := by
  rw [evt_snoc h, List.all_append]; simp
theorem prE_iff {p q : TEvt} (hp : nm p.1 ≠ []) (hq : nm q.1 ≠ []) (h1 : okEvt p) (h2 : okEvt q) : decide (prE p = prE q) = decide (p = q) := by
  rw [decide_eq_decide]
  refine ⟨fun h => prE_inj ⟨Classical.byContradiction fun hn => hp (nm_unknown hn), h1⟩ ⟨Classical.byContradiction fun hn => hq (nm_unknown hn), h2⟩ h, fun h => by rw [h]⟩

attribute [local irreducible] Go.wpList Go.Code.wp
set_option maxRecDepth 100000 in
set_option maxHeartbeats 4000000 in
theorem backLaw_calls {A : Option Addr} {xs : List TEvt} {p q : TEvt} {ca : Nat} (hoka : ∀ q ∈ xs, okEvt q) (hp : okEvt p) (hq : okEvt q) (w : World) (hca : xs.length ≤ ca) (ha : Reads w A (eEvt.all xs)) : Calls Tryd.prog 6 #[.slice A xs.length ca, .agg (eEvt.enc p).toArray, .agg (eEvt.enc q).toArray] w fun e w' => e = .returned (.bool true) ∧ Below w.heap.size w w' := by
  have bel : Below w.heap.size w w := Below.refl _ _
  go_enter Tryd.func6, Tryd.ntmps6
  refine wp_seq ?_
  refine wp_region_lit ?_
  refine st_new (cs := #[.int .i64 p.1, .int .i64 p.2.1, .int .i64 p.2.2.1, .int .i64 p.2.2.2.1, .int .i64 p.2.2.2.2]) (t := 23) (by rfl) (run_boxV (.tmp 1) rfl (v := (.agg #[.int .i64 p.1, .int .i64 p.2.1, .int .i64 p.2.2.1, .int .i64 p.2.2.2.1, .int .i64 p.2.2.2.2])) rfl rfl _) ?_
  intro g1 w2 B3 hb4 lo5
  simp only [nf0, nf1, nf2, nf3, nf4]
  replace lo5 := low_le bel lo5
  replace bel := bl_step bel hb4
  clear hb4
  refine st_new (cs := #[.int .i64 q.1, .int .i64 q.2.1, .int .i64 q.2.2.1, .int .i64 q.2.2.2.1, .int .i64 q.2.2.2.2]) (t := 23) (by rfl) (run_boxV (.tmp 2) rfl (v := (.agg #[.int .i64 q.1, .int .i64 q.2.1, .int .i64 q.2.2.1, .int .i64 q.2.2.2.1, .int .i64 q.2.2.2.2])) rfl rfl _) ?_
  intro g6 w7 B8 hb9 lo10
  simp only [nf0, nf1, nf2, nf3, nf4]
  have n11 := B3.ne lo10
  replace lo10 := low_le bel lo10
  replace B3 := B3.below hb9
  replace bel := bl_step bel hb9
  clear hb9
  refine st_mv (.bool false) ?_
  simp only [nf0, nf1, nf2, nf3, nf4]
  refine wpList_nil ?_
  show Code.wp _ _ _ _ _
  refine wp_seq ?_
  refine wp_region_lit ?_
  refine st_mv (.slice A xs.length ca) ?_
  simp only [nf0, nf1, nf2, nf3, nf4]
  refine st_mv (.slice A xs.length ca) ?_
  simp only [nf0, nf1, nf2, nf3, nf4]
  refine st_value (v := (.int .i64 (xs.length : Int))) (by rfl) (run_len (.tmp 13) rfl ⟨_, Tryd.underlying32⟩ rfl w7) ?_
  simp only [nf0, nf1, nf2, nf3, nf4]
  refine st_value (v := (.int .i64 (min (xs.length : Int) 60))) (by rfl) (run_min2 (.tmp 14) (.const (.int .i64 60)) rfl rfl rfl w7) ?_
  simp only [nf0, nf1, nf2, nf3, nf4]
  have R12 := ha.takeE 60
  refine st_value (v := (.slice A (xs.take 60).length ca)) (by rfl) (run_cut_take (.tmp 12) (.tmp 15) rfl Tryd.underlying32 slEvt.sz rfl 60 rfl rfl hca w7) ?_
  simp only [nf0, nf1, nf2, nf3, nf4]
  refine st_mv (.slice A (xs.take 60).length ca) ?_
  simp only [nf0, nf1, nf2, nf3, nf4]
  refine wpList_nil ?_
  show Code.wp _ _ _ _ _
  refine wp_seq ?_
  have hlzs : (xs.take 60).length ≤ 60 := by rw [List.length_take]; omega
  have okzs : ∀ q ∈ xs.take 60, okEvt q := fun q hq => hoka q (List.mem_of_mem_take hq)
  have cpzs : (xs.take 60).length ≤ ca := by rw [List.length_take]; omega
  generalize hzzs : xs.take 60 = zs at *
  clear hzzs
  have hpl := prA_len okzs
  have hpo := paA_ok (prA zs)
  refine wp_region_lit ?_
  refine st_mv (.bool true) ?_
  simp only [nf0, nf1, nf2, nf3, nf4]
  refine wpList_nil ?_
  show Code.wp _ _ _ _ _
  refine wp_seq ?_
  refine wp_seq ?_
  refine wp_region_lit ?_
  refine st_mv (.slice A zs.length ca) ?_
  simp only [nf0, nf1, nf2, nf3, nf4]
  refine st_value (v := (.int .i64 (zs.length : Int))) (by rfl) (run_len (.tmp 17) rfl ⟨_, Tryd.underlying32⟩ rfl w7) ?_
  simp only [nf0, nf1, nf2, nf3, nf4]
  refine st_mv (.int .i64 0) ?_
  simp only [nf0, nf1, nf2, nf3, nf4]
  refine wpList_nil ?_
  show Code.wp _ _ _ _ _
  refine wp_block ?_
  refine wp_loop_left (fun n_ a_ wr_ => (fun J13 => ∃ (k : Nat) (kb : Bool), n_ = zs.length - k ∧ a_ = ⟨#[.slice A zs.length ca, J13 1, J13 2, J13 3, .pointer (some ⟨g1, 0, none⟩), .pointer (some ⟨g6, 0, none⟩), .bool false, .bool kb, J13 8, J13 9, J13 10, J13 11, J13 12, J13 13, J13 14, J13 15, J13 16, .slice A zs.length ca, .int .i64 (zs.length : Int), .int .i64 (k : Int), J13 20, J13 21, J13 22, J13 23, J13 24, J13 25, J13 26, J13 27, J13 28, J13 29, J13 30, J13 31, J13 32, J13 33, J13 34, J13 35, J13 36, J13 37, J13 38, J13 39, J13 40, J13 41, J13 42, J13 43, J13 44, J13 45, J13 46, J13 47, J13 48, J13 49, J13 50, J13 51, J13 52, J13 53, J13 54, J13 55, J13 56, J13 57, J13 58, J13 59, J13 60, J13 61, J13 62, J13 63, J13 64, J13 65, J13 66, J13 67, J13 68, J13 69, J13 70, J13 71, J13 72, J13 73, J13 74, J13 75, J13 76, J13 77, J13 78], []⟩ ∧ Blk wr_ g1 #[.int .i64 p.1, .int .i64 p.2.1, .int .i64 p.2.2.1, .int .i64 p.2.2.2.1, .int .i64 p.2.2.2.2] 23 ∧ Blk wr_ g6 #[.int .i64 q.1, .int .i64 q.2.1, .int .i64 q.2.2.1, .int .i64 q.2.2.2.1, .int .i64 q.2.2.2.2] 23 ∧ Below w.heap.size w wr_ ∧ (k ≤ zs.length) ∧ (kb = (zs.take k).all knB)) (jk a_)) (zs.length - 0) ⟨0, true, rfl, rfl, B3, B8, bel, (Nat.zero_le _), rfl⟩ ?_
  clear B3
  clear B8
  clear bel
  intro n_ a_ w14 h_
  revert h_
  generalize jk a_ = J13
  rintro ⟨k, kb, hms, rfl, B3, B8, bel, hk, hkb⟩
  refine wp_seq ?_
  refine wp_region_lit ?_
  refine st_value (v := (.bool (decide ((k : Int) < (zs.length : Int))))) (by rfl) (run_lss (.tmp 19) (.tmp 18) rfl rfl rfl w14) ?_
  simp only [nf0, nf1, nf2, nf3, nf4]
  refine wpList_nil ?_
  show Code.wp _ _ _ _ _
  refine wp_seq ?_
  cases hg15 : decide ((k : Int) < (zs.length : Int))
  rotate_left
  · have hp89 := of_decide_eq_true hg15
    refine wp_cond_true rfl ?_
    refine wp_skip ?_
    show Code.wp _ _ _ _ _
    refine wp_seq ?_
    refine wp_block ?_
    refine wp_seq ?_
    obtain ⟨b90, o91, rfl, _⟩ := (R12.same bel).at_ (by rw [Enc.all_length]; exact Nat.mul_pos (by omega) (by decide))
    refine wp_region_lit ?_
    refine st_value (v := (.pointer (some ⟨b90, o91 + k * 5, none⟩))) (by rfl) (run_indexAddrN (.tmp 17) (.tmp 19) rfl Tryd.underlying32 slEvt.sz (i := k) rfl rfl (by omega) w14) ?_
    simp only [nf0, nf1, nf2, nf3, nf4]
    refine st_value (v := (.agg #[.int .i64 ((evtAt zs k).1), .int .i64 ((evtAt zs k).2.1), .int .i64 ((evtAt zs k).2.2.1), .int .i64 ((evtAt zs k).2.2.2.1), .int .i64 ((evtAt zs k).2.2.2.2)])) (by rfl) (run_loadE (E := eEvt) (.tmp 21) rfl aggEvt rfl (R12.same bel) (evtAt_get (by omega))) ?_
    simp only [nf0, nf1, nf2, nf3, nf4]
    refine st_new (cs := #[.int .i64 0, .int .i64 0, .int .i64 0, .int .i64 0, .int .i64 0]) (t := 23) (by rfl) (run_allocV rfl k_zero_23 _) ?_
    intro g92 w93 B94 hb95 lo96
    simp only [nf0, nf1, nf2, nf3, nf4]
    have n97 := B3.ne lo96
    have n98 := B8.ne lo96
    replace lo96 := low_le bel lo96
    replace B3 := B3.below hb95
    replace B8 := B8.below hb95
    replace bel := bl_step bel hb95
    clear hb95
    refine st_row (by rfl) (run_storeW (.tmp 9) (.tmp 22) rfl (cs := #[.int .i64 ((evtAt zs k).1), .int .i64 ((evtAt zs k).2.1), .int .i64 ((evtAt zs k).2.2.1), .int .i64 ((evtAt zs k).2.2.2.1), .int .i64 ((evtAt zs k).2.2.2.2)]) aggEvt rfl rfl B94 rfl (by simp [Value.oneCell'])) B94 ?_
    intro w99 B101 hg100
    simp only [nf0, nf1, nf2, nf3, nf4]
    replace B3 := B3.kept hg100 n97
    replace B8 := B8.kept hg100 n98
    replace bel := bl_kept0 bel hg100 lo96
    clear hg100
    clear B94
    refine wpList_nil ?_
    show Code.wp _ _ _ _ _
    cases hg102 : kb
    · have hp103 := trivial
      refine wp_region_lit ?_
      refine st_mv (.bool false) ?_
      simp only [nf0, nf1, nf2, nf3, nf4]
      refine st_mv (.bool false) ?_
      simp only [nf0, nf1, nf2, nf3, nf4]
      refine st_nob (j := 1) (t := 24) (c := false) rfl rfl rfl rfl rfl ?_
      simp only [nf0, nf1, nf2, nf3, nf4]
      refine st_nob (j := 1) (t := 24) (c := false) rfl rfl rfl rfl rfl ?_
      simp only [nf0, nf1, nf2, nf3, nf4]
      refine st_nob (j := 1) (t := 24) (c := false) rfl rfl rfl rfl rfl ?_
      simp only [nf0, nf1, nf2, nf3, nf4]
      refine st_nob (j := 1) (t := 24) (c := false) rfl rfl rfl rfl rfl ?_
      simp only [nf0, nf1, nf2, nf3, nf4]
      refine st_mv (.bool false) ?_
      simp only [nf0, nf1, nf2, nf3, nf4]
      refine st_mv (.bool false) ?_
      simp only [nf0, nf1, nf2, nf3, nf4]
      refine wpList_nil ?_
      show Code.wp _ _ _ _ _
      refine wp_region_lit ?_
      refine st_value (v := (.int .i64 ((k : Int) + 1))) (by rfl) (run_add_in (.tmp 19) (.const (.int .i64 1)) rfl rfl rfl (by omega) w99) ?_
      simp only [nf0, nf1, nf2, nf3, nf4]
      refine st_mv (.int .i64 ((k : Int) + 1)) ?_
      simp only [nf0, nf1, nf2, nf3, nf4]
      refine wpList_nil ?_
      show ∃ m, m < _ ∧ _
      exact ⟨_, (by omega), (k + 1), _, rfl, rfl, B3, B8, bel, (by omega), (by rw [all_snoc (by omega), ← hkb, hg102]; rfl)⟩
    have hp104 := trivial
    refine wp_region_lit ?_
    refine st_mv (.bool true) ?_
    simp only [nf0, nf1, nf2, nf3, nf4]
    refine st_mv (.bool true) ?_
    simp only [nf0, nf1, nf2, nf3, nf4]
    refine st_value (v := (.pointer (some ⟨g92, 0, none⟩))) (by rfl) (run_fieldA (.tmp 9) rfl k_fld_23_0 rfl rfl w99) ?_
    simp only [nf0, nf1, nf2, nf3, nf4]
    refine st_value (v := (.int .i64 ((evtAt zs k).1))) (by rfl) (run_loadB (.tmp 25) rfl k_one_3 rfl B101 rfl) ?_
    simp only [nf0, nf1, nf2, nf3, nf4]
    refine st_call1 (v := (.string (str (nm ((evtAt zs k).1))))) (by rfl) (k_run_call_11_1 (.tmp 26) rfl rfl _) (refName_calls ((evtAt zs k).1) w99) ?_
    intro w105 hb106
    simp only [nf0, nf1, nf2, nf3, nf4]
    replace B3 := B3.below hb106
    replace B8 := B8.below hb106
    replace B101 := B101.below hb106
    replace bel := bl_step bel hb106
    clear hb106
    refine st_value (v := (.bool (!decide ((nm ((evtAt zs k).1)) = [])))) (by rfl) (run_neq_text (.tmp 27) (.const (.string ⟨#[]⟩)) (l := (nm ((evtAt zs k).1))) (m := []) rfl rfl rfl w105) ?_
    simp only [nf0, nf1, nf2, nf3, nf4]
    refine st_mv (.bool (!decide ((nm ((evtAt zs k).1)) = []))) ?_
    simp only [nf0, nf1, nf2, nf3, nf4]
    refine st_mv (.bool (!decide ((nm ((evtAt zs k).1)) = []))) ?_
    simp only [nf0, nf1, nf2, nf3, nf4]
    refine wpList_nil ?_
    show Code.wp _ _ _ _ _
    refine wp_region_lit ?_
    refine st_value (v := (.int .i64 ((k : Int) + 1))) (by rfl) (run_add_in (.tmp 19) (.const (.int .i64 1)) rfl rfl rfl (by omega) w105) ?_
    simp only [nf0, nf1, nf2, nf3, nf4]
    refine st_mv (.int .i64 ((k : Int) + 1)) ?_
    simp only [nf0, nf1, nf2, nf3, nf4]
    refine wpList_nil ?_
    show ∃ m, m < _ ∧ _
    exact ⟨_, (by omega), (k + 1), _, rfl, rfl, B3, B8, bel, (by omega), (by rw [all_snoc (by omega), ← hkb, hg102, kn_nm]; rfl)⟩
  have hp16 := of_decide_eq_false hg15
  refine wp_cond_false rfl ?_
  refine wp_exit ?_
  show Code.wp _ _ _ _ _
  refine wp_seq ?_
  obtain rfl : k = zs.length := by omega
  rw [List.take_length] at hkb
  generalize kb = kf at *
  refine wp_region_lit ?_
  refine st_mv (.slice A zs.length ca) ?_
  simp only [nf0, nf1, nf2, nf3, nf4]
  refine st_call1 (v := (.string (str (prA zs)))) (by rfl) (k_run_call_21_1 (.tmp 32) rfl rfl _) (printAll_calls A zs ca cpzs (by omega) okzs w14 (R12.same bel)) ?_
  intro w17 hb18
  simp only [nf0, nf1, nf2, nf3, nf4]
  replace B3 := B3.below hb18
  replace B8 := B8.below hb18
  replace bel := bl_step bel hb18
  clear hb18
  refine st_call (by rfl) (k_run_call_19_1 (.tmp 33) rfl rfl _) (parseAll_calls (prA zs) (by omega) w17) ?_
  rintro _ w21 ⟨v19, rfl, O20, hf22⟩
  simp only [nf0, nf1, nf2, nf3, nf4]
  have n23 := O20.offLow B3
  have n24 := O20.offLow B8
  replace O20 := O20.lower bel.size
  replace B3 := B3.below hf22
  replace B8 := B8.below hf22
  replace bel := bl_step bel hf22
  clear hf22
  refine st_mv (.tuple #[v19, .int .i64 ((paA (prA zs)).2)]) ?_
  simp only [nf0, nf1, nf2, nf3, nf4]
  refine st_mv v19 ?_
  simp only [nf0, nf1, nf2, nf3, nf4]
  refine st_mv (.int .i64 ((paA (prA zs)).2)) ?_
  simp only [nf0, nf1, nf2, nf3, nf4]
  refine st_mv v19 ?_
  simp only [nf0, nf1, nf2, nf3, nf4]
  refine st_mv (.int .i64 ((paA (prA zs)).2)) ?_
  simp only [nf0, nf1, nf2, nf3, nf4]
  refine wpList_nil ?_
  show Code.wp _ _ _ _ _
  refine wp_seq ?_
  refine wp_seq ?_
  cases hg32 : kf
  · have hp33 := trivial
    have hbad : ∃ e ∈ zs, ¬ known e.1 := by have h_ := hkb.symm.trans hg32; rw [List.all_eq_false] at h_; obtain ⟨e, h1_, h2_⟩ := h_; exact ⟨e, h1_, fun h3_ => h2_ (decide_eq_true h3_)⟩
    have hp1 := paA_bad okzs hbad
    obtain ⟨A34, c35, hv36, h37, h38, h39, R40⟩ := O20.reads
    subst hv36
    refine wp_region_lit ?_
    refine st_mv (.bool false) ?_
    simp only [nf0, nf1, nf2, nf3, nf4]
    refine st_mv (.bool false) ?_
    simp only [nf0, nf1, nf2, nf3, nf4]
    refine st_nob (j := 1) (t := 38) (c := false) rfl rfl rfl rfl rfl ?_
    simp only [nf0, nf1, nf2, nf3, nf4]
    refine st_nob (j := 1) (t := 38) (c := false) rfl rfl rfl rfl rfl ?_
    simp only [nf0, nf1, nf2, nf3, nf4]
    refine st_nob (j := 1) (t := 38) (c := false) rfl rfl rfl rfl rfl ?_
    simp only [nf0, nf1, nf2, nf3, nf4]
    refine st_nou (j := 4) (t := 41) rfl rfl rfl rfl ?_
    simp only [nf0, nf1, nf2, nf3, nf4]
    refine st_nou (j := 4) (t := 41) rfl rfl rfl rfl ?_
    simp only [nf0, nf1, nf2, nf3, nf4]
    refine st_nou (j := 4) (t := 41) rfl rfl rfl rfl ?_
    simp only [nf0, nf1, nf2, nf3, nf4]
    refine st_nou (j := 4) (t := 41) rfl rfl rfl rfl ?_
    simp only [nf0, nf1, nf2, nf3, nf4]
    refine st_nob (j := 1) (t := 38) (c := false) rfl rfl rfl rfl rfl ?_
    simp only [nf0, nf1, nf2, nf3, nf4]
    refine st_mv (.bool false) ?_
    simp only [nf0, nf1, nf2, nf3, nf4]
    refine st_mv (.bool false) ?_
    simp only [nf0, nf1, nf2, nf3, nf4]
    refine st_mv (.bool false) ?_
    simp only [nf0, nf1, nf2, nf3, nf4]
    refine st_value (v := (.bool true)) (by rfl) (run_not (.tmp 49) rfl (b := false) rfl w21) ?_
    simp only [nf0, nf1, nf2, nf3, nf4]
    refine st_mv (.bool true) ?_
    simp only [nf0, nf1, nf2, nf3, nf4]
    refine st_mv (.int .i64 ((paA (prA zs)).2)) ?_
    simp only [nf0, nf1, nf2, nf3, nf4]
    refine st_value (v := (.bool false)) (by rfl) ((run_eql_int (.tmp 52) (.const (.int .i64 0)) rfl rfl rfl w21).trans (by rw [decide_eq_false hp1])) ?_
    simp only [nf0, nf1, nf2, nf3, nf4]
    refine st_mv (.bool false) ?_
    simp only [nf0, nf1, nf2, nf3, nf4]
    refine st_mv (.bool false) ?_
    simp only [nf0, nf1, nf2, nf3, nf4]
    refine wpList_nil ?_
    show Code.wp _ _ _ _ _
    refine wp_cond_false rfl ?_
    refine wp_skip ?_
    show Code.wp _ _ _ _ _
    refine wp_seq ?_
    refine wp_seq ?_
    cases hg43 : decide ((nm p.1) = [])
    rotate_left
    · have hp55 := of_decide_eq_true hg43
      refine wp_region_lit ?_
      refine st_value (v := (.pointer (some ⟨g1, 0, none⟩))) (by rfl) (run_fieldA (.tmp 4) rfl k_fld_23_0 rfl rfl w21) ?_
      simp only [nf0, nf1, nf2, nf3, nf4]
      refine st_value (v := (.int .i64 p.1)) (by rfl) (run_loadB (.tmp 56) rfl k_one_3 rfl B3 rfl) ?_
      simp only [nf0, nf1, nf2, nf3, nf4]
      refine st_call1 (v := (.string (str (nm p.1)))) (by rfl) (k_run_call_11_1 (.tmp 57) rfl rfl _) (refName_calls p.1 w21) ?_
      intro w56 hb57
      simp only [nf0, nf1, nf2, nf3, nf4]
      replace B3 := B3.below hb57
      replace B8 := B8.below hb57
      replace O20 := O20.same hb57
      replace R40 := R40.same hb57
      replace bel := bl_step bel hb57
      clear hb57
      refine st_value (v := (.bool true)) (by rfl) ((run_eql_text (.tmp 58) (.const (.string ⟨#[]⟩)) (l := (nm p.1)) (m := []) rfl rfl rfl w56).trans (by rw [hg43])) ?_
      simp only [nf0, nf1, nf2, nf3, nf4]
      refine st_mv (.bool true) ?_
      simp only [nf0, nf1, nf2, nf3, nf4]
      refine st_nob (j := 4) (t := 60) (c := true) rfl rfl rfl rfl rfl ?_
      simp only [nf0, nf1, nf2, nf3, nf4]
      refine st_nob (j := 4) (t := 60) (c := true) rfl rfl rfl rfl rfl ?_
      simp only [nf0, nf1, nf2, nf3, nf4]
      refine st_nob (j := 4) (t := 60) (c := true) rfl rfl rfl rfl rfl ?_
      simp only [nf0, nf1, nf2, nf3, nf4]
      refine st_nob (j := 4) (t := 60) (c := true) rfl rfl rfl rfl rfl ?_
      simp only [nf0, nf1, nf2, nf3, nf4]
      refine st_mv (.bool true) ?_
      simp only [nf0, nf1, nf2, nf3, nf4]
      refine wpList_nil ?_
      show Code.wp _ _ _ _ _
      refine wp_cond_true rfl ?_
      refine wp_seq ?_
      refine wp_region_lit ?_
      refine st_call1 (v := (.bool true)) (by rfl) (k_run_call_7_0  rfl  _) (evLives_calls w56) ?_
      intro w58 hb59
      simp only [nf0, nf1, nf2, nf3, nf4]
      replace B3 := B3.below hb59
      replace B8 := B8.below hb59
      replace O20 := O20.same hb59
      replace R40 := R40.same hb59
      replace bel := bl_step bel hb59
      clear hb59
      refine st_mv (.bool true) ?_
      simp only [nf0, nf1, nf2, nf3, nf4]
      refine wpList_nil ?_
      show Code.wp _ _ _ _ _
      refine wp_ret ?_
      first | show bodyPost _ _ _ _ _ _ | (simp only [Exit.then, Exit.inBlock]; show bodyPost _ _ _ _ _ _)
      exact bodyPost_ret (results_tmp rfl _ _ _) rfl ⟨rfl, bel⟩
    have hp44 := of_decide_eq_false hg43
    refine wp_region_lit ?_
    refine st_value (v := (.pointer (some ⟨g1, 0, none⟩))) (by rfl) (run_fieldA (.tmp 4) rfl k_fld_23_0 rfl rfl w21) ?_
    simp only [nf0, nf1, nf2, nf3, nf4]
    refine st_value (v := (.int .i64 p.1)) (by rfl) (run_loadB (.tmp 56) rfl k_one_3 rfl B3 rfl) ?_
    simp only [nf0, nf1, nf2, nf3, nf4]
    refine st_call1 (v := (.string (str (nm p.1)))) (by rfl) (k_run_call_11_1 (.tmp 57) rfl rfl _) (refName_calls p.1 w21) ?_
    intro w45 hb46
    simp only [nf0, nf1, nf2, nf3, nf4]
    replace B3 := B3.below hb46
    replace B8 := B8.below hb46
    replace O20 := O20.same hb46
    replace R40 := R40.same hb46
    replace bel := bl_step bel hb46
    clear hb46
    refine st_value (v := (.bool false)) (by rfl) ((run_eql_text (.tmp 58) (.const (.string ⟨#[]⟩)) (l := (nm p.1)) (m := []) rfl rfl rfl w45).trans (by rw [hg43])) ?_
    simp only [nf0, nf1, nf2, nf3, nf4]
    refine st_mv (.bool false) ?_
    simp only [nf0, nf1, nf2, nf3, nf4]
    refine st_value (v := (.pointer (some ⟨g6, 0, none⟩))) (by rfl) (run_fieldA (.tmp 5) rfl k_fld_23_0 rfl rfl w45) ?_
    simp only [nf0, nf1, nf2, nf3, nf4]
    refine st_value (v := (.int .i64 q.1)) (by rfl) (run_loadB (.tmp 61) rfl k_one_3 rfl B8 rfl) ?_
    simp only [nf0, nf1, nf2, nf3, nf4]
    refine st_call1 (v := (.string (str (nm q.1)))) (by rfl) (k_run_call_11_1 (.tmp 62) rfl rfl _) (refName_calls q.1 w45) ?_
    intro w47 hb48
    simp only [nf0, nf1, nf2, nf3, nf4]
    replace B3 := B3.below hb48
    replace B8 := B8.below hb48
    replace O20 := O20.same hb48
    replace R40 := R40.same hb48
    replace bel := bl_step bel hb48
    clear hb48
    refine st_value (v := (.bool (decide ((nm q.1) = [])))) (by rfl) (run_eql_text (.tmp 63) (.const (.string ⟨#[]⟩)) (l := (nm q.1)) (m := []) rfl rfl rfl w47) ?_
    simp only [nf0, nf1, nf2, nf3, nf4]
    refine st_mv (.bool (decide ((nm q.1) = []))) ?_
    simp only [nf0, nf1, nf2, nf3, nf4]
    refine wpList_nil ?_
    show Code.wp _ _ _ _ _
    cases hg49 : decide ((nm q.1) = [])
    rotate_left
    · have hp52 := of_decide_eq_true hg49
      refine wp_cond_true rfl ?_
      refine wp_seq ?_
      refine wp_region_lit ?_
      refine st_call1 (v := (.bool true)) (by rfl) (k_run_call_7_0  rfl  _) (evLives_calls w47) ?_
      intro w53 hb54
      simp only [nf0, nf1, nf2, nf3, nf4]
      replace B3 := B3.below hb54
      replace B8 := B8.below hb54
      replace O20 := O20.same hb54
      replace R40 := R40.same hb54
      replace bel := bl_step bel hb54
      clear hb54
      refine st_mv (.bool true) ?_
      simp only [nf0, nf1, nf2, nf3, nf4]
      refine wpList_nil ?_
      show Code.wp _ _ _ _ _
      refine wp_ret ?_
      first | show bodyPost _ _ _ _ _ _ | (simp only [Exit.then, Exit.inBlock]; show bodyPost _ _ _ _ _ _)
      exact bodyPost_ret (results_tmp rfl _ _ _) rfl ⟨rfl, bel⟩
    have hp50 := of_decide_eq_false hg49
    refine wp_cond_false rfl ?_
    refine wp_skip ?_
    show Code.wp _ _ _ _ _
    refine wp_seq ?_
    have hpn : nm p.1 ≠ [] := by assumption
    have hqn : nm q.1 ≠ [] := by assumption
    refine wp_region_facts7_lit (C := Abv w47) (G := G0) [.val (.agg #[.int .i64 p.1, .int .i64 p.2.1, .int .i64 p.2.2.1, .int .i64 p.2.2.2.1, .int .i64 p.2.2.2.2]), .val (.string (str (prE p))), .val (.agg #[.int .i64 q.1, .int .i64 q.2.1, .int .i64 q.2.2.1, .int .i64 q.2.2.2.1, .int .i64 q.2.2.2.2]), .val (.string (str (prE q))), .val (.bool (decide (p = q))), .val (.agg #[.int .i64 p.1, .int .i64 p.2.1, .int .i64 p.2.2.1, .int .i64 p.2.2.2.1, .int .i64 p.2.2.2.2]), .val (.agg #[.int .i64 q.1, .int .i64 q.2.1, .int .i64 q.2.2.1, .int .i64 q.2.2.2.1, .int .i64 q.2.2.2.2]), .val (.bool (decide (p = q))), .val (.bool true), .val (.bool true), .val (.bool true), .val (.bool true), .val (.bool true)] (by kernel_rfl) (by kernel_rfl) (Abv.start _) ?_
    refine fsteps_val (fun W hC hh => opok_value (v := (.agg #[.int .i64 p.1, .int .i64 p.2.1, .int .i64 p.2.2.1, .int .i64 p.2.2.2.1, .int .i64 p.2.2.2.2])) (by rfl) (run_loadW (.tmp 4) rfl (cs := #[.int .i64 p.1, .int .i64 p.2.1, .int .i64 p.2.2.1, .int .i64 p.2.2.2.1, .int .i64 p.2.2.2.2]) aggEvt rfl (B3.below hC)) rfl hC (G0.refl _)) ?_
    simp only [nf0, nf1, nf2, nf3, nf4]
    refine fsteps_val (fun W hC hh => opok_call (by rfl) (k_run_call_12_1 (.tmp 67) rfl rfl W) ((print_calls p hp W).mono fun e W' ⟨h1, h2⟩ => ⟨_, h1, rfl, hC.step h2, h2⟩)) ?_
    simp only [nf0, nf1, nf2, nf3, nf4]
    refine fsteps_val (fun W hC hh => opok_value (v := (.agg #[.int .i64 q.1, .int .i64 q.2.1, .int .i64 q.2.2.1, .int .i64 q.2.2.2.1, .int .i64 q.2.2.2.2])) (by rfl) (run_loadW (.tmp 5) rfl (cs := #[.int .i64 q.1, .int .i64 q.2.1, .int .i64 q.2.2.1, .int .i64 q.2.2.2.1, .int .i64 q.2.2.2.2]) aggEvt rfl (B8.below hC)) rfl hC (G0.refl _)) ?_
    simp only [nf0, nf1, nf2, nf3, nf4]
    refine fsteps_val (fun W hC hh => opok_call (by rfl) (k_run_call_12_1 (.tmp 69) rfl rfl W) ((print_calls q hq W).mono fun e W' ⟨h1, h2⟩ => ⟨_, h1, rfl, hC.step h2, h2⟩)) ?_
    simp only [nf0, nf1, nf2, nf3, nf4]
    refine fsteps_val (fun W hC hh => opok_value (v := (.bool (decide (p = q)))) (by rfl) ((run_eql_text (.tmp 68) (.tmp 70) rfl (l := prE p) (m := prE q) rfl rfl W).trans (by rw [prE_iff hpn hqn hp hq])) rfl hC (G0.refl _)) ?_
    simp only [nf0, nf1, nf2, nf3, nf4]
    refine fsteps_val (fun W hC hh => opok_value (v := (.agg #[.int .i64 p.1, .int .i64 p.2.1, .int .i64 p.2.2.1, .int .i64 p.2.2.2.1, .int .i64 p.2.2.2.2])) (by rfl) (run_loadW (.tmp 4) rfl (cs := #[.int .i64 p.1, .int .i64 p.2.1, .int .i64 p.2.2.1, .int .i64 p.2.2.2.1, .int .i64 p.2.2.2.2]) aggEvt rfl (B3.below hC)) rfl hC (G0.refl _)) ?_
    simp only [nf0, nf1, nf2, nf3, nf4]
    refine fsteps_val (fun W hC hh => opok_value (v := (.agg #[.int .i64 q.1, .int .i64 q.2.1, .int .i64 q.2.2.1, .int .i64 q.2.2.2.1, .int .i64 q.2.2.2.2])) (by rfl) (run_loadW (.tmp 5) rfl (cs := #[.int .i64 q.1, .int .i64 q.2.1, .int .i64 q.2.2.1, .int .i64 q.2.2.2.1, .int .i64 q.2.2.2.2]) aggEvt rfl (B8.below hC)) rfl hC (G0.refl _)) ?_
    simp only [nf0, nf1, nf2, nf3, nf4]
    refine fsteps_val (fun W hC hh => opok_value (v := (.bool (decide (p = q)))) (by rfl) (run_eql_agg (.tmp 72) (.tmp 73) rfl eqEvt (p := p) (q := q) rfl rfl trivial trivial W) rfl hC (G0.refl _)) ?_
    simp only [nf0, nf1, nf2, nf3, nf4]
    refine fsteps_val (fun W hC hh => opok_value (v := (.bool true)) (by rfl) ((runm_eql_bool (.tmp 71) (.tmp 74) rfl Tryd.underlying4 (b := decide (p = q)) (c := decide (p = q)) rfl rfl W).trans (by rw [beq_self_eq_true])) rfl hC (G0.refl _)) ?_
    simp only [nf0, nf1, nf2, nf3, nf4]
    refine fsteps_val (fun W hC hh => opok_value (v := (.bool true)) (by rfl) (by rfl) rfl hC (G0.refl _)) ?_
    simp only [nf0, nf1, nf2, nf3, nf4]
    refine fsteps_val (fun W hC hh => opok_call (by rfl) (k_run_call_7_0  rfl  W) ((evLives_calls W).mono fun e W' ⟨h1, h2⟩ => ⟨_, h1, rfl, hC.step h2, h2⟩)) ?_
    simp only [nf0, nf1, nf2, nf3, nf4]
    refine fsteps_val (fun W hC hh => opok_value (v := (.bool true)) (by rfl) (by rfl) rfl hC (G0.refl _)) ?_
    simp only [nf0, nf1, nf2, nf3, nf4]
    refine fsteps_val (fun W hC hh => opok_value (v := (.bool true)) (by rfl) (by rfl) rfl hC (G0.refl _)) ?_
    simp only [nf0, nf1, nf2, nf3, nf4]
    refine fsteps_nil fun w51 hC _ => ?_
    replace hC : Below w47.heap.size w47 w51 := hC
    replace B3 := B3.below hC
    replace B8 := B8.below hC
    replace O20 := O20.same hC
    replace R40 := R40.same hC
    replace bel := bl_step bel hC
    clear hC
    show Code.wp _ _ _ _ _
    refine wp_ret ?_
    first | show bodyPost _ _ _ _ _ _ | (simp only [Exit.then, Exit.inBlock]; show bodyPost _ _ _ _ _ _)
    exact bodyPost_ret (results_tmp rfl _ _ _) rfl ⟨rfl, bel⟩
  have hp60 := trivial
  have hall : ∀ e ∈ zs, okEv e := fun e he => ⟨by have h_ := List.all_eq_true.1 (hkb.symm.trans hg32) e he; exact of_decide_eq_true h_, okzs e he⟩
  have hpa := paA_all hall
  have hps : zs = (paA (prA zs)).1 := by rw [hpa]
  have hp0 : (paA (prA zs)).2 = 0 := by rw [hpa]
  obtain ⟨A61, c62, hv63, h64, h65, h66, R67⟩ := O20.reads
  subst hv63
  refine wp_region_lit ?_
  refine st_mv (.bool true) ?_
  simp only [nf0, nf1, nf2, nf3, nf4]
  refine st_mv (.bool true) ?_
  simp only [nf0, nf1, nf2, nf3, nf4]
  refine st_mv (.int .i64 ((paA (prA zs)).2)) ?_
  simp only [nf0, nf1, nf2, nf3, nf4]
  refine st_value (v := (.bool false)) (by rfl) ((run_neq_int (.tmp 39) (.const (.int .i64 0)) rfl rfl rfl w21).trans (by rw [decide_eq_true hp0]; rfl)) ?_
  simp only [nf0, nf1, nf2, nf3, nf4]
  refine st_mv (.bool false) ?_
  simp only [nf0, nf1, nf2, nf3, nf4]
  refine st_mv (.slice A zs.length ca) ?_
  simp only [nf0, nf1, nf2, nf3, nf4]
  refine st_mv (.slice A61 ((paA (prA zs)).1).length c62) ?_
  simp only [nf0, nf1, nf2, nf3, nf4]
  refine st_call1 (v := (.bool true)) (by rfl) (k_run_call_15_2 (.tmp 42) (.tmp 43) rfl rfl rfl _) (show Calls _ _ _ _ fun e w' => e = .returned (.bool true) ∧ Below w21.heap.size w21 w' from by have h := same_calls A A61 zs ((paA (prA zs)).1) ca c62 cpzs h64 (by omega) (by omega) w21 (R12.same bel) R67; rw [decide_eq_true hps] at h; exact h) ?_
  intro w68 hb69
  simp only [nf0, nf1, nf2, nf3, nf4]
  replace B3 := B3.below hb69
  replace B8 := B8.below hb69
  replace O20 := O20.same hb69
  replace R67 := R67.same hb69
  replace bel := bl_step bel hb69
  clear hb69
  refine st_value (v := (.bool false)) (by rfl) (run_not (.tmp 44) rfl (b := true) rfl w68) ?_
  simp only [nf0, nf1, nf2, nf3, nf4]
  refine st_mv (.bool false) ?_
  simp only [nf0, nf1, nf2, nf3, nf4]
  refine st_mv (.bool false) ?_
  simp only [nf0, nf1, nf2, nf3, nf4]
  refine st_mv (.bool false) ?_
  simp only [nf0, nf1, nf2, nf3, nf4]
  refine st_mv (.bool true) ?_
  simp only [nf0, nf1, nf2, nf3, nf4]
  refine st_value (v := (.bool false)) (by rfl) (run_not (.tmp 49) rfl (b := true) rfl w68) ?_
  simp only [nf0, nf1, nf2, nf3, nf4]
  refine st_mv (.bool false) ?_
  simp only [nf0, nf1, nf2, nf3, nf4]
  refine st_nob (j := 14) (t := 51) (c := false) rfl rfl rfl rfl rfl ?_
  simp only [nf0, nf1, nf2, nf3, nf4]
  refine st_nob (j := 14) (t := 51) (c := false) rfl rfl rfl rfl rfl ?_
  simp only [nf0, nf1, nf2, nf3, nf4]
  refine st_mv (.bool false) ?_
  simp only [nf0, nf1, nf2, nf3, nf4]
  refine st_mv (.bool false) ?_
  simp only [nf0, nf1, nf2, nf3, nf4]
  refine wpList_nil ?_
  show Code.wp _ _ _ _ _
  refine wp_cond_false rfl ?_
  refine wp_skip ?_
  show Code.wp _ _ _ _ _
  refine wp_seq ?_
  refine wp_seq ?_
  cases hg72 : decide ((nm p.1) = [])
  rotate_left
  · have hp84 := of_decide_eq_true hg72
    refine wp_region_lit ?_
    refine st_value (v := (.pointer (some ⟨g1, 0, none⟩))) (by rfl) (run_fieldA (.tmp 4) rfl k_fld_23_0 rfl rfl w68) ?_
    simp only [nf0, nf1, nf2, nf3, nf4]
    refine st_value (v := (.int .i64 p.1)) (by rfl) (run_loadB (.tmp 56) rfl k_one_3 rfl B3 rfl) ?_
    simp only [nf0, nf1, nf2, nf3, nf4]
    refine st_call1 (v := (.string (str (nm p.1)))) (by rfl) (k_run_call_11_1 (.tmp 57) rfl rfl _) (refName_calls p.1 w68) ?_
    intro w85 hb86
    simp only [nf0, nf1, nf2, nf3, nf4]
    replace B3 := B3.below hb86
    replace B8 := B8.below hb86
    replace O20 := O20.same hb86
    replace R67 := R67.same hb86
    replace bel := bl_step bel hb86
    clear hb86
    refine st_value (v := (.bool true)) (by rfl) ((run_eql_text (.tmp 58) (.const (.string ⟨#[]⟩)) (l := (nm p.1)) (m := []) rfl rfl rfl w85).trans (by rw [hg72])) ?_
    simp only [nf0, nf1, nf2, nf3, nf4]
    refine st_mv (.bool true) ?_
    simp only [nf0, nf1, nf2, nf3, nf4]
    refine st_nob (j := 4) (t := 60) (c := true) rfl rfl rfl rfl rfl ?_
    simp only [nf0, nf1, nf2, nf3, nf4]
    refine st_nob (j := 4) (t := 60) (c := true) rfl rfl rfl rfl rfl ?_
    simp only [nf0, nf1, nf2, nf3, nf4]
    refine st_nob (j := 4) (t := 60) (c := true) rfl rfl rfl rfl rfl ?_
    simp only [nf0, nf1, nf2, nf3, nf4]
    refine st_nob (j := 4) (t := 60) (c := true) rfl rfl rfl rfl rfl ?_
    simp only [nf0, nf1, nf2, nf3, nf4]
    refine st_mv (.bool true) ?_
    simp only [nf0, nf1, nf2, nf3, nf4]
    refine wpList_nil ?_
    show Code.wp _ _ _ _ _
    refine wp_cond_true rfl ?_
    refine wp_seq ?_
    refine wp_region_lit ?_
    refine st_call1 (v := (.bool true)) (by rfl) (k_run_call_7_0  rfl  _) (evLives_calls w85) ?_
    intro w87 hb88
    simp only [nf0, nf1, nf2, nf3, nf4]
    replace B3 := B3.below hb88
    replace B8 := B8.below hb88
    replace O20 := O20.same hb88
    replace R67 := R67.same hb88
    replace bel := bl_step bel hb88
    clear hb88
    refine st_mv (.bool true) ?_
    simp only [nf0, nf1, nf2, nf3, nf4]
    refine wpList_nil ?_
    show Code.wp _ _ _ _ _
    refine wp_ret ?_
    first | show bodyPost _ _ _ _ _ _ | (simp only [Exit.then, Exit.inBlock]; show bodyPost _ _ _ _ _ _)
    exact bodyPost_ret (results_tmp rfl _ _ _) rfl ⟨rfl, bel⟩
  have hp73 := of_decide_eq_false hg72
  refine wp_region_lit ?_
  refine st_value (v := (.pointer (some ⟨g1, 0, none⟩))) (by rfl) (run_fieldA (.tmp 4) rfl k_fld_23_0 rfl rfl w68) ?_
  simp only [nf0, nf1, nf2, nf3, nf4]
  refine st_value (v := (.int .i64 p.1)) (by rfl) (run_loadB (.tmp 56) rfl k_one_3 rfl B3 rfl) ?_
  simp only [nf0, nf1, nf2, nf3, nf4]
  refine st_call1 (v := (.string (str (nm p.1)))) (by rfl) (k_run_call_11_1 (.tmp 57) rfl rfl _) (refName_calls p.1 w68) ?_
  intro w74 hb75
  simp only [nf0, nf1, nf2, nf3, nf4]
  replace B3 := B3.below hb75
  replace B8 := B8.below hb75
  replace O20 := O20.same hb75
  replace R67 := R67.same hb75
  replace bel := bl_step bel hb75
  clear hb75
  refine st_value (v := (.bool false)) (by rfl) ((run_eql_text (.tmp 58) (.const (.string ⟨#[]⟩)) (l := (nm p.1)) (m := []) rfl rfl rfl w74).trans (by rw [hg72])) ?_
  simp only [nf0, nf1, nf2, nf3, nf4]
  refine st_mv (.bool false) ?_
  simp only [nf0, nf1, nf2, nf3, nf4]
  refine st_value (v := (.pointer (some ⟨g6, 0, none⟩))) (by rfl) (run_fieldA (.tmp 5) rfl k_fld_23_0 rfl rfl w74) ?_
  simp only [nf0, nf1, nf2, nf3, nf4]
  refine st_value (v := (.int .i64 q.1)) (by rfl) (run_loadB (.tmp 61) rfl k_one_3 rfl B8 rfl) ?_
  simp only [nf0, nf1, nf2, nf3, nf4]
  refine st_call1 (v := (.string (str (nm q.1)))) (by rfl) (k_run_call_11_1 (.tmp 62) rfl rfl _) (refName_calls q.1 w74) ?_
  intro w76 hb77
  simp only [nf0, nf1, nf2, nf3, nf4]
  replace B3 := B3.below hb77
  replace B8 := B8.below hb77
  replace O20 := O20.same hb77
  replace R67 := R67.same hb77
  replace bel := bl_step bel hb77
  clear hb77
  refine st_value (v := (.bool (decide ((nm q.1) = [])))) (by rfl) (run_eql_text (.tmp 63) (.const (.string ⟨#[]⟩)) (l := (nm q.1)) (m := []) rfl rfl rfl w76) ?_
  simp only [nf0, nf1, nf2, nf3, nf4]
  refine st_mv (.bool (decide ((nm q.1) = []))) ?_
  simp only [nf0, nf1, nf2, nf3, nf4]
  refine wpList_nil ?_
  show Code.wp _ _ _ _ _
  cases hg78 : decide ((nm q.1) = [])
  rotate_left
  · have hp81 := of_decide_eq_true hg78
    refine wp_cond_true rfl ?_
    refine wp_seq ?_
    refine wp_region_lit ?_
    refine st_call1 (v := (.bool true)) (by rfl) (k_run_call_7_0  rfl  _) (evLives_calls w76) ?_
    intro w82 hb83
    simp only [nf0, nf1, nf2, nf3, nf4]
    replace B3 := B3.below hb83
    replace B8 := B8.below hb83
    replace O20 := O20.same hb83
    replace R67 := R67.same hb83
    replace bel := bl_step bel hb83
    clear hb83
    refine st_mv (.bool true) ?_
    simp only [nf0, nf1, nf2, nf3, nf4]
    refine wpList_nil ?_
    show Code.wp _ _ _ _ _
    refine wp_ret ?_
    first | show bodyPost _ _ _ _ _ _ | (simp only [Exit.then, Exit.inBlock]; show bodyPost _ _ _ _ _ _)
    exact bodyPost_ret (results_tmp rfl _ _ _) rfl ⟨rfl, bel⟩
  have hp79 := of_decide_eq_false hg78
  refine wp_cond_false rfl ?_
  refine wp_skip ?_
  show Code.wp _ _ _ _ _
  refine wp_seq ?_
  have hpn : nm p.1 ≠ [] := by assumption
  have hqn : nm q.1 ≠ [] := by assumption
  refine wp_region_facts7_lit (C := Abv w76) (G := G0) [.val (.agg #[.int .i64 p.1, .int .i64 p.2.1, .int .i64 p.2.2.1, .int .i64 p.2.2.2.1, .int .i64 p.2.2.2.2]), .val (.string (str (prE p))), .val (.agg #[.int .i64 q.1, .int .i64 q.2.1, .int .i64 q.2.2.1, .int .i64 q.2.2.2.1, .int .i64 q.2.2.2.2]), .val (.string (str (prE q))), .val (.bool (decide (p = q))), .val (.agg #[.int .i64 p.1, .int .i64 p.2.1, .int .i64 p.2.2.1, .int .i64 p.2.2.2.1, .int .i64 p.2.2.2.2]), .val (.agg #[.int .i64 q.1, .int .i64 q.2.1, .int .i64 q.2.2.1, .int .i64 q.2.2.2.1, .int .i64 q.2.2.2.2]), .val (.bool (decide (p = q))), .val (.bool true), .val (.bool true), .val (.bool true), .val (.bool true), .val (.bool true)] (by kernel_rfl) (by kernel_rfl) (Abv.start _) ?_
  refine fsteps_val (fun W hC hh => opok_value (v := (.agg #[.int .i64 p.1, .int .i64 p.2.1, .int .i64 p.2.2.1, .int .i64 p.2.2.2.1, .int .i64 p.2.2.2.2])) (by rfl) (run_loadW (.tmp 4) rfl (cs := #[.int .i64 p.1, .int .i64 p.2.1, .int .i64 p.2.2.1, .int .i64 p.2.2.2.1, .int .i64 p.2.2.2.2]) aggEvt rfl (B3.below hC)) rfl hC (G0.refl _)) ?_
  simp only [nf0, nf1, nf2, nf3, nf4]
  refine fsteps_val (fun W hC hh => opok_call (by rfl) (k_run_call_12_1 (.tmp 67) rfl rfl W) ((print_calls p hp W).mono fun e W' ⟨h1, h2⟩ => ⟨_, h1, rfl, hC.step h2, h2⟩)) ?_
  simp only [nf0, nf1, nf2, nf3, nf4]
  refine fsteps_val (fun W hC hh => opok_value (v := (.agg #[.int .i64 q.1, .int .i64 q.2.1, .int .i64 q.2.2.1, .int .i64 q.2.2.2.1, .int .i64 q.2.2.2.2])) (by rfl) (run_loadW (.tmp 5) rfl (cs := #[.int .i64 q.1, .int .i64 q.2.1, .int .i64 q.2.2.1, .int .i64 q.2.2.2.1, .int .i64 q.2.2.2.2]) aggEvt rfl (B8.below hC)) rfl hC (G0.refl _)) ?_
  simp only [nf0, nf1, nf2, nf3, nf4]
  refine fsteps_val (fun W hC hh => opok_call (by rfl) (k_run_call_12_1 (.tmp 69) rfl rfl W) ((print_calls q hq W).mono fun e W' ⟨h1, h2⟩ => ⟨_, h1, rfl, hC.step h2, h2⟩)) ?_
  simp only [nf0, nf1, nf2, nf3, nf4]
  refine fsteps_val (fun W hC hh => opok_value (v := (.bool (decide (p = q)))) (by rfl) ((run_eql_text (.tmp 68) (.tmp 70) rfl (l := prE p) (m := prE q) rfl rfl W).trans (by rw [prE_iff hpn hqn hp hq])) rfl hC (G0.refl _)) ?_
  simp only [nf0, nf1, nf2, nf3, nf4]
  refine fsteps_val (fun W hC hh => opok_value (v := (.agg #[.int .i64 p.1, .int .i64 p.2.1, .int .i64 p.2.2.1, .int .i64 p.2.2.2.1, .int .i64 p.2.2.2.2])) (by rfl) (run_loadW (.tmp 4) rfl (cs := #[.int .i64 p.1, .int .i64 p.2.1, .int .i64 p.2.2.1, .int .i64 p.2.2.2.1, .int .i64 p.2.2.2.2]) aggEvt rfl (B3.below hC)) rfl hC (G0.refl _)) ?_
  simp only [nf0, nf1, nf2, nf3, nf4]
  refine fsteps_val (fun W hC hh => opok_value (v := (.agg #[.int .i64 q.1, .int .i64 q.2.1, .int .i64 q.2.2.1, .int .i64 q.2.2.2.1, .int .i64 q.2.2.2.2])) (by rfl) (run_loadW (.tmp 5) rfl (cs := #[.int .i64 q.1, .int .i64 q.2.1, .int .i64 q.2.2.1, .int .i64 q.2.2.2.1, .int .i64 q.2.2.2.2]) aggEvt rfl (B8.below hC)) rfl hC (G0.refl _)) ?_
  simp only [nf0, nf1, nf2, nf3, nf4]
  refine fsteps_val (fun W hC hh => opok_value (v := (.bool (decide (p = q)))) (by rfl) (run_eql_agg (.tmp 72) (.tmp 73) rfl eqEvt (p := p) (q := q) rfl rfl trivial trivial W) rfl hC (G0.refl _)) ?_
  simp only [nf0, nf1, nf2, nf3, nf4]
  refine fsteps_val (fun W hC hh => opok_value (v := (.bool true)) (by rfl) ((runm_eql_bool (.tmp 71) (.tmp 74) rfl Tryd.underlying4 (b := decide (p = q)) (c := decide (p = q)) rfl rfl W).trans (by rw [beq_self_eq_true])) rfl hC (G0.refl _)) ?_
  simp only [nf0, nf1, nf2, nf3, nf4]
  refine fsteps_val (fun W hC hh => opok_value (v := (.bool true)) (by rfl) (by rfl) rfl hC (G0.refl _)) ?_
  simp only [nf0, nf1, nf2, nf3, nf4]
  refine fsteps_val (fun W hC hh => opok_call (by rfl) (k_run_call_7_0  rfl  W) ((evLives_calls W).mono fun e W' ⟨h1, h2⟩ => ⟨_, h1, rfl, hC.step h2, h2⟩)) ?_
  simp only [nf0, nf1, nf2, nf3, nf4]
  refine fsteps_val (fun W hC hh => opok_value (v := (.bool true)) (by rfl) (by rfl) rfl hC (G0.refl _)) ?_
  simp only [nf0, nf1, nf2, nf3, nf4]
  refine fsteps_val (fun W hC hh => opok_value (v := (.bool true)) (by rfl) (by rfl) rfl hC (G0.refl _)) ?_
  simp only [nf0, nf1, nf2, nf3, nf4]
  refine fsteps_nil fun w80 hC _ => ?_
  replace hC : Below w76.heap.size w76 w80 := hC
  replace B3 := B3.below hC
  replace B8 := B8.below hC
  replace O20 := O20.same hC
  replace R67 := R67.same hC
  replace bel := bl_step bel hC
  clear hC
  show Code.wp _ _ _ _ _
  refine wp_ret ?_
  first | show bodyPost _ _ _ _ _ _ | (simp only [Exit.then, Exit.inBlock]; show bodyPost _ _ _ _ _ _)
  exact bodyPost_ret (results_tmp rfl _ _ _) rfl ⟨rfl, bel⟩
end Go.Proofs.YtmfdcgocfofokaaDoor

/- An event that is handed in. -/
namespace Go.Proofs.YtmfdcgocfofokaaDoor
open Go.RowKit Go.WideShapes Go.ChangeShapes

theorem openEvt {H : Type} {enc : TypeId × Value → H} {w : World} {r : Reach} {b0 base : Nat} {spare : Nat → Bool} {held : Bool} {v : Value} {d : DataW H} {ps : List MemPlace}
    (hval : Value.okWide Tryd.prog w r b0 23 v) (h : DataW.Trod enc Tryd.prog w base spare held 23 v d ps) : ∃ p, v = .agg (eEvt.enc p).toArray ∧ okEvt p := by
  unfold Value.okWide at hval
  rw [undEvt] at hval
  obtain ⟨cs, rfl, _⟩ := hval
  obtain ⟨p, h1, h2⟩ := open_one flatEvt h
  refine ⟨p, ?_, h2⟩
  have h3 : cs.toList = eEvt.enc p := h1
  rw [← h3]
theorem openInt {H : Type} {enc : TypeId × Value → H} {w : World} {r : Reach} {b0 base : Nat} {spare : Nat → Bool} {held : Bool} {v : Value} {d : DataW H} {ps : List MemPlace}
    (hval : Value.okWide Tryd.prog w r b0 3 v) (h : DataW.Trod enc Tryd.prog w base spare held 3 v d ps) : ∃ n, v = .int .i64 n ∧ (Lit.int .i64 n).wf = true := by
  obtain ⟨n, hv, _, _, hw⟩ := open_int Tryd.underlying3 hval h
  exact ⟨n, hv, hw⟩
theorem openText {H : Type} {enc : TypeId × Value → H} {w : World} {r : Reach} {b0 base : Nat} {spare : Nat → Bool} {held : Bool} {v : Value} {d : DataW H} {ps : List MemPlace}
    (hval : Value.okWide Tryd.prog w r b0 9 v) (h : DataW.Trod enc Tryd.prog w base spare held 9 v d ps) : ∃ l, v = .string (str l) := by
  obtain ⟨s, hv, _⟩ := Go.ChangeMaps.open_string Tryd.underlying9 hval h
  exact ⟨s.data.toList, by rw [hv, str_of s]⟩
end Go.Proofs.YtmfdcgocfofokaaDoor

/- The law EventBack, at any arguments. -/
namespace Go.Proofs.YtmfdcgocfofokaaDoor
open Go.RowKit Go.WideShapes Go.ChangeShapes

theorem eventBack_law {H : Type} {enc : TypeId × Value → H} {W : World} {v0 v1 v2 : Value} {d0 d1 d2 : DataW H} {p0 p1 p2 : List MemPlace} {b0 b1 b2 : Nat} (o0 : Value.okWide Tryd.prog W .any b0 32 v0) (o1 : Value.okWide Tryd.prog W .any b1 23 v1) (o2 : Value.okWide Tryd.prog W .any b2 23 v2) (h0 : DataW.Trod enc Tryd.prog W 0 (fun _ => true) true 32 v0 d0 p0) (h1 : DataW.Trod enc Tryd.prog W 0 (fun _ => true) true 23 v1 d1 p1) (h2 : DataW.Trod enc Tryd.prog W 0 (fun _ => true) true 23 v2 d2 p2) :
    Calls Tryd.prog 6 #[v0, v1, v2] W fun e W' => e = .returned (.bool true) ∧ Below W.heap.size W W' := by
  obtain ⟨A, xs, ca, rfl, hca, _, oka, ha⟩ := openEvts o0 h0
  obtain ⟨p, rfl, hp⟩ := openEvt o1 h1
  obtain ⟨q, rfl, hq⟩ := openEvt o2 h2
  exact backLaw_calls oka hp hq W hca ha
end Go.Proofs.YtmfdcgocfofokaaDoor

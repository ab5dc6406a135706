/- What the law DescRises does. -/
import Derived.Test.YtkebpmcgmmhifaaDescAllLaw
namespace Go.Proofs.Ytkebpmcgmmhifaa
open Go.RowKit Go.WideShapes Go.ChangeShapes
set_option linter.unusedSimpArgs false
set_option linter.unusedVariables false

theorem i_zero_26 : ZeroOf Try.prog 26 #[.int .i64 0, .int .i64 0, .int .i64 0] := zeroOf (z := .agg #[.int .i64 0, .int .i64 0, .int .i64 0]) (by kernel_rfl) rfl
theorem i_run_call_8_1 {o : Oper} {a : Act} (x0 : Operand) {ts : Array TypeId} (ho : o.op = .call { callee := .value (.func 8), args := #[x0], argTypes := ts }) {v0 : Value} (h0 : a.eval x0 = v0) (W : World) : (execOp a.eval o).run Try.prog W = .ok (.enter 8 #[v0]) W := by
  unfold execOp
  simp only [ho]
  subst h0
  go_simp
theorem i_run_call_9_1 {o : Oper} {a : Act} (x0 : Operand) {ts : Array TypeId} (ho : o.op = .call { callee := .value (.func 9), args := #[x0], argTypes := ts }) {v0 : Value} (h0 : a.eval x0 = v0) (W : World) : (execOp a.eval o).run Try.prog W = .ok (.enter 9 #[v0]) W := by
  unfold execOp
  simp only [ho]
  subst h0
  go_simp
theorem i_run_call_13_0 {o : Oper} {a : Act}  {ts : Array TypeId} (ho : o.op = .call { callee := .value (.func 13), args := #[], argTypes := ts })  (W : World) : (execOp a.eval o).run Try.prog W = .ok (.enter 13 #[]) W := by
  unfold execOp
  simp only [ho]
  go_simp
theorem i_zero_33 : ZeroOf Try.prog 33 #[.int .i64 0, .string ⟨#[]⟩, .int .i64 0, .int .i64 0, .int .i64 0] := zeroOf (z := .agg #[.int .i64 0, .string ⟨#[]⟩, .int .i64 0, .int .i64 0, .int .i64 0]) (by kernel_rfl) rfl
theorem i_fld_33_2 : FieldAt Try.prog 33 2 2 := fieldAt_of (s := 2) Try.underlying33 (by kernel_rfl)
theorem i_fld_26_0 : FieldAt Try.prog 26 0 0 := fieldAt_of (s := 0) Try.underlying26 (by kernel_rfl)
theorem i_one_3 : One Try.prog 3 := one_of Try.underlying3 rfl (by kernel_rfl)
theorem i_fld_33_1 : FieldAt Try.prog 33 1 1 := fieldAt_of (s := 0) Try.underlying33 (by kernel_rfl)
theorem i_one_9 : One Try.prog 9 := one_of Try.underlying9 rfl (by kernel_rfl)
theorem i_run_call_10_1 {o : Oper} {a : Act} (x0 : Operand) {ts : Array TypeId} (ho : o.op = .call { callee := .value (.func 10), args := #[x0], argTypes := ts }) {v0 : Value} (h0 : a.eval x0 = v0) (W : World) : (execOp a.eval o).run Try.prog W = .ok (.enter 10 #[v0]) W := by
  unfold execOp
  simp only [ho]
  subst h0
  go_simp
theorem i_run_call_12_2 {o : Oper} {a : Act} (x0 : Operand) (x1 : Operand) {ts : Array TypeId} (ho : o.op = .call { callee := .value (.func 12), args := #[x0, x1], argTypes := ts }) {v0 : Value} (h0 : a.eval x0 = v0) {v1 : Value} (h1 : a.eval x1 = v1) (W : World) : (execOp a.eval o).run Try.prog W = .ok (.enter 12 #[v0, v1]) W := by
  unfold execOp
  simp only [ho]
  subst h0 h1
  go_simp
theorem des_seg {l : List UInt8} (h : l.length ≤ 65536) (hE : (desA l).2.1 = 0) : Seg l 0 (desR l) := by
  have hA : desA l = toksA l := by unfold desA; rw [if_neg (by omega)]
  unfold desR
  rw [if_pos hE, hA]
  rw [hA] at hE
  exact seg_all hE
theorem seg_at {l : List UInt8} {xs : List TTok} {k e : Nat} (hk : k < xs.length) (h : Seg l e (xs.drop k)) : ∃ n, tokAt xs k = tokI l n ∧ e ≤ n ∧ n < l.length ∧ kd (chr l n) ≠ 6 ∧ kd (chr l n) ≠ 7 ∧ terr l n = 0 ∧ toksA ((l.take n).drop e) = ([], 0, 0) ∧ Seg l (wend l n) (xs.drop (k + 1)) := by
  rw [List.drop_eq_getElem_cons hk] at h
  obtain ⟨n, h1, h2⟩ := h
  refine ⟨n, ?_, h2⟩
  rw [← h1]
  have := tokAt_get hk
  rw [List.getElem?_eq_getElem hk] at this
  injection this with this
  exact this.symm
theorem gap_des {l : List UInt8} (h : l.length ≤ 65536) (hA : toksA l = ([], 0, 0)) : (desA l).2.1 = 0 ∧ desR l = [] ∧ desP l = (0, 0, 0) := by
  have e : desA l = ([], 0, 0) := by unfold desA; rw [if_neg (by omega)]; exact hA
  unfold desR desP
  rw [e]
  exact ⟨rfl, rfl, rfl⟩

attribute [local irreducible] Go.wpList Go.Code.wp
set_option maxRecDepth 100000 in
set_option maxHeartbeats 4000000 in
theorem rises_bad (l : List UInt8) (hE : ¬ (desA (l.take 2000)).2.1 = 0) (w : World) : Calls Try.prog 4 #[.string (str l)] w fun e w' => e = .returned (.bool true) ∧ Below w.heap.size w w' := by
  have bel : Below w.heap.size w w := Below.refl _ _
  have hz : (l.take 2000).length ≤ 2000 := by rw [List.length_take]; omega
  have hdl := desR_len (l.take 2000)
  go_enter Try.func4, Try.ntmps4
  refine wp_seq ?_
  refine wp_region_lit ?_
  refine st_mv (.bool false) ?_
  simp only [nf0, nf1, nf2, nf3, nf4]
  refine wpList_nil ?_
  show Code.wp _ _ _ _ _
  refine wp_seq ?_
  refine wp_region_lit ?_
  refine st_mv (.string (str l)) ?_
  simp only [nf0, nf1, nf2, nf3, nf4]
  refine st_call1 (v := (.string (str (l.take 2000)))) (by rfl) (i_run_call_8_1 (.tmp 16) rfl rfl _) (cut_calls l w) ?_
  intro w1 hb2
  simp only [nf0, nf1, nf2, nf3, nf4]
  replace bel := bl_step bel hb2
  clear hb2
  refine st_mv (.string (str (l.take 2000))) ?_
  simp only [nf0, nf1, nf2, nf3, nf4]
  refine wpList_nil ?_
  show Code.wp _ _ _ _ _
  refine wp_seq ?_
  refine wp_region_lit ?_
  refine st_mv (.string (str (l.take 2000))) ?_
  simp only [nf0, nf1, nf2, nf3, nf4]
  refine st_call (by rfl) (i_run_call_9_1 (.tmp 19) rfl rfl _) (all_calls (l := (l.take 2000)) (by omega) w1) ?_
  rintro _ w6 ⟨v3, rfl, O4, hf7⟩
  simp only [nf0, nf1, nf2, nf3, nf4]
  replace O4 := O4.lower bel.size
  replace bel := bl_step bel hf7
  clear hf7
  refine st_mv (.tuple #[v3, .int .i64 ((desA (l.take 2000)).2.1), .agg #[.int .i64 ((desP (l.take 2000)).1), .int .i64 ((desP (l.take 2000)).2.1), .int .i64 ((desP (l.take 2000)).2.2)]]) ?_
  simp only [nf0, nf1, nf2, nf3, nf4]
  refine st_mv v3 ?_
  simp only [nf0, nf1, nf2, nf3, nf4]
  refine st_mv (.int .i64 ((desA (l.take 2000)).2.1)) ?_
  simp only [nf0, nf1, nf2, nf3, nf4]
  refine st_mv (.agg #[.int .i64 ((desP (l.take 2000)).1), .int .i64 ((desP (l.take 2000)).2.1), .int .i64 ((desP (l.take 2000)).2.2)]) ?_
  simp only [nf0, nf1, nf2, nf3, nf4]
  refine st_new (cs := #[.int .i64 0, .int .i64 0, .int .i64 0]) (t := 26) (by rfl) (run_allocV rfl i_zero_26 _) ?_
  intro g8 w9 B10 hb11 lo12
  simp only [nf0, nf1, nf2, nf3, nf4]
  have n13 := O4.off lo12
  replace lo12 := low_le bel lo12
  replace O4 := O4.same hb11
  replace bel := bl_step bel hb11
  clear hb11
  refine st_mv v3 ?_
  simp only [nf0, nf1, nf2, nf3, nf4]
  refine st_mv (.int .i64 ((desA (l.take 2000)).2.1)) ?_
  simp only [nf0, nf1, nf2, nf3, nf4]
  refine st_row (by rfl) (run_storeW (.tmp 5) (.tmp 23) rfl (cs := #[.int .i64 ((desP (l.take 2000)).1), .int .i64 ((desP (l.take 2000)).2.1), .int .i64 ((desP (l.take 2000)).2.2)]) aggPl rfl rfl B10 rfl (by simp [Value.oneCell'])) B10 ?_
  intro w14 B16 hg15
  simp only [nf0, nf1, nf2, nf3, nf4]
  replace O4 := O4.keptB hg15 n13
  replace bel := bl_kept0 bel hg15 lo12
  clear hg15
  clear B10
  refine wpList_nil ?_
  show Code.wp _ _ _ _ _
  refine wp_seq ?_
  refine wp_seq ?_
  refine wp_region_lit ?_
  refine st_mv (.int .i64 ((desA (l.take 2000)).2.1)) ?_
  simp only [nf0, nf1, nf2, nf3, nf4]
  refine st_value (v := (.bool true)) (by rfl) ((run_neq_int (.tmp 24) (.const (.int .i64 0)) rfl rfl rfl w14).trans (by rw [decide_eq_false hE]; rfl)) ?_
  simp only [nf0, nf1, nf2, nf3, nf4]
  refine wpList_nil ?_
  show Code.wp _ _ _ _ _
  refine wp_cond_true rfl ?_
  refine wp_seq ?_
  refine wp_region_lit ?_
  refine st_call1 (v := (.bool true)) (by rfl) (i_run_call_13_0  rfl  _) (descLives_calls w14) ?_
  intro w17 hb18
  simp only [nf0, nf1, nf2, nf3, nf4]
  replace O4 := O4.same hb18
  replace B16 := B16.below hb18
  replace bel := bl_step bel hb18
  clear hb18
  refine st_mv (.bool true) ?_
  simp only [nf0, nf1, nf2, nf3, nf4]
  refine wpList_nil ?_
  show Code.wp _ _ _ _ _
  refine wp_ret ?_
  first | show bodyPost _ _ _ _ _ _ | (simp only [Exit.then, Exit.inBlock]; show bodyPost _ _ _ _ _ _)
  exact bodyPost_ret (results_tmp rfl _ _ _) rfl ⟨rfl, bel⟩
set_option maxRecDepth 100000 in
set_option maxHeartbeats 4000000 in
theorem rises_good (l : List UInt8) (hE : (desA (l.take 2000)).2.1 = 0) (w : World) : Calls Try.prog 4 #[.string (str l)] w fun e w' => e = .returned (.bool true) ∧ Below w.heap.size w w' := by
  have bel : Below w.heap.size w w := Below.refl _ _
  have hz : (l.take 2000).length ≤ 2000 := by rw [List.length_take]; omega
  have hdl := desR_len (l.take 2000)
  have hseg := des_seg (by omega) hE
  go_enter Try.func4, Try.ntmps4
  refine wp_seq ?_
  refine wp_region_lit ?_
  refine st_mv (.bool false) ?_
  simp only [nf0, nf1, nf2, nf3, nf4]
  refine wpList_nil ?_
  show Code.wp _ _ _ _ _
  refine wp_seq ?_
  refine wp_region_lit ?_
  refine st_mv (.string (str l)) ?_
  simp only [nf0, nf1, nf2, nf3, nf4]
  refine st_call1 (v := (.string (str (l.take 2000)))) (by rfl) (i_run_call_8_1 (.tmp 16) rfl rfl _) (cut_calls l w) ?_
  intro w1 hb2
  simp only [nf0, nf1, nf2, nf3, nf4]
  replace bel := bl_step bel hb2
  clear hb2
  refine st_mv (.string (str (l.take 2000))) ?_
  simp only [nf0, nf1, nf2, nf3, nf4]
  refine wpList_nil ?_
  show Code.wp _ _ _ _ _
  refine wp_seq ?_
  refine wp_region_lit ?_
  refine st_mv (.string (str (l.take 2000))) ?_
  simp only [nf0, nf1, nf2, nf3, nf4]
  refine st_call (by rfl) (i_run_call_9_1 (.tmp 19) rfl rfl _) (all_calls (l := (l.take 2000)) (by omega) w1) ?_
  rintro _ w6 ⟨v3, rfl, O4, hf7⟩
  simp only [nf0, nf1, nf2, nf3, nf4]
  replace O4 := O4.lower bel.size
  replace bel := bl_step bel hf7
  clear hf7
  refine st_mv (.tuple #[v3, .int .i64 ((desA (l.take 2000)).2.1), .agg #[.int .i64 ((desP (l.take 2000)).1), .int .i64 ((desP (l.take 2000)).2.1), .int .i64 ((desP (l.take 2000)).2.2)]]) ?_
  simp only [nf0, nf1, nf2, nf3, nf4]
  refine st_mv v3 ?_
  simp only [nf0, nf1, nf2, nf3, nf4]
  refine st_mv (.int .i64 ((desA (l.take 2000)).2.1)) ?_
  simp only [nf0, nf1, nf2, nf3, nf4]
  refine st_mv (.agg #[.int .i64 ((desP (l.take 2000)).1), .int .i64 ((desP (l.take 2000)).2.1), .int .i64 ((desP (l.take 2000)).2.2)]) ?_
  simp only [nf0, nf1, nf2, nf3, nf4]
  refine st_new (cs := #[.int .i64 0, .int .i64 0, .int .i64 0]) (t := 26) (by rfl) (run_allocV rfl i_zero_26 _) ?_
  intro g8 w9 B10 hb11 lo12
  simp only [nf0, nf1, nf2, nf3, nf4]
  have n13 := O4.off lo12
  replace lo12 := low_le bel lo12
  replace O4 := O4.same hb11
  replace bel := bl_step bel hb11
  clear hb11
  refine st_mv v3 ?_
  simp only [nf0, nf1, nf2, nf3, nf4]
  refine st_mv (.int .i64 ((desA (l.take 2000)).2.1)) ?_
  simp only [nf0, nf1, nf2, nf3, nf4]
  refine st_row (by rfl) (run_storeW (.tmp 5) (.tmp 23) rfl (cs := #[.int .i64 ((desP (l.take 2000)).1), .int .i64 ((desP (l.take 2000)).2.1), .int .i64 ((desP (l.take 2000)).2.2)]) aggPl rfl rfl B10 rfl (by simp [Value.oneCell'])) B10 ?_
  intro w14 B16 hg15
  simp only [nf0, nf1, nf2, nf3, nf4]
  replace O4 := O4.keptB hg15 n13
  replace bel := bl_kept0 bel hg15 lo12
  clear hg15
  clear B10
  refine wpList_nil ?_
  show Code.wp _ _ _ _ _
  refine wp_seq ?_
  refine wp_seq ?_
  refine wp_region_lit ?_
  refine st_mv (.int .i64 ((desA (l.take 2000)).2.1)) ?_
  simp only [nf0, nf1, nf2, nf3, nf4]
  refine st_value (v := (.bool false)) (by rfl) ((run_neq_int (.tmp 24) (.const (.int .i64 0)) rfl rfl rfl w14).trans (by rw [decide_eq_true hE]; rfl)) ?_
  simp only [nf0, nf1, nf2, nf3, nf4]
  refine wpList_nil ?_
  show Code.wp _ _ _ _ _
  refine wp_cond_false rfl ?_
  refine wp_skip ?_
  show Code.wp _ _ _ _ _
  refine wp_seq ?_
  refine wp_region_lit ?_
  refine st_mv (.int .i64 0) ?_
  simp only [nf0, nf1, nf2, nf3, nf4]
  refine wpList_nil ?_
  show Code.wp _ _ _ _ _
  refine wp_seq ?_
  refine wp_seq ?_
  obtain ⟨A17, c18, hv19, h20, h21, h22, R23⟩ := O4.reads
  subst hv19
  refine wp_region_lit ?_
  refine st_mv (.slice A17 (desR (l.take 2000)).length c18) ?_
  simp only [nf0, nf1, nf2, nf3, nf4]
  refine st_value (v := (.int .i64 ((desR (l.take 2000)).length : Int))) (by rfl) (run_len (.tmp 27) rfl ⟨_, Try.underlying23⟩ rfl w14) ?_
  simp only [nf0, nf1, nf2, nf3, nf4]
  refine st_mv (.int .i64 0) ?_
  simp only [nf0, nf1, nf2, nf3, nf4]
  refine wpList_nil ?_
  show Code.wp _ _ _ _ _
  refine wp_block ?_
  refine wp_loop_left (fun n_ a_ wr_ => (fun J24 => ∃ (k : Nat) (e_ : Nat), n_ = (desR (l.take 2000)).length - k ∧ a_ = ⟨#[.string (str (l.take 2000)), J24 1, J24 2, .slice A17 (desR (l.take 2000)).length c18, .int .i64 ((desA (l.take 2000)).2.1), .pointer (some ⟨g8, 0, none⟩), .int .i64 (e_ : Int), J24 7, J24 8, J24 9, J24 10, J24 11, J24 12, J24 13, J24 14, J24 15, J24 16, J24 17, J24 18, J24 19, J24 20, J24 21, J24 22, J24 23, J24 24, J24 25, J24 26, .slice A17 (desR (l.take 2000)).length c18, .int .i64 ((desR (l.take 2000)).length : Int), .int .i64 (k : Int), J24 30, J24 31, J24 32, J24 33, J24 34, J24 35, J24 36, J24 37, J24 38, J24 39, J24 40, J24 41, J24 42, J24 43, J24 44, J24 45, J24 46, J24 47, J24 48, J24 49, J24 50, J24 51, J24 52, J24 53, J24 54, J24 55, J24 56, J24 57, J24 58, J24 59, J24 60, J24 61, J24 62, J24 63, J24 64, J24 65, J24 66, J24 67, J24 68, J24 69, J24 70, J24 71, J24 72, J24 73, J24 74, J24 75, J24 76, J24 77, J24 78, J24 79, J24 80, J24 81, J24 82, J24 83, J24 84, J24 85, J24 86, J24 87, J24 88, J24 89, J24 90, J24 91, J24 92, J24 93, J24 94, J24 95, J24 96, J24 97, J24 98, J24 99, J24 100, J24 101, J24 102, J24 103, J24 104, J24 105, J24 106, J24 107, J24 108, J24 109, J24 110, J24 111, J24 112, J24 113, J24 114], []⟩ ∧ OwnR wr_ w.heap.size 33 eTok (.slice A17 (desR (l.take 2000)).length c18) (desR (l.take 2000)) ∧ Blk wr_ g8 #[.int .i64 ((desP (l.take 2000)).1), .int .i64 ((desP (l.take 2000)).2.1), .int .i64 ((desP (l.take 2000)).2.2)] 26 ∧ Reads wr_ A17 (Enc.all eTok (desR (l.take 2000))) ∧ Off (.slice A17 (desR (l.take 2000)).length c18) g8 ∧ Below w.heap.size w wr_ ∧ (k ≤ (desR (l.take 2000)).length) ∧ (Seg (l.take 2000) e_ ((desR (l.take 2000)).drop k))) (jk a_)) ((desR (l.take 2000)).length - 0) ⟨0, 0, rfl, rfl, O4, B16, R23, n13, bel, (Nat.zero_le _), (by rw [List.drop_zero]; exact hseg)⟩ ?_
  clear O4
  clear B16
  clear R23
  clear n13
  clear bel
  intro n_ a_ w26 h_
  revert h_
  generalize jk a_ = J24
  rintro ⟨k, e_, hms, rfl, O4, B16, R23, n25, bel, hk, hs⟩
  refine wp_seq ?_
  refine wp_region_lit ?_
  refine st_value (v := (.bool (decide ((k : Int) < ((desR (l.take 2000)).length : Int))))) (by rfl) (run_lss (.tmp 29) (.tmp 28) rfl rfl rfl w26) ?_
  simp only [nf0, nf1, nf2, nf3, nf4]
  refine wpList_nil ?_
  show Code.wp _ _ _ _ _
  refine wp_seq ?_
  cases hg27 : decide ((k : Int) < ((desR (l.take 2000)).length : Int))
  · have hp28 := of_decide_eq_false hg27
    refine wp_cond_false rfl ?_
    refine wp_exit ?_
    show Code.wp _ _ _ _ _
    refine wp_seq ?_
    obtain rfl : k = (desR (l.take 2000)).length := by omega
    rw [List.drop_length] at hs
    obtain ⟨hel, hdr⟩ := hs
    have hgp2 := gap_des (by rw [List.length_drop]; omega) hdr
    refine wp_region_lit ?_
    refine st_mv (.string (str (l.take 2000))) ?_
    simp only [nf0, nf1, nf2, nf3, nf4]
    refine st_mv (.int .i64 (e_ : Int)) ?_
    simp only [nf0, nf1, nf2, nf3, nf4]
    refine st_value (v := (.string (str ((l.take 2000).drop e_)))) (by rfl) (run_from_text (.tmp 98) (.tmp 99) rfl Try.underlying9 (l := (l.take 2000)) (p := e_) rfl rfl (by omega) (by omega) w26) ?_
    simp only [nf0, nf1, nf2, nf3, nf4]
    have hc32 := refAll_calls (l := ((l.take 2000).drop e_)) (by rw [List.length_drop]; omega) w26
    rw [hgp2.1, hgp2.2.1] at hc32
    refine st_call (by rfl) (i_run_call_10_1 (.tmp 100) rfl rfl _) hc32 ?_
    rintro _ w33 ⟨v29, rfl, O30, hf34⟩
    simp only [nf0, nf1, nf2, nf3, nf4]
    have n35 := O30.offLow2 O4
    have n36 := O30.offLow B16
    replace O30 := O30.lower bel.size
    replace O4 := O4.same hf34
    replace B16 := B16.below hf34
    replace R23 := R23.same hf34
    replace bel := bl_step bel hf34
    clear hf34
    refine st_mv (.tuple #[v29, .int .i64 0, .int .i64 (((desA ((l.take 2000).drop e_)).2.2 : Nat) : Int)]) ?_
    simp only [nf0, nf1, nf2, nf3, nf4]
    refine st_mv v29 ?_
    simp only [nf0, nf1, nf2, nf3, nf4]
    refine st_mv (.int .i64 0) ?_
    simp only [nf0, nf1, nf2, nf3, nf4]
    refine st_mv (.int .i64 (((desA ((l.take 2000).drop e_)).2.2 : Nat) : Int)) ?_
    simp only [nf0, nf1, nf2, nf3, nf4]
    refine st_mv v29 ?_
    simp only [nf0, nf1, nf2, nf3, nf4]
    refine st_mv (.int .i64 0) ?_
    simp only [nf0, nf1, nf2, nf3, nf4]
    refine st_mv (.int .i64 (((desA ((l.take 2000).drop e_)).2.2 : Nat) : Int)) ?_
    simp only [nf0, nf1, nf2, nf3, nf4]
    refine wpList_nil ?_
    show Code.wp _ _ _ _ _
    refine wp_seq ?_
    refine wp_region_lit ?_
    refine st_mv (.int .i64 0) ?_
    simp only [nf0, nf1, nf2, nf3, nf4]
    refine st_value (v := (.bool true)) (by rfl) (run_eql_int_t (.tmp 105) (.const (.int .i64 0)) rfl rfl rfl rfl w33) ?_
    simp only [nf0, nf1, nf2, nf3, nf4]
    refine st_mv (.bool true) ?_
    simp only [nf0, nf1, nf2, nf3, nf4]
    refine st_mv v29 ?_
    simp only [nf0, nf1, nf2, nf3, nf4]
    obtain ⟨A37, c38, hv39, h40, h41, h42, R43⟩ := O30.reads
    refine st_value (v := (.int .i64 (([] : List TTok).length : Int))) (by rfl) (run_len (.tmp 108) rfl ⟨_, Try.underlying23⟩ (by exact hv39) w33) ?_
    simp only [nf0, nf1, nf2, nf3, nf4]
    refine st_value (v := (.bool true)) (by rfl) (run_eql_int_t (.tmp 109) (.const (.int .i64 0)) rfl rfl rfl rfl w33) ?_
    simp only [nf0, nf1, nf2, nf3, nf4]
    refine st_mv (.bool true) ?_
    simp only [nf0, nf1, nf2, nf3, nf4]
    refine st_mv (.bool true) ?_
    simp only [nf0, nf1, nf2, nf3, nf4]
    refine st_call1 (v := (.bool true)) (by rfl) (i_run_call_13_0  rfl  _) (descLives_calls w33) ?_
    intro w44 hb45
    simp only [nf0, nf1, nf2, nf3, nf4]
    replace O4 := O4.same hb45
    replace B16 := B16.below hb45
    replace R23 := R23.same hb45
    replace O30 := O30.same hb45
    replace bel := bl_step bel hb45
    clear hb45
    refine st_mv (.bool true) ?_
    simp only [nf0, nf1, nf2, nf3, nf4]
    refine st_mv (.bool true) ?_
    simp only [nf0, nf1, nf2, nf3, nf4]
    refine wpList_nil ?_
    show Code.wp _ _ _ _ _
    refine wp_ret ?_
    first | show bodyPost _ _ _ _ _ _ | (simp only [Exit.then, Exit.inBlock]; show bodyPost _ _ _ _ _ _)
    exact bodyPost_ret (results_tmp rfl _ _ _) rfl ⟨rfl, bel⟩
  have hp46 := of_decide_eq_true hg27
  refine wp_cond_true rfl ?_
  refine wp_skip ?_
  show Code.wp _ _ _ _ _
  refine wp_seq ?_
  refine wp_block ?_
  refine wp_seq ?_
  have hkl : k < (desR (l.take 2000)).length := by omega
  obtain ⟨n, htk, hen, hnl, hk6, hk7, hte, hgap, hs2⟩ := seg_at hkl hs
  have hwg := wend_gt hnl
  have hwl := wend_le hnl
  have hsl := sub_len hwl (e := n)
  have hgp := gap_des (by rw [sub_len (by omega)]; omega) hgap
  obtain ⟨b47, o48, rfl, _⟩ := R23.at_ (by rw [Enc.all_length]; exact Nat.mul_pos (by omega) (by decide))
  refine wp_region_lit ?_
  refine st_value (v := (.pointer (some ⟨b47, o48 + k * 5, none⟩))) (by rfl) (run_indexAddrN (.tmp 27) (.tmp 29) rfl Try.underlying23 slTok.sz (i := k) rfl rfl (by omega) w26) ?_
  simp only [nf0, nf1, nf2, nf3, nf4]
  refine st_value (v := (.agg #[.int .i64 ((tokAt (desR (l.take 2000)) k).1), .string (str ((tokAt (desR (l.take 2000)) k).2.1)), .int .i64 ((tokAt (desR (l.take 2000)) k).2.2.1), .int .i64 ((tokAt (desR (l.take 2000)) k).2.2.2.1), .int .i64 ((tokAt (desR (l.take 2000)) k).2.2.2.2)])) (by rfl) (run_loadE (E := eTok) (.tmp 31) rfl aggTok rfl R23 (tokAt_get (by omega))) ?_
  simp only [nf0, nf1, nf2, nf3, nf4]
  refine st_new (cs := #[.int .i64 0, .string ⟨#[]⟩, .int .i64 0, .int .i64 0, .int .i64 0]) (t := 33) (by rfl) (run_allocV rfl i_zero_33 _) ?_
  intro g49 w50 B51 hb52 lo53
  simp only [nf0, nf1, nf2, nf3, nf4]
  have n54 := O4.off lo53
  have n55 := B16.ne lo53
  replace lo53 := low_le bel lo53
  replace O4 := O4.same hb52
  replace B16 := B16.below hb52
  replace R23 := R23.same hb52
  replace bel := bl_step bel hb52
  clear hb52
  refine st_row (by rfl) (run_storeW (.tmp 8) (.tmp 32) rfl (cs := #[.int .i64 ((tokAt (desR (l.take 2000)) k).1), .string (str ((tokAt (desR (l.take 2000)) k).2.1)), .int .i64 ((tokAt (desR (l.take 2000)) k).2.2.1), .int .i64 ((tokAt (desR (l.take 2000)) k).2.2.2.1), .int .i64 ((tokAt (desR (l.take 2000)) k).2.2.2.2)]) aggTok rfl rfl B51 rfl (by simp [Value.oneCell'])) B51 ?_
  intro w56 B58 hg57
  simp only [nf0, nf1, nf2, nf3, nf4]
  replace O4 := O4.keptB hg57 n54
  replace B16 := B16.kept hg57 n55
  replace bel := bl_kept0 bel hg57 lo53
  replace R23 := OwnR.rdE O4
  clear hg57
  clear B51
  refine wpList_nil ?_
  show Code.wp _ _ _ _ _
  refine wp_seq ?_
  have B59 : Blk w56 g49 #[.int .i64 (tkind (kd (chr (l.take 2000) n))), .string (str (((l.take 2000).take (wend (l.take 2000) n)).drop n)), .int .i64 (n : Int), .int .i64 (((lnS (l.take 2000) n).1 : Nat) : Int), .int .i64 ((n : Int) - (((lnS (l.take 2000) n).2 : Nat) : Int) + 1)] 33 := by have h_ := B58; rw [htk] at h_; exact h_
  clear B58
  refine wp_region_lit ?_
  refine st_value (v := (.pointer (some ⟨g49, 2, none⟩))) (by rfl) (run_fieldA (.tmp 8) rfl i_fld_33_2 rfl rfl w56) ?_
  simp only [nf0, nf1, nf2, nf3, nf4]
  refine st_value (v := (.pointer (some ⟨g49, 2, none⟩))) (by rfl) (run_fieldA (.tmp 33) rfl i_fld_26_0 rfl rfl w56) ?_
  simp only [nf0, nf1, nf2, nf3, nf4]
  refine st_value (v := (.int .i64 (n : Int))) (by rfl) (run_loadB (.tmp 34) rfl i_one_3 rfl B59 rfl) ?_
  simp only [nf0, nf1, nf2, nf3, nf4]
  refine st_mv (.int .i64 (n : Int)) ?_
  simp only [nf0, nf1, nf2, nf3, nf4]
  refine wpList_nil ?_
  show Code.wp _ _ _ _ _
  refine wp_seq ?_
  refine wp_seq ?_
  refine wp_region_facts2_lit (C := Abv w56) 39 [.val (.int .i64 (n : Int)), .val (.int .i64 (e_ : Int)), .val (.bool false), .val (.bool false), .val (.int .i64 (n : Int)), .val (.string (str (l.take 2000))), .val (.int .i64 ((l.take 2000).length : Int)), .val (.pointer (some ⟨g49, 1, none⟩)), .val (.string (str (((l.take 2000).take (wend (l.take 2000) n)).drop n))), .val (.int .i64 ((((l.take 2000).take (wend (l.take 2000) n)).drop n).length : Int)), .val (.int .i64 (((l.take 2000).length : Int) - ((((l.take 2000).take (wend (l.take 2000) n)).drop n).length : Int))), .val (.bool false), .val (.bool false), .val (.bool false), .val (.string (str (l.take 2000))), .val (.int .i64 (n : Int)), .val (.int .i64 (n : Int)), .val (.pointer (some ⟨g49, 1, none⟩)), .val (.string (str (((l.take 2000).take (wend (l.take 2000) n)).drop n))), .val (.int .i64 ((((l.take 2000).take (wend (l.take 2000) n)).drop n).length : Int)), .val (.int .i64 ((n : Int) + ((((l.take 2000).take (wend (l.take 2000) n)).drop n).length : Int))), .val (.string (str (((l.take 2000).take (wend (l.take 2000) n)).drop n))), .val (.pointer (some ⟨g49, 1, none⟩)), .val (.string (str (((l.take 2000).take (wend (l.take 2000) n)).drop n))), .val (.bool false), .val (.bool false), .val (.bool false), .val (.pointer (some ⟨g49, 1, none⟩)), .val (.string (str (((l.take 2000).take (wend (l.take 2000) n)).drop n))), .val (.bool false), .val (.bool false), .val (.bool false), .val (.pointer (some ⟨g49, 2, none⟩)), .val (.agg #[.int .i64 (n : Int), .int .i64 (((lnS (l.take 2000) n).1 : Nat) : Int), .int .i64 ((n : Int) - (((lnS (l.take 2000) n).2 : Nat) : Int) + 1)]), .val (.string (str (l.take 2000))), .val (.int .i64 (n : Int)), .val (.agg #[.int .i64 ((plc (l.take 2000) n).1), .int .i64 ((plc (l.take 2000) n).2.1), .int .i64 ((plc (l.take 2000) n).2.2)]), .val (.bool false), .val (.bool false)] w56.heap.size (by kernel_rfl) (by simp) (by kernel_rfl) (by kernel_rfl) (fun _ h => h.size) (Abv.start _) ?_
  simp only [List.take_succ_cons, List.take_zero, List.drop_succ_cons, List.drop_zero]
  refine fst2_val (fun W hC hh => ok2_value (v := (.int .i64 (n : Int))) (by rfl) (by rfl) rfl hC (G0.refl _)) ?_
  simp only [nf0, nf1, nf2, nf3, nf4]
  refine fst2_val (fun W hC hh => ok2_value (v := (.int .i64 (e_ : Int))) (by rfl) (by rfl) rfl hC (G0.refl _)) ?_
  simp only [nf0, nf1, nf2, nf3, nf4]
  refine fst2_val (fun W hC hh => ok2_value (v := (.bool false)) (by rfl) ((run_lss (.tmp 36) (.tmp 37) rfl rfl rfl W).trans (by rw [decide_eq_false (by omega)])) rfl hC (G0.refl _)) ?_
  simp only [nf0, nf1, nf2, nf3, nf4]
  refine fst2_val (fun W hC hh => ok2_value (v := (.bool false)) (by rfl) (by rfl) rfl hC (G0.refl _)) ?_
  simp only [nf0, nf1, nf2, nf3, nf4]
  refine fst2_val (fun W hC hh => ok2_value (v := (.int .i64 (n : Int))) (by rfl) (by rfl) rfl hC (G0.refl _)) ?_
  simp only [nf0, nf1, nf2, nf3, nf4]
  refine fst2_val (fun W hC hh => ok2_value (v := (.string (str (l.take 2000)))) (by rfl) (by rfl) rfl hC (G0.refl _)) ?_
  simp only [nf0, nf1, nf2, nf3, nf4]
  refine fst2_val (fun W hC hh => ok2_value (v := (.int .i64 ((l.take 2000).length : Int))) (by rfl) (run_len_text (.tmp 41) rfl Try.underlying9 (l := (l.take 2000)) rfl W) rfl hC (G0.refl _)) ?_
  simp only [nf0, nf1, nf2, nf3, nf4]
  refine fst2_val (fun W hC hh => ok2_value (v := (.pointer (some ⟨g49, 1, none⟩))) (by rfl) (run_fieldA (.tmp 8) rfl i_fld_33_1 rfl rfl W) rfl hC (G0.refl _)) ?_
  simp only [nf0, nf1, nf2, nf3, nf4]
  refine fst2_val (fun W hC hh => ok2_value (v := (.string (str (((l.take 2000).take (wend (l.take 2000) n)).drop n)))) (by rfl) (run_loadB (.tmp 43) rfl i_one_9 rfl (B59.below hC) rfl) rfl hC (G0.refl _)) ?_
  simp only [nf0, nf1, nf2, nf3, nf4]
  refine fst2_val (fun W hC hh => ok2_value (v := (.int .i64 ((((l.take 2000).take (wend (l.take 2000) n)).drop n).length : Int))) (by rfl) (run_len_text (.tmp 44) rfl Try.underlying9 (l := (((l.take 2000).take (wend (l.take 2000) n)).drop n)) rfl W) rfl hC (G0.refl _)) ?_
  simp only [nf0, nf1, nf2, nf3, nf4]
  refine fst2_val (fun W hC hh => ok2_value (v := (.int .i64 (((l.take 2000).length : Int) - ((((l.take 2000).take (wend (l.take 2000) n)).drop n).length : Int)))) (by rfl) (run_sub_in (.tmp 42) (.tmp 45) rfl rfl rfl (by omega) W) rfl hC (G0.refl _)) ?_
  simp only [nf0, nf1, nf2, nf3, nf4]
  refine fst2_val (fun W hC hh => ok2_value (v := (.bool false)) (by rfl) ((run_gtr (.tmp 40) (.tmp 46) rfl rfl rfl W).trans (by rw [decide_eq_false (by omega)])) rfl hC (G0.refl _)) ?_
  simp only [nf0, nf1, nf2, nf3, nf4]
  refine fst2_val (fun W hC hh => ok2_value (v := (.bool false)) (by rfl) (by rfl) rfl hC (G0.refl _)) ?_
  simp only [nf0, nf1, nf2, nf3, nf4]
  refine fst2_val (fun W hC hh => ok2_value (v := (.bool false)) (by rfl) (by rfl) rfl hC (G0.refl _)) ?_
  simp only [nf0, nf1, nf2, nf3, nf4]
  refine fst2_val (fun W hC hh => ok2_value (v := (.string (str (l.take 2000)))) (by rfl) (by rfl) rfl hC (G0.refl _)) ?_
  simp only [nf0, nf1, nf2, nf3, nf4]
  refine fst2_val (fun W hC hh => ok2_value (v := (.int .i64 (n : Int))) (by rfl) (by rfl) rfl hC (G0.refl _)) ?_
  simp only [nf0, nf1, nf2, nf3, nf4]
  refine fst2_val (fun W hC hh => ok2_value (v := (.int .i64 (n : Int))) (by rfl) (by rfl) rfl hC (G0.refl _)) ?_
  simp only [nf0, nf1, nf2, nf3, nf4]
  refine fst2_val (fun W hC hh => ok2_value (v := (.pointer (some ⟨g49, 1, none⟩))) (by rfl) (run_fieldA (.tmp 8) rfl i_fld_33_1 rfl rfl W) rfl hC (G0.refl _)) ?_
  simp only [nf0, nf1, nf2, nf3, nf4]
  refine fst2_val (fun W hC hh => ok2_value (v := (.string (str (((l.take 2000).take (wend (l.take 2000) n)).drop n)))) (by rfl) (run_loadB (.tmp 53) rfl i_one_9 rfl (B59.below hC) rfl) rfl hC (G0.refl _)) ?_
  simp only [nf0, nf1, nf2, nf3, nf4]
  refine fst2_val (fun W hC hh => ok2_value (v := (.int .i64 ((((l.take 2000).take (wend (l.take 2000) n)).drop n).length : Int))) (by rfl) (run_len_text (.tmp 54) rfl Try.underlying9 (l := (((l.take 2000).take (wend (l.take 2000) n)).drop n)) rfl W) rfl hC (G0.refl _)) ?_
  simp only [nf0, nf1, nf2, nf3, nf4]
  refine fst2_val (fun W hC hh => ok2_value (v := (.int .i64 ((n : Int) + ((((l.take 2000).take (wend (l.take 2000) n)).drop n).length : Int)))) (by rfl) (run_add_in (.tmp 52) (.tmp 55) rfl rfl rfl (by omega) W) rfl hC (G0.refl _)) ?_
  simp only [nf0, nf1, nf2, nf3, nf4]
  refine fst2_val (fun W hC hh => ok2_value (v := (.string (str (((l.take 2000).take (wend (l.take 2000) n)).drop n)))) (by rfl) (run_sub_text (.tmp 50) (.tmp 51) (.tmp 56) rfl Try.underlying9 (l := (l.take 2000)) (p := n) (q := wend (l.take 2000) n) rfl rfl rfl (by omega) (by omega) (by omega) (by omega) W) rfl hC (G0.refl _)) ?_
  simp only [nf0, nf1, nf2, nf3, nf4]
  refine fst2_val (fun W hC hh => ok2_value (v := (.pointer (some ⟨g49, 1, none⟩))) (by rfl) (run_fieldA (.tmp 8) rfl i_fld_33_1 rfl rfl W) rfl hC (G0.refl _)) ?_
  simp only [nf0, nf1, nf2, nf3, nf4]
  refine fst2_val (fun W hC hh => ok2_value (v := (.string (str (((l.take 2000).take (wend (l.take 2000) n)).drop n)))) (by rfl) (run_loadB (.tmp 58) rfl i_one_9 rfl (B59.below hC) rfl) rfl hC (G0.refl _)) ?_
  simp only [nf0, nf1, nf2, nf3, nf4]
  refine fst2_val (fun W hC hh => ok2_value (v := (.bool false)) (by rfl) (run_neq_text_t (.tmp 57) (.tmp 59) (l := (((l.take 2000).take (wend (l.take 2000) n)).drop n)) (m := (((l.take 2000).take (wend (l.take 2000) n)).drop n)) rfl rfl rfl rfl W) rfl hC (G0.refl _)) ?_
  simp only [nf0, nf1, nf2, nf3, nf4]
  refine fst2_val (fun W hC hh => ok2_value (v := (.bool false)) (by rfl) (by rfl) rfl hC (G0.refl _)) ?_
  simp only [nf0, nf1, nf2, nf3, nf4]
  refine fst2_val (fun W hC hh => ok2_value (v := (.bool false)) (by rfl) (by rfl) rfl hC (G0.refl _)) ?_
  simp only [nf0, nf1, nf2, nf3, nf4]
  refine fst2_val (fun W hC hh => ok2_value (v := (.pointer (some ⟨g49, 1, none⟩))) (by rfl) (run_fieldA (.tmp 8) rfl i_fld_33_1 rfl rfl W) rfl hC (G0.refl _)) ?_
  simp only [nf0, nf1, nf2, nf3, nf4]
  refine fst2_val (fun W hC hh => ok2_value (v := (.string (str (((l.take 2000).take (wend (l.take 2000) n)).drop n)))) (by rfl) (run_loadB (.tmp 63) rfl i_one_9 rfl (B59.below hC) rfl) rfl hC (G0.refl _)) ?_
  simp only [nf0, nf1, nf2, nf3, nf4]
  refine fst2_val (fun W hC hh => ok2_value (v := (.bool false)) (by rfl) (run_eql_text_f (.tmp 64) (.const (.string ⟨#[]⟩)) rfl (l := (((l.take 2000).take (wend (l.take 2000) n)).drop n)) (m := []) rfl rfl (fun h_ => by have := congrArg List.length h_; rw [hsl] at this; simp at this; omega) W) rfl hC (G0.refl _)) ?_
  simp only [nf0, nf1, nf2, nf3, nf4]
  refine fst2_val (fun W hC hh => ok2_value (v := (.bool false)) (by rfl) (by rfl) rfl hC (G0.refl _)) ?_
  simp only [nf0, nf1, nf2, nf3, nf4]
  refine fst2_val (fun W hC hh => ok2_value (v := (.bool false)) (by rfl) (by rfl) rfl hC (G0.refl _)) ?_
  simp only [nf0, nf1, nf2, nf3, nf4]
  refine fst2_val (fun W hC hh => ok2_value (v := (.pointer (some ⟨g49, 2, none⟩))) (by rfl) (run_fieldA (.tmp 8) rfl i_fld_33_2 rfl rfl W) rfl hC (G0.refl _)) ?_
  simp only [nf0, nf1, nf2, nf3, nf4]
  refine fst2_val (fun W hC hh => ok2_value (v := (.agg #[.int .i64 (n : Int), .int .i64 (((lnS (l.take 2000) n).1 : Nat) : Int), .int .i64 ((n : Int) - (((lnS (l.take 2000) n).2 : Nat) : Int) + 1)])) (by rfl) (run_loadP (.tmp 68) rfl (vs := [.int .i64 (n : Int), .int .i64 (((lnS (l.take 2000) n).1 : Nat) : Int), .int .i64 ((n : Int) - (((lnS (l.take 2000) n).2 : Nat) : Int) + 1)]) aggPl rfl (B59.below hC) (by rfl)) rfl hC (G0.refl _)) ?_
  simp only [nf0, nf1, nf2, nf3, nf4]
  refine fst2_val (fun W hC hh => ok2_value (v := (.string (str (l.take 2000)))) (by rfl) (by rfl) rfl hC (G0.refl _)) ?_
  simp only [nf0, nf1, nf2, nf3, nf4]
  refine fst2_val (fun W hC hh => ok2_value (v := (.int .i64 (n : Int))) (by rfl) (by rfl) rfl hC (G0.refl _)) ?_
  simp only [nf0, nf1, nf2, nf3, nf4]
  refine fst2_val (fun W hC hh => ok2_call (by rfl) (i_run_call_12_2 (.tmp 70) (.tmp 71) rfl rfl rfl W) ((refAt_in (l := (l.take 2000)) (i := n) (by omega) (by omega) W).mono fun e W' ⟨h1, h2⟩ => ⟨h1, hC.step h2, h2⟩)) ?_
  simp only [nf0, nf1, nf2, nf3, nf4]
  refine fst2_val (fun W hC hh => ok2_value (v := (.bool false)) (by rfl) ((run_neq_agg (.tmp 69) (.tmp 72) rfl eqPl (p := plc (l.take 2000) n) (q := plc (l.take 2000) n) rfl rfl trivial trivial W).trans (by rw [decide_eq_true rfl]; rfl)) rfl hC (G0.refl _)) ?_
  simp only [nf0, nf1, nf2, nf3, nf4]
  refine fst2_val (fun W hC hh => ok2_value (v := (.bool false)) (by rfl) (by rfl) rfl hC (G0.refl _)) ?_
  simp only [nf0, nf1, nf2, nf3, nf4]
  refine fst2_nil fun w60 hC hh hnd => ?_
  replace hC : Below w56.heap.size w56 w60 := hC
  clear hh hnd
  replace O4 := O4.same hC
  replace B16 := B16.below hC
  replace R23 := R23.same hC
  replace B59 := B59.below hC
  replace bel := bl_step bel hC
  clear hC
  refine wpList_nil ?_
  show Code.wp _ _ _ _ _
  refine wp_cond_false rfl ?_
  refine wp_skip ?_
  show Code.wp _ _ _ _ _
  refine wp_seq ?_
  refine wp_region_lit ?_
  refine st_mv (.string (str (l.take 2000))) ?_
  simp only [nf0, nf1, nf2, nf3, nf4]
  refine st_mv (.int .i64 (e_ : Int)) ?_
  simp only [nf0, nf1, nf2, nf3, nf4]
  refine st_mv (.int .i64 (n : Int)) ?_
  simp only [nf0, nf1, nf2, nf3, nf4]
  refine st_value (v := (.string (str (((l.take 2000).take n).drop e_)))) (by rfl) (run_sub_text (.tmp 76) (.tmp 77) (.tmp 78) rfl Try.underlying9 (l := (l.take 2000)) (p := e_) (q := n) rfl rfl rfl (by omega) (by omega) (by omega) (by omega) w60) ?_
  simp only [nf0, nf1, nf2, nf3, nf4]
  have hc64 := refAll_calls (l := (((l.take 2000).take n).drop e_)) (by rw [sub_len (by omega)]; omega) w60
  rw [hgp.1, hgp.2.1] at hc64
  refine st_call (by rfl) (i_run_call_10_1 (.tmp 79) rfl rfl _) hc64 ?_
  rintro _ w65 ⟨v61, rfl, O62, hf66⟩
  simp only [nf0, nf1, nf2, nf3, nf4]
  have n67 := O62.offLow2 O4
  have n68 := O62.offLow B16
  have n69 := O62.offLow B59
  replace O62 := O62.lower bel.size
  replace O4 := O4.same hf66
  replace B16 := B16.below hf66
  replace R23 := R23.same hf66
  replace B59 := B59.below hf66
  replace bel := bl_step bel hf66
  clear hf66
  refine st_mv (.tuple #[v61, .int .i64 0, .int .i64 (((desA (((l.take 2000).take n).drop e_)).2.2 : Nat) : Int)]) ?_
  simp only [nf0, nf1, nf2, nf3, nf4]
  refine st_mv v61 ?_
  simp only [nf0, nf1, nf2, nf3, nf4]
  refine st_mv (.int .i64 0) ?_
  simp only [nf0, nf1, nf2, nf3, nf4]
  refine st_mv (.int .i64 (((desA (((l.take 2000).take n).drop e_)).2.2 : Nat) : Int)) ?_
  simp only [nf0, nf1, nf2, nf3, nf4]
  refine st_mv v61 ?_
  simp only [nf0, nf1, nf2, nf3, nf4]
  refine st_mv (.int .i64 0) ?_
  simp only [nf0, nf1, nf2, nf3, nf4]
  refine st_mv (.int .i64 (((desA (((l.take 2000).take n).drop e_)).2.2 : Nat) : Int)) ?_
  simp only [nf0, nf1, nf2, nf3, nf4]
  refine wpList_nil ?_
  show Code.wp _ _ _ _ _
  refine wp_seq ?_
  refine wp_seq ?_
  refine wp_region_lit ?_
  refine st_mv (.int .i64 0) ?_
  simp only [nf0, nf1, nf2, nf3, nf4]
  refine st_value (v := (.bool false)) (by rfl) (run_neq_int_t (.tmp 84) (.const (.int .i64 0)) rfl rfl rfl rfl w65) ?_
  simp only [nf0, nf1, nf2, nf3, nf4]
  refine st_mv (.bool false) ?_
  simp only [nf0, nf1, nf2, nf3, nf4]
  refine st_mv v61 ?_
  simp only [nf0, nf1, nf2, nf3, nf4]
  obtain ⟨A70, c71, hv72, h73, h74, h75, R76⟩ := O62.reads
  refine st_value (v := (.int .i64 (([] : List TTok).length : Int))) (by rfl) (run_len (.tmp 87) rfl ⟨_, Try.underlying23⟩ (by exact hv72) w65) ?_
  simp only [nf0, nf1, nf2, nf3, nf4]
  refine st_value (v := (.bool false)) (by rfl) ((run_gtr (.tmp 88) (.const (.int .i64 0)) rfl rfl rfl w65).trans (by rw [decide_eq_false (by simp)])) ?_
  simp only [nf0, nf1, nf2, nf3, nf4]
  refine st_mv (.bool false) ?_
  simp only [nf0, nf1, nf2, nf3, nf4]
  refine wpList_nil ?_
  show Code.wp _ _ _ _ _
  refine wp_cond_false rfl ?_
  refine wp_skip ?_
  show Code.wp _ _ _ _ _
  refine wp_region_lit ?_
  refine st_mv (.int .i64 (n : Int)) ?_
  simp only [nf0, nf1, nf2, nf3, nf4]
  refine st_value (v := (.pointer (some ⟨g49, 1, none⟩))) (by rfl) (run_fieldA (.tmp 8) rfl i_fld_33_1 rfl rfl w65) ?_
  simp only [nf0, nf1, nf2, nf3, nf4]
  refine st_value (v := (.string (str (((l.take 2000).take (wend (l.take 2000) n)).drop n)))) (by rfl) (run_loadB (.tmp 92) rfl i_one_9 rfl B59 rfl) ?_
  simp only [nf0, nf1, nf2, nf3, nf4]
  refine st_value (v := (.int .i64 ((((l.take 2000).take (wend (l.take 2000) n)).drop n).length : Int))) (by rfl) (run_len_text (.tmp 93) rfl Try.underlying9 (l := (((l.take 2000).take (wend (l.take 2000) n)).drop n)) rfl w65) ?_
  simp only [nf0, nf1, nf2, nf3, nf4]
  refine st_value (v := (.int .i64 ((wend (l.take 2000) n : Nat) : Int))) (by rfl) ((run_add_in (.tmp 91) (.tmp 94) rfl rfl rfl (by omega) w65).trans (by rw [show (n : Int) + ((((l.take 2000).take (wend (l.take 2000) n)).drop n).length : Int) = ((wend (l.take 2000) n : Nat) : Int) from by omega])) ?_
  simp only [nf0, nf1, nf2, nf3, nf4]
  refine st_mv (.int .i64 ((wend (l.take 2000) n : Nat) : Int)) ?_
  simp only [nf0, nf1, nf2, nf3, nf4]
  refine wpList_nil ?_
  show Code.wp _ _ _ _ _
  refine wp_region_lit ?_
  refine st_value (v := (.int .i64 ((k : Int) + 1))) (by rfl) (run_add_in (.tmp 29) (.const (.int .i64 1)) rfl rfl rfl (by omega) w65) ?_
  simp only [nf0, nf1, nf2, nf3, nf4]
  refine st_mv (.int .i64 ((k : Int) + 1)) ?_
  simp only [nf0, nf1, nf2, nf3, nf4]
  refine wpList_nil ?_
  show ∃ m, m < _ ∧ _
  exact ⟨_, (by omega), (k + 1), (wend (l.take 2000) n), rfl, rfl, O4, B16, R23, n25, bel, (by omega), hs2⟩
theorem descRises_calls (l : List UInt8) (w : World) : Calls Try.prog 4 #[.string (str l)] w fun e w' => e = .returned (.bool true) ∧ Below w.heap.size w w' := by
  by_cases h : (desA (l.take 2000)).2.1 = 0
  · exact rises_good l h w
  · exact rises_bad l h w
end Go.Proofs.Ytkebpmcgmmhifaa

/- What the law DescAll does. -/
import Derived.Test.YtkebpmcgmmhifaaDescHeads
namespace Go.Proofs.Ytkebpmcgmmhifaa
open Go.RowKit Go.WideShapes Go.ChangeShapes
set_option linter.unusedSimpArgs false
set_option linter.unusedVariables false

theorem h_zero_26 : ZeroOf Try.prog 26 #[.int .i64 0, .int .i64 0, .int .i64 0] := zeroOf (z := .agg #[.int .i64 0, .int .i64 0, .int .i64 0]) (by kernel_rfl) rfl
theorem h_fld_33_2 : FieldAt Try.prog 33 2 2 := fieldAt_of (s := 2) Try.underlying33 (by kernel_rfl)
theorem h_run_call_8_1 {o : Oper} {a : Act} (x0 : Operand) {ts : Array TypeId} (ho : o.op = .call { callee := .value (.func 8), args := #[x0], argTypes := ts }) {v0 : Value} (h0 : a.eval x0 = v0) (W : World) : (execOp a.eval o).run Try.prog W = .ok (.enter 8 #[v0]) W := by
  unfold execOp
  simp only [ho]
  subst h0
  go_simp
theorem h_run_call_9_1 {o : Oper} {a : Act} (x0 : Operand) {ts : Array TypeId} (ho : o.op = .call { callee := .value (.func 9), args := #[x0], argTypes := ts }) {v0 : Value} (h0 : a.eval x0 = v0) (W : World) : (execOp a.eval o).run Try.prog W = .ok (.enter 9 #[v0]) W := by
  unfold execOp
  simp only [ho]
  subst h0
  go_simp
theorem h_run_call_10_1 {o : Oper} {a : Act} (x0 : Operand) {ts : Array TypeId} (ho : o.op = .call { callee := .value (.func 10), args := #[x0], argTypes := ts }) {v0 : Value} (h0 : a.eval x0 = v0) (W : World) : (execOp a.eval o).run Try.prog W = .ok (.enter 10 #[v0]) W := by
  unfold execOp
  simp only [ho]
  subst h0
  go_simp
theorem h_run_call_11_2 {o : Oper} {a : Act} (x0 : Operand) (x1 : Operand) {ts : Array TypeId} (ho : o.op = .call { callee := .value (.func 11), args := #[x0, x1], argTypes := ts }) {v0 : Value} (h0 : a.eval x0 = v0) {v1 : Value} (h1 : a.eval x1 = v1) (W : World) : (execOp a.eval o).run Try.prog W = .ok (.enter 11 #[v0, v1]) W := by
  unfold execOp
  simp only [ho]
  subst h0 h1
  go_simp
theorem h_run_call_12_2 {o : Oper} {a : Act} (x0 : Operand) (x1 : Operand) {ts : Array TypeId} (ho : o.op = .call { callee := .value (.func 12), args := #[x0, x1], argTypes := ts }) {v0 : Value} (h0 : a.eval x0 = v0) {v1 : Value} (h1 : a.eval x1 = v1) (W : World) : (execOp a.eval o).run Try.prog W = .ok (.enter 12 #[v0, v1]) W := by
  unfold execOp
  simp only [ho]
  subst h0 h1
  go_simp
theorem h_run_call_13_0 {o : Oper} {a : Act}  {ts : Array TypeId} (ho : o.op = .call { callee := .value (.func 13), args := #[], argTypes := ts })  (W : World) : (execOp a.eval o).run Try.prog W = .ok (.enter 13 #[]) W := by
  unfold execOp
  simp only [ho]
  go_simp
theorem desA_off (l : List UInt8) : (desA l).2.2 ≤ l.length := by
  have key : ∀ f i, i ≤ l.length → (toks l f i).2.2 ≤ l.length := by
    intro f
    induction f with
    | zero => intro i _; exact Nat.zero_le _
    | succ f ih =>
      intro i hi
      rw [toks]
      split
      · rename_i h
        split
        · exact ih _ (by omega)
        · split
          · exact ih _ (ext_le _ _ _ hi)
          · split
            · exact hi
            · exact ih _ (wend_le h)
      · exact Nat.zero_le _
  unfold desA
  split
  · exact Nat.zero_le _
  · exact key _ _ (Nat.zero_le _)
theorem desR_len (l : List UInt8) : (desR l).length ≤ l.length := by
  have := toksA_len l
  unfold desR desA
  (repeat' split) <;> simp_all

attribute [local irreducible] Go.wpList Go.Code.wp
set_option maxRecDepth 100000 in
set_option maxHeartbeats 4000000 in
theorem descAll_calls (l : List UInt8) (w : World) : Calls Try.prog 3 #[.string (str l)] w fun e w' => e = .returned (.bool true) ∧ Below w.heap.size w w' := by
  have bel : Below w.heap.size w w := Below.refl _ _
  have hz : (l.take 2000).length ≤ 2000 := by rw [List.length_take]; omega
  have hdl := desR_len (l.take 2000)
  have hd2 := desA_off (l.take 2000)
  go_enter Try.func3, Try.ntmps3
  refine wp_seq ?_
  refine wp_region_lit ?_
  refine st_mv (.bool false) ?_
  simp only [nf0, nf1, nf2, nf3, nf4]
  refine wpList_nil ?_
  show Code.wp _ _ _ _ _
  refine wp_seq ?_
  refine wp_region_lit ?_
  refine st_mv (.string (str l)) ?_
  simp only [nf0, nf1, nf2, nf3, nf4]
  refine st_call1 (v := (.string (str (l.take 2000)))) (by rfl) (h_run_call_8_1 (.tmp 11) rfl rfl _) (cut_calls l w) ?_
  intro w1 hb2
  simp only [nf0, nf1, nf2, nf3, nf4]
  replace bel := bl_step bel hb2
  clear hb2
  refine st_mv (.string (str (l.take 2000))) ?_
  simp only [nf0, nf1, nf2, nf3, nf4]
  refine wpList_nil ?_
  show Code.wp _ _ _ _ _
  refine wp_seq ?_
  refine wp_region_lit ?_
  refine st_mv (.string (str (l.take 2000))) ?_
  simp only [nf0, nf1, nf2, nf3, nf4]
  refine st_call (by rfl) (h_run_call_9_1 (.tmp 14) rfl rfl _) (all_calls (l := (l.take 2000)) (by omega) w1) ?_
  rintro _ w6 ⟨v3, rfl, O4, hf7⟩
  simp only [nf0, nf1, nf2, nf3, nf4]
  replace O4 := O4.lower bel.size
  replace bel := bl_step bel hf7
  clear hf7
  refine st_mv (.tuple #[v3, .int .i64 ((desA (l.take 2000)).2.1), .agg #[.int .i64 ((desP (l.take 2000)).1), .int .i64 ((desP (l.take 2000)).2.1), .int .i64 ((desP (l.take 2000)).2.2)]]) ?_
  simp only [nf0, nf1, nf2, nf3, nf4]
  refine st_mv v3 ?_
  simp only [nf0, nf1, nf2, nf3, nf4]
  refine st_mv (.int .i64 ((desA (l.take 2000)).2.1)) ?_
  simp only [nf0, nf1, nf2, nf3, nf4]
  refine st_mv (.agg #[.int .i64 ((desP (l.take 2000)).1), .int .i64 ((desP (l.take 2000)).2.1), .int .i64 ((desP (l.take 2000)).2.2)]) ?_
  simp only [nf0, nf1, nf2, nf3, nf4]
  refine st_new (cs := #[.int .i64 0, .int .i64 0, .int .i64 0]) (t := 26) (by rfl) (run_allocV rfl h_zero_26 _) ?_
  intro g8 w9 B10 hb11 lo12
  simp only [nf0, nf1, nf2, nf3, nf4]
  have n13 := O4.off lo12
  replace lo12 := low_le bel lo12
  replace O4 := O4.same hb11
  replace bel := bl_step bel hb11
  clear hb11
  refine st_mv v3 ?_
  simp only [nf0, nf1, nf2, nf3, nf4]
  refine st_mv (.int .i64 ((desA (l.take 2000)).2.1)) ?_
  simp only [nf0, nf1, nf2, nf3, nf4]
  refine st_row (by rfl) (run_storeW (.tmp 5) (.tmp 18) rfl (cs := #[.int .i64 ((desP (l.take 2000)).1), .int .i64 ((desP (l.take 2000)).2.1), .int .i64 ((desP (l.take 2000)).2.2)]) aggPl rfl rfl B10 rfl (by simp [Value.oneCell'])) B10 ?_
  intro w14 B16 hg15
  simp only [nf0, nf1, nf2, nf3, nf4]
  replace O4 := O4.keptB hg15 n13
  replace bel := bl_kept0 bel hg15 lo12
  clear hg15
  clear B10
  refine wpList_nil ?_
  show Code.wp _ _ _ _ _
  refine wp_seq ?_
  refine wp_region_lit ?_
  refine st_mv (.string (str (l.take 2000))) ?_
  simp only [nf0, nf1, nf2, nf3, nf4]
  refine st_call (by rfl) (h_run_call_10_1 (.tmp 20) rfl rfl _) (refAll_calls (l := (l.take 2000)) (by omega) w14) ?_
  rintro _ w20 ⟨v17, rfl, O18, hf21⟩
  simp only [nf0, nf1, nf2, nf3, nf4]
  have n22 := O18.offLow2 O4
  have n23 := O18.offLow B16
  replace O18 := O18.lower bel.size
  replace O4 := O4.same hf21
  replace B16 := B16.below hf21
  replace bel := bl_step bel hf21
  clear hf21
  refine st_mv (.tuple #[v17, .int .i64 ((desA (l.take 2000)).2.1), .int .i64 (((desA (l.take 2000)).2.2 : Nat) : Int)]) ?_
  simp only [nf0, nf1, nf2, nf3, nf4]
  refine st_mv v17 ?_
  simp only [nf0, nf1, nf2, nf3, nf4]
  refine st_mv (.int .i64 ((desA (l.take 2000)).2.1)) ?_
  simp only [nf0, nf1, nf2, nf3, nf4]
  refine st_mv (.int .i64 (((desA (l.take 2000)).2.2 : Nat) : Int)) ?_
  simp only [nf0, nf1, nf2, nf3, nf4]
  refine st_mv v17 ?_
  simp only [nf0, nf1, nf2, nf3, nf4]
  refine st_mv (.int .i64 ((desA (l.take 2000)).2.1)) ?_
  simp only [nf0, nf1, nf2, nf3, nf4]
  refine st_mv (.int .i64 (((desA (l.take 2000)).2.2 : Nat) : Int)) ?_
  simp only [nf0, nf1, nf2, nf3, nf4]
  refine wpList_nil ?_
  show Code.wp _ _ _ _ _
  refine wp_seq ?_
  refine wp_seq ?_
  obtain ⟨A24, c25, hv26, h27, h28, h29, R30⟩ := O4.reads
  subst hv26
  obtain ⟨A31, c32, hv33, h34, h35, h36, R37⟩ := O18.reads
  subst hv33
  refine wp_region_lit ?_
  refine st_mv (.int .i64 ((desA (l.take 2000)).2.1)) ?_
  simp only [nf0, nf1, nf2, nf3, nf4]
  refine st_mv (.int .i64 ((desA (l.take 2000)).2.1)) ?_
  simp only [nf0, nf1, nf2, nf3, nf4]
  refine st_value (v := (.bool false)) (by rfl) (run_neq_int_t (.tmp 25) (.tmp 26) rfl rfl rfl rfl w20) ?_
  simp only [nf0, nf1, nf2, nf3, nf4]
  refine st_mv (.bool false) ?_
  simp only [nf0, nf1, nf2, nf3, nf4]
  refine st_mv (.slice A24 (desR (l.take 2000)).length c25) ?_
  simp only [nf0, nf1, nf2, nf3, nf4]
  refine st_mv (.slice A31 (desR (l.take 2000)).length c32) ?_
  simp only [nf0, nf1, nf2, nf3, nf4]
  refine st_call1 (v := (.bool true)) (by rfl) (h_run_call_11_2 (.tmp 29) (.tmp 30) rfl rfl rfl _) (show Calls _ _ _ _ fun e w' => e = .returned (.bool true) ∧ Below w20.heap.size w20 w' from by have h := sameT_calls A24 A31 (desR (l.take 2000)) (desR (l.take 2000)) c25 c32 h27 h34 (by omega) (by omega) w20 R30 R37; rw [alikeB_self] at h; exact h) ?_
  intro w38 hb39
  simp only [nf0, nf1, nf2, nf3, nf4]
  replace O4 := O4.same hb39
  replace B16 := B16.below hb39
  replace O18 := O18.same hb39
  replace R30 := R30.same hb39
  replace R37 := R37.same hb39
  replace bel := bl_step bel hb39
  clear hb39
  refine st_value (v := (.bool false)) (by rfl) (run_not (.tmp 31) rfl (b := true) rfl w38) ?_
  simp only [nf0, nf1, nf2, nf3, nf4]
  refine st_mv (.bool false) ?_
  simp only [nf0, nf1, nf2, nf3, nf4]
  refine wpList_nil ?_
  show Code.wp _ _ _ _ _
  refine wp_cond_false rfl ?_
  refine wp_skip ?_
  show Code.wp _ _ _ _ _
  refine wp_seq ?_
  refine wp_seq ?_
  refine wp_region_lit ?_
  refine st_mv (.slice A24 (desR (l.take 2000)).length c25) ?_
  simp only [nf0, nf1, nf2, nf3, nf4]
  refine st_value (v := (.int .i64 ((desR (l.take 2000)).length : Int))) (by rfl) (run_len (.tmp 34) rfl ⟨_, Try.underlying23⟩ rfl w38) ?_
  simp only [nf0, nf1, nf2, nf3, nf4]
  refine st_mv (.int .i64 0) ?_
  simp only [nf0, nf1, nf2, nf3, nf4]
  refine wpList_nil ?_
  show Code.wp _ _ _ _ _
  refine wp_block ?_
  refine wp_loop_left (fun n_ a_ wr_ => (fun J40 => ∃ (k : Nat), n_ = (desR (l.take 2000)).length - k ∧ a_ = ⟨#[.string (str (l.take 2000)), J40 1, J40 2, .slice A24 (desR (l.take 2000)).length c25, .int .i64 ((desA (l.take 2000)).2.1), .pointer (some ⟨g8, 0, none⟩), .slice A31 (desR (l.take 2000)).length c32, .int .i64 ((desA (l.take 2000)).2.1), .int .i64 (((desA (l.take 2000)).2.2 : Nat) : Int), J40 9, J40 10, J40 11, J40 12, J40 13, J40 14, J40 15, J40 16, J40 17, J40 18, J40 19, J40 20, J40 21, J40 22, J40 23, J40 24, J40 25, J40 26, J40 27, J40 28, J40 29, J40 30, J40 31, J40 32, J40 33, .slice A24 (desR (l.take 2000)).length c25, .int .i64 ((desR (l.take 2000)).length : Int), .int .i64 (k : Int), J40 37, J40 38, J40 39, J40 40, J40 41, J40 42, J40 43, J40 44, J40 45, J40 46, J40 47, J40 48, J40 49, J40 50, J40 51, J40 52, J40 53, J40 54, J40 55, J40 56, J40 57, J40 58, J40 59, J40 60, J40 61, J40 62], []⟩ ∧ OwnR wr_ w.heap.size 33 eTok (.slice A24 (desR (l.take 2000)).length c25) (desR (l.take 2000)) ∧ Blk wr_ g8 #[.int .i64 ((desP (l.take 2000)).1), .int .i64 ((desP (l.take 2000)).2.1), .int .i64 ((desP (l.take 2000)).2.2)] 26 ∧ OwnR wr_ w.heap.size 33 eTok (.slice A31 (desR (l.take 2000)).length c32) (desR (l.take 2000)) ∧ Reads wr_ A24 (Enc.all eTok (desR (l.take 2000))) ∧ Reads wr_ A31 (Enc.all eTok (desR (l.take 2000))) ∧ Off (.slice A24 (desR (l.take 2000)).length c25) g8 ∧ Off2 (.slice A24 (desR (l.take 2000)).length c25) (.slice A31 (desR (l.take 2000)).length c32) ∧ Off (.slice A31 (desR (l.take 2000)).length c32) g8 ∧ Below w.heap.size w wr_ ∧ (k ≤ (desR (l.take 2000)).length)) (jk a_)) ((desR (l.take 2000)).length - 0) ⟨0, rfl, rfl, O4, B16, O18, R30, R37, n13, n22.symm, n23, bel, (Nat.zero_le _)⟩ ?_
  clear O4
  clear B16
  clear O18
  clear R30
  clear R37
  clear n13 n22 n23
  clear bel
  intro n_ a_ w44 h_
  revert h_
  generalize jk a_ = J40
  rintro ⟨k, hms, rfl, O4, B16, O18, R30, R37, n41, n42, n43, bel, hk⟩
  refine wp_seq ?_
  refine wp_region_lit ?_
  refine st_value (v := (.bool (decide ((k : Int) < ((desR (l.take 2000)).length : Int))))) (by rfl) (run_lss (.tmp 36) (.tmp 35) rfl rfl rfl w44) ?_
  simp only [nf0, nf1, nf2, nf3, nf4]
  refine wpList_nil ?_
  show Code.wp _ _ _ _ _
  refine wp_seq ?_
  cases hg45 : decide ((k : Int) < ((desR (l.take 2000)).length : Int))
  rotate_left
  · have hp70 := of_decide_eq_true hg45
    refine wp_cond_true rfl ?_
    refine wp_skip ?_
    show Code.wp _ _ _ _ _
    refine wp_seq ?_
    refine wp_block ?_
    refine wp_seq ?_
    refine wp_region_lit ?_
    refine st_mv (.int .i64 (k : Int)) ?_
    simp only [nf0, nf1, nf2, nf3, nf4]
    refine st_mv (.int .i64 (k : Int)) ?_
    simp only [nf0, nf1, nf2, nf3, nf4]
    refine wpList_nil ?_
    show Code.wp _ _ _ _ _
    refine wp_seq ?_
    obtain ⟨b71, o72, rfl, _⟩ := R30.at_ (by rw [Enc.all_length]; exact Nat.mul_pos (by omega) (by decide))
    obtain ⟨b73, o74, rfl, _⟩ := R37.at_ (by rw [Enc.all_length]; exact Nat.mul_pos (by omega) (by decide))
    refine wp_region_facts_lit (C := Abv w44) (G := G0) [.val (.slice (some ⟨b71, o72, none⟩) (desR (l.take 2000)).length c25), .val (.int .i64 (k : Int)), .val (.pointer (some ⟨b71, o72 + k * 5, none⟩)), .val (.pointer (some ⟨b71, o72 + k * 5 + 2, none⟩)), .val (.agg #[.int .i64 ((tokAt (desR (l.take 2000)) k).2.2.1), .int .i64 ((tokAt (desR (l.take 2000)) k).2.2.2.1), .int .i64 ((tokAt (desR (l.take 2000)) k).2.2.2.2)]), .val (.slice (some ⟨b73, o74, none⟩) (desR (l.take 2000)).length c32), .val (.int .i64 (k : Int)), .val (.pointer (some ⟨b73, o74 + k * 5, none⟩)), .val (.pointer (some ⟨b73, o74 + k * 5 + 2, none⟩)), .val (.agg #[.int .i64 ((tokAt (desR (l.take 2000)) k).2.2.1), .int .i64 ((tokAt (desR (l.take 2000)) k).2.2.2.1), .int .i64 ((tokAt (desR (l.take 2000)) k).2.2.2.2)]), .val (.bool false)] (by kernel_rfl) (by kernel_rfl) (Abv.start _) ?_
    refine fsteps_val (fun W hC hh => opok_value (v := (.slice (some ⟨b71, o72, none⟩) (desR (l.take 2000)).length c25)) (by rfl) (by rfl) rfl hC (G0.refl _)) ?_
    simp only [nf0, nf1, nf2, nf3, nf4]
    refine fsteps_val (fun W hC hh => opok_value (v := (.int .i64 (k : Int))) (by rfl) (by rfl) rfl hC (G0.refl _)) ?_
    simp only [nf0, nf1, nf2, nf3, nf4]
    refine fsteps_val (fun W hC hh => opok_value (v := (.pointer (some ⟨b71, o72 + k * 5, none⟩))) (by rfl) (run_indexAddrN (.tmp 39) (.tmp 40) rfl Try.underlying23 slTok.sz (i := k) rfl rfl (by omega) W) rfl hC (G0.refl _)) ?_
    simp only [nf0, nf1, nf2, nf3, nf4]
    refine fsteps_val (fun W hC hh => opok_value (v := (.pointer (some ⟨b71, o72 + k * 5 + 2, none⟩))) (by rfl) (run_fieldA (.tmp 41) rfl h_fld_33_2 rfl rfl W) rfl hC (G0.refl _)) ?_
    simp only [nf0, nf1, nf2, nf3, nf4]
    refine fsteps_val (fun W hC hh => opok_value (v := (.agg #[.int .i64 ((tokAt (desR (l.take 2000)) k).2.2.1), .int .i64 ((tokAt (desR (l.take 2000)) k).2.2.2.1), .int .i64 ((tokAt (desR (l.take 2000)) k).2.2.2.2)])) (by rfl) (run_loadES (E := eTok) (.tmp 42) rfl (vs := [.int .i64 ((tokAt (desR (l.take 2000)) k).2.2.1), .int .i64 ((tokAt (desR (l.take 2000)) k).2.2.2.1), .int .i64 ((tokAt (desR (l.take 2000)) k).2.2.2.2)]) aggPl rfl (R30.same hC) (tokAt_get (l := (desR (l.take 2000))) (i := k) (by omega)) (by rfl)) rfl hC (G0.refl _)) ?_
    simp only [nf0, nf1, nf2, nf3, nf4]
    refine fsteps_val (fun W hC hh => opok_value (v := (.slice (some ⟨b73, o74, none⟩) (desR (l.take 2000)).length c32)) (by rfl) (by rfl) rfl hC (G0.refl _)) ?_
    simp only [nf0, nf1, nf2, nf3, nf4]
    refine fsteps_val (fun W hC hh => opok_value (v := (.int .i64 (k : Int))) (by rfl) (by rfl) rfl hC (G0.refl _)) ?_
    simp only [nf0, nf1, nf2, nf3, nf4]
    refine fsteps_val (fun W hC hh => opok_value (v := (.pointer (some ⟨b73, o74 + k * 5, none⟩))) (by rfl) (run_indexAddrN (.tmp 44) (.tmp 45) rfl Try.underlying23 slTok.sz (i := k) rfl rfl (by omega) W) rfl hC (G0.refl _)) ?_
    simp only [nf0, nf1, nf2, nf3, nf4]
    refine fsteps_val (fun W hC hh => opok_value (v := (.pointer (some ⟨b73, o74 + k * 5 + 2, none⟩))) (by rfl) (run_fieldA (.tmp 46) rfl h_fld_33_2 rfl rfl W) rfl hC (G0.refl _)) ?_
    simp only [nf0, nf1, nf2, nf3, nf4]
    refine fsteps_val (fun W hC hh => opok_value (v := (.agg #[.int .i64 ((tokAt (desR (l.take 2000)) k).2.2.1), .int .i64 ((tokAt (desR (l.take 2000)) k).2.2.2.1), .int .i64 ((tokAt (desR (l.take 2000)) k).2.2.2.2)])) (by rfl) (run_loadES (E := eTok) (.tmp 47) rfl (vs := [.int .i64 ((tokAt (desR (l.take 2000)) k).2.2.1), .int .i64 ((tokAt (desR (l.take 2000)) k).2.2.2.1), .int .i64 ((tokAt (desR (l.take 2000)) k).2.2.2.2)]) aggPl rfl (R37.same hC) (tokAt_get (l := (desR (l.take 2000))) (i := k) (by omega)) (by rfl)) rfl hC (G0.refl _)) ?_
    simp only [nf0, nf1, nf2, nf3, nf4]
    refine fsteps_val (fun W hC hh => opok_value (v := (.bool false)) (by rfl) ((run_neq_agg (.tmp 43) (.tmp 48) rfl eqPl (p := (tokAt (desR (l.take 2000)) k).2.2) (q := (tokAt (desR (l.take 2000)) k).2.2) rfl rfl trivial trivial W).trans (by rw [decide_eq_true rfl]; rfl)) rfl hC (G0.refl _)) ?_
    simp only [nf0, nf1, nf2, nf3, nf4]
    refine fsteps_nil fun w75 hC _ => ?_
    replace hC : Below w44.heap.size w44 w75 := hC
    replace O4 := O4.same hC
    replace B16 := B16.below hC
    replace O18 := O18.same hC
    replace R30 := R30.same hC
    replace R37 := R37.same hC
    replace bel := bl_step bel hC
    clear hC
    show Code.wp _ _ _ _ _
    refine wp_cond_false rfl ?_
    refine wp_skip ?_
    show Code.wp _ _ _ _ _
    refine wp_region_lit ?_
    refine st_value (v := (.int .i64 ((k : Int) + 1))) (by rfl) (run_add_in (.tmp 36) (.const (.int .i64 1)) rfl rfl rfl (by omega) w75) ?_
    simp only [nf0, nf1, nf2, nf3, nf4]
    refine st_mv (.int .i64 ((k : Int) + 1)) ?_
    simp only [nf0, nf1, nf2, nf3, nf4]
    refine wpList_nil ?_
    show ∃ m, m < _ ∧ _
    exact ⟨_, (by omega), (k + 1), rfl, rfl, O4, B16, O18, R30, R37, n41, n42, n43, bel, (by omega)⟩
  have hp46 := of_decide_eq_false hg45
  refine wp_cond_false rfl ?_
  refine wp_exit ?_
  show Code.wp _ _ _ _ _
  refine wp_seq ?_
  refine wp_region_lit ?_
  refine st_value (v := (.agg #[.int .i64 0, .int .i64 0, .int .i64 0])) (by rfl) (run_buildV rfl (by kernel_rfl) w44) ?_
  simp only [nf0, nf1, nf2, nf3, nf4]
  refine st_new (cs := #[.int .i64 0, .int .i64 0, .int .i64 0]) (t := 26) (by rfl) (run_allocV rfl h_zero_26 _) ?_
  intro g47 w48 B49 hb50 lo51
  simp only [nf0, nf1, nf2, nf3, nf4]
  have n52 := O4.off lo51
  have n53 := B16.ne lo51
  have n54 := O18.off lo51
  replace lo51 := low_le bel lo51
  replace O4 := O4.same hb50
  replace B16 := B16.below hb50
  replace O18 := O18.same hb50
  replace R30 := R30.same hb50
  replace R37 := R37.same hb50
  replace bel := bl_step bel hb50
  clear hb50
  refine st_row (by rfl) (run_storeW (.tmp 10) (.tmp 51) rfl (cs := #[.int .i64 0, .int .i64 0, .int .i64 0]) aggPl rfl rfl B49 rfl (by simp [Value.oneCell'])) B49 ?_
  intro w55 B57 hg56
  simp only [nf0, nf1, nf2, nf3, nf4]
  replace O4 := O4.keptB hg56 n52
  replace B16 := B16.kept hg56 n53
  replace O18 := O18.keptB hg56 n54
  replace bel := bl_kept0 bel hg56 lo51
  replace R30 := OwnR.rdE O4
  replace R37 := OwnR.rdE O18
  clear hg56
  clear B49
  refine wpList_nil ?_
  show Code.wp _ _ _ _ _
  refine wp_seq ?_
  refine wp_seq ?_
  refine wp_region_lit ?_
  refine st_mv (.int .i64 ((desA (l.take 2000)).2.1)) ?_
  simp only [nf0, nf1, nf2, nf3, nf4]
  refine st_value (v := (.bool (!decide (((desA (l.take 2000)).2.1) = 0)))) (by rfl) (run_neq_int (.tmp 52) (.const (.int .i64 0)) rfl rfl rfl w55) ?_
  simp only [nf0, nf1, nf2, nf3, nf4]
  refine wpList_nil ?_
  show Code.wp _ _ _ _ _
  cases hg58 : decide (((desA (l.take 2000)).2.1) = 0)
  rotate_left
  · have hp67 := of_decide_eq_true hg58
    refine wp_cond_false rfl ?_
    refine wp_skip ?_
    show Code.wp _ _ _ _ _
    refine wp_seq ?_
    refine wp_region_lit ?_
    refine st_value (v := (.agg #[.int .i64 ((desP (l.take 2000)).1), .int .i64 ((desP (l.take 2000)).2.1), .int .i64 ((desP (l.take 2000)).2.2)])) (by rfl) (run_loadW (.tmp 5) rfl (cs := #[.int .i64 ((desP (l.take 2000)).1), .int .i64 ((desP (l.take 2000)).2.1), .int .i64 ((desP (l.take 2000)).2.2)]) aggPl rfl B16) ?_
    simp only [nf0, nf1, nf2, nf3, nf4]
    refine st_value (v := (.agg #[.int .i64 0, .int .i64 0, .int .i64 0])) (by rfl) (run_loadW (.tmp 10) rfl (cs := #[.int .i64 0, .int .i64 0, .int .i64 0]) aggPl rfl B57) ?_
    simp only [nf0, nf1, nf2, nf3, nf4]
    refine st_value (v := (.bool true)) (by rfl) ((run_eql_agg (.tmp 57) (.tmp 58) rfl eqPl (p := (desP (l.take 2000))) (q := ((0, 0, 0) : TPl)) rfl rfl trivial trivial w55).trans (by rw [decide_eq_true (by unfold desP; rw [if_pos (by omega)])])) ?_
    simp only [nf0, nf1, nf2, nf3, nf4]
    refine st_mv (.bool true) ?_
    simp only [nf0, nf1, nf2, nf3, nf4]
    refine st_call1 (v := (.bool true)) (by rfl) (h_run_call_13_0  rfl  _) (descLives_calls w55) ?_
    intro w68 hb69
    simp only [nf0, nf1, nf2, nf3, nf4]
    replace O4 := O4.same hb69
    replace B16 := B16.below hb69
    replace O18 := O18.same hb69
    replace R30 := R30.same hb69
    replace R37 := R37.same hb69
    replace B57 := B57.below hb69
    replace bel := bl_step bel hb69
    clear hb69
    refine st_mv (.bool true) ?_
    simp only [nf0, nf1, nf2, nf3, nf4]
    refine st_mv (.bool true) ?_
    simp only [nf0, nf1, nf2, nf3, nf4]
    refine wpList_nil ?_
    show Code.wp _ _ _ _ _
    refine wp_ret ?_
    first | show bodyPost _ _ _ _ _ _ | (simp only [Exit.then, Exit.inBlock]; show bodyPost _ _ _ _ _ _)
    exact bodyPost_ret (results_tmp rfl _ _ _) rfl ⟨rfl, bel⟩
  have hp59 := of_decide_eq_false hg58
  refine wp_cond_true rfl ?_
  refine wp_region_lit ?_
  refine st_mv (.string (str (l.take 2000))) ?_
  simp only [nf0, nf1, nf2, nf3, nf4]
  refine st_mv (.int .i64 (((desA (l.take 2000)).2.2 : Nat) : Int)) ?_
  simp only [nf0, nf1, nf2, nf3, nf4]
  refine st_call1 (v := (.agg #[.int .i64 ((plc (l.take 2000) ((desA (l.take 2000)).2.2)).1), .int .i64 ((plc (l.take 2000) ((desA (l.take 2000)).2.2)).2.1), .int .i64 ((plc (l.take 2000) ((desA (l.take 2000)).2.2)).2.2)])) (by rfl) (h_run_call_12_2 (.tmp 54) (.tmp 55) rfl rfl rfl _) (refAt_in (l := (l.take 2000)) (i := ((desA (l.take 2000)).2.2)) (by omega) (by omega) w55) ?_
  intro w60 hb61
  simp only [nf0, nf1, nf2, nf3, nf4]
  replace O4 := O4.same hb61
  replace B16 := B16.below hb61
  replace O18 := O18.same hb61
  replace R30 := R30.same hb61
  replace R37 := R37.same hb61
  replace B57 := B57.below hb61
  replace bel := bl_step bel hb61
  clear hb61
  refine st_row (by rfl) (run_storeW (.tmp 10) (.tmp 56) rfl (cs := #[.int .i64 ((plc (l.take 2000) ((desA (l.take 2000)).2.2)).1), .int .i64 ((plc (l.take 2000) ((desA (l.take 2000)).2.2)).2.1), .int .i64 ((plc (l.take 2000) ((desA (l.take 2000)).2.2)).2.2)]) aggPl rfl rfl B57 rfl (by simp [Value.oneCell'])) B57 ?_
  intro w62 B64 hg63
  simp only [nf0, nf1, nf2, nf3, nf4]
  replace O4 := O4.keptB hg63 n52
  replace B16 := B16.kept hg63 n53
  replace O18 := O18.keptB hg63 n54
  replace bel := bl_kept0 bel hg63 lo51
  replace R30 := OwnR.rdE O4
  replace R37 := OwnR.rdE O18
  clear hg63
  clear B57
  refine wpList_nil ?_
  show Code.wp _ _ _ _ _
  refine wp_seq ?_
  refine wp_region_lit ?_
  refine st_value (v := (.agg #[.int .i64 ((desP (l.take 2000)).1), .int .i64 ((desP (l.take 2000)).2.1), .int .i64 ((desP (l.take 2000)).2.2)])) (by rfl) (run_loadW (.tmp 5) rfl (cs := #[.int .i64 ((desP (l.take 2000)).1), .int .i64 ((desP (l.take 2000)).2.1), .int .i64 ((desP (l.take 2000)).2.2)]) aggPl rfl B16) ?_
  simp only [nf0, nf1, nf2, nf3, nf4]
  refine st_value (v := (.agg #[.int .i64 ((plc (l.take 2000) ((desA (l.take 2000)).2.2)).1), .int .i64 ((plc (l.take 2000) ((desA (l.take 2000)).2.2)).2.1), .int .i64 ((plc (l.take 2000) ((desA (l.take 2000)).2.2)).2.2)])) (by rfl) (run_loadW (.tmp 10) rfl (cs := #[.int .i64 ((plc (l.take 2000) ((desA (l.take 2000)).2.2)).1), .int .i64 ((plc (l.take 2000) ((desA (l.take 2000)).2.2)).2.1), .int .i64 ((plc (l.take 2000) ((desA (l.take 2000)).2.2)).2.2)]) aggPl rfl B64) ?_
  simp only [nf0, nf1, nf2, nf3, nf4]
  refine st_value (v := (.bool true)) (by rfl) ((run_eql_agg (.tmp 57) (.tmp 58) rfl eqPl (p := (desP (l.take 2000))) (q := (plc (l.take 2000) (desA (l.take 2000)).2.2)) rfl rfl trivial trivial w62).trans (by rw [decide_eq_true (by unfold desP; rw [if_neg (by omega)])])) ?_
  simp only [nf0, nf1, nf2, nf3, nf4]
  refine st_mv (.bool true) ?_
  simp only [nf0, nf1, nf2, nf3, nf4]
  refine st_call1 (v := (.bool true)) (by rfl) (h_run_call_13_0  rfl  _) (descLives_calls w62) ?_
  intro w65 hb66
  simp only [nf0, nf1, nf2, nf3, nf4]
  replace O4 := O4.same hb66
  replace B16 := B16.below hb66
  replace O18 := O18.same hb66
  replace R30 := R30.same hb66
  replace R37 := R37.same hb66
  replace B64 := B64.below hb66
  replace bel := bl_step bel hb66
  clear hb66
  refine st_mv (.bool true) ?_
  simp only [nf0, nf1, nf2, nf3, nf4]
  refine st_mv (.bool true) ?_
  simp only [nf0, nf1, nf2, nf3, nf4]
  refine wpList_nil ?_
  show Code.wp _ _ _ _ _
  refine wp_ret ?_
  first | show bodyPost _ _ _ _ _ _ | (simp only [Exit.then, Exit.inBlock]; show bodyPost _ _ _ _ _ _)
  exact bodyPost_ret (results_tmp rfl _ _ _) rfl ⟨rfl, bel⟩
end Go.Proofs.Ytkebpmcgmmhifaa

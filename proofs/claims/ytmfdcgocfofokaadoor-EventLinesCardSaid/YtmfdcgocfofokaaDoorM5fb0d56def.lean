/- Lemmas that the chapter's laws rest on: EvPrints, EvParse, EvText3, EvRefParse, EvLives, EventLinesWalk, OpenEv, EventLines. -/
import Derived.Test.YtmfdcgocfofokaaDoorM2e29848797
import Derived.ChangeMaps5
/- An event's line: the program's and the document's. -/
namespace Go.Proofs.YtmfdcgocfofokaaDoor
open Go.RowKit Go.WideShapes Go.ChangeShapes
set_option linter.unusedSimpArgs false
set_option linter.unusedVariables false

theorem d_fld_23_0 : FieldAt Tryd.prog 23 0 0 := fieldAt_of (s := 0) Tryd.underlying23 (by kernel_rfl)
theorem d_one_3 : One Tryd.prog 3 := one_of Tryd.underlying3 rfl (by kernel_rfl)
theorem d_fld_23_1 : FieldAt Tryd.prog 23 1 1 := fieldAt_of (s := 0) Tryd.underlying23 (by kernel_rfl)
theorem d_fld_23_2 : FieldAt Tryd.prog 23 2 2 := fieldAt_of (s := 0) Tryd.underlying23 (by kernel_rfl)
theorem d_fld_23_3 : FieldAt Tryd.prog 23 3 3 := fieldAt_of (s := 0) Tryd.underlying23 (by kernel_rfl)
theorem d_fld_23_4 : FieldAt Tryd.prog 23 4 4 := fieldAt_of (s := 0) Tryd.underlying23 (by kernel_rfl)
theorem d_run_call_14_1 {o : Oper} {a : Act} (x0 : Operand) {ts : Array TypeId} (ho : o.op = .call { callee := .value (.func 14), args := #[x0], argTypes := ts }) {v0 : Value} (h0 : a.eval x0 = v0) (W : World) : (execOp a.eval o).run Tryd.prog W = .ok (.enter 14 #[v0]) W := by
  unfold execOp
  simp only [ho]
  subst h0
  go_simp
theorem d_run_call_27_1 {o : Oper} {a : Act} (x0 : Operand) {ts : Array TypeId} (ho : o.op = .call { callee := .value (.func 27), args := #[x0], argTypes := ts }) {v0 : Value} (h0 : a.eval x0 = v0) (W : World) : (execOp a.eval o).run Tryd.prog W = .ok (.enter 27 #[v0]) W := by
  unfold execOp
  simp only [ho]
  subst h0
  go_simp
theorem d_run_call_28_2 {o : Oper} {a : Act} (x0 : Operand) (x1 : Operand) {ts : Array TypeId} (ho : o.op = .call { callee := .value (.func 28), args := #[x0, x1], argTypes := ts }) {v0 : Value} (h0 : a.eval x0 = v0) {v1 : Value} (h1 : a.eval x1 = v1) (W : World) : (execOp a.eval o).run Tryd.prog W = .ok (.enter 28 #[v0, v1]) W := by
  unfold execOp
  simp only [ho]
  subst h0 h1
  go_simp
theorem d_run_lit_42_1 {o : Oper} {a : Act} (x0 : Operand) (ho : o.op = .buildSlice 42 1 #[(0, x0)]) {m0 : List UInt8} (h0 : a.eval x0 = (.string (str m0))) (W : World) : (execOp a.eval o).run Tryd.prog W = .ok (.value (.slice (some ⟨W.heap.size, 0, none⟩) 1 1)) (W.alloc (.cells #[(.string (str m0))] 9)) := by
  unfold execOp
  simp only [ho, List.map_toArray, List.map_cons, List.map_nil, h0]
  go_simp
theorem d_run_lit_50_4 {o : Oper} {a : Act} (x0 : Operand) (x1 : Operand) (x2 : Operand) (x3 : Operand) (ho : o.op = .buildSlice 50 4 #[(0, x0), (1, x1), (2, x2), (3, x3)]) {m0 : Int} (h0 : a.eval x0 = (.int .i64 m0)) {m1 : Int} (h1 : a.eval x1 = (.int .i64 m1)) {m2 : Int} (h2 : a.eval x2 = (.int .i64 m2)) {m3 : Int} (h3 : a.eval x3 = (.int .i64 m3)) (W : World) : (execOp a.eval o).run Tryd.prog W = .ok (.value (.slice (some ⟨W.heap.size, 0, none⟩) 4 4)) (W.alloc (.cells #[(.int .i64 m0), (.int .i64 m1), (.int .i64 m2), (.int .i64 m3)] 3)) := by
  unfold execOp
  simp only [ho, List.map_toArray, List.map_cons, List.map_nil, h0, h1, h2, h3]
  go_simp
theorem d_run_call_11_1 {o : Oper} {a : Act} (x0 : Operand) {ts : Array TypeId} (ho : o.op = .call { callee := .value (.func 11), args := #[x0], argTypes := ts }) {v0 : Value} (h0 : a.eval x0 = v0) (W : World) : (execOp a.eval o).run Tryd.prog W = .ok (.enter 11 #[v0]) W := by
  unfold execOp
  simp only [ho]
  subst h0
  go_simp
theorem d_run_call_29_1 {o : Oper} {a : Act} (x0 : Operand) {ts : Array TypeId} (ho : o.op = .call { callee := .value (.func 29), args := #[x0], argTypes := ts }) {v0 : Value} (h0 : a.eval x0 = v0) (W : World) : (execOp a.eval o).run Tryd.prog W = .ok (.enter 29 #[v0]) W := by
  unfold execOp
  simp only [ho]
  subst h0
  go_simp

attribute [local irreducible] Go.wpList Go.Code.wp
set_option maxRecDepth 100000 in
set_option maxHeartbeats 4000000 in
theorem print_calls (p : TEvt) (hp : okEvt p) (w : World) : Calls Tryd.prog 12 #[.agg (eEvt.enc p).toArray] w fun e w' => e = .returned (.string (str (prE p))) ∧ Below w.heap.size w w' := by
  have bel : Below w.heap.size w w := Below.refl _ _
  go_enter Tryd.func12, Tryd.ntmps12
  refine wp_seq ?_
  refine wp_region_lit ?_
  refine st_new (cs := #[.int .i64 p.1, .int .i64 p.2.1, .int .i64 p.2.2.1, .int .i64 p.2.2.2.1, .int .i64 p.2.2.2.2]) (t := 23) (by rfl) (run_boxV (.tmp 0) rfl (v := (.agg #[.int .i64 p.1, .int .i64 p.2.1, .int .i64 p.2.2.1, .int .i64 p.2.2.2.1, .int .i64 p.2.2.2.2])) rfl rfl _) ?_
  intro g1 w2 B3 hb4 lo5
  simp only [nf0, nf1, nf2, nf3, nf4]
  replace lo5 := low_le bel lo5
  replace bel := bl_step bel hb4
  clear hb4
  refine st_mv (.string (str [])) ?_
  simp only [nf0, nf1, nf2, nf3, nf4]
  refine wpList_nil ?_
  show Code.wp _ _ _ _ _
  refine wp_seq ?_
  refine wp_region_lit ?_
  refine st_value (v := (.pointer (some ⟨g1, 0, none⟩))) (by rfl) (run_fieldA (.tmp 1) rfl d_fld_23_0 rfl rfl w2) ?_
  simp only [nf0, nf1, nf2, nf3, nf4]
  refine st_value (v := (.int .i64 p.1)) (by rfl) (run_loadB (.tmp 6) rfl d_one_3 rfl B3 rfl) ?_
  simp only [nf0, nf1, nf2, nf3, nf4]
  refine st_call1 (v := (.string (str (nm p.1)))) (by rfl) (d_run_call_14_1 (.tmp 7) rfl rfl _) (name_calls p.1 w2) ?_
  intro w6 hb7
  simp only [nf0, nf1, nf2, nf3, nf4]
  replace B3 := B3.below hb7
  replace bel := bl_step bel hb7
  clear hb7
  refine st_lit (by rfl) (d_run_lit_42_1 (.tmp 8) rfl rfl _) ?_
  intro g8 w9 B10 hb11 lo12
  simp only [nf0, nf1, nf2, nf3, nf4]
  have n13 := B3.ne lo12
  replace lo12 := low_le bel lo12
  replace B3 := B3.below hb11
  replace bel := bl_step bel hb11
  clear hb11
  refine st_mv (.slice (some ⟨g8, 0, none⟩) 1 1) ?_
  simp only [nf0, nf1, nf2, nf3, nf4]
  refine wpList_nil ?_
  show Code.wp _ _ _ _ _
  refine wp_seq ?_
  refine wp_seq ?_
  have n15 : Off (.slice (some ⟨g8, 0, none⟩) 1 1) g1 := fun e => n13.symm (Option.some.inj e)
  have O14 : OwnR w9 w.heap.size 9 eTx (.slice (some ⟨g8, 0, none⟩) 1 1) ([(nm p.1)] : List (List UInt8)) := OwnR.built (xs := ([(nm p.1)] : List (List UInt8))) B10 (by rfl) lo12 (by simp) rfl
  clear B10
  refine wp_region_lit ?_
  refine st_value (v := (.pointer (some ⟨g1, 1, none⟩))) (by rfl) (run_fieldA (.tmp 1) rfl d_fld_23_1 rfl rfl w9) ?_
  simp only [nf0, nf1, nf2, nf3, nf4]
  refine st_value (v := (.int .i64 p.2.1)) (by rfl) (run_loadB (.tmp 10) rfl d_one_3 rfl B3 rfl) ?_
  simp only [nf0, nf1, nf2, nf3, nf4]
  refine st_value (v := (.pointer (some ⟨g1, 2, none⟩))) (by rfl) (run_fieldA (.tmp 1) rfl d_fld_23_2 rfl rfl w9) ?_
  simp only [nf0, nf1, nf2, nf3, nf4]
  refine st_value (v := (.int .i64 p.2.2.1)) (by rfl) (run_loadB (.tmp 12) rfl d_one_3 rfl B3 rfl) ?_
  simp only [nf0, nf1, nf2, nf3, nf4]
  refine st_value (v := (.pointer (some ⟨g1, 3, none⟩))) (by rfl) (run_fieldA (.tmp 1) rfl d_fld_23_3 rfl rfl w9) ?_
  simp only [nf0, nf1, nf2, nf3, nf4]
  refine st_value (v := (.int .i64 p.2.2.2.1)) (by rfl) (run_loadB (.tmp 14) rfl d_one_3 rfl B3 rfl) ?_
  simp only [nf0, nf1, nf2, nf3, nf4]
  refine st_value (v := (.pointer (some ⟨g1, 4, none⟩))) (by rfl) (run_fieldA (.tmp 1) rfl d_fld_23_4 rfl rfl w9) ?_
  simp only [nf0, nf1, nf2, nf3, nf4]
  refine st_value (v := (.int .i64 p.2.2.2.2)) (by rfl) (run_loadB (.tmp 16) rfl d_one_3 rfl B3 rfl) ?_
  simp only [nf0, nf1, nf2, nf3, nf4]
  refine st_lit (n := 4) (by rfl) (d_run_lit_50_4 (.tmp 11) (.tmp 13) (.tmp 15) (.tmp 17) rfl rfl rfl rfl rfl _) ?_
  intro g16 w17 B18 hb19 lo20
  simp only [nf0, nf1, nf2, nf3, nf4]
  have n21 := B3.ne lo20
  have n22 := O14.off lo20
  replace lo20 := low_le bel lo20
  replace B3 := B3.below hb19
  replace O14 := O14.same hb19
  replace bel := bl_step bel hb19
  clear hb19
  refine st_value (v := (.int .i64 4)) (by rfl) (run_len (.tmp 18) rfl ⟨_, Tryd.underlying50⟩ rfl w17) ?_
  simp only [nf0, nf1, nf2, nf3, nf4]
  refine st_mv (.int .i64 0) ?_
  simp only [nf0, nf1, nf2, nf3, nf4]
  refine wpList_nil ?_
  show Code.wp _ _ _ _ _
  refine wp_block ?_
  refine wp_loop_rnds 4 ?_
  show Code.wp _ _ _ _ _
  refine wp_seq ?_
  refine wp_region_lit ?_
  refine st_value (v := (.bool true)) (by rfl) ((run_lss (.tmp 20) (.tmp 19) rfl rfl rfl w17).trans (by rw [decide_eq_true (by omega)])) ?_
  simp only [nf0, nf1, nf2, nf3, nf4]
  refine wpList_nil ?_
  show Code.wp _ _ _ _ _
  refine wp_seq ?_
  refine wp_cond_true rfl ?_
  refine wp_skip ?_
  show Code.wp _ _ _ _ _
  refine wp_seq ?_
  refine wp_block ?_
  refine wp_seq ?_
  refine wp_region_lit ?_
  refine st_value (v := (.pointer (some ⟨g16, 0, none⟩))) (by rfl) (run_index1 (.tmp 18) (.tmp 20) rfl Tryd.underlying50 (by kernel_rfl) rfl rfl (by omega) (by omega) w17) ?_
  simp only [nf0, nf1, nf2, nf3, nf4]
  refine st_value (v := (.int .i64 p.2.1)) (by rfl) (run_loadB (.tmp 22) rfl d_one_3 rfl B18 rfl) ?_
  simp only [nf0, nf1, nf2, nf3, nf4]
  refine st_mv (.int .i64 p.2.1) ?_
  simp only [nf0, nf1, nf2, nf3, nf4]
  refine wpList_nil ?_
  show Code.wp _ _ _ _ _
  refine wp_region_lit ?_
  refine st_mv (.slice (some ⟨g8, 0, none⟩) 1 1) ?_
  simp only [nf0, nf1, nf2, nf3, nf4]
  refine st_mv (.int .i64 p.2.1) ?_
  simp only [nf0, nf1, nf2, nf3, nf4]
  refine st_call1 (v := (.string (str (tdecI p.2.1)))) (by rfl) (d_run_call_27_1 (.tmp 25) rfl rfl _) (dec_calls (n := p.2.1) hp.2.1 w17) ?_
  intro w23 hb24
  simp only [nf0, nf1, nf2, nf3, nf4]
  replace B3 := B3.below hb24
  replace O14 := O14.same hb24
  replace B18 := B18.below hb24
  replace bel := bl_step bel hb24
  clear hb24
  refine st_lit (by rfl) (d_run_lit_42_1 (.tmp 26) rfl rfl _) ?_
  intro g25 w26 B27 hb28 lo29
  simp only [nf0, nf1, nf2, nf3, nf4]
  have n30 := B3.ne lo29
  have n31 := O14.off lo29
  have n32 := B18.ne lo29
  replace lo29 := low_le bel lo29
  replace B3 := B3.below hb28
  replace O14 := O14.same hb28
  replace B18 := B18.below hb28
  replace bel := bl_step bel hb28
  clear hb28
  refine st_append slTx rfl (.tmp 24) (.tmp 27) rfl rfl O14 ([(tdecI p.2.1)] : List (List UInt8)) rfl rfl B27 (by simp [Enc.all, eTx]) (by simp only [List.length_append, List.length_cons, List.length_nil]; omega) bel.size ?_
  intro v33 w34 O35 hg36 hat37
  simp only [nf0, nf1, nf2, nf3, nf4]
  have n38 := (n15 : Off _ _).app B3 hat37
  replace B3 := B3.keptR hg36 n15
  have n39 := (n22 : Off _ _).app B18 hat37
  replace B18 := B18.keptR hg36 n22
  replace bel := bl_app bel O14 hg36
  clear O14 hg36 hat37
  refine st_mv v33 ?_
  simp only [nf0, nf1, nf2, nf3, nf4]
  refine wpList_nil ?_
  show Code.wp _ _ _ _ _
  refine wp_region_lit ?_
  refine st_value (v := (.int .i64 1)) (by rfl) (run_add_in (m := 0) (n := 1) (.tmp 20) (.const (.int .i64 1)) rfl rfl rfl (by omega) w34) ?_
  simp only [nf0, nf1, nf2, nf3, nf4]
  refine st_mv (.int .i64 1) ?_
  simp only [nf0, nf1, nf2, nf3, nf4]
  refine wpList_nil ?_
  show Code.wp _ _ _ _ _
  refine wp_seq ?_
  refine wp_region_lit ?_
  refine st_value (v := (.bool true)) (by rfl) ((run_lss (.tmp 20) (.tmp 19) rfl rfl rfl w34).trans (by rw [decide_eq_true (by omega)])) ?_
  simp only [nf0, nf1, nf2, nf3, nf4]
  refine wpList_nil ?_
  show Code.wp _ _ _ _ _
  refine wp_seq ?_
  refine wp_cond_true rfl ?_
  refine wp_skip ?_
  show Code.wp _ _ _ _ _
  refine wp_seq ?_
  refine wp_block ?_
  refine wp_seq ?_
  refine wp_region_lit ?_
  refine st_value (v := (.pointer (some ⟨g16, 1, none⟩))) (by rfl) (run_index1 (.tmp 18) (.tmp 20) rfl Tryd.underlying50 (by kernel_rfl) rfl rfl (by omega) (by omega) w34) ?_
  simp only [nf0, nf1, nf2, nf3, nf4]
  refine st_value (v := (.int .i64 p.2.2.1)) (by rfl) (run_loadB (.tmp 22) rfl d_one_3 rfl B18 rfl) ?_
  simp only [nf0, nf1, nf2, nf3, nf4]
  refine st_mv (.int .i64 p.2.2.1) ?_
  simp only [nf0, nf1, nf2, nf3, nf4]
  refine wpList_nil ?_
  show Code.wp _ _ _ _ _
  refine wp_region_lit ?_
  refine st_mv v33 ?_
  simp only [nf0, nf1, nf2, nf3, nf4]
  refine st_mv (.int .i64 p.2.2.1) ?_
  simp only [nf0, nf1, nf2, nf3, nf4]
  refine st_call1 (v := (.string (str (tdecI p.2.2.1)))) (by rfl) (d_run_call_27_1 (.tmp 25) rfl rfl _) (dec_calls (n := p.2.2.1) hp.2.2.1 w34) ?_
  intro w40 hb41
  simp only [nf0, nf1, nf2, nf3, nf4]
  replace B3 := B3.below hb41
  replace B18 := B18.below hb41
  replace O35 := O35.same hb41
  replace bel := bl_step bel hb41
  clear hb41
  refine st_lit (by rfl) (d_run_lit_42_1 (.tmp 26) rfl rfl _) ?_
  intro g42 w43 B44 hb45 lo46
  simp only [nf0, nf1, nf2, nf3, nf4]
  have n47 := B3.ne lo46
  have n48 := B18.ne lo46
  have n49 := O35.off lo46
  replace lo46 := low_le bel lo46
  replace B3 := B3.below hb45
  replace B18 := B18.below hb45
  replace O35 := O35.same hb45
  replace bel := bl_step bel hb45
  clear hb45
  refine st_append slTx rfl (.tmp 24) (.tmp 27) rfl rfl O35 ([(tdecI p.2.2.1)] : List (List UInt8)) rfl rfl B44 (by simp [Enc.all, eTx]) (by simp only [List.length_append, List.length_cons, List.length_nil]; omega) bel.size ?_
  intro v50 w51 O52 hg53 hat54
  simp only [nf0, nf1, nf2, nf3, nf4]
  have n55 := (n38 : Off _ _).app B3 hat54
  replace B3 := B3.keptR hg53 n38
  have n56 := (n39 : Off _ _).app B18 hat54
  replace B18 := B18.keptR hg53 n39
  replace bel := bl_app bel O35 hg53
  clear O35 hg53 hat54
  refine st_mv v50 ?_
  simp only [nf0, nf1, nf2, nf3, nf4]
  refine wpList_nil ?_
  show Code.wp _ _ _ _ _
  refine wp_region_lit ?_
  refine st_value (v := (.int .i64 2)) (by rfl) (run_add_in (m := 1) (n := 1) (.tmp 20) (.const (.int .i64 1)) rfl rfl rfl (by omega) w51) ?_
  simp only [nf0, nf1, nf2, nf3, nf4]
  refine st_mv (.int .i64 2) ?_
  simp only [nf0, nf1, nf2, nf3, nf4]
  refine wpList_nil ?_
  show Code.wp _ _ _ _ _
  refine wp_seq ?_
  refine wp_region_lit ?_
  refine st_value (v := (.bool true)) (by rfl) ((run_lss (.tmp 20) (.tmp 19) rfl rfl rfl w51).trans (by rw [decide_eq_true (by omega)])) ?_
  simp only [nf0, nf1, nf2, nf3, nf4]
  refine wpList_nil ?_
  show Code.wp _ _ _ _ _
  refine wp_seq ?_
  refine wp_cond_true rfl ?_
  refine wp_skip ?_
  show Code.wp _ _ _ _ _
  refine wp_seq ?_
  refine wp_block ?_
  refine wp_seq ?_
  refine wp_region_lit ?_
  refine st_value (v := (.pointer (some ⟨g16, 2, none⟩))) (by rfl) (run_index1 (.tmp 18) (.tmp 20) rfl Tryd.underlying50 (by kernel_rfl) rfl rfl (by omega) (by omega) w51) ?_
  simp only [nf0, nf1, nf2, nf3, nf4]
  refine st_value (v := (.int .i64 p.2.2.2.1)) (by rfl) (run_loadB (.tmp 22) rfl d_one_3 rfl B18 rfl) ?_
  simp only [nf0, nf1, nf2, nf3, nf4]
  refine st_mv (.int .i64 p.2.2.2.1) ?_
  simp only [nf0, nf1, nf2, nf3, nf4]
  refine wpList_nil ?_
  show Code.wp _ _ _ _ _
  refine wp_region_lit ?_
  refine st_mv v50 ?_
  simp only [nf0, nf1, nf2, nf3, nf4]
  refine st_mv (.int .i64 p.2.2.2.1) ?_
  simp only [nf0, nf1, nf2, nf3, nf4]
  refine st_call1 (v := (.string (str (tdecI p.2.2.2.1)))) (by rfl) (d_run_call_27_1 (.tmp 25) rfl rfl _) (dec_calls (n := p.2.2.2.1) hp.2.2.2.1 w51) ?_
  intro w57 hb58
  simp only [nf0, nf1, nf2, nf3, nf4]
  replace B3 := B3.below hb58
  replace B18 := B18.below hb58
  replace O52 := O52.same hb58
  replace bel := bl_step bel hb58
  clear hb58
  refine st_lit (by rfl) (d_run_lit_42_1 (.tmp 26) rfl rfl _) ?_
  intro g59 w60 B61 hb62 lo63
  simp only [nf0, nf1, nf2, nf3, nf4]
  have n64 := B3.ne lo63
  have n65 := B18.ne lo63
  have n66 := O52.off lo63
  replace lo63 := low_le bel lo63
  replace B3 := B3.below hb62
  replace B18 := B18.below hb62
  replace O52 := O52.same hb62
  replace bel := bl_step bel hb62
  clear hb62
  refine st_append slTx rfl (.tmp 24) (.tmp 27) rfl rfl O52 ([(tdecI p.2.2.2.1)] : List (List UInt8)) rfl rfl B61 (by simp [Enc.all, eTx]) (by simp only [List.length_append, List.length_cons, List.length_nil]; omega) bel.size ?_
  intro v67 w68 O69 hg70 hat71
  simp only [nf0, nf1, nf2, nf3, nf4]
  have n72 := (n55 : Off _ _).app B3 hat71
  replace B3 := B3.keptR hg70 n55
  have n73 := (n56 : Off _ _).app B18 hat71
  replace B18 := B18.keptR hg70 n56
  replace bel := bl_app bel O52 hg70
  clear O52 hg70 hat71
  refine st_mv v67 ?_
  simp only [nf0, nf1, nf2, nf3, nf4]
  refine wpList_nil ?_
  show Code.wp _ _ _ _ _
  refine wp_region_lit ?_
  refine st_value (v := (.int .i64 3)) (by rfl) (run_add_in (m := 2) (n := 1) (.tmp 20) (.const (.int .i64 1)) rfl rfl rfl (by omega) w68) ?_
  simp only [nf0, nf1, nf2, nf3, nf4]
  refine st_mv (.int .i64 3) ?_
  simp only [nf0, nf1, nf2, nf3, nf4]
  refine wpList_nil ?_
  show Code.wp _ _ _ _ _
  refine wp_seq ?_
  refine wp_region_lit ?_
  refine st_value (v := (.bool true)) (by rfl) ((run_lss (.tmp 20) (.tmp 19) rfl rfl rfl w68).trans (by rw [decide_eq_true (by omega)])) ?_
  simp only [nf0, nf1, nf2, nf3, nf4]
  refine wpList_nil ?_
  show Code.wp _ _ _ _ _
  refine wp_seq ?_
  refine wp_cond_true rfl ?_
  refine wp_skip ?_
  show Code.wp _ _ _ _ _
  refine wp_seq ?_
  refine wp_block ?_
  refine wp_seq ?_
  refine wp_region_lit ?_
  refine st_value (v := (.pointer (some ⟨g16, 3, none⟩))) (by rfl) (run_index1 (.tmp 18) (.tmp 20) rfl Tryd.underlying50 (by kernel_rfl) rfl rfl (by omega) (by omega) w68) ?_
  simp only [nf0, nf1, nf2, nf3, nf4]
  refine st_value (v := (.int .i64 p.2.2.2.2)) (by rfl) (run_loadB (.tmp 22) rfl d_one_3 rfl B18 rfl) ?_
  simp only [nf0, nf1, nf2, nf3, nf4]
  refine st_mv (.int .i64 p.2.2.2.2) ?_
  simp only [nf0, nf1, nf2, nf3, nf4]
  refine wpList_nil ?_
  show Code.wp _ _ _ _ _
  refine wp_region_lit ?_
  refine st_mv v67 ?_
  simp only [nf0, nf1, nf2, nf3, nf4]
  refine st_mv (.int .i64 p.2.2.2.2) ?_
  simp only [nf0, nf1, nf2, nf3, nf4]
  refine st_call1 (v := (.string (str (tdecI p.2.2.2.2)))) (by rfl) (d_run_call_27_1 (.tmp 25) rfl rfl _) (dec_calls (n := p.2.2.2.2) hp.2.2.2.2 w68) ?_
  intro w74 hb75
  simp only [nf0, nf1, nf2, nf3, nf4]
  replace B3 := B3.below hb75
  replace B18 := B18.below hb75
  replace O69 := O69.same hb75
  replace bel := bl_step bel hb75
  clear hb75
  refine st_lit (by rfl) (d_run_lit_42_1 (.tmp 26) rfl rfl _) ?_
  intro g76 w77 B78 hb79 lo80
  simp only [nf0, nf1, nf2, nf3, nf4]
  have n81 := B3.ne lo80
  have n82 := B18.ne lo80
  have n83 := O69.off lo80
  replace lo80 := low_le bel lo80
  replace B3 := B3.below hb79
  replace B18 := B18.below hb79
  replace O69 := O69.same hb79
  replace bel := bl_step bel hb79
  clear hb79
  refine st_append slTx rfl (.tmp 24) (.tmp 27) rfl rfl O69 ([(tdecI p.2.2.2.2)] : List (List UInt8)) rfl rfl B78 (by simp [Enc.all, eTx]) (by simp only [List.length_append, List.length_cons, List.length_nil]; omega) bel.size ?_
  intro v84 w85 O86 hg87 hat88
  simp only [nf0, nf1, nf2, nf3, nf4]
  have n89 := (n72 : Off _ _).app B3 hat88
  replace B3 := B3.keptR hg87 n72
  have n90 := (n73 : Off _ _).app B18 hat88
  replace B18 := B18.keptR hg87 n73
  replace bel := bl_app bel O69 hg87
  clear O69 hg87 hat88
  refine st_mv v84 ?_
  simp only [nf0, nf1, nf2, nf3, nf4]
  refine wpList_nil ?_
  show Code.wp _ _ _ _ _
  refine wp_region_lit ?_
  refine st_value (v := (.int .i64 4)) (by rfl) (run_add_in (m := 3) (n := 1) (.tmp 20) (.const (.int .i64 1)) rfl rfl rfl (by omega) w85) ?_
  simp only [nf0, nf1, nf2, nf3, nf4]
  refine st_mv (.int .i64 4) ?_
  simp only [nf0, nf1, nf2, nf3, nf4]
  refine wpList_nil ?_
  show Code.wp _ _ _ _ _
  refine wp_seq ?_
  refine wp_region_lit ?_
  refine st_value (v := (.bool false)) (by rfl) ((run_lss (.tmp 20) (.tmp 19) rfl rfl rfl w85).trans (by rw [decide_eq_false (by omega)])) ?_
  simp only [nf0, nf1, nf2, nf3, nf4]
  refine wpList_nil ?_
  show Code.wp _ _ _ _ _
  refine wp_seq ?_
  refine wp_cond_false rfl ?_
  refine wp_exit ?_
  show Code.wp _ _ _ _ _
  refine wp_seq ?_
  refine wp_region_lit ?_
  refine st_mv v84 ?_
  simp only [nf0, nf1, nf2, nf3, nf4]
  refine st_call1 (v := (.string (str (prE p)))) (by rfl) (d_run_call_28_2 (.tmp 30) (.const (.string ⟨#[32]⟩)) rfl rfl rfl _) (show Calls _ _ _ _ fun e w' => e = .returned (.string (str (prE p))) ∧ Below w85.heap.size w85 w' from by have h_ := joins_calls [32] O86 (by simp only [List.length_append, List.length_cons, List.length_nil]; omega) (by have hl_ := prE_len hp; have hj_ := prE_join p; rw [show ((((([(nm p.1)] : List (List UInt8)) ++ ([(tdecI p.2.1)] : List (List UInt8))) ++ ([(tdecI p.2.2.1)] : List (List UInt8))) ++ ([(tdecI p.2.2.2.1)] : List (List UInt8))) ++ ([(tdecI p.2.2.2.2)] : List (List UInt8))) = [nm p.1, tdecI p.2.1, tdecI p.2.2.1, tdecI p.2.2.2.1, tdecI p.2.2.2.2] from rfl, hj_]; omega); rw [show ((((([(nm p.1)] : List (List UInt8)) ++ ([(tdecI p.2.1)] : List (List UInt8))) ++ ([(tdecI p.2.2.1)] : List (List UInt8))) ++ ([(tdecI p.2.2.2.1)] : List (List UInt8))) ++ ([(tdecI p.2.2.2.2)] : List (List UInt8))) = [nm p.1, tdecI p.2.1, tdecI p.2.2.1, tdecI p.2.2.2.1, tdecI p.2.2.2.2] from rfl, prE_join] at h_; exact h_) ?_
  intro w91 hb92
  simp only [nf0, nf1, nf2, nf3, nf4]
  replace B3 := B3.below hb92
  replace B18 := B18.below hb92
  replace O86 := O86.same hb92
  replace bel := bl_step bel hb92
  clear hb92
  refine st_mv (.string (str (prE p))) ?_
  simp only [nf0, nf1, nf2, nf3, nf4]
  refine wpList_nil ?_
  show Code.wp _ _ _ _ _
  refine wp_ret ?_
  first | show bodyPost _ _ _ _ _ _ | (simp only [Exit.then, Exit.inBlock]; show bodyPost _ _ _ _ _ _)
  exact bodyPost_ret (results_tmp rfl _ _ _) rfl ⟨rfl, bel⟩
set_option maxRecDepth 100000 in
set_option maxHeartbeats 4000000 in
theorem refPrint_calls (p : TEvt) (hp : okEvt p) (w : World) : Calls Tryd.prog 13 #[.agg (eEvt.enc p).toArray] w fun e w' => e = .returned (.string (str (prE p))) ∧ Below w.heap.size w w' := by
  have bel : Below w.heap.size w w := Below.refl _ _
  have h0 := nm_len p.1
  have h1 := tdecI_len hp.2.1
  have h2 := tdecI_len hp.2.2.1
  have h3 := tdecI_len hp.2.2.2.1
  have h4 := tdecI_len hp.2.2.2.2
  go_enter Tryd.func13, Tryd.ntmps13
  refine wp_seq ?_
  refine wp_region_lit ?_
  refine st_new (cs := #[.int .i64 p.1, .int .i64 p.2.1, .int .i64 p.2.2.1, .int .i64 p.2.2.2.1, .int .i64 p.2.2.2.2]) (t := 23) (by rfl) (run_boxV (.tmp 0) rfl (v := (.agg #[.int .i64 p.1, .int .i64 p.2.1, .int .i64 p.2.2.1, .int .i64 p.2.2.2.1, .int .i64 p.2.2.2.2])) rfl rfl _) ?_
  intro g1 w2 B3 hb4 lo5
  simp only [nf0, nf1, nf2, nf3, nf4]
  replace lo5 := low_le bel lo5
  replace bel := bl_step bel hb4
  clear hb4
  refine st_mv (.string (str [])) ?_
  simp only [nf0, nf1, nf2, nf3, nf4]
  refine wpList_nil ?_
  show Code.wp _ _ _ _ _
  refine wp_seq ?_
  refine wp_region_facts2_lit (C := Abv w2) 23 [.val (.pointer (some ⟨g1, 0, none⟩)), .val (.int .i64 p.1), .val (.string (str (nm p.1))), .val (.string (str ((nm p.1) ++ [32]))), .val (.pointer (some ⟨g1, 1, none⟩)), .val (.int .i64 p.2.1), .val (.string (str (tdecI p.2.1))), .val (.string (str (((nm p.1) ++ [32]) ++ (tdecI p.2.1)))), .val (.string (str ((((nm p.1) ++ [32]) ++ (tdecI p.2.1)) ++ [32]))), .val (.pointer (some ⟨g1, 2, none⟩)), .val (.int .i64 p.2.2.1), .val (.string (str (tdecI p.2.2.1))), .val (.string (str (((((nm p.1) ++ [32]) ++ (tdecI p.2.1)) ++ [32]) ++ (tdecI p.2.2.1)))), .val (.string (str ((((((nm p.1) ++ [32]) ++ (tdecI p.2.1)) ++ [32]) ++ (tdecI p.2.2.1)) ++ [32]))), .val (.pointer (some ⟨g1, 3, none⟩)), .val (.int .i64 p.2.2.2.1), .val (.string (str (tdecI p.2.2.2.1))), .val (.string (str (((((((nm p.1) ++ [32]) ++ (tdecI p.2.1)) ++ [32]) ++ (tdecI p.2.2.1)) ++ [32]) ++ (tdecI p.2.2.2.1)))), .val (.string (str ((((((((nm p.1) ++ [32]) ++ (tdecI p.2.1)) ++ [32]) ++ (tdecI p.2.2.1)) ++ [32]) ++ (tdecI p.2.2.2.1)) ++ [32]))), .val (.pointer (some ⟨g1, 4, none⟩)), .val (.int .i64 p.2.2.2.2), .val (.string (str (tdecI p.2.2.2.2))), .val (.string (str (((((((((nm p.1) ++ [32]) ++ (tdecI p.2.1)) ++ [32]) ++ (tdecI p.2.2.1)) ++ [32]) ++ (tdecI p.2.2.2.1)) ++ [32]) ++ (tdecI p.2.2.2.2))))] w2.heap.size (by kernel_rfl) (by simp) (by kernel_rfl) (by kernel_rfl) (fun _ h => h.size) (Abv.start _) ?_
  simp only [List.take_succ_cons, List.take_zero, List.drop_succ_cons, List.drop_zero]
  refine fst2_val (fun W hC hh => ok2_value (v := (.pointer (some ⟨g1, 0, none⟩))) (by rfl) (run_fieldA (.tmp 1) rfl d_fld_23_0 rfl rfl W) rfl hC (G0.refl _)) ?_
  simp only [nf0, nf1, nf2, nf3, nf4]
  refine fst2_val (fun W hC hh => ok2_value (v := (.int .i64 p.1)) (by rfl) (run_loadB (.tmp 3) rfl d_one_3 rfl (B3.below hC) rfl) rfl hC (G0.refl _)) ?_
  simp only [nf0, nf1, nf2, nf3, nf4]
  refine fst2_val (fun W hC hh => ok2_call (by rfl) (d_run_call_11_1 (.tmp 4) rfl rfl W) ((refName_calls p.1 W).mono fun e W' ⟨h1, h2⟩ => ⟨h1, hC.step h2, h2⟩)) ?_
  simp only [nf0, nf1, nf2, nf3, nf4]
  refine fst2_val (fun W hC hh => ok2_value (v := (.string (str ((nm p.1) ++ [32])))) (by rfl) (run_add_text (.tmp 5) (.const (.string ⟨#[32]⟩)) (l := (nm p.1)) (m := [32]) rfl rfl rfl (by (try simp only [List.length_append, List.length_cons, List.length_nil]); omega) W) rfl hC (G0.refl _)) ?_
  simp only [nf0, nf1, nf2, nf3, nf4]
  refine fst2_val (fun W hC hh => ok2_value (v := (.pointer (some ⟨g1, 1, none⟩))) (by rfl) (run_fieldA (.tmp 1) rfl d_fld_23_1 rfl rfl W) rfl hC (G0.refl _)) ?_
  simp only [nf0, nf1, nf2, nf3, nf4]
  refine fst2_val (fun W hC hh => ok2_value (v := (.int .i64 p.2.1)) (by rfl) (run_loadB (.tmp 7) rfl d_one_3 rfl (B3.below hC) rfl) rfl hC (G0.refl _)) ?_
  simp only [nf0, nf1, nf2, nf3, nf4]
  refine fst2_val (fun W hC hh => ok2_call (by rfl) (d_run_call_29_1 (.tmp 8) rfl rfl W) ((refDec_calls (n := p.2.1) hp.2.1 W).mono fun e W' ⟨h1, h2⟩ => ⟨h1, hC.step h2, h2⟩)) ?_
  simp only [nf0, nf1, nf2, nf3, nf4]
  refine fst2_val (fun W hC hh => ok2_value (v := (.string (str (((nm p.1) ++ [32]) ++ (tdecI p.2.1))))) (by rfl) (run_add_text (.tmp 6) (.tmp 9) (l := ((nm p.1) ++ [32])) (m := (tdecI p.2.1)) rfl rfl rfl (by (try simp only [List.length_append, List.length_cons, List.length_nil]); omega) W) rfl hC (G0.refl _)) ?_
  simp only [nf0, nf1, nf2, nf3, nf4]
  refine fst2_val (fun W hC hh => ok2_value (v := (.string (str ((((nm p.1) ++ [32]) ++ (tdecI p.2.1)) ++ [32])))) (by rfl) (run_add_text (.tmp 10) (.const (.string ⟨#[32]⟩)) (l := (((nm p.1) ++ [32]) ++ (tdecI p.2.1))) (m := [32]) rfl rfl rfl (by (try simp only [List.length_append, List.length_cons, List.length_nil]); omega) W) rfl hC (G0.refl _)) ?_
  simp only [nf0, nf1, nf2, nf3, nf4]
  refine fst2_val (fun W hC hh => ok2_value (v := (.pointer (some ⟨g1, 2, none⟩))) (by rfl) (run_fieldA (.tmp 1) rfl d_fld_23_2 rfl rfl W) rfl hC (G0.refl _)) ?_
  simp only [nf0, nf1, nf2, nf3, nf4]
  refine fst2_val (fun W hC hh => ok2_value (v := (.int .i64 p.2.2.1)) (by rfl) (run_loadB (.tmp 12) rfl d_one_3 rfl (B3.below hC) rfl) rfl hC (G0.refl _)) ?_
  simp only [nf0, nf1, nf2, nf3, nf4]
  refine fst2_val (fun W hC hh => ok2_call (by rfl) (d_run_call_29_1 (.tmp 13) rfl rfl W) ((refDec_calls (n := p.2.2.1) hp.2.2.1 W).mono fun e W' ⟨h1, h2⟩ => ⟨h1, hC.step h2, h2⟩)) ?_
  simp only [nf0, nf1, nf2, nf3, nf4]
  refine fst2_val (fun W hC hh => ok2_value (v := (.string (str (((((nm p.1) ++ [32]) ++ (tdecI p.2.1)) ++ [32]) ++ (tdecI p.2.2.1))))) (by rfl) (run_add_text (.tmp 11) (.tmp 14) (l := ((((nm p.1) ++ [32]) ++ (tdecI p.2.1)) ++ [32])) (m := (tdecI p.2.2.1)) rfl rfl rfl (by (try simp only [List.length_append, List.length_cons, List.length_nil]); omega) W) rfl hC (G0.refl _)) ?_
  simp only [nf0, nf1, nf2, nf3, nf4]
  refine fst2_val (fun W hC hh => ok2_value (v := (.string (str ((((((nm p.1) ++ [32]) ++ (tdecI p.2.1)) ++ [32]) ++ (tdecI p.2.2.1)) ++ [32])))) (by rfl) (run_add_text (.tmp 15) (.const (.string ⟨#[32]⟩)) (l := (((((nm p.1) ++ [32]) ++ (tdecI p.2.1)) ++ [32]) ++ (tdecI p.2.2.1))) (m := [32]) rfl rfl rfl (by (try simp only [List.length_append, List.length_cons, List.length_nil]); omega) W) rfl hC (G0.refl _)) ?_
  simp only [nf0, nf1, nf2, nf3, nf4]
  refine fst2_val (fun W hC hh => ok2_value (v := (.pointer (some ⟨g1, 3, none⟩))) (by rfl) (run_fieldA (.tmp 1) rfl d_fld_23_3 rfl rfl W) rfl hC (G0.refl _)) ?_
  simp only [nf0, nf1, nf2, nf3, nf4]
  refine fst2_val (fun W hC hh => ok2_value (v := (.int .i64 p.2.2.2.1)) (by rfl) (run_loadB (.tmp 17) rfl d_one_3 rfl (B3.below hC) rfl) rfl hC (G0.refl _)) ?_
  simp only [nf0, nf1, nf2, nf3, nf4]
  refine fst2_val (fun W hC hh => ok2_call (by rfl) (d_run_call_29_1 (.tmp 18) rfl rfl W) ((refDec_calls (n := p.2.2.2.1) hp.2.2.2.1 W).mono fun e W' ⟨h1, h2⟩ => ⟨h1, hC.step h2, h2⟩)) ?_
  simp only [nf0, nf1, nf2, nf3, nf4]
  refine fst2_val (fun W hC hh => ok2_value (v := (.string (str (((((((nm p.1) ++ [32]) ++ (tdecI p.2.1)) ++ [32]) ++ (tdecI p.2.2.1)) ++ [32]) ++ (tdecI p.2.2.2.1))))) (by rfl) (run_add_text (.tmp 16) (.tmp 19) (l := ((((((nm p.1) ++ [32]) ++ (tdecI p.2.1)) ++ [32]) ++ (tdecI p.2.2.1)) ++ [32])) (m := (tdecI p.2.2.2.1)) rfl rfl rfl (by (try simp only [List.length_append, List.length_cons, List.length_nil]); omega) W) rfl hC (G0.refl _)) ?_
  simp only [nf0, nf1, nf2, nf3, nf4]
  refine fst2_val (fun W hC hh => ok2_value (v := (.string (str ((((((((nm p.1) ++ [32]) ++ (tdecI p.2.1)) ++ [32]) ++ (tdecI p.2.2.1)) ++ [32]) ++ (tdecI p.2.2.2.1)) ++ [32])))) (by rfl) (run_add_text (.tmp 20) (.const (.string ⟨#[32]⟩)) (l := (((((((nm p.1) ++ [32]) ++ (tdecI p.2.1)) ++ [32]) ++ (tdecI p.2.2.1)) ++ [32]) ++ (tdecI p.2.2.2.1))) (m := [32]) rfl rfl rfl (by (try simp only [List.length_append, List.length_cons, List.length_nil]); omega) W) rfl hC (G0.refl _)) ?_
  simp only [nf0, nf1, nf2, nf3, nf4]
  refine fst2_val (fun W hC hh => ok2_value (v := (.pointer (some ⟨g1, 4, none⟩))) (by rfl) (run_fieldA (.tmp 1) rfl d_fld_23_4 rfl rfl W) rfl hC (G0.refl _)) ?_
  simp only [nf0, nf1, nf2, nf3, nf4]
  refine fst2_val (fun W hC hh => ok2_value (v := (.int .i64 p.2.2.2.2)) (by rfl) (run_loadB (.tmp 22) rfl d_one_3 rfl (B3.below hC) rfl) rfl hC (G0.refl _)) ?_
  simp only [nf0, nf1, nf2, nf3, nf4]
  refine fst2_val (fun W hC hh => ok2_call (by rfl) (d_run_call_29_1 (.tmp 23) rfl rfl W) ((refDec_calls (n := p.2.2.2.2) hp.2.2.2.2 W).mono fun e W' ⟨h1, h2⟩ => ⟨h1, hC.step h2, h2⟩)) ?_
  simp only [nf0, nf1, nf2, nf3, nf4]
  refine fst2_val (fun W hC hh => ok2_value (v := (.string (str (((((((((nm p.1) ++ [32]) ++ (tdecI p.2.1)) ++ [32]) ++ (tdecI p.2.2.1)) ++ [32]) ++ (tdecI p.2.2.2.1)) ++ [32]) ++ (tdecI p.2.2.2.2))))) (by rfl) (run_add_text (.tmp 21) (.tmp 24) (l := ((((((((nm p.1) ++ [32]) ++ (tdecI p.2.1)) ++ [32]) ++ (tdecI p.2.2.1)) ++ [32]) ++ (tdecI p.2.2.2.1)) ++ [32])) (m := (tdecI p.2.2.2.2)) rfl rfl rfl (by (try simp only [List.length_append, List.length_cons, List.length_nil]); omega) W) rfl hC (G0.refl _)) ?_
  simp only [nf0, nf1, nf2, nf3, nf4]
  refine fst2_nil fun w6 hC hh hnd => ?_
  replace hC : Below w2.heap.size w2 w6 := hC
  clear hh hnd
  replace B3 := B3.below hC
  replace bel := bl_step bel hC
  clear hC
  refine st_mv (.string (str (((((((((nm p.1) ++ [32]) ++ (tdecI p.2.1)) ++ [32]) ++ (tdecI p.2.2.1)) ++ [32]) ++ (tdecI p.2.2.2.1)) ++ [32]) ++ (tdecI p.2.2.2.2)))) ?_
  simp only [nf0, nf1, nf2, nf3, nf4]
  refine wpList_nil ?_
  show Code.wp _ _ _ _ _
  refine wp_ret ?_
  first | show bodyPost _ _ _ _ _ _ | (simp only [Exit.then, Exit.inBlock]; show bodyPost _ _ _ _ _ _)
  have hE : prE p = (((((((((nm p.1) ++ [32]) ++ (tdecI p.2.1)) ++ [32]) ++ (tdecI p.2.2.1)) ++ [32]) ++ (tdecI p.2.2.2.1)) ++ [32]) ++ (tdecI p.2.2.2.2)) := by unfold prE; simp only [List.append_assoc, List.cons_append, List.nil_append]
  exact bodyPost_ret (results_tmp rfl _ _ _) rfl ⟨by rw [hE]; rfl, bel⟩
end Go.Proofs.YtmfdcgocfofokaaDoor

/- What event.Parse reads. -/
namespace Go.Proofs.YtmfdcgocfofokaaDoor
open Go.RowKit Go.WideShapes Go.ChangeShapes
set_option linter.unusedSimpArgs false
set_option linter.unusedVariables false

theorem e_zero_23 : ZeroOf Tryd.prog 23 #[.int .i64 0, .int .i64 0, .int .i64 0, .int .i64 0, .int .i64 0] := zeroOf (z := .agg #[.int .i64 0, .int .i64 0, .int .i64 0, .int .i64 0, .int .i64 0]) (by kernel_rfl) rfl
theorem e_zero_44 : ZeroOf Tryd.prog 44 #[.int .i64 0, .int .i64 0, .int .i64 0, .int .i64 0] := zeroOf (z := .agg #[.int .i64 0, .int .i64 0, .int .i64 0, .int .i64 0]) (by kernel_rfl) rfl
theorem e_one_3 : One Tryd.prog 3 := one_of Tryd.underlying3 rfl (by kernel_rfl)
theorem e_run_call_10_1 {o : Oper} {a : Act} (x0 : Operand) {ts : Array TypeId} (ho : o.op = .call { callee := .value (.func 10), args := #[x0], argTypes := ts }) {v0 : Value} (h0 : a.eval x0 = v0) (W : World) : (execOp a.eval o).run Tryd.prog W = .ok (.enter 10 #[v0]) W := by
  unfold execOp
  simp only [ho]
  subst h0
  go_simp
theorem e_run_call_12_1 {o : Oper} {a : Act} (x0 : Operand) {ts : Array TypeId} (ho : o.op = .call { callee := .value (.func 12), args := #[x0], argTypes := ts }) {v0 : Value} (h0 : a.eval x0 = v0) (W : World) : (execOp a.eval o).run Tryd.prog W = .ok (.enter 12 #[v0]) W := by
  unfold execOp
  simp only [ho]
  subst h0
  go_simp
theorem e_run_call_22_2 {o : Oper} {a : Act} (x0 : Operand) (x1 : Operand) {ts : Array TypeId} (ho : o.op = .call { callee := .value (.func 22), args := #[x0, x1], argTypes := ts }) {v0 : Value} (h0 : a.eval x0 = v0) {v1 : Value} (h1 : a.eval x1 = v1) (W : World) : (execOp a.eval o).run Tryd.prog W = .ok (.enter 22 #[v0, v1]) W := by
  unfold execOp
  simp only [ho]
  subst h0 h1
  go_simp
theorem e_run_call_23_1 {o : Oper} {a : Act} (x0 : Operand) {ts : Array TypeId} (ho : o.op = .call { callee := .value (.func 23), args := #[x0], argTypes := ts }) {v0 : Value} (h0 : a.eval x0 = v0) (W : World) : (execOp a.eval o).run Tryd.prog W = .ok (.enter 23 #[v0]) W := by
  unfold execOp
  simp only [ho]
  subst h0
  go_simp
theorem len5 {xs : List (List UInt8)} (h : xs.length = 5) : ∃ a b c d g, xs = [a, b, c, d, g] := by
  match xs, h with
  | [a, b, c, d, g], _ => exact ⟨a, b, c, d, g, rfl⟩

attribute [local irreducible] Go.wpList Go.Code.wp
set_option maxRecDepth 100000 in
set_option maxHeartbeats 4000000 in
theorem parse_five {l : List UInt8} {a b c d g_ : List UInt8} (hpc : pieces 32 l = [a, b, c, d, g_]) (hl : l.length ≤ 100000) (w : World) : Calls Tryd.prog 8 #[.string (str l)] w fun e w' => e = .returned (.tuple #[.agg (eEvt.enc (pE l).1).toArray, .bool (pE l).2]) ∧ Below w.heap.size w w' := by
  have bel : Below w.heap.size w w := Below.refl _ _
  have hlen : ([a, b, c, d, g_].drop 1).length = 4 := rfl
  have hlen5 : [a, b, c, d, g_].length = 5 := rfl
  have hnl : ∀ x ∈ pieces 32 l, x.length ≤ l.length := fun x hx => pieces_mem hx
  rw [hpc] at hnl
  go_enter Tryd.func8, Tryd.ntmps8
  refine wp_seq ?_
  refine wp_region_lit ?_
  refine st_new (cs := #[.int .i64 0, .int .i64 0, .int .i64 0, .int .i64 0, .int .i64 0]) (t := 23) (by rfl) (run_allocV rfl e_zero_23 _) ?_
  intro g1 w2 B3 hb4 lo5
  simp only [nf0, nf1, nf2, nf3, nf4]
  replace lo5 := low_le bel lo5
  replace bel := bl_step bel hb4
  clear hb4
  refine st_mv (.bool false) ?_
  simp only [nf0, nf1, nf2, nf3, nf4]
  refine wpList_nil ?_
  show Code.wp _ _ _ _ _
  refine wp_seq ?_
  refine wp_region_lit ?_
  refine st_mv (.string (str l)) ?_
  simp only [nf0, nf1, nf2, nf3, nf4]
  have hc6 := splits_calls l 32 (by omega) w2
  rw [hpc] at hc6
  refine st_call (by rfl) (e_run_call_22_2 (.tmp 11) (.const (.string ⟨#[32]⟩)) rfl rfl rfl _) hc6 ?_
  rintro v7 w9 ⟨O8, hf10⟩
  simp only [nf0, nf1, nf2, nf3, nf4]
  have n11 := O8.offLow B3
  have O8_ := fun k hk => (O8.lt k hk).1
  replace O8 := O8.lower bel.size
  replace B3 := B3.below hf10
  replace bel := bl_step bel hf10
  clear hf10
  refine st_mv v7 ?_
  simp only [nf0, nf1, nf2, nf3, nf4]
  refine wpList_nil ?_
  show Code.wp _ _ _ _ _
  refine wp_seq ?_
  obtain ⟨A12, c13, hv14, h15, h16, h17, R18⟩ := O8.reads
  subst hv14
  obtain ⟨b19, o20, rfl, _⟩ := R18.at_ (by rw [Enc.all_length]; exact Nat.mul_pos (by omega) (by decide))
  refine wp_region_lit ?_
  refine st_mv (.slice (some ⟨b19, o20, none⟩) [a, b, c, d, g_].length c13) ?_
  simp only [nf0, nf1, nf2, nf3, nf4]
  refine st_value (v := (.pointer (some ⟨b19, o20 + 0 * 1, none⟩))) (by rfl) (run_indexAddrN (.tmp 14) (.const (.int .i64 0)) rfl Tryd.underlying42 slTx.sz (i := 0) rfl (by exact (congrArg (Value.int .i64) (show 0 = ((0 : Nat) : Int) by omega))) (by omega) w9) ?_
  simp only [nf0, nf1, nf2, nf3, nf4]
  refine st_value (v := (.string (str (tx [a, b, c, d, g_] 0)))) (by rfl) (run_load1 (.tmp 15) rfl Tryd.underlying9 rfl slTx.sz rfl (Reads.txAt R18 0 (by omega))) ?_
  simp only [nf0, nf1, nf2, nf3, nf4]
  refine st_call1 (v := (.tuple #[.int .i64 (max (kidx (tx [a, b, c, d, g_] 0)) 0), .bool (decide (0 < kidx (tx [a, b, c, d, g_] 0)))])) (by rfl) (e_run_call_10_1 (.tmp 16) rfl rfl _) (kind_calls (tx [a, b, c, d, g_] 0) w9) ?_
  intro w21 hb22
  simp only [nf0, nf1, nf2, nf3, nf4]
  replace B3 := B3.below hb22
  replace O8 := O8.same hb22
  replace R18 := R18.same hb22
  replace bel := bl_step bel hb22
  clear hb22
  refine st_mv (.tuple #[.int .i64 (max (kidx (tx [a, b, c, d, g_] 0)) 0), .bool (decide (0 < kidx (tx [a, b, c, d, g_] 0)))]) ?_
  simp only [nf0, nf1, nf2, nf3, nf4]
  refine st_mv (.int .i64 (max (kidx (tx [a, b, c, d, g_] 0)) 0)) ?_
  simp only [nf0, nf1, nf2, nf3, nf4]
  refine st_mv (.bool (decide (0 < kidx (tx [a, b, c, d, g_] 0)))) ?_
  simp only [nf0, nf1, nf2, nf3, nf4]
  refine st_mv (.int .i64 (max (kidx (tx [a, b, c, d, g_] 0)) 0)) ?_
  simp only [nf0, nf1, nf2, nf3, nf4]
  refine st_mv (.bool (decide (0 < kidx (tx [a, b, c, d, g_] 0)))) ?_
  simp only [nf0, nf1, nf2, nf3, nf4]
  refine wpList_nil ?_
  show Code.wp _ _ _ _ _
  refine wp_seq ?_
  refine wp_seq ?_
  cases hg23 : decide (0 < kidx (tx [a, b, c, d, g_] 0))
  · have hp24 := of_decide_eq_false hg23
    refine wp_region_lit ?_
    refine st_mv (.bool false) ?_
    simp only [nf0, nf1, nf2, nf3, nf4]
    refine st_value (v := (.bool true)) (by rfl) (run_not (.tmp 20) rfl (b := false) rfl w21) ?_
    simp only [nf0, nf1, nf2, nf3, nf4]
    refine st_mv (.bool true) ?_
    simp only [nf0, nf1, nf2, nf3, nf4]
    refine st_nob (j := 2) (t := 22) (c := true) rfl rfl rfl rfl rfl ?_
    simp only [nf0, nf1, nf2, nf3, nf4]
    refine st_nob (j := 2) (t := 22) (c := true) rfl rfl rfl rfl rfl ?_
    simp only [nf0, nf1, nf2, nf3, nf4]
    refine st_nob (j := 2) (t := 22) (c := true) rfl rfl rfl rfl rfl ?_
    simp only [nf0, nf1, nf2, nf3, nf4]
    refine st_mv (.bool true) ?_
    simp only [nf0, nf1, nf2, nf3, nf4]
    refine wpList_nil ?_
    show Code.wp _ _ _ _ _
    refine wp_cond_true rfl ?_
    refine wp_seq ?_
    refine wp_region_lit ?_
    refine st_value (v := (.agg #[.int .i64 0, .int .i64 0, .int .i64 0, .int .i64 0, .int .i64 0])) (by rfl) (run_buildV rfl (by kernel_rfl) w21) ?_
    simp only [nf0, nf1, nf2, nf3, nf4]
    refine st_row (by rfl) (run_storeW (.tmp 2) (.tmp 27) rfl (cs := #[.int .i64 0, .int .i64 0, .int .i64 0, .int .i64 0, .int .i64 0]) aggEvt rfl rfl B3 rfl (by simp [Value.oneCell'])) B3 ?_
    intro w25 B27 hg26
    simp only [nf0, nf1, nf2, nf3, nf4]
    replace O8 := O8.keptB hg26 n11
    replace bel := bl_kept0 bel hg26 lo5
    replace R18 := OwnR.rdE O8
    clear hg26
    clear B3
    refine st_mv (.bool false) ?_
    simp only [nf0, nf1, nf2, nf3, nf4]
    refine wpList_nil ?_
    show Code.wp _ _ _ _ _
    refine wp_ret ?_
    first | show bodyPost _ _ _ _ _ _ | (simp only [Exit.then, Exit.inBlock]; show bodyPost _ _ _ _ _ _)
    have hE : pE l = ((0, 0, 0, 0, 0), false) := pE_kind (by rw [hpc]; exact (by assumption : ¬ 0 < kidx (tx [a, b, c, d, g_] 0)))
    exact bodyPost_ret (results_agg1t rfl (cs := #[.int .i64 0, .int .i64 0, .int .i64 0, .int .i64 0, .int .i64 0]) aggEvt (by rfl) B27) rfl ⟨by rw [hE]; rfl, bel⟩
  have hp28 := of_decide_eq_true hg23
  refine wp_region_lit ?_
  refine st_mv (.bool true) ?_
  simp only [nf0, nf1, nf2, nf3, nf4]
  refine st_value (v := (.bool false)) (by rfl) (run_not (.tmp 20) rfl (b := true) rfl w21) ?_
  simp only [nf0, nf1, nf2, nf3, nf4]
  refine st_mv (.bool false) ?_
  simp only [nf0, nf1, nf2, nf3, nf4]
  refine st_mv (.slice (some ⟨b19, o20, none⟩) [a, b, c, d, g_].length c13) ?_
  simp only [nf0, nf1, nf2, nf3, nf4]
  refine st_value (v := (.int .i64 ([a, b, c, d, g_].length : Int))) (by rfl) (run_len (.tmp 23) rfl ⟨_, Tryd.underlying42⟩ rfl w21) ?_
  simp only [nf0, nf1, nf2, nf3, nf4]
  refine st_value (v := (.bool false)) (by rfl) ((run_neq_int (.tmp 24) (.const (.int .i64 5)) rfl rfl rfl w21).trans (by rw [decide_eq_true (by omega)]; rfl)) ?_
  simp only [nf0, nf1, nf2, nf3, nf4]
  refine st_mv (.bool false) ?_
  simp only [nf0, nf1, nf2, nf3, nf4]
  refine wpList_nil ?_
  show Code.wp _ _ _ _ _
  refine wp_cond_false rfl ?_
  refine wp_skip ?_
  show Code.wp _ _ _ _ _
  refine wp_seq ?_
  have hk0 : 0 < kidx (tx [a, b, c, d, g_] 0) := by assumption
  have hmx : max (kidx (tx [a, b, c, d, g_] 0)) 0 = kidx (tx [a, b, c, d, g_] 0) := by omega
  have hkn := (kidx_pos hk0).1
  rw [hmx]
  refine wp_region_lit ?_
  refine st_new (cs := #[.int .i64 0, .int .i64 0, .int .i64 0, .int .i64 0]) (t := 44) (by rfl) (run_allocV rfl e_zero_44 _) ?_
  intro g29 w30 B31 hb32 lo33
  simp only [nf0, nf1, nf2, nf3, nf4]
  have n34 := B3.ne lo33
  have n35 := O8.off lo33
  replace lo33 := low_le bel lo33
  replace B3 := B3.below hb32
  replace O8 := O8.same hb32
  replace R18 := R18.same hb32
  replace bel := bl_step bel hb32
  clear hb32
  refine wpList_nil ?_
  show Code.wp _ _ _ _ _
  refine wp_seq ?_
  refine wp_seq ?_
  refine wp_region_lit ?_
  refine st_mv (.slice (some ⟨b19, o20, none⟩) [a, b, c, d, g_].length c13) ?_
  simp only [nf0, nf1, nf2, nf3, nf4]
  have R36 := Reads.cutA (p := 1) R18 h15
  refine st_value (v := (.slice (cutA (some ⟨b19, o20, none⟩) c13 1) ([a, b, c, d, g_].drop 1).length (c13 - 1))) (by rfl) (run_cutlo (.tmp 28) (.const (.int .i64 1)) rfl Tryd.underlying42 slTx.sz rfl rfl (p := 1) (by omega) (by omega) h15 w30) ?_
  simp only [nf0, nf1, nf2, nf3, nf4]
  refine st_value (v := (.int .i64 (([a, b, c, d, g_].drop 1).length : Int))) (by rfl) (run_len (.tmp 29) rfl ⟨_, Tryd.underlying42⟩ rfl w30) ?_
  simp only [nf0, nf1, nf2, nf3, nf4]
  refine st_mv (.int .i64 0) ?_
  simp only [nf0, nf1, nf2, nf3, nf4]
  refine wpList_nil ?_
  show Code.wp _ _ _ _ _
  refine wp_block ?_
  refine wp_loop_rnds 4 ?_
  show Code.wp _ _ _ _ _
  refine wp_seq ?_
  rw [cutA_one (by have hx_ : [a, b, c, d, g_].length = 5 := rfl; omega)]
  have R37 := rd_cut O8
  refine wp_region_lit ?_
  refine st_value (v := (.bool true)) (by rfl) ((run_lss (.tmp 31) (.tmp 30) rfl rfl rfl w30).trans (by rw [decide_eq_true (by omega)])) ?_
  simp only [nf0, nf1, nf2, nf3, nf4]
  refine wpList_nil ?_
  show Code.wp _ _ _ _ _
  refine wp_seq ?_
  refine wp_cond_true rfl ?_
  refine wp_skip ?_
  show Code.wp _ _ _ _ _
  refine wp_seq ?_
  refine wp_block ?_
  refine wp_seq ?_
  refine wp_region_lit ?_
  refine st_mv (.int .i64 0) ?_
  simp only [nf0, nf1, nf2, nf3, nf4]
  refine st_value (v := (.pointer (some ⟨b19, (o20 + 1) + 0 * 1, none⟩))) (by rfl) (run_indexAddrN (.tmp 29) (.tmp 31) rfl Tryd.underlying42 slTx.sz (i := 0) rfl (by exact (congrArg (Value.int .i64) (show 0 = ((0 : Nat) : Int) by omega))) (by omega) w30) ?_
  simp only [nf0, nf1, nf2, nf3, nf4]
  refine st_value (v := (.string (str (tx ([a, b, c, d, g_].drop 1) 0)))) (by rfl) (run_load1 (.tmp 34) rfl Tryd.underlying9 rfl slTx.sz rfl (Reads.txAt R37 0 (by omega))) ?_
  simp only [nf0, nf1, nf2, nf3, nf4]
  refine st_mv (.int .i64 0) ?_
  simp only [nf0, nf1, nf2, nf3, nf4]
  refine st_mv (.string (str (tx ([a, b, c, d, g_].drop 1) 0))) ?_
  simp only [nf0, nf1, nf2, nf3, nf4]
  refine wpList_nil ?_
  show Code.wp _ _ _ _ _
  refine wp_region_lit ?_
  refine st_mv (.int .i64 0) ?_
  simp only [nf0, nf1, nf2, nf3, nf4]
  refine st_mv (.string (str (tx ([a, b, c, d, g_].drop 1) 0))) ?_
  simp only [nf0, nf1, nf2, nf3, nf4]
  refine st_call1 (v := (.int .i64 (numV (tx ([a, b, c, d, g_].drop 1) 0)))) (by rfl) (e_run_call_23_1 (.tmp 37) rfl rfl _) (number_calls (tx ([a, b, c, d, g_].drop 1) 0) (Nat.le_trans (hnl (tx ([a, b, c, d, g_].drop 1) 0) (by simp [tx])) (by omega)) w30) ?_
  intro w38 hb39
  simp only [nf0, nf1, nf2, nf3, nf4]
  replace B3 := B3.below hb39
  replace O8 := O8.same hb39
  replace R18 := R18.same hb39
  replace B31 := B31.below hb39
  replace R37 := R37.same hb39
  replace bel := bl_step bel hb39
  clear hb39
  refine st_value (v := (.pointer (some ⟨g29, 0, none⟩))) (by rfl) (run_indexArr (.tmp 7) (.tmp 36) rfl Tryd.underlying44 (sz := 1) (by kernel_rfl) (i := 0) (k' := 0) rfl rfl rfl (by rfl) (by omega) w38) ?_
  simp only [nf0, nf1, nf2, nf3, nf4]
  refine st_cell (v := (.int .i64 (numV (tx ([a, b, c, d, g_].drop 1) 0)))) (by rfl) (run_storeB (.tmp 39) (.tmp 38) rfl e_one_3 B31 (show 0 < 4 by decide) rfl rfl rfl rfl) B31 ?_
  intro w40 B42 hg41
  simp only [nf0, nf1, nf2, nf3, nf4]
  replace B3 := B3.kept hg41 n34
  replace O8 := O8.keptB hg41 n35
  replace bel := bl_kept0 bel hg41 lo33
  replace R18 := OwnR.rdE O8
  replace R37 := rd_cut O8
  clear hg41
  clear B31
  replace B42 : Blk w40 g29 #[.int .i64 (numV (tx ([a, b, c, d, g_].drop 1) 0)), .int .i64 0, .int .i64 0, .int .i64 0] 44 := B42
  refine wpList_nil ?_
  show Code.wp _ _ _ _ _
  refine wp_region_lit ?_
  refine st_value (v := (.int .i64 1)) (by rfl) (run_add_in (m := 0) (n := 1) (.tmp 31) (.const (.int .i64 1)) rfl rfl rfl (by omega) w40) ?_
  simp only [nf0, nf1, nf2, nf3, nf4]
  refine st_mv (.int .i64 1) ?_
  simp only [nf0, nf1, nf2, nf3, nf4]
  refine wpList_nil ?_
  show Code.wp _ _ _ _ _
  refine wp_seq ?_
  refine wp_region_lit ?_
  refine st_value (v := (.bool true)) (by rfl) ((run_lss (.tmp 31) (.tmp 30) rfl rfl rfl w40).trans (by rw [decide_eq_true (by omega)])) ?_
  simp only [nf0, nf1, nf2, nf3, nf4]
  refine wpList_nil ?_
  show Code.wp _ _ _ _ _
  refine wp_seq ?_
  refine wp_cond_true rfl ?_
  refine wp_skip ?_
  show Code.wp _ _ _ _ _
  refine wp_seq ?_
  refine wp_block ?_
  refine wp_seq ?_
  refine wp_region_lit ?_
  refine st_mv (.int .i64 1) ?_
  simp only [nf0, nf1, nf2, nf3, nf4]
  refine st_value (v := (.pointer (some ⟨b19, (o20 + 1) + 1 * 1, none⟩))) (by rfl) (run_indexAddrN (.tmp 29) (.tmp 31) rfl Tryd.underlying42 slTx.sz (i := 1) rfl (by exact (congrArg (Value.int .i64) (show 1 = ((1 : Nat) : Int) by omega))) (by omega) w40) ?_
  simp only [nf0, nf1, nf2, nf3, nf4]
  refine st_value (v := (.string (str (tx ([a, b, c, d, g_].drop 1) 1)))) (by rfl) (run_load1 (.tmp 34) rfl Tryd.underlying9 rfl slTx.sz rfl (Reads.txAt R37 1 (by omega))) ?_
  simp only [nf0, nf1, nf2, nf3, nf4]
  refine st_mv (.int .i64 1) ?_
  simp only [nf0, nf1, nf2, nf3, nf4]
  refine st_mv (.string (str (tx ([a, b, c, d, g_].drop 1) 1))) ?_
  simp only [nf0, nf1, nf2, nf3, nf4]
  refine wpList_nil ?_
  show Code.wp _ _ _ _ _
  refine wp_region_lit ?_
  refine st_mv (.int .i64 1) ?_
  simp only [nf0, nf1, nf2, nf3, nf4]
  refine st_mv (.string (str (tx ([a, b, c, d, g_].drop 1) 1))) ?_
  simp only [nf0, nf1, nf2, nf3, nf4]
  refine st_call1 (v := (.int .i64 (numV (tx ([a, b, c, d, g_].drop 1) 1)))) (by rfl) (e_run_call_23_1 (.tmp 37) rfl rfl _) (number_calls (tx ([a, b, c, d, g_].drop 1) 1) (Nat.le_trans (hnl (tx ([a, b, c, d, g_].drop 1) 1) (by simp [tx])) (by omega)) w40) ?_
  intro w43 hb44
  simp only [nf0, nf1, nf2, nf3, nf4]
  replace B3 := B3.below hb44
  replace O8 := O8.same hb44
  replace R18 := R18.same hb44
  replace B42 := B42.below hb44
  replace R37 := R37.same hb44
  replace bel := bl_step bel hb44
  clear hb44
  refine st_value (v := (.pointer (some ⟨g29, 1, none⟩))) (by rfl) (run_indexArr (.tmp 7) (.tmp 36) rfl Tryd.underlying44 (sz := 1) (by kernel_rfl) (i := 1) (k' := 1) rfl rfl rfl (by rfl) (by omega) w43) ?_
  simp only [nf0, nf1, nf2, nf3, nf4]
  refine st_cell (v := (.int .i64 (numV (tx ([a, b, c, d, g_].drop 1) 1)))) (by rfl) (run_storeB (.tmp 39) (.tmp 38) rfl e_one_3 B42 (show 1 < 4 by decide) rfl rfl rfl rfl) B42 ?_
  intro w45 B47 hg46
  simp only [nf0, nf1, nf2, nf3, nf4]
  replace B3 := B3.kept hg46 n34
  replace O8 := O8.keptB hg46 n35
  replace bel := bl_kept0 bel hg46 lo33
  replace R18 := OwnR.rdE O8
  replace R37 := rd_cut O8
  clear hg46
  clear B42
  replace B47 : Blk w45 g29 #[.int .i64 (numV (tx ([a, b, c, d, g_].drop 1) 0)), .int .i64 (numV (tx ([a, b, c, d, g_].drop 1) 1)), .int .i64 0, .int .i64 0] 44 := B47
  refine wpList_nil ?_
  show Code.wp _ _ _ _ _
  refine wp_region_lit ?_
  refine st_value (v := (.int .i64 2)) (by rfl) (run_add_in (m := 1) (n := 1) (.tmp 31) (.const (.int .i64 1)) rfl rfl rfl (by omega) w45) ?_
  simp only [nf0, nf1, nf2, nf3, nf4]
  refine st_mv (.int .i64 2) ?_
  simp only [nf0, nf1, nf2, nf3, nf4]
  refine wpList_nil ?_
  show Code.wp _ _ _ _ _
  refine wp_seq ?_
  refine wp_region_lit ?_
  refine st_value (v := (.bool true)) (by rfl) ((run_lss (.tmp 31) (.tmp 30) rfl rfl rfl w45).trans (by rw [decide_eq_true (by omega)])) ?_
  simp only [nf0, nf1, nf2, nf3, nf4]
  refine wpList_nil ?_
  show Code.wp _ _ _ _ _
  refine wp_seq ?_
  refine wp_cond_true rfl ?_
  refine wp_skip ?_
  show Code.wp _ _ _ _ _
  refine wp_seq ?_
  refine wp_block ?_
  refine wp_seq ?_
  refine wp_region_lit ?_
  refine st_mv (.int .i64 2) ?_
  simp only [nf0, nf1, nf2, nf3, nf4]
  refine st_value (v := (.pointer (some ⟨b19, (o20 + 1) + 2 * 1, none⟩))) (by rfl) (run_indexAddrN (.tmp 29) (.tmp 31) rfl Tryd.underlying42 slTx.sz (i := 2) rfl (by exact (congrArg (Value.int .i64) (show 2 = ((2 : Nat) : Int) by omega))) (by omega) w45) ?_
  simp only [nf0, nf1, nf2, nf3, nf4]
  refine st_value (v := (.string (str (tx ([a, b, c, d, g_].drop 1) 2)))) (by rfl) (run_load1 (.tmp 34) rfl Tryd.underlying9 rfl slTx.sz rfl (Reads.txAt R37 2 (by omega))) ?_
  simp only [nf0, nf1, nf2, nf3, nf4]
  refine st_mv (.int .i64 2) ?_
  simp only [nf0, nf1, nf2, nf3, nf4]
  refine st_mv (.string (str (tx ([a, b, c, d, g_].drop 1) 2))) ?_
  simp only [nf0, nf1, nf2, nf3, nf4]
  refine wpList_nil ?_
  show Code.wp _ _ _ _ _
  refine wp_region_lit ?_
  refine st_mv (.int .i64 2) ?_
  simp only [nf0, nf1, nf2, nf3, nf4]
  refine st_mv (.string (str (tx ([a, b, c, d, g_].drop 1) 2))) ?_
  simp only [nf0, nf1, nf2, nf3, nf4]
  refine st_call1 (v := (.int .i64 (numV (tx ([a, b, c, d, g_].drop 1) 2)))) (by rfl) (e_run_call_23_1 (.tmp 37) rfl rfl _) (number_calls (tx ([a, b, c, d, g_].drop 1) 2) (Nat.le_trans (hnl (tx ([a, b, c, d, g_].drop 1) 2) (by simp [tx])) (by omega)) w45) ?_
  intro w48 hb49
  simp only [nf0, nf1, nf2, nf3, nf4]
  replace B3 := B3.below hb49
  replace O8 := O8.same hb49
  replace R18 := R18.same hb49
  replace B47 := B47.below hb49
  replace R37 := R37.same hb49
  replace bel := bl_step bel hb49
  clear hb49
  refine st_value (v := (.pointer (some ⟨g29, 2, none⟩))) (by rfl) (run_indexArr (.tmp 7) (.tmp 36) rfl Tryd.underlying44 (sz := 1) (by kernel_rfl) (i := 2) (k' := 2) rfl rfl rfl (by rfl) (by omega) w48) ?_
  simp only [nf0, nf1, nf2, nf3, nf4]
  refine st_cell (v := (.int .i64 (numV (tx ([a, b, c, d, g_].drop 1) 2)))) (by rfl) (run_storeB (.tmp 39) (.tmp 38) rfl e_one_3 B47 (show 2 < 4 by decide) rfl rfl rfl rfl) B47 ?_
  intro w50 B52 hg51
  simp only [nf0, nf1, nf2, nf3, nf4]
  replace B3 := B3.kept hg51 n34
  replace O8 := O8.keptB hg51 n35
  replace bel := bl_kept0 bel hg51 lo33
  replace R18 := OwnR.rdE O8
  replace R37 := rd_cut O8
  clear hg51
  clear B47
  replace B52 : Blk w50 g29 #[.int .i64 (numV (tx ([a, b, c, d, g_].drop 1) 0)), .int .i64 (numV (tx ([a, b, c, d, g_].drop 1) 1)), .int .i64 (numV (tx ([a, b, c, d, g_].drop 1) 2)), .int .i64 0] 44 := B52
  refine wpList_nil ?_
  show Code.wp _ _ _ _ _
  refine wp_region_lit ?_
  refine st_value (v := (.int .i64 3)) (by rfl) (run_add_in (m := 2) (n := 1) (.tmp 31) (.const (.int .i64 1)) rfl rfl rfl (by omega) w50) ?_
  simp only [nf0, nf1, nf2, nf3, nf4]
  refine st_mv (.int .i64 3) ?_
  simp only [nf0, nf1, nf2, nf3, nf4]
  refine wpList_nil ?_
  show Code.wp _ _ _ _ _
  refine wp_seq ?_
  refine wp_region_lit ?_
  refine st_value (v := (.bool true)) (by rfl) ((run_lss (.tmp 31) (.tmp 30) rfl rfl rfl w50).trans (by rw [decide_eq_true (by omega)])) ?_
  simp only [nf0, nf1, nf2, nf3, nf4]
  refine wpList_nil ?_
  show Code.wp _ _ _ _ _
  refine wp_seq ?_
  refine wp_cond_true rfl ?_
  refine wp_skip ?_
  show Code.wp _ _ _ _ _
  refine wp_seq ?_
  refine wp_block ?_
  refine wp_seq ?_
  refine wp_region_lit ?_
  refine st_mv (.int .i64 3) ?_
  simp only [nf0, nf1, nf2, nf3, nf4]
  refine st_value (v := (.pointer (some ⟨b19, (o20 + 1) + 3 * 1, none⟩))) (by rfl) (run_indexAddrN (.tmp 29) (.tmp 31) rfl Tryd.underlying42 slTx.sz (i := 3) rfl (by exact (congrArg (Value.int .i64) (show 3 = ((3 : Nat) : Int) by omega))) (by omega) w50) ?_
  simp only [nf0, nf1, nf2, nf3, nf4]
  refine st_value (v := (.string (str (tx ([a, b, c, d, g_].drop 1) 3)))) (by rfl) (run_load1 (.tmp 34) rfl Tryd.underlying9 rfl slTx.sz rfl (Reads.txAt R37 3 (by omega))) ?_
  simp only [nf0, nf1, nf2, nf3, nf4]
  refine st_mv (.int .i64 3) ?_
  simp only [nf0, nf1, nf2, nf3, nf4]
  refine st_mv (.string (str (tx ([a, b, c, d, g_].drop 1) 3))) ?_
  simp only [nf0, nf1, nf2, nf3, nf4]
  refine wpList_nil ?_
  show Code.wp _ _ _ _ _
  refine wp_region_lit ?_
  refine st_mv (.int .i64 3) ?_
  simp only [nf0, nf1, nf2, nf3, nf4]
  refine st_mv (.string (str (tx ([a, b, c, d, g_].drop 1) 3))) ?_
  simp only [nf0, nf1, nf2, nf3, nf4]
  refine st_call1 (v := (.int .i64 (numV (tx ([a, b, c, d, g_].drop 1) 3)))) (by rfl) (e_run_call_23_1 (.tmp 37) rfl rfl _) (number_calls (tx ([a, b, c, d, g_].drop 1) 3) (Nat.le_trans (hnl (tx ([a, b, c, d, g_].drop 1) 3) (by simp [tx])) (by omega)) w50) ?_
  intro w53 hb54
  simp only [nf0, nf1, nf2, nf3, nf4]
  replace B3 := B3.below hb54
  replace O8 := O8.same hb54
  replace R18 := R18.same hb54
  replace B52 := B52.below hb54
  replace R37 := R37.same hb54
  replace bel := bl_step bel hb54
  clear hb54
  refine st_value (v := (.pointer (some ⟨g29, 3, none⟩))) (by rfl) (run_indexArr (.tmp 7) (.tmp 36) rfl Tryd.underlying44 (sz := 1) (by kernel_rfl) (i := 3) (k' := 3) rfl rfl rfl (by rfl) (by omega) w53) ?_
  simp only [nf0, nf1, nf2, nf3, nf4]
  refine st_cell (v := (.int .i64 (numV (tx ([a, b, c, d, g_].drop 1) 3)))) (by rfl) (run_storeB (.tmp 39) (.tmp 38) rfl e_one_3 B52 (show 3 < 4 by decide) rfl rfl rfl rfl) B52 ?_
  intro w55 B57 hg56
  simp only [nf0, nf1, nf2, nf3, nf4]
  replace B3 := B3.kept hg56 n34
  replace O8 := O8.keptB hg56 n35
  replace bel := bl_kept0 bel hg56 lo33
  replace R18 := OwnR.rdE O8
  replace R37 := rd_cut O8
  clear hg56
  clear B52
  replace B57 : Blk w55 g29 #[.int .i64 (numV (tx ([a, b, c, d, g_].drop 1) 0)), .int .i64 (numV (tx ([a, b, c, d, g_].drop 1) 1)), .int .i64 (numV (tx ([a, b, c, d, g_].drop 1) 2)), .int .i64 (numV (tx ([a, b, c, d, g_].drop 1) 3))] 44 := B57
  refine wpList_nil ?_
  show Code.wp _ _ _ _ _
  refine wp_region_lit ?_
  refine st_value (v := (.int .i64 4)) (by rfl) (run_add_in (m := 3) (n := 1) (.tmp 31) (.const (.int .i64 1)) rfl rfl rfl (by omega) w55) ?_
  simp only [nf0, nf1, nf2, nf3, nf4]
  refine st_mv (.int .i64 4) ?_
  simp only [nf0, nf1, nf2, nf3, nf4]
  refine wpList_nil ?_
  show Code.wp _ _ _ _ _
  refine wp_seq ?_
  refine wp_region_lit ?_
  refine st_value (v := (.bool false)) (by rfl) ((run_lss (.tmp 31) (.tmp 30) rfl rfl rfl w55).trans (by rw [decide_eq_false (by omega)])) ?_
  simp only [nf0, nf1, nf2, nf3, nf4]
  refine wpList_nil ?_
  show Code.wp _ _ _ _ _
  refine wp_seq ?_
  refine wp_cond_false rfl ?_
  refine wp_exit ?_
  show Code.wp _ _ _ _ _
  refine wp_seq ?_
  refine wp_region_lit ?_
  refine st_mv (.int .i64 (kidx (tx [a, b, c, d, g_] 0))) ?_
  simp only [nf0, nf1, nf2, nf3, nf4]
  refine st_value (v := (.pointer (some ⟨g29, 0, none⟩))) (by rfl) (run_indexArr (.tmp 7) (.const (.int .i64 0)) rfl Tryd.underlying44 (sz := 1) (by kernel_rfl) (i := 0) (k' := 0) rfl rfl rfl (by rfl) (by omega) w55) ?_
  simp only [nf0, nf1, nf2, nf3, nf4]
  refine st_value (v := (.int .i64 (numV (tx ([a, b, c, d, g_].drop 1) 0)))) (by rfl) (run_loadB (.tmp 42) rfl e_one_3 rfl B57 rfl) ?_
  simp only [nf0, nf1, nf2, nf3, nf4]
  refine st_value (v := (.pointer (some ⟨g29, 1, none⟩))) (by rfl) (run_indexArr (.tmp 7) (.const (.int .i64 1)) rfl Tryd.underlying44 (sz := 1) (by kernel_rfl) (i := 1) (k' := 1) rfl rfl rfl (by rfl) (by omega) w55) ?_
  simp only [nf0, nf1, nf2, nf3, nf4]
  refine st_value (v := (.int .i64 (numV (tx ([a, b, c, d, g_].drop 1) 1)))) (by rfl) (run_loadB (.tmp 44) rfl e_one_3 rfl B57 rfl) ?_
  simp only [nf0, nf1, nf2, nf3, nf4]
  refine st_value (v := (.pointer (some ⟨g29, 2, none⟩))) (by rfl) (run_indexArr (.tmp 7) (.const (.int .i64 2)) rfl Tryd.underlying44 (sz := 1) (by kernel_rfl) (i := 2) (k' := 2) rfl rfl rfl (by rfl) (by omega) w55) ?_
  simp only [nf0, nf1, nf2, nf3, nf4]
  refine st_value (v := (.int .i64 (numV (tx ([a, b, c, d, g_].drop 1) 2)))) (by rfl) (run_loadB (.tmp 46) rfl e_one_3 rfl B57 rfl) ?_
  simp only [nf0, nf1, nf2, nf3, nf4]
  refine st_value (v := (.pointer (some ⟨g29, 3, none⟩))) (by rfl) (run_indexArr (.tmp 7) (.const (.int .i64 3)) rfl Tryd.underlying44 (sz := 1) (by kernel_rfl) (i := 3) (k' := 3) rfl rfl rfl (by rfl) (by omega) w55) ?_
  simp only [nf0, nf1, nf2, nf3, nf4]
  refine st_value (v := (.int .i64 (numV (tx ([a, b, c, d, g_].drop 1) 3)))) (by rfl) (run_loadB (.tmp 48) rfl e_one_3 rfl B57 rfl) ?_
  simp only [nf0, nf1, nf2, nf3, nf4]
  refine st_value (v := (.agg #[.int .i64 (kidx (tx [a, b, c, d, g_] 0)), .int .i64 (numV (tx ([a, b, c, d, g_].drop 1) 0)), .int .i64 (numV (tx ([a, b, c, d, g_].drop 1) 1)), .int .i64 (numV (tx ([a, b, c, d, g_].drop 1) 2)), .int .i64 (numV (tx ([a, b, c, d, g_].drop 1) 3))])) (by rfl) (run_buildV rfl (by kernel_rfl) w55) ?_
  simp only [nf0, nf1, nf2, nf3, nf4]
  refine st_new (cs := #[.int .i64 0, .int .i64 0, .int .i64 0, .int .i64 0, .int .i64 0]) (t := 23) (by rfl) (run_allocV rfl e_zero_23 _) ?_
  intro g58 w59 B60 hb61 lo62
  simp only [nf0, nf1, nf2, nf3, nf4]
  have n63 := B3.ne lo62
  have n64 := O8.off lo62
  have n65 := B57.ne lo62
  replace lo62 := low_le bel lo62
  replace B3 := B3.below hb61
  replace O8 := O8.same hb61
  replace R18 := R18.same hb61
  replace B57 := B57.below hb61
  replace R37 := R37.same hb61
  replace bel := bl_step bel hb61
  clear hb61
  refine st_row (by rfl) (run_storeW (.tmp 10) (.tmp 50) rfl (cs := #[.int .i64 (kidx (tx [a, b, c, d, g_] 0)), .int .i64 (numV (tx ([a, b, c, d, g_].drop 1) 0)), .int .i64 (numV (tx ([a, b, c, d, g_].drop 1) 1)), .int .i64 (numV (tx ([a, b, c, d, g_].drop 1) 2)), .int .i64 (numV (tx ([a, b, c, d, g_].drop 1) 3))]) aggEvt rfl rfl B60 rfl (by simp [Value.oneCell'])) B60 ?_
  intro w66 B68 hg67
  simp only [nf0, nf1, nf2, nf3, nf4]
  replace B3 := B3.kept hg67 n63
  replace O8 := O8.keptB hg67 n64
  replace B57 := B57.kept hg67 n65
  replace bel := bl_kept0 bel hg67 lo62
  replace R18 := OwnR.rdE O8
  replace R37 := rd_cut O8
  clear hg67
  clear B60
  refine wpList_nil ?_
  show Code.wp _ _ _ _ _
  refine wp_seq ?_
  refine wp_seq ?_
  have hpr := pE_read hpc hk0
  refine wp_region_lit ?_
  refine st_value (v := (.agg #[.int .i64 (kidx (tx [a, b, c, d, g_] 0)), .int .i64 (numV (tx ([a, b, c, d, g_].drop 1) 0)), .int .i64 (numV (tx ([a, b, c, d, g_].drop 1) 1)), .int .i64 (numV (tx ([a, b, c, d, g_].drop 1) 2)), .int .i64 (numV (tx ([a, b, c, d, g_].drop 1) 3))])) (by rfl) (run_loadW (.tmp 10) rfl (cs := #[.int .i64 (kidx (tx [a, b, c, d, g_] 0)), .int .i64 (numV (tx ([a, b, c, d, g_].drop 1) 0)), .int .i64 (numV (tx ([a, b, c, d, g_].drop 1) 1)), .int .i64 (numV (tx ([a, b, c, d, g_].drop 1) 2)), .int .i64 (numV (tx ([a, b, c, d, g_].drop 1) 3))]) aggEvt rfl B68) ?_
  simp only [nf0, nf1, nf2, nf3, nf4]
  refine st_call1 (v := (.string (str (prE ((kidx (tx [a, b, c, d, g_] 0), numV (tx ([a, b, c, d, g_].drop 1) 0), numV (tx ([a, b, c, d, g_].drop 1) 1), numV (tx ([a, b, c, d, g_].drop 1) 2), numV (tx ([a, b, c, d, g_].drop 1) 3)) : TEvt))))) (by rfl) (e_run_call_12_1 (.tmp 51) rfl rfl _) (print_calls ((kidx (tx [a, b, c, d, g_] 0), numV (tx ([a, b, c, d, g_].drop 1) 0), numV (tx ([a, b, c, d, g_].drop 1) 1), numV (tx ([a, b, c, d, g_].drop 1) 2), numV (tx ([a, b, c, d, g_].drop 1) 3)) : TEvt) (by unfold known at hkn; exact ⟨⟨by show _ ≤ kidx (tx [a, b, c, d, g_] 0); omega, by show kidx (tx [a, b, c, d, g_] 0) ≤ _; omega⟩, numV_I64 _, numV_I64 _, numV_I64 _, numV_I64 _⟩) w66) ?_
  intro w69 hb70
  simp only [nf0, nf1, nf2, nf3, nf4]
  replace B3 := B3.below hb70
  replace O8 := O8.same hb70
  replace R18 := R18.same hb70
  replace B57 := B57.below hb70
  replace R37 := R37.same hb70
  replace B68 := B68.below hb70
  replace bel := bl_step bel hb70
  clear hb70
  refine st_mv (.string (str l)) ?_
  simp only [nf0, nf1, nf2, nf3, nf4]
  refine st_value (v := (.bool (!decide ((prE ((kidx (tx [a, b, c, d, g_] 0), numV (tx ([a, b, c, d, g_].drop 1) 0), numV (tx ([a, b, c, d, g_].drop 1) 1), numV (tx ([a, b, c, d, g_].drop 1) 2), numV (tx ([a, b, c, d, g_].drop 1) 3)) : TEvt)) = l)))) (by rfl) (run_neq_text (.tmp 52) (.tmp 53) (l := (prE ((kidx (tx [a, b, c, d, g_] 0), numV (tx ([a, b, c, d, g_].drop 1) 0), numV (tx ([a, b, c, d, g_].drop 1) 1), numV (tx ([a, b, c, d, g_].drop 1) 2), numV (tx ([a, b, c, d, g_].drop 1) 3)) : TEvt))) (m := l) rfl rfl rfl w69) ?_
  simp only [nf0, nf1, nf2, nf3, nf4]
  refine wpList_nil ?_
  show Code.wp _ _ _ _ _
  cases hg71 : decide ((prE ((kidx (tx [a, b, c, d, g_] 0), numV (tx ([a, b, c, d, g_].drop 1) 0), numV (tx ([a, b, c, d, g_].drop 1) 1), numV (tx ([a, b, c, d, g_].drop 1) 2), numV (tx ([a, b, c, d, g_].drop 1) 3)) : TEvt)) = l)
  · have hp72 := of_decide_eq_false hg71
    refine wp_cond_true rfl ?_
    refine wp_seq ?_
    refine wp_region_lit ?_
    refine st_value (v := (.agg #[.int .i64 0, .int .i64 0, .int .i64 0, .int .i64 0, .int .i64 0])) (by rfl) (run_buildV rfl (by kernel_rfl) w69) ?_
    simp only [nf0, nf1, nf2, nf3, nf4]
    refine st_row (by rfl) (run_storeW (.tmp 2) (.tmp 55) rfl (cs := #[.int .i64 0, .int .i64 0, .int .i64 0, .int .i64 0, .int .i64 0]) aggEvt rfl rfl B3 rfl (by simp [Value.oneCell'])) B3 ?_
    intro w73 B75 hg74
    simp only [nf0, nf1, nf2, nf3, nf4]
    replace O8 := O8.keptB hg74 n11
    replace B57 := B57.kept hg74 n34.symm
    replace B68 := B68.kept hg74 n63.symm
    replace bel := bl_kept0 bel hg74 lo5
    replace R18 := OwnR.rdE O8
    replace R37 := rd_cut O8
    clear hg74
    clear B3
    refine st_mv (.bool false) ?_
    simp only [nf0, nf1, nf2, nf3, nf4]
    refine wpList_nil ?_
    show Code.wp _ _ _ _ _
    refine wp_ret ?_
    first | show bodyPost _ _ _ _ _ _ | (simp only [Exit.then, Exit.inBlock]; show bodyPost _ _ _ _ _ _)
    have hE : pE l = ((0, 0, 0, 0, 0), false) := by rw [hpr]; exact if_neg (by assumption)
    exact bodyPost_ret (results_agg1t rfl (cs := #[.int .i64 0, .int .i64 0, .int .i64 0, .int .i64 0, .int .i64 0]) aggEvt (by rfl) B75) rfl ⟨by rw [hE]; rfl, bel⟩
  have hp76 := of_decide_eq_true hg71
  refine wp_cond_false rfl ?_
  refine wp_skip ?_
  show Code.wp _ _ _ _ _
  refine wp_seq ?_
  refine wp_region_lit ?_
  refine st_value (v := (.agg #[.int .i64 (kidx (tx [a, b, c, d, g_] 0)), .int .i64 (numV (tx ([a, b, c, d, g_].drop 1) 0)), .int .i64 (numV (tx ([a, b, c, d, g_].drop 1) 1)), .int .i64 (numV (tx ([a, b, c, d, g_].drop 1) 2)), .int .i64 (numV (tx ([a, b, c, d, g_].drop 1) 3))])) (by rfl) (run_loadW (.tmp 10) rfl (cs := #[.int .i64 (kidx (tx [a, b, c, d, g_] 0)), .int .i64 (numV (tx ([a, b, c, d, g_].drop 1) 0)), .int .i64 (numV (tx ([a, b, c, d, g_].drop 1) 1)), .int .i64 (numV (tx ([a, b, c, d, g_].drop 1) 2)), .int .i64 (numV (tx ([a, b, c, d, g_].drop 1) 3))]) aggEvt rfl B68) ?_
  simp only [nf0, nf1, nf2, nf3, nf4]
  refine st_row (by rfl) (run_storeW (.tmp 2) (.tmp 56) rfl (cs := #[.int .i64 (kidx (tx [a, b, c, d, g_] 0)), .int .i64 (numV (tx ([a, b, c, d, g_].drop 1) 0)), .int .i64 (numV (tx ([a, b, c, d, g_].drop 1) 1)), .int .i64 (numV (tx ([a, b, c, d, g_].drop 1) 2)), .int .i64 (numV (tx ([a, b, c, d, g_].drop 1) 3))]) aggEvt rfl rfl B3 rfl (by simp [Value.oneCell'])) B3 ?_
  intro w77 B79 hg78
  simp only [nf0, nf1, nf2, nf3, nf4]
  replace O8 := O8.keptB hg78 n11
  replace B57 := B57.kept hg78 n34.symm
  replace B68 := B68.kept hg78 n63.symm
  replace bel := bl_kept0 bel hg78 lo5
  replace R18 := OwnR.rdE O8
  replace R37 := rd_cut O8
  clear hg78
  clear B3
  refine st_mv (.bool true) ?_
  simp only [nf0, nf1, nf2, nf3, nf4]
  refine wpList_nil ?_
  show Code.wp _ _ _ _ _
  refine wp_ret ?_
  first | show bodyPost _ _ _ _ _ _ | (simp only [Exit.then, Exit.inBlock]; show bodyPost _ _ _ _ _ _)
  have hE : pE l = (((kidx (tx [a, b, c, d, g_] 0), numV (tx ([a, b, c, d, g_].drop 1) 0), numV (tx ([a, b, c, d, g_].drop 1) 1), numV (tx ([a, b, c, d, g_].drop 1) 2), numV (tx ([a, b, c, d, g_].drop 1) 3)) : TEvt), true) := by rw [hpr]; exact if_pos (by assumption)
  exact bodyPost_ret (results_agg1t rfl (cs := #[.int .i64 (kidx (tx [a, b, c, d, g_] 0)), .int .i64 (numV (tx ([a, b, c, d, g_].drop 1) 0)), .int .i64 (numV (tx ([a, b, c, d, g_].drop 1) 1)), .int .i64 (numV (tx ([a, b, c, d, g_].drop 1) 2)), .int .i64 (numV (tx ([a, b, c, d, g_].drop 1) 3))]) aggEvt (by rfl) B79) rfl ⟨by rw [hE]; rfl, bel⟩
set_option maxRecDepth 100000 in
set_option maxHeartbeats 4000000 in
theorem parse_other {l : List UInt8} (h5 : (pieces 32 l).length ≠ 5) (hl : l.length ≤ 100000) (w : World) : Calls Tryd.prog 8 #[.string (str l)] w fun e w' => e = .returned (.tuple #[.agg (eEvt.enc (pE l).1).toArray, .bool (pE l).2]) ∧ Below w.heap.size w w' := by
  have bel : Below w.heap.size w w := Below.refl _ _
  have hpl := pieces_len 32 l
  go_enter Tryd.func8, Tryd.ntmps8
  refine wp_seq ?_
  refine wp_region_lit ?_
  refine st_new (cs := #[.int .i64 0, .int .i64 0, .int .i64 0, .int .i64 0, .int .i64 0]) (t := 23) (by rfl) (run_allocV rfl e_zero_23 _) ?_
  intro g1 w2 B3 hb4 lo5
  simp only [nf0, nf1, nf2, nf3, nf4]
  replace lo5 := low_le bel lo5
  replace bel := bl_step bel hb4
  clear hb4
  refine st_mv (.bool false) ?_
  simp only [nf0, nf1, nf2, nf3, nf4]
  refine wpList_nil ?_
  show Code.wp _ _ _ _ _
  refine wp_seq ?_
  refine wp_region_lit ?_
  refine st_mv (.string (str l)) ?_
  simp only [nf0, nf1, nf2, nf3, nf4]
  refine st_call (by rfl) (e_run_call_22_2 (.tmp 11) (.const (.string ⟨#[32]⟩)) rfl rfl rfl _) (splits_calls l 32 (by omega) w2) ?_
  rintro v6 w8 ⟨O7, hf9⟩
  simp only [nf0, nf1, nf2, nf3, nf4]
  have n10 := O7.offLow B3
  have O7_ := fun k hk => (O7.lt k hk).1
  replace O7 := O7.lower bel.size
  replace B3 := B3.below hf9
  replace bel := bl_step bel hf9
  clear hf9
  refine st_mv v6 ?_
  simp only [nf0, nf1, nf2, nf3, nf4]
  refine wpList_nil ?_
  show Code.wp _ _ _ _ _
  refine wp_seq ?_
  obtain ⟨A11, c12, hv13, h14, h15, h16, R17⟩ := O7.reads
  subst hv13
  obtain ⟨b18, o19, rfl, _⟩ := R17.at_ (by rw [Enc.all_length]; exact Nat.mul_pos (by omega) (by decide))
  refine wp_region_lit ?_
  refine st_mv (.slice (some ⟨b18, o19, none⟩) (pieces 32 l).length c12) ?_
  simp only [nf0, nf1, nf2, nf3, nf4]
  refine st_value (v := (.pointer (some ⟨b18, o19 + 0 * 1, none⟩))) (by rfl) (run_indexAddrN (.tmp 14) (.const (.int .i64 0)) rfl Tryd.underlying42 slTx.sz (i := 0) rfl (by exact (congrArg (Value.int .i64) (show 0 = ((0 : Nat) : Int) by omega))) (by omega) w8) ?_
  simp only [nf0, nf1, nf2, nf3, nf4]
  refine st_value (v := (.string (str (tx (pieces 32 l) 0)))) (by rfl) (run_load1 (.tmp 15) rfl Tryd.underlying9 rfl slTx.sz rfl (Reads.txAt R17 0 (by omega))) ?_
  simp only [nf0, nf1, nf2, nf3, nf4]
  refine st_call1 (v := (.tuple #[.int .i64 (max (kidx (tx (pieces 32 l) 0)) 0), .bool (decide (0 < kidx (tx (pieces 32 l) 0)))])) (by rfl) (e_run_call_10_1 (.tmp 16) rfl rfl _) (kind_calls (tx (pieces 32 l) 0) w8) ?_
  intro w20 hb21
  simp only [nf0, nf1, nf2, nf3, nf4]
  replace B3 := B3.below hb21
  replace O7 := O7.same hb21
  replace R17 := R17.same hb21
  replace bel := bl_step bel hb21
  clear hb21
  refine st_mv (.tuple #[.int .i64 (max (kidx (tx (pieces 32 l) 0)) 0), .bool (decide (0 < kidx (tx (pieces 32 l) 0)))]) ?_
  simp only [nf0, nf1, nf2, nf3, nf4]
  refine st_mv (.int .i64 (max (kidx (tx (pieces 32 l) 0)) 0)) ?_
  simp only [nf0, nf1, nf2, nf3, nf4]
  refine st_mv (.bool (decide (0 < kidx (tx (pieces 32 l) 0)))) ?_
  simp only [nf0, nf1, nf2, nf3, nf4]
  refine st_mv (.int .i64 (max (kidx (tx (pieces 32 l) 0)) 0)) ?_
  simp only [nf0, nf1, nf2, nf3, nf4]
  refine st_mv (.bool (decide (0 < kidx (tx (pieces 32 l) 0)))) ?_
  simp only [nf0, nf1, nf2, nf3, nf4]
  refine wpList_nil ?_
  show Code.wp _ _ _ _ _
  refine wp_seq ?_
  refine wp_seq ?_
  cases hg22 : decide (0 < kidx (tx (pieces 32 l) 0))
  · have hp23 := of_decide_eq_false hg22
    refine wp_region_lit ?_
    refine st_mv (.bool false) ?_
    simp only [nf0, nf1, nf2, nf3, nf4]
    refine st_value (v := (.bool true)) (by rfl) (run_not (.tmp 20) rfl (b := false) rfl w20) ?_
    simp only [nf0, nf1, nf2, nf3, nf4]
    refine st_mv (.bool true) ?_
    simp only [nf0, nf1, nf2, nf3, nf4]
    refine st_nob (j := 2) (t := 22) (c := true) rfl rfl rfl rfl rfl ?_
    simp only [nf0, nf1, nf2, nf3, nf4]
    refine st_nob (j := 2) (t := 22) (c := true) rfl rfl rfl rfl rfl ?_
    simp only [nf0, nf1, nf2, nf3, nf4]
    refine st_nob (j := 2) (t := 22) (c := true) rfl rfl rfl rfl rfl ?_
    simp only [nf0, nf1, nf2, nf3, nf4]
    refine st_mv (.bool true) ?_
    simp only [nf0, nf1, nf2, nf3, nf4]
    refine wpList_nil ?_
    show Code.wp _ _ _ _ _
    refine wp_cond_true rfl ?_
    refine wp_seq ?_
    refine wp_region_lit ?_
    refine st_value (v := (.agg #[.int .i64 0, .int .i64 0, .int .i64 0, .int .i64 0, .int .i64 0])) (by rfl) (run_buildV rfl (by kernel_rfl) w20) ?_
    simp only [nf0, nf1, nf2, nf3, nf4]
    refine st_row (by rfl) (run_storeW (.tmp 2) (.tmp 27) rfl (cs := #[.int .i64 0, .int .i64 0, .int .i64 0, .int .i64 0, .int .i64 0]) aggEvt rfl rfl B3 rfl (by simp [Value.oneCell'])) B3 ?_
    intro w24 B26 hg25
    simp only [nf0, nf1, nf2, nf3, nf4]
    replace O7 := O7.keptB hg25 n10
    replace bel := bl_kept0 bel hg25 lo5
    replace R17 := OwnR.rdE O7
    clear hg25
    clear B3
    refine st_mv (.bool false) ?_
    simp only [nf0, nf1, nf2, nf3, nf4]
    refine wpList_nil ?_
    show Code.wp _ _ _ _ _
    refine wp_ret ?_
    first | show bodyPost _ _ _ _ _ _ | (simp only [Exit.then, Exit.inBlock]; show bodyPost _ _ _ _ _ _)
    have hE := pE_five h5
    exact bodyPost_ret (results_agg1t rfl (cs := #[.int .i64 0, .int .i64 0, .int .i64 0, .int .i64 0, .int .i64 0]) aggEvt (by rfl) B26) rfl ⟨by rw [hE]; rfl, bel⟩
  have hp27 := of_decide_eq_true hg22
  refine wp_region_lit ?_
  refine st_mv (.bool true) ?_
  simp only [nf0, nf1, nf2, nf3, nf4]
  refine st_value (v := (.bool false)) (by rfl) (run_not (.tmp 20) rfl (b := true) rfl w20) ?_
  simp only [nf0, nf1, nf2, nf3, nf4]
  refine st_mv (.bool false) ?_
  simp only [nf0, nf1, nf2, nf3, nf4]
  refine st_mv (.slice (some ⟨b18, o19, none⟩) (pieces 32 l).length c12) ?_
  simp only [nf0, nf1, nf2, nf3, nf4]
  refine st_value (v := (.int .i64 ((pieces 32 l).length : Int))) (by rfl) (run_len (.tmp 23) rfl ⟨_, Tryd.underlying42⟩ rfl w20) ?_
  simp only [nf0, nf1, nf2, nf3, nf4]
  refine st_value (v := (.bool true)) (by rfl) ((run_neq_int (.tmp 24) (.const (.int .i64 5)) rfl rfl rfl w20).trans (by rw [decide_eq_false (by omega)]; rfl)) ?_
  simp only [nf0, nf1, nf2, nf3, nf4]
  refine st_mv (.bool true) ?_
  simp only [nf0, nf1, nf2, nf3, nf4]
  refine wpList_nil ?_
  show Code.wp _ _ _ _ _
  refine wp_cond_true rfl ?_
  refine wp_seq ?_
  refine wp_region_lit ?_
  refine st_value (v := (.agg #[.int .i64 0, .int .i64 0, .int .i64 0, .int .i64 0, .int .i64 0])) (by rfl) (run_buildV rfl (by kernel_rfl) w20) ?_
  simp only [nf0, nf1, nf2, nf3, nf4]
  refine st_row (by rfl) (run_storeW (.tmp 2) (.tmp 27) rfl (cs := #[.int .i64 0, .int .i64 0, .int .i64 0, .int .i64 0, .int .i64 0]) aggEvt rfl rfl B3 rfl (by simp [Value.oneCell'])) B3 ?_
  intro w28 B30 hg29
  simp only [nf0, nf1, nf2, nf3, nf4]
  replace O7 := O7.keptB hg29 n10
  replace bel := bl_kept0 bel hg29 lo5
  replace R17 := OwnR.rdE O7
  clear hg29
  clear B3
  refine st_mv (.bool false) ?_
  simp only [nf0, nf1, nf2, nf3, nf4]
  refine wpList_nil ?_
  show Code.wp _ _ _ _ _
  refine wp_ret ?_
  first | show bodyPost _ _ _ _ _ _ | (simp only [Exit.then, Exit.inBlock]; show bodyPost _ _ _ _ _ _)
  have hE := pE_five h5
  exact bodyPost_ret (results_agg1t rfl (cs := #[.int .i64 0, .int .i64 0, .int .i64 0, .int .i64 0, .int .i64 0]) aggEvt (by rfl) B30) rfl ⟨by rw [hE]; rfl, bel⟩
theorem parse_calls (l : List UInt8) (hl : l.length ≤ 100000) (w : World) : Calls Tryd.prog 8 #[.string (str l)] w fun e w' => e = .returned (.tuple #[.agg (eEvt.enc (pE l).1).toArray, .bool (pE l).2]) ∧ Below w.heap.size w w' := by
  by_cases h : (pieces 32 l).length = 5
  · obtain ⟨a, b, c, d, g, hpc⟩ := len5 h
    exact parse_five hpc hl w
  · exact parse_other h hl w
end Go.Proofs.YtmfdcgocfofokaaDoor

/- The document's reading of a line, name by name; lines of a text. -/
namespace Go.Proofs.YtmfdcgocfofokaaDoor
open Go.RowKit Go.WideShapes Go.ChangeShapes

def tails : List Int → List UInt8
  | [] => []
  | n :: r => 32 :: (tdecI n ++ tails r)
theorem tails_head (r : List Int) : tails r = [] ∨ (tails r).head? = some 32 := by
  cases r with
  | nil => exact .inl rfl
  | cons n r => exact .inr rfl
theorem prE_tails (e : TEvt) : prE e = nm e.1 ++ tails [e.2.1, e.2.2.1, e.2.2.2.1, e.2.2.2.2] := by
  simp [prE, tails]
def I64L (r : List Int) : Prop := ∀ n ∈ r, -9223372036854775808 ≤ n ∧ n ≤ 9223372036854775807
/-- So far as a line of the kind k has been read: behind the place at stands what is left. -/
def Mt (l : List UInt8) (k : Int) (at_ : Nat) (zs : List Int) : Prop := ∀ e, okEv e → e.1 = k → prE e = l → ∃ r, l.drop at_ = tails r ∧ [e.2.1, e.2.2.1, e.2.2.2.1, e.2.2.2.2] = zs ++ r
theorem mt_start (l : List UInt8) (k : Int) : Mt l k (nm k).length [] := by
  intro e _ hk hl
  refine ⟨_, ?_, rfl⟩
  subst hk hl
  rw [prE_tails, List.drop_left]
theorem mt_next {l : List UInt8} {k : Int} {at_ q : Nat} {zs : List Int} {z : Int} (h : Mt l k at_ zs) (hz : zs.length < 4) (hq : rnum (l.drop (at_ + 1)) = (z, q)) : Mt l k (at_ + (1 + q)) (zs ++ [z]) := by
  intro e he hk hl
  obtain ⟨r, h1, h2⟩ := h e he hk hl
  cases r with
  | nil =>
    have := congrArg List.length h2
    rw [List.append_nil] at this
    simp at this
    omega
  | cons x r =>
    have hx : -9223372036854775808 ≤ x ∧ x ≤ 9223372036854775807 := by
      have hm : x ∈ [e.2.1, e.2.2.1, e.2.2.2.1, e.2.2.2.2] := by rw [h2]; simp
      simp only [List.mem_cons, List.not_mem_nil, or_false] at hm
      rcases hm with rfl | rfl | rfl | rfl
      · exact he.2.2.1
      · exact he.2.2.2.1
      · exact he.2.2.2.2.1
      · exact he.2.2.2.2.2
    have e1 : l.drop (at_ + 1) = tdecI x ++ tails r := by
      rw [← List.drop_drop, h1]; rfl
    rw [e1, rnum_dec hx (tails_head r)] at hq
    injection hq with hq1 hq2
    subst hq1 hq2
    refine ⟨r, ?_, by rw [h2, List.append_assoc]; rfl⟩
    rw [← Nat.add_assoc, ← List.drop_drop, e1, List.drop_left]
theorem mt_break {l : List UInt8} {k : Int} {at_ : Nat} {zs : List Int} (h : Mt l k at_ zs) (hz : zs.length < 4) (hl : l.length ≤ at_) : ∀ e, okEv e → e.1 = k → prE e ≠ l := by
  intro e he hk he2
  obtain ⟨r, h1, h2⟩ := h e he hk he2
  rw [List.drop_of_length_le hl] at h1
  cases r with
  | nil =>
    have := congrArg List.length h2
    rw [List.append_nil] at this
    simp at this
    omega
  | cons x r => cases h1
theorem mt_end {l : List UInt8} {k : Int} {at_ : Nat} {z1 z2 z3 z4 : Int} (h : Mt l k at_ [z1, z2, z3, z4]) (hn : prE (k, z1, z2, z3, z4) ≠ l) : ∀ e, okEv e → e.1 = k → prE e ≠ l := by
  intro e he hk he2
  obtain ⟨r, h1, h2⟩ := h e he hk he2
  simp only [List.cons_append, List.nil_append, List.cons.injEq] at h2
  obtain ⟨a, b, c, d, _⟩ := h2
  refine hn ?_
  rw [← he2]
  congr 1
  exact Prod.ext hk.symm (Prod.ext a.symm (Prod.ext b.symm (Prod.ext c.symm d.symm)))
theorem mt_pre {l : List UInt8} {k : Int} (h : ¬ ((nm k).length ≤ l.length ∧ l.take (nm k).length = nm k)) : ∀ e, okEv e → e.1 = k → prE e ≠ l := by
  intro e _ hk hl
  refine h ?_
  subst hk hl
  rw [prE_tails]
  exact ⟨by rw [List.length_append]; omega, List.take_left⟩
theorem past {l : List UInt8} {k : Nat} (h : ∀ e, okEv e → prE e = l → (k : Int) ≤ e.1) (h2 : ∀ e, okEv e → e.1 = (k : Int) → prE e ≠ l) : ∀ e, okEv e → prE e = l → ((k + 1 : Nat) : Int) ≤ e.1 := by
  intro e he hl
  have h3 := h e he hl
  have h4 : e.1 ≠ (k : Int) := fun hk => h2 e he hk hl
  omega

/-! ### the lines of a text -/
/-- What the reading of lines yields: the events, or the first line that is wrong. -/
noncomputable def goL : List (List UInt8) → Nat → List TEvt → List TEvt × Int
  | [], _, acc => (acc, 0)
  | [t], i, acc => if t = [] then (acc, 0) else ([], (i : Int) + 1)
  | t :: u :: r, i, acc => if (pE t).2 = true then goL (u :: r) (i + 1) (acc ++ [(pE t).1]) else ([], (i : Int) + 1)
noncomputable def paA (l : List UInt8) : List TEvt × Int := goL (pieces 10 l) 0 []
/-- The text of a row of events. -/
def prA (xs : List TEvt) : List UInt8 := xs.flatMap fun e => prE e ++ [10]
theorem prA_cons (e : TEvt) (xs : List TEvt) : prA (e :: xs) = prE e ++ 10 :: prA xs := by simp [prA]
theorem prA_snoc (xs : List TEvt) (e : TEvt) : prA (xs ++ [e]) = prA xs ++ (prE e ++ [10]) := by simp [prA]
theorem prA_pieces : ∀ xs : List TEvt, pieces 10 (prA xs) = xs.map prE ++ [[]]
  | [] => rfl
  | e :: xs => by rw [prA_cons, pieces_app _ (prE_no10 e), prA_pieces xs]; rfl
theorem prA_len {xs : List TEvt} (h : ∀ e ∈ xs, okEvt e) : (prA xs).length ≤ 93 * xs.length := by
  induction xs with
  | nil => exact Nat.le_refl _
  | cons e xs ih =>
    have h1 := prE_len (h e List.mem_cons_self)
    have h2 := ih fun x hx => h x (List.mem_cons_of_mem _ hx)
    rw [prA_cons, List.length_append, List.length_cons, List.length_cons]
    omega
theorem goL_all : ∀ (xs : List TEvt) (i : Nat) (acc : List TEvt), (∀ e ∈ xs, okEv e) → goL (xs.map prE ++ [[]]) i acc = (acc ++ xs, 0)
  | [], i, acc, _ => by rw [List.map_nil, List.nil_append, goL, if_pos rfl, List.append_nil]
  | e :: xs, i, acc, h => by
    obtain ⟨u, r, hu⟩ : ∃ u r, xs.map prE ++ [[]] = u :: r := by cases hx : xs.map prE with | nil => exact ⟨_, _, rfl⟩ | cons a b => exact ⟨_, _, rfl⟩
    rw [List.map_cons, List.cons_append, hu, goL, pE_yes (h e List.mem_cons_self) rfl, if_pos rfl, ← hu, goL_all xs _ _ (fun x hx => h x (List.mem_cons_of_mem _ hx))]
    simp
theorem paA_all {xs : List TEvt} (h : ∀ e ∈ xs, okEv e) : paA (prA xs) = (xs, 0) := by
  rw [paA, prA_pieces, goL_all xs 0 [] h, List.nil_append]
theorem pE_unknown {e : TEvt} (h : ¬ known e.1) : (pE (prE e)).2 = false := by
  rw [pE_no]
  intro f hf hl
  have := (prE_fields hl).1
  rw [nm_unknown h] at this
  exact (nm_known hf.1).1 this
theorem goL_bad : ∀ (xs : List TEvt) (i : Nat) (acc : List TEvt), (∀ e ∈ xs, okEvt e) → (∃ e ∈ xs, ¬ known e.1) → (goL (xs.map prE ++ [[]]) i acc).2 ≠ 0
  | [], i, acc, _, h => by obtain ⟨e, h, _⟩ := h; cases h
  | e :: xs, i, acc, hI, h => by
    obtain ⟨u, r, hu⟩ : ∃ u r, xs.map prE ++ [[]] = u :: r := by cases hx : xs.map prE with | nil => exact ⟨_, _, rfl⟩ | cons a b => exact ⟨_, _, rfl⟩
    rw [List.map_cons, List.cons_append, hu, goL]
    by_cases hk : known e.1
    · rw [pE_yes ⟨hk, hI e List.mem_cons_self⟩ rfl, if_pos rfl, ← hu]
      refine goL_bad xs _ _ (fun x hx => hI x (List.mem_cons_of_mem _ hx)) ?_
      obtain ⟨f, hf, hfk⟩ := h
      rcases List.mem_cons.1 hf with rfl | hf
      · exact absurd hk hfk
      · exact ⟨f, hf, hfk⟩
    · rw [if_neg (by rw [pE_unknown hk]; decide)]
      show (i : Int) + 1 ≠ 0
      omega
theorem paA_bad {xs : List TEvt} (hI : ∀ e ∈ xs, okEvt e) (h : ∃ e ∈ xs, ¬ known e.1) : (paA (prA xs)).2 ≠ 0 := by
  rw [paA, prA_pieces]
  exact goL_bad xs 0 [] hI h
theorem goL_ok : ∀ (ts : List (List UInt8)) (i : Nat) (acc : List TEvt), (∀ e ∈ acc, okEvt e) → (∀ e ∈ (goL ts i acc).1, okEvt e) ∧ (goL ts i acc).1.length ≤ acc.length + ts.length
  | [], i, acc, h => ⟨h, Nat.le_add_right _ _⟩
  | [t], i, acc, h => by
    rw [goL]
    split
    · exact ⟨h, Nat.le_add_right _ _⟩
    · exact ⟨fun e he => (by cases he), Nat.zero_le _⟩
  | t :: u :: r, i, acc, h => by
    rw [goL]
    split
    · have ih := goL_ok (u :: r) (i + 1) (acc ++ [(pE t).1]) (fun e he => by
        rcases List.mem_append.1 he with he | he
        · exact h e he
        · rw [List.mem_singleton] at he; subst he; exact pE_I64 t)
      refine ⟨ih.1, ?_⟩
      have := ih.2
      simp only [List.length_append, List.length_cons, List.length_nil] at this ⊢
      omega
    · exact ⟨fun e he => (by cases he), Nat.zero_le _⟩
theorem paA_ok (l : List UInt8) : (∀ e ∈ (paA l).1, okEvt e) ∧ (paA l).1.length ≤ l.length + 1 := by
  have h := goL_ok (pieces 10 l) 0 [] (fun e he => by cases he)
  have h2 := pieces_len 10 l
  have h3 : l.count 10 ≤ l.length := List.count_le_length
  refine ⟨h.1, ?_⟩
  have := h.2
  unfold paA
  simp only [List.length_nil] at this
  omega
end Go.Proofs.YtmfdcgocfofokaaDoor

/- What the document reads of a line. -/
namespace Go.Proofs.YtmfdcgocfofokaaDoor
open Go.RowKit Go.WideShapes Go.ChangeShapes
set_option linter.unusedSimpArgs false
set_option linter.unusedVariables false

theorem f_zero_23 : ZeroOf Tryd.prog 23 #[.int .i64 0, .int .i64 0, .int .i64 0, .int .i64 0, .int .i64 0] := zeroOf (z := .agg #[.int .i64 0, .int .i64 0, .int .i64 0, .int .i64 0, .int .i64 0]) (by kernel_rfl) rfl
theorem f_fld_23_1 : FieldAt Tryd.prog 23 1 1 := fieldAt_of (s := 0) Tryd.underlying23 (by kernel_rfl)
theorem f_one_3 : One Tryd.prog 3 := one_of Tryd.underlying3 rfl (by kernel_rfl)
theorem f_fld_23_2 : FieldAt Tryd.prog 23 2 2 := fieldAt_of (s := 0) Tryd.underlying23 (by kernel_rfl)
theorem f_fld_23_3 : FieldAt Tryd.prog 23 3 3 := fieldAt_of (s := 0) Tryd.underlying23 (by kernel_rfl)
theorem f_fld_23_4 : FieldAt Tryd.prog 23 4 4 := fieldAt_of (s := 0) Tryd.underlying23 (by kernel_rfl)
theorem f_run_call_11_1 {o : Oper} {a : Act} (x0 : Operand) {ts : Array TypeId} (ho : o.op = .call { callee := .value (.func 11), args := #[x0], argTypes := ts }) {v0 : Value} (h0 : a.eval x0 = v0) (W : World) : (execOp a.eval o).run Tryd.prog W = .ok (.enter 11 #[v0]) W := by
  unfold execOp
  simp only [ho]
  subst h0
  go_simp
theorem f_run_call_13_1 {o : Oper} {a : Act} (x0 : Operand) {ts : Array TypeId} (ho : o.op = .call { callee := .value (.func 13), args := #[x0], argTypes := ts }) {v0 : Value} (h0 : a.eval x0 = v0) (W : World) : (execOp a.eval o).run Tryd.prog W = .ok (.enter 13 #[v0]) W := by
  unfold execOp
  simp only [ho]
  subst h0
  go_simp
theorem f_run_call_24_1 {o : Oper} {a : Act} (x0 : Operand) {ts : Array TypeId} (ho : o.op = .call { callee := .value (.func 24), args := #[x0], argTypes := ts }) {v0 : Value} (h0 : a.eval x0 = v0) (W : World) : (execOp a.eval o).run Tryd.prog W = .ok (.enter 24 #[v0]) W := by
  unfold execOp
  simp only [ho]
  subst h0
  go_simp
theorem zero64 : -9223372036854775808 ≤ (0 : Int) ∧ (0 : Int) ≤ 9223372036854775807 := by omega

attribute [local irreducible] Go.wpList Go.Code.wp
set_option maxRecDepth 100000 in
set_option maxHeartbeats 4000000 in
theorem refParse_calls (l : List UInt8) (hl : l.length ≤ 100000) (w : World) : Calls Tryd.prog 9 #[.string (str l)] w fun e w' => e = .returned (.tuple #[.agg (eEvt.enc (pE l).1).toArray, .bool (pE l).2]) ∧ Below w.heap.size w w' := by
  have bel : Below w.heap.size w w := Below.refl _ _
  go_enter Tryd.func9, Tryd.ntmps9
  refine wp_seq ?_
  refine wp_region_lit ?_
  refine st_new (cs := #[.int .i64 0, .int .i64 0, .int .i64 0, .int .i64 0, .int .i64 0]) (t := 23) (by rfl) (run_allocV rfl f_zero_23 _) ?_
  intro g1 w2 B3 hb4 lo5
  simp only [nf0, nf1, nf2, nf3, nf4]
  replace lo5 := low_le bel lo5
  replace bel := bl_step bel hb4
  clear hb4
  refine st_mv (.bool false) ?_
  simp only [nf0, nf1, nf2, nf3, nf4]
  refine wpList_nil ?_
  show Code.wp _ _ _ _ _
  refine wp_seq ?_
  refine wp_seq ?_
  refine wp_region_lit ?_
  refine st_mv (.int .i64 1) ?_
  simp only [nf0, nf1, nf2, nf3, nf4]
  refine wpList_nil ?_
  show Code.wp _ _ _ _ _
  refine wp_block ?_
  refine wp_loop_left (fun n_ a_ wr_ => (fun J6 => ∃ (k : Nat), n_ = 22 - k ∧ a_ = ⟨#[.string (str l), J6 1, .pointer (some ⟨g1, 0, none⟩), J6 3, .int .i64 (k : Int), J6 5, J6 6, J6 7, J6 8, J6 9, J6 10, J6 11, J6 12, J6 13, J6 14, J6 15, J6 16, J6 17, J6 18, J6 19, J6 20, J6 21, J6 22, J6 23, J6 24, J6 25, J6 26, J6 27, J6 28, J6 29, J6 30, J6 31, J6 32, J6 33, J6 34, J6 35, J6 36, J6 37, J6 38, J6 39, J6 40, J6 41, J6 42, J6 43, J6 44, J6 45, J6 46, J6 47, J6 48, J6 49, J6 50, J6 51, J6 52, J6 53, J6 54, J6 55, J6 56, J6 57, J6 58, J6 59, J6 60, J6 61, J6 62, J6 63, J6 64, J6 65, J6 66, J6 67, J6 68, J6 69, J6 70, J6 71, J6 72, J6 73, J6 74], []⟩ ∧ Blk wr_ g1 #[.int .i64 0, .int .i64 0, .int .i64 0, .int .i64 0, .int .i64 0] 23 ∧ Below w.heap.size w wr_ ∧ (1 ≤ k ∧ k ≤ 22) ∧ (∀ e, okEv e → prE e = l → (k : Int) ≤ e.1)) (jk a_)) (22 - 1) ⟨1, rfl, rfl, B3, bel, (by omega), (fun e he _ => he.1.1)⟩ ?_
  clear B3
  clear bel
  intro n_ a_ w7 h_
  revert h_
  generalize jk a_ = J6
  rintro ⟨k, hms, rfl, B3, bel, hk, hN⟩
  have hnl := nm_len (k : Int)
  have hm0 := mt_start l (k : Int)
  refine wp_seq ?_
  refine wp_seq ?_
  refine wp_region_lit ?_
  refine st_mv (.int .i64 (k : Int)) ?_
  simp only [nf0, nf1, nf2, nf3, nf4]
  refine st_value (v := (.bool (decide ((k : Int) ≤ 21)))) (by rfl) (run_leq (.tmp 11) (.const (.int .i64 21)) rfl rfl rfl w7) ?_
  simp only [nf0, nf1, nf2, nf3, nf4]
  refine wpList_nil ?_
  show Code.wp _ _ _ _ _
  cases hg8 : decide ((k : Int) ≤ 21)
  · have hp9 := of_decide_eq_false hg8
    refine wp_cond_false rfl ?_
    refine wp_exit ?_
    show Code.wp _ _ _ _ _
    refine wp_seq ?_
    refine wp_region_lit ?_
    refine st_value (v := (.agg #[.int .i64 0, .int .i64 0, .int .i64 0, .int .i64 0, .int .i64 0])) (by rfl) (run_buildV rfl (by kernel_rfl) w7) ?_
    simp only [nf0, nf1, nf2, nf3, nf4]
    refine st_row (by rfl) (run_storeW (.tmp 2) (.tmp 74) rfl (cs := #[.int .i64 0, .int .i64 0, .int .i64 0, .int .i64 0, .int .i64 0]) aggEvt rfl rfl B3 rfl (by simp [Value.oneCell'])) B3 ?_
    intro w10 B12 hg11
    simp only [nf0, nf1, nf2, nf3, nf4]
    replace bel := bl_kept0 bel hg11 lo5
    clear hg11
    clear B3
    refine st_mv (.bool false) ?_
    simp only [nf0, nf1, nf2, nf3, nf4]
    refine wpList_nil ?_
    show Code.wp _ _ _ _ _
    refine wp_ret ?_
    first | show bodyPost _ _ _ _ _ _ | (simp only [Exit.then, Exit.inBlock]; show bodyPost _ _ _ _ _ _)
    have hE : pE l = ((0, 0, 0, 0, 0), false) := pE_no fun e he hl_ => by have h1_ := hN e he hl_; have h2_ := he.1.2; omega
    exact bodyPost_ret (results_agg1t rfl (cs := #[.int .i64 0, .int .i64 0, .int .i64 0, .int .i64 0, .int .i64 0]) aggEvt (by rfl) B12) rfl ⟨by rw [hE]; rfl, bel⟩
  have hp13 := of_decide_eq_true hg8
  refine wp_cond_true rfl ?_
  refine wp_skip ?_
  show Code.wp _ _ _ _ _
  refine wp_seq ?_
  refine wp_block ?_
  refine wp_seq ?_
  refine wp_region_lit ?_
  refine st_mv (.int .i64 (k : Int)) ?_
  simp only [nf0, nf1, nf2, nf3, nf4]
  refine st_call1 (v := (.string (str (nm (k : Int))))) (by rfl) (f_run_call_11_1 (.tmp 15) rfl rfl _) (refName_calls (k : Int) w7) ?_
  intro w14 hb15
  simp only [nf0, nf1, nf2, nf3, nf4]
  replace B3 := B3.below hb15
  replace bel := bl_step bel hb15
  clear hb15
  refine st_mv (.string (str (nm (k : Int)))) ?_
  simp only [nf0, nf1, nf2, nf3, nf4]
  refine wpList_nil ?_
  show Code.wp _ _ _ _ _
  refine wp_seq ?_
  refine wp_seq ?_
  cases hg16 : decide ((l.length : Int) < ((nm (k : Int)).length : Int))
  rotate_left
  · have hp110 := of_decide_eq_true hg16
    refine wp_region_lit ?_
    refine st_mv (.string (str l)) ?_
    simp only [nf0, nf1, nf2, nf3, nf4]
    refine st_value (v := (.int .i64 (l.length : Int))) (by rfl) (run_len_text (.tmp 17) rfl Tryd.underlying9 (l := l) rfl w14) ?_
    simp only [nf0, nf1, nf2, nf3, nf4]
    refine st_mv (.string (str (nm (k : Int)))) ?_
    simp only [nf0, nf1, nf2, nf3, nf4]
    refine st_value (v := (.int .i64 ((nm (k : Int)).length : Int))) (by rfl) (run_len_text (.tmp 19) rfl Tryd.underlying9 (l := (nm (k : Int))) rfl w14) ?_
    simp only [nf0, nf1, nf2, nf3, nf4]
    refine st_value (v := (.bool true)) (by rfl) ((run_lss (.tmp 18) (.tmp 20) rfl rfl rfl w14).trans (by rw [hg16])) ?_
    simp only [nf0, nf1, nf2, nf3, nf4]
    refine st_mv (.bool true) ?_
    simp only [nf0, nf1, nf2, nf3, nf4]
    refine st_nob (j := 5) (t := 22) (c := true) rfl rfl rfl rfl rfl ?_
    simp only [nf0, nf1, nf2, nf3, nf4]
    refine st_nob (j := 5) (t := 22) (c := true) rfl rfl rfl rfl rfl ?_
    simp only [nf0, nf1, nf2, nf3, nf4]
    refine st_nob (j := 5) (t := 22) (c := true) rfl rfl rfl rfl rfl ?_
    simp only [nf0, nf1, nf2, nf3, nf4]
    refine st_nob (j := 5) (t := 22) (c := true) rfl rfl rfl rfl rfl ?_
    simp only [nf0, nf1, nf2, nf3, nf4]
    refine st_nob (j := 5) (t := 22) (c := true) rfl rfl rfl rfl rfl ?_
    simp only [nf0, nf1, nf2, nf3, nf4]
    refine st_nob (j := 5) (t := 22) (c := true) rfl rfl rfl rfl rfl ?_
    simp only [nf0, nf1, nf2, nf3, nf4]
    refine st_mv (.bool true) ?_
    simp only [nf0, nf1, nf2, nf3, nf4]
    refine wpList_nil ?_
    show Code.wp _ _ _ _ _
    refine wp_cond_true rfl ?_
    refine wp_exit ?_
    show Code.wp _ _ _ _ _
    refine wp_region_lit ?_
    refine st_mv (.int .i64 (k : Int)) ?_
    simp only [nf0, nf1, nf2, nf3, nf4]
    refine st_value (v := (.int .i64 ((k : Int) + 1))) (by rfl) (run_add_in (.tmp 13) (.const (.int .i64 1)) rfl rfl rfl (by omega) w14) ?_
    simp only [nf0, nf1, nf2, nf3, nf4]
    refine st_mv (.int .i64 ((k : Int) + 1)) ?_
    simp only [nf0, nf1, nf2, nf3, nf4]
    refine wpList_nil ?_
    show ∃ m, m < _ ∧ _
    exact ⟨_, (by omega), (k + 1), rfl, rfl, B3, bel, (by omega), (past hN (mt_pre (by rintro ⟨h1_, h2_⟩; first | contradiction | omega)))⟩
  have hp17 := of_decide_eq_false hg16
  refine wp_region_lit ?_
  refine st_mv (.string (str l)) ?_
  simp only [nf0, nf1, nf2, nf3, nf4]
  refine st_value (v := (.int .i64 (l.length : Int))) (by rfl) (run_len_text (.tmp 17) rfl Tryd.underlying9 (l := l) rfl w14) ?_
  simp only [nf0, nf1, nf2, nf3, nf4]
  refine st_mv (.string (str (nm (k : Int)))) ?_
  simp only [nf0, nf1, nf2, nf3, nf4]
  refine st_value (v := (.int .i64 ((nm (k : Int)).length : Int))) (by rfl) (run_len_text (.tmp 19) rfl Tryd.underlying9 (l := (nm (k : Int))) rfl w14) ?_
  simp only [nf0, nf1, nf2, nf3, nf4]
  refine st_value (v := (.bool false)) (by rfl) ((run_lss (.tmp 18) (.tmp 20) rfl rfl rfl w14).trans (by rw [hg16])) ?_
  simp only [nf0, nf1, nf2, nf3, nf4]
  refine st_mv (.bool false) ?_
  simp only [nf0, nf1, nf2, nf3, nf4]
  refine st_mv (.string (str l)) ?_
  simp only [nf0, nf1, nf2, nf3, nf4]
  refine st_mv (.string (str (nm (k : Int)))) ?_
  simp only [nf0, nf1, nf2, nf3, nf4]
  refine st_value (v := (.int .i64 ((nm (k : Int)).length : Int))) (by rfl) (run_len_text (.tmp 24) rfl Tryd.underlying9 (l := (nm (k : Int))) rfl w14) ?_
  simp only [nf0, nf1, nf2, nf3, nf4]
  refine st_value (v := (.string (str (l.take ((nm (k : Int)).length))))) (by rfl) (run_to_text (.tmp 23) (.tmp 25) rfl Tryd.underlying9 (l := l) (q := ((nm (k : Int)).length)) rfl rfl (by omega) (by omega) w14) ?_
  simp only [nf0, nf1, nf2, nf3, nf4]
  refine st_mv (.string (str (nm (k : Int)))) ?_
  simp only [nf0, nf1, nf2, nf3, nf4]
  refine st_value (v := (.bool (!decide ((l.take ((nm (k : Int)).length)) = (nm (k : Int)))))) (by rfl) (run_neq_text (.tmp 26) (.tmp 27) (l := (l.take ((nm (k : Int)).length))) (m := (nm (k : Int))) rfl rfl rfl w14) ?_
  simp only [nf0, nf1, nf2, nf3, nf4]
  refine st_mv (.bool (!decide ((l.take ((nm (k : Int)).length)) = (nm (k : Int))))) ?_
  simp only [nf0, nf1, nf2, nf3, nf4]
  refine wpList_nil ?_
  show Code.wp _ _ _ _ _
  cases hg18 : decide ((l.take ((nm (k : Int)).length)) = (nm (k : Int)))
  · have hp19 := of_decide_eq_false hg18
    refine wp_cond_true rfl ?_
    refine wp_exit ?_
    show Code.wp _ _ _ _ _
    refine wp_region_lit ?_
    refine st_mv (.int .i64 (k : Int)) ?_
    simp only [nf0, nf1, nf2, nf3, nf4]
    refine st_value (v := (.int .i64 ((k : Int) + 1))) (by rfl) (run_add_in (.tmp 13) (.const (.int .i64 1)) rfl rfl rfl (by omega) w14) ?_
    simp only [nf0, nf1, nf2, nf3, nf4]
    refine st_mv (.int .i64 ((k : Int) + 1)) ?_
    simp only [nf0, nf1, nf2, nf3, nf4]
    refine wpList_nil ?_
    show ∃ m, m < _ ∧ _
    exact ⟨_, (by omega), (k + 1), rfl, rfl, B3, bel, (by omega), (past hN (mt_pre (by rintro ⟨h1_, h2_⟩; first | contradiction | omega)))⟩
  have hp20 := of_decide_eq_true hg18
  refine wp_cond_false rfl ?_
  refine wp_skip ?_
  show Code.wp _ _ _ _ _
  refine wp_seq ?_
  refine wp_region_lit ?_
  refine st_mv (.int .i64 (k : Int)) ?_
  simp only [nf0, nf1, nf2, nf3, nf4]
  refine st_value (v := (.agg #[.int .i64 (k : Int), .int .i64 0, .int .i64 0, .int .i64 0, .int .i64 0])) (by rfl) (run_buildV rfl (by kernel_rfl) w14) ?_
  simp only [nf0, nf1, nf2, nf3, nf4]
  refine st_new (cs := #[.int .i64 0, .int .i64 0, .int .i64 0, .int .i64 0, .int .i64 0]) (t := 23) (by rfl) (run_allocV rfl f_zero_23 _) ?_
  intro g21 w22 B23 hb24 lo25
  simp only [nf0, nf1, nf2, nf3, nf4]
  have n26 := B3.ne lo25
  replace lo25 := low_le bel lo25
  replace B3 := B3.below hb24
  replace bel := bl_step bel hb24
  clear hb24
  refine st_row (by rfl) (run_storeW (.tmp 6) (.tmp 31) rfl (cs := #[.int .i64 (k : Int), .int .i64 0, .int .i64 0, .int .i64 0, .int .i64 0]) aggEvt rfl rfl B23 rfl (by simp [Value.oneCell'])) B23 ?_
  intro w27 B29 hg28
  simp only [nf0, nf1, nf2, nf3, nf4]
  replace B3 := B3.kept hg28 n26
  replace bel := bl_kept0 bel hg28 lo25
  clear hg28
  clear B23
  refine wpList_nil ?_
  show Code.wp _ _ _ _ _
  refine wp_seq ?_
  refine wp_region_lit ?_
  refine st_mv (.string (str (nm (k : Int)))) ?_
  simp only [nf0, nf1, nf2, nf3, nf4]
  refine st_value (v := (.int .i64 ((nm (k : Int)).length : Int))) (by rfl) (run_len_text (.tmp 32) rfl Tryd.underlying9 (l := (nm (k : Int))) rfl w27) ?_
  simp only [nf0, nf1, nf2, nf3, nf4]
  refine st_mv (.int .i64 ((nm (k : Int)).length : Int)) ?_
  simp only [nf0, nf1, nf2, nf3, nf4]
  refine wpList_nil ?_
  show Code.wp _ _ _ _ _
  refine wp_seq ?_
  refine wp_seq ?_
  refine wp_region_lit ?_
  refine st_mv (.int .i64 0) ?_
  simp only [nf0, nf1, nf2, nf3, nf4]
  refine wpList_nil ?_
  show Code.wp _ _ _ _ _
  refine wp_block ?_
  refine wp_loop_rnds 4 ?_
  show Code.wp _ _ _ _ _
  refine wp_seq ?_
  refine wp_seq ?_
  refine wp_region_lit ?_
  refine st_mv (.int .i64 0) ?_
  simp only [nf0, nf1, nf2, nf3, nf4]
  refine st_value (v := (.bool true)) (by rfl) ((run_lss (.tmp 34) (.const (.int .i64 4)) rfl rfl rfl w27).trans (by rw [decide_eq_true (by omega)])) ?_
  simp only [nf0, nf1, nf2, nf3, nf4]
  refine wpList_nil ?_
  show Code.wp _ _ _ _ _
  refine wp_cond_true rfl ?_
  refine wp_skip ?_
  show Code.wp _ _ _ _ _
  refine wp_seq ?_
  refine wp_block ?_
  refine wp_seq ?_
  refine wp_seq ?_
  refine wp_region_lit ?_
  refine st_mv (.int .i64 ((nm (k : Int)).length : Int)) ?_
  simp only [nf0, nf1, nf2, nf3, nf4]
  refine st_mv (.string (str l)) ?_
  simp only [nf0, nf1, nf2, nf3, nf4]
  refine st_value (v := (.int .i64 (l.length : Int))) (by rfl) (run_len_text (.tmp 39) rfl Tryd.underlying9 (l := l) rfl w27) ?_
  simp only [nf0, nf1, nf2, nf3, nf4]
  refine st_value (v := (.bool (decide ((l.length : Int) ≤ ((nm (k : Int)).length : Int))))) (by rfl) (run_geq (.tmp 38) (.tmp 40) rfl rfl rfl w27) ?_
  simp only [nf0, nf1, nf2, nf3, nf4]
  refine wpList_nil ?_
  show Code.wp _ _ _ _ _
  cases hg30 : decide ((l.length : Int) ≤ ((nm (k : Int)).length : Int))
  rotate_left
  · have hp101 := of_decide_eq_true hg30
    refine wp_cond_true rfl ?_
    refine wp_exit ?_
    show Code.wp _ _ _ _ _
    refine wp_seq ?_
    refine wp_region_lit ?_
    refine st_value (v := (.agg #[.int .i64 (k : Int), .int .i64 0, .int .i64 0, .int .i64 0, .int .i64 0])) (by rfl) (run_loadW (.tmp 6) rfl (cs := #[.int .i64 (k : Int), .int .i64 0, .int .i64 0, .int .i64 0, .int .i64 0]) aggEvt rfl B29) ?_
    simp only [nf0, nf1, nf2, nf3, nf4]
    refine st_call1 (v := (.string (str (prE (((k : Int), 0, 0, 0, 0) : TEvt))))) (by rfl) (f_run_call_13_1 (.tmp 69) rfl rfl _) (refPrint_calls (((k : Int), 0, 0, 0, 0) : TEvt) ⟨⟨by show _ ≤ (k : Int); omega, by show (k : Int) ≤ _; omega⟩, zero64, zero64, zero64, zero64⟩ w27) ?_
    intro w102 hb103
    simp only [nf0, nf1, nf2, nf3, nf4]
    replace B3 := B3.below hb103
    replace B29 := B29.below hb103
    replace bel := bl_step bel hb103
    clear hb103
    refine st_mv (.string (str l)) ?_
    simp only [nf0, nf1, nf2, nf3, nf4]
    refine st_value (v := (.bool (decide ((prE (((k : Int), 0, 0, 0, 0) : TEvt)) = l)))) (by rfl) (run_eql_text (.tmp 70) (.tmp 71) (l := (prE (((k : Int), 0, 0, 0, 0) : TEvt))) (m := l) rfl rfl rfl w102) ?_
    simp only [nf0, nf1, nf2, nf3, nf4]
    refine wpList_nil ?_
    show Code.wp _ _ _ _ _
    cases hg104 : decide ((prE (((k : Int), 0, 0, 0, 0) : TEvt)) = l)
    · have hp105 := of_decide_eq_false hg104
      refine wp_cond_false rfl ?_
      refine wp_skip ?_
      show Code.wp _ _ _ _ _
      refine wp_region_lit ?_
      refine st_mv (.int .i64 (k : Int)) ?_
      simp only [nf0, nf1, nf2, nf3, nf4]
      refine st_value (v := (.int .i64 ((k : Int) + 1))) (by rfl) (run_add_in (.tmp 13) (.const (.int .i64 1)) rfl rfl rfl (by omega) w102) ?_
      simp only [nf0, nf1, nf2, nf3, nf4]
      refine st_mv (.int .i64 ((k : Int) + 1)) ?_
      simp only [nf0, nf1, nf2, nf3, nf4]
      refine wpList_nil ?_
      show ∃ m, m < _ ∧ _
      exact ⟨_, (by omega), (k + 1), rfl, rfl, B3, bel, (by omega), (past hN (mt_break hm0 (by simp) (by omega)))⟩
    have hp106 := of_decide_eq_true hg104
    refine wp_cond_true rfl ?_
    refine wp_seq ?_
    refine wp_region_lit ?_
    refine st_value (v := (.agg #[.int .i64 (k : Int), .int .i64 0, .int .i64 0, .int .i64 0, .int .i64 0])) (by rfl) (run_loadW (.tmp 6) rfl (cs := #[.int .i64 (k : Int), .int .i64 0, .int .i64 0, .int .i64 0, .int .i64 0]) aggEvt rfl B29) ?_
    simp only [nf0, nf1, nf2, nf3, nf4]
    refine st_row (by rfl) (run_storeW (.tmp 2) (.tmp 73) rfl (cs := #[.int .i64 (k : Int), .int .i64 0, .int .i64 0, .int .i64 0, .int .i64 0]) aggEvt rfl rfl B3 rfl (by simp [Value.oneCell'])) B3 ?_
    intro w107 B109 hg108
    simp only [nf0, nf1, nf2, nf3, nf4]
    replace B29 := B29.kept hg108 n26.symm
    replace bel := bl_kept0 bel hg108 lo5
    clear hg108
    clear B3
    refine st_mv (.bool true) ?_
    simp only [nf0, nf1, nf2, nf3, nf4]
    refine wpList_nil ?_
    show Code.wp _ _ _ _ _
    refine wp_ret ?_
    first | show bodyPost _ _ _ _ _ _ | (simp only [Exit.then, Exit.inBlock]; show bodyPost _ _ _ _ _ _)
    have hE : pE l = ((((k : Int), 0, 0, 0, 0) : TEvt), true) := pE_yes ⟨by show known (k : Int); unfold known; omega, ⟨⟨by show _ ≤ (k : Int); omega, by show (k : Int) ≤ _; omega⟩, zero64, zero64, zero64, zero64⟩⟩ (by assumption)
    exact bodyPost_ret (results_agg1t rfl (cs := #[.int .i64 (k : Int), .int .i64 0, .int .i64 0, .int .i64 0, .int .i64 0]) aggEvt (by rfl) B109) rfl ⟨by rw [hE]; rfl, bel⟩
  have hp31 := of_decide_eq_false hg30
  refine wp_cond_false rfl ?_
  refine wp_skip ?_
  show Code.wp _ _ _ _ _
  refine wp_seq ?_
  refine wp_region_lit ?_
  refine st_mv (.string (str l)) ?_
  simp only [nf0, nf1, nf2, nf3, nf4]
  refine st_mv (.int .i64 ((nm (k : Int)).length : Int)) ?_
  simp only [nf0, nf1, nf2, nf3, nf4]
  refine st_value (v := (.int .i64 (((nm (k : Int)).length : Int) + 1))) (by rfl) (run_add_in (.tmp 44) (.const (.int .i64 1)) rfl rfl rfl (by omega) w27) ?_
  simp only [nf0, nf1, nf2, nf3, nf4]
  refine st_value (v := (.string (str (l.drop (((nm (k : Int)).length) + 1))))) (by rfl) (run_from_text (.tmp 43) (.tmp 45) rfl Tryd.underlying9 (l := l) (p := (((nm (k : Int)).length) + 1)) rfl rfl (by omega) (by omega) w27) ?_
  simp only [nf0, nf1, nf2, nf3, nf4]
  obtain ⟨z1, q1, hq1⟩ : ∃ z q, rnum (l.drop (((nm (k : Int)).length) + 1)) = (z, q) := ⟨_, _, rfl⟩
  have hz1 := rnum_I64 (l.drop (((nm (k : Int)).length) + 1))
  rw [hq1, List.length_drop] at hz1
  have hm1 : Mt l (k : Int) (((nm (k : Int)).length) + (1 + q1)) [z1] := mt_next hm0  (by simp) hq1
  have hc32 := refNumber_calls (l.drop (((nm (k : Int)).length) + 1)) (by rw [List.length_drop]; omega) w27
  rw [hq1] at hc32
  obtain ⟨z1, q1, hq1⟩ : ∃ z q, rnum (l.drop (((nm (k : Int)).length) + 1)) = (z, q) := ⟨_, _, rfl⟩
  have hz1 := rnum_I64 (l.drop (((nm (k : Int)).length) + 1))
  rw [hq1, List.length_drop] at hz1
  have hm1 : Mt l (k : Int) (((nm (k : Int)).length) + (1 + q1)) [z1] := mt_next hm0  (by simp) hq1
  have hc33 := refNumber_calls (l.drop (((nm (k : Int)).length) + 1)) (by rw [List.length_drop]; omega) w27
  rw [hq1] at hc33
  refine st_call1 (v := (.tuple #[.int .i64 z1, .int .i64 (q1 : Int)])) (by rfl) (f_run_call_24_1 (.tmp 46) rfl rfl _) hc33 ?_
  intro w34 hb35
  simp only [nf0, nf1, nf2, nf3, nf4]
  replace B3 := B3.below hb35
  replace B29 := B29.below hb35
  replace bel := bl_step bel hb35
  clear hb35
  refine st_mv (.tuple #[.int .i64 z1, .int .i64 (q1 : Int)]) ?_
  simp only [nf0, nf1, nf2, nf3, nf4]
  refine st_mv (.int .i64 z1) ?_
  simp only [nf0, nf1, nf2, nf3, nf4]
  refine st_mv (.int .i64 (q1 : Int)) ?_
  simp only [nf0, nf1, nf2, nf3, nf4]
  refine st_mv (.int .i64 z1) ?_
  simp only [nf0, nf1, nf2, nf3, nf4]
  refine st_mv (.int .i64 (q1 : Int)) ?_
  simp only [nf0, nf1, nf2, nf3, nf4]
  refine wpList_nil ?_
  show Code.wp _ _ _ _ _
  refine wp_seq ?_
  refine wp_region_lit ?_
  refine st_mv (.int .i64 ((nm (k : Int)).length : Int)) ?_
  simp only [nf0, nf1, nf2, nf3, nf4]
  refine st_mv (.int .i64 (q1 : Int)) ?_
  simp only [nf0, nf1, nf2, nf3, nf4]
  refine st_value (v := (.int .i64 (1 + (q1 : Int)))) (by rfl) (run_add_in (.const (.int .i64 1)) (.tmp 51) rfl rfl rfl (by omega) w34) ?_
  simp only [nf0, nf1, nf2, nf3, nf4]
  refine st_value (v := (.int .i64 ((((nm (k : Int)).length) + (1 + q1) : Nat) : Int))) (by rfl) ((run_add_in (.tmp 50) (.tmp 52) rfl rfl rfl (by omega) w34).trans (by rw [show (((nm (k : Int)).length : Int)) + ((1 + (q1 : Int))) = ((((nm (k : Int)).length) + (1 + q1) : Nat) : Int) by omega])) ?_
  simp only [nf0, nf1, nf2, nf3, nf4]
  refine st_mv (.int .i64 ((((nm (k : Int)).length) + (1 + q1) : Nat) : Int)) ?_
  simp only [nf0, nf1, nf2, nf3, nf4]
  refine wpList_nil ?_
  show Code.wp _ _ _ _ _
  refine wp_seq ?_
  refine wp_region_lit ?_
  refine st_mv (.int .i64 0) ?_
  simp only [nf0, nf1, nf2, nf3, nf4]
  refine wpList_nil ?_
  show Code.wp _ _ _ _ _
  refine wp_block ?_
  refine wp_seq ?_
  refine wp_region_lit ?_
  refine st_value (v := (.bool true)) (by rfl) (run_eql_int_t (.tmp 54) (.const (.int .i64 0)) rfl rfl rfl rfl w34) ?_
  simp only [nf0, nf1, nf2, nf3, nf4]
  refine st_mv (.bool true) ?_
  simp only [nf0, nf1, nf2, nf3, nf4]
  refine wpList_nil ?_
  show Code.wp _ _ _ _ _
  refine wp_cond_true rfl ?_
  refine wp_region_lit ?_
  refine st_mv (.int .i64 z1) ?_
  simp only [nf0, nf1, nf2, nf3, nf4]
  refine st_value (v := (.pointer (some ⟨g21, 1, none⟩))) (by rfl) (run_fieldA (.tmp 6) rfl f_fld_23_1 rfl rfl w34) ?_
  simp only [nf0, nf1, nf2, nf3, nf4]
  refine st_cell (v := (.int .i64 z1)) (by rfl) (run_storeB (.tmp 60) (.tmp 59) rfl f_one_3 B29 (show 1 < 5 by decide) rfl rfl rfl rfl) B29 ?_
  intro w36 B38 hg37
  simp only [nf0, nf1, nf2, nf3, nf4]
  replace B3 := B3.kept hg37 n26
  replace bel := bl_kept0 bel hg37 lo25
  clear hg37
  clear B29
  replace B38 : Blk w36 g21 #[.int .i64 (k : Int), .int .i64 z1, .int .i64 0, .int .i64 0, .int .i64 0] 23 := B38
  refine wpList_nil ?_
  show Code.wp _ _ _ _ _
  refine wp_region_lit ?_
  refine st_mv (.int .i64 0) ?_
  simp only [nf0, nf1, nf2, nf3, nf4]
  refine st_value (v := (.int .i64 1)) (by rfl) ((run_add_in (.tmp 36) (.const (.int .i64 1)) rfl rfl rfl (by omega) w36).trans (by rw [show ((0 : Int) + 1) = 1 by omega])) ?_
  simp only [nf0, nf1, nf2, nf3, nf4]
  refine st_mv (.int .i64 1) ?_
  simp only [nf0, nf1, nf2, nf3, nf4]
  refine wpList_nil ?_
  show Code.wp _ _ _ _ _
  refine wp_seq ?_
  refine wp_seq ?_
  refine wp_region_lit ?_
  refine st_mv (.int .i64 1) ?_
  simp only [nf0, nf1, nf2, nf3, nf4]
  refine st_value (v := (.bool true)) (by rfl) ((run_lss (.tmp 34) (.const (.int .i64 4)) rfl rfl rfl w36).trans (by rw [decide_eq_true (by omega)])) ?_
  simp only [nf0, nf1, nf2, nf3, nf4]
  refine wpList_nil ?_
  show Code.wp _ _ _ _ _
  refine wp_cond_true rfl ?_
  refine wp_skip ?_
  show Code.wp _ _ _ _ _
  refine wp_seq ?_
  refine wp_block ?_
  refine wp_seq ?_
  refine wp_seq ?_
  refine wp_region_lit ?_
  refine st_mv (.int .i64 ((((nm (k : Int)).length) + (1 + q1) : Nat) : Int)) ?_
  simp only [nf0, nf1, nf2, nf3, nf4]
  refine st_mv (.string (str l)) ?_
  simp only [nf0, nf1, nf2, nf3, nf4]
  refine st_value (v := (.int .i64 (l.length : Int))) (by rfl) (run_len_text (.tmp 39) rfl Tryd.underlying9 (l := l) rfl w36) ?_
  simp only [nf0, nf1, nf2, nf3, nf4]
  refine st_value (v := (.bool (decide ((l.length : Int) ≤ ((((nm (k : Int)).length) + (1 + q1) : Nat) : Int))))) (by rfl) (run_geq (.tmp 38) (.tmp 40) rfl rfl rfl w36) ?_
  simp only [nf0, nf1, nf2, nf3, nf4]
  refine wpList_nil ?_
  show Code.wp _ _ _ _ _
  cases hg39 : decide ((l.length : Int) ≤ ((((nm (k : Int)).length) + (1 + q1) : Nat) : Int))
  rotate_left
  · have hp92 := of_decide_eq_true hg39
    refine wp_cond_true rfl ?_
    refine wp_exit ?_
    show Code.wp _ _ _ _ _
    refine wp_seq ?_
    refine wp_region_lit ?_
    refine st_value (v := (.agg #[.int .i64 (k : Int), .int .i64 z1, .int .i64 0, .int .i64 0, .int .i64 0])) (by rfl) (run_loadW (.tmp 6) rfl (cs := #[.int .i64 (k : Int), .int .i64 z1, .int .i64 0, .int .i64 0, .int .i64 0]) aggEvt rfl B38) ?_
    simp only [nf0, nf1, nf2, nf3, nf4]
    refine st_call1 (v := (.string (str (prE (((k : Int), z1, 0, 0, 0) : TEvt))))) (by rfl) (f_run_call_13_1 (.tmp 69) rfl rfl _) (refPrint_calls (((k : Int), z1, 0, 0, 0) : TEvt) ⟨⟨by show _ ≤ (k : Int); omega, by show (k : Int) ≤ _; omega⟩, hz1.1, zero64, zero64, zero64⟩ w36) ?_
    intro w93 hb94
    simp only [nf0, nf1, nf2, nf3, nf4]
    replace B3 := B3.below hb94
    replace B38 := B38.below hb94
    replace bel := bl_step bel hb94
    clear hb94
    refine st_mv (.string (str l)) ?_
    simp only [nf0, nf1, nf2, nf3, nf4]
    refine st_value (v := (.bool (decide ((prE (((k : Int), z1, 0, 0, 0) : TEvt)) = l)))) (by rfl) (run_eql_text (.tmp 70) (.tmp 71) (l := (prE (((k : Int), z1, 0, 0, 0) : TEvt))) (m := l) rfl rfl rfl w93) ?_
    simp only [nf0, nf1, nf2, nf3, nf4]
    refine wpList_nil ?_
    show Code.wp _ _ _ _ _
    cases hg95 : decide ((prE (((k : Int), z1, 0, 0, 0) : TEvt)) = l)
    · have hp96 := of_decide_eq_false hg95
      refine wp_cond_false rfl ?_
      refine wp_skip ?_
      show Code.wp _ _ _ _ _
      refine wp_region_lit ?_
      refine st_mv (.int .i64 (k : Int)) ?_
      simp only [nf0, nf1, nf2, nf3, nf4]
      refine st_value (v := (.int .i64 ((k : Int) + 1))) (by rfl) (run_add_in (.tmp 13) (.const (.int .i64 1)) rfl rfl rfl (by omega) w93) ?_
      simp only [nf0, nf1, nf2, nf3, nf4]
      refine st_mv (.int .i64 ((k : Int) + 1)) ?_
      simp only [nf0, nf1, nf2, nf3, nf4]
      refine wpList_nil ?_
      show ∃ m, m < _ ∧ _
      exact ⟨_, (by omega), (k + 1), rfl, rfl, B3, bel, (by omega), (past hN (mt_break hm1 (by simp) (by omega)))⟩
    have hp97 := of_decide_eq_true hg95
    refine wp_cond_true rfl ?_
    refine wp_seq ?_
    refine wp_region_lit ?_
    refine st_value (v := (.agg #[.int .i64 (k : Int), .int .i64 z1, .int .i64 0, .int .i64 0, .int .i64 0])) (by rfl) (run_loadW (.tmp 6) rfl (cs := #[.int .i64 (k : Int), .int .i64 z1, .int .i64 0, .int .i64 0, .int .i64 0]) aggEvt rfl B38) ?_
    simp only [nf0, nf1, nf2, nf3, nf4]
    refine st_row (by rfl) (run_storeW (.tmp 2) (.tmp 73) rfl (cs := #[.int .i64 (k : Int), .int .i64 z1, .int .i64 0, .int .i64 0, .int .i64 0]) aggEvt rfl rfl B3 rfl (by simp [Value.oneCell'])) B3 ?_
    intro w98 B100 hg99
    simp only [nf0, nf1, nf2, nf3, nf4]
    replace B38 := B38.kept hg99 n26.symm
    replace bel := bl_kept0 bel hg99 lo5
    clear hg99
    clear B3
    refine st_mv (.bool true) ?_
    simp only [nf0, nf1, nf2, nf3, nf4]
    refine wpList_nil ?_
    show Code.wp _ _ _ _ _
    refine wp_ret ?_
    first | show bodyPost _ _ _ _ _ _ | (simp only [Exit.then, Exit.inBlock]; show bodyPost _ _ _ _ _ _)
    have hE : pE l = ((((k : Int), z1, 0, 0, 0) : TEvt), true) := pE_yes ⟨by show known (k : Int); unfold known; omega, ⟨⟨by show _ ≤ (k : Int); omega, by show (k : Int) ≤ _; omega⟩, hz1.1, zero64, zero64, zero64⟩⟩ (by assumption)
    exact bodyPost_ret (results_agg1t rfl (cs := #[.int .i64 (k : Int), .int .i64 z1, .int .i64 0, .int .i64 0, .int .i64 0]) aggEvt (by rfl) B100) rfl ⟨by rw [hE]; rfl, bel⟩
  have hp40 := of_decide_eq_false hg39
  refine wp_cond_false rfl ?_
  refine wp_skip ?_
  show Code.wp _ _ _ _ _
  refine wp_seq ?_
  refine wp_region_lit ?_
  refine st_mv (.string (str l)) ?_
  simp only [nf0, nf1, nf2, nf3, nf4]
  refine st_mv (.int .i64 ((((nm (k : Int)).length) + (1 + q1) : Nat) : Int)) ?_
  simp only [nf0, nf1, nf2, nf3, nf4]
  refine st_value (v := (.int .i64 (((((nm (k : Int)).length) + (1 + q1) : Nat) : Int) + 1))) (by rfl) (run_add_in (.tmp 44) (.const (.int .i64 1)) rfl rfl rfl (by omega) w36) ?_
  simp only [nf0, nf1, nf2, nf3, nf4]
  refine st_value (v := (.string (str (l.drop ((((nm (k : Int)).length) + (1 + q1)) + 1))))) (by rfl) (run_from_text (.tmp 43) (.tmp 45) rfl Tryd.underlying9 (l := l) (p := ((((nm (k : Int)).length) + (1 + q1)) + 1)) rfl rfl (by omega) (by omega) w36) ?_
  simp only [nf0, nf1, nf2, nf3, nf4]
  obtain ⟨z2, q2, hq2⟩ : ∃ z q, rnum (l.drop ((((nm (k : Int)).length) + (1 + q1)) + 1)) = (z, q) := ⟨_, _, rfl⟩
  have hz2 := rnum_I64 (l.drop ((((nm (k : Int)).length) + (1 + q1)) + 1))
  rw [hq2, List.length_drop] at hz2
  have hm2 : Mt l (k : Int) ((((nm (k : Int)).length) + (1 + q1)) + (1 + q2)) [z1, z2] := mt_next hm1  (by simp) hq2
  have hc41 := refNumber_calls (l.drop ((((nm (k : Int)).length) + (1 + q1)) + 1)) (by rw [List.length_drop]; omega) w36
  rw [hq2] at hc41
  obtain ⟨z2, q2, hq2⟩ : ∃ z q, rnum (l.drop ((((nm (k : Int)).length) + (1 + q1)) + 1)) = (z, q) := ⟨_, _, rfl⟩
  have hz2 := rnum_I64 (l.drop ((((nm (k : Int)).length) + (1 + q1)) + 1))
  rw [hq2, List.length_drop] at hz2
  have hm2 : Mt l (k : Int) ((((nm (k : Int)).length) + (1 + q1)) + (1 + q2)) [z1, z2] := mt_next hm1  (by simp) hq2
  have hc42 := refNumber_calls (l.drop ((((nm (k : Int)).length) + (1 + q1)) + 1)) (by rw [List.length_drop]; omega) w36
  rw [hq2] at hc42
  refine st_call1 (v := (.tuple #[.int .i64 z2, .int .i64 (q2 : Int)])) (by rfl) (f_run_call_24_1 (.tmp 46) rfl rfl _) hc42 ?_
  intro w43 hb44
  simp only [nf0, nf1, nf2, nf3, nf4]
  replace B3 := B3.below hb44
  replace B38 := B38.below hb44
  replace bel := bl_step bel hb44
  clear hb44
  refine st_mv (.tuple #[.int .i64 z2, .int .i64 (q2 : Int)]) ?_
  simp only [nf0, nf1, nf2, nf3, nf4]
  refine st_mv (.int .i64 z2) ?_
  simp only [nf0, nf1, nf2, nf3, nf4]
  refine st_mv (.int .i64 (q2 : Int)) ?_
  simp only [nf0, nf1, nf2, nf3, nf4]
  refine st_mv (.int .i64 z2) ?_
  simp only [nf0, nf1, nf2, nf3, nf4]
  refine st_mv (.int .i64 (q2 : Int)) ?_
  simp only [nf0, nf1, nf2, nf3, nf4]
  refine wpList_nil ?_
  show Code.wp _ _ _ _ _
  refine wp_seq ?_
  refine wp_region_lit ?_
  refine st_mv (.int .i64 ((((nm (k : Int)).length) + (1 + q1) : Nat) : Int)) ?_
  simp only [nf0, nf1, nf2, nf3, nf4]
  refine st_mv (.int .i64 (q2 : Int)) ?_
  simp only [nf0, nf1, nf2, nf3, nf4]
  refine st_value (v := (.int .i64 (1 + (q2 : Int)))) (by rfl) (run_add_in (.const (.int .i64 1)) (.tmp 51) rfl rfl rfl (by omega) w43) ?_
  simp only [nf0, nf1, nf2, nf3, nf4]
  refine st_value (v := (.int .i64 (((((nm (k : Int)).length) + (1 + q1)) + (1 + q2) : Nat) : Int))) (by rfl) ((run_add_in (.tmp 50) (.tmp 52) rfl rfl rfl (by omega) w43).trans (by rw [show (((((nm (k : Int)).length) + (1 + q1) : Nat) : Int)) + ((1 + (q2 : Int))) = (((((nm (k : Int)).length) + (1 + q1)) + (1 + q2) : Nat) : Int) by omega])) ?_
  simp only [nf0, nf1, nf2, nf3, nf4]
  refine st_mv (.int .i64 (((((nm (k : Int)).length) + (1 + q1)) + (1 + q2) : Nat) : Int)) ?_
  simp only [nf0, nf1, nf2, nf3, nf4]
  refine wpList_nil ?_
  show Code.wp _ _ _ _ _
  refine wp_seq ?_
  refine wp_region_lit ?_
  refine st_mv (.int .i64 1) ?_
  simp only [nf0, nf1, nf2, nf3, nf4]
  refine wpList_nil ?_
  show Code.wp _ _ _ _ _
  refine wp_block ?_
  refine wp_seq ?_
  refine wp_region_lit ?_
  refine st_value (v := (.bool false)) (by rfl) (run_eql_int_f (.tmp 54) (.const (.int .i64 0)) rfl rfl rfl (by decide) w43) ?_
  simp only [nf0, nf1, nf2, nf3, nf4]
  refine st_mv (.bool false) ?_
  simp only [nf0, nf1, nf2, nf3, nf4]
  refine wpList_nil ?_
  show Code.wp _ _ _ _ _
  refine wp_cond_false rfl ?_
  refine wp_seq ?_
  refine wp_region_lit ?_
  refine st_value (v := (.bool true)) (by rfl) (run_eql_int_t (.tmp 54) (.const (.int .i64 1)) rfl rfl rfl rfl w43) ?_
  simp only [nf0, nf1, nf2, nf3, nf4]
  refine st_mv (.bool true) ?_
  simp only [nf0, nf1, nf2, nf3, nf4]
  refine wpList_nil ?_
  show Code.wp _ _ _ _ _
  refine wp_cond_true rfl ?_
  refine wp_region_lit ?_
  refine st_mv (.int .i64 z2) ?_
  simp only [nf0, nf1, nf2, nf3, nf4]
  refine st_value (v := (.pointer (some ⟨g21, 2, none⟩))) (by rfl) (run_fieldA (.tmp 6) rfl f_fld_23_2 rfl rfl w43) ?_
  simp only [nf0, nf1, nf2, nf3, nf4]
  refine st_cell (v := (.int .i64 z2)) (by rfl) (run_storeB (.tmp 64) (.tmp 63) rfl f_one_3 B38 (show 2 < 5 by decide) rfl rfl rfl rfl) B38 ?_
  intro w45 B47 hg46
  simp only [nf0, nf1, nf2, nf3, nf4]
  replace B3 := B3.kept hg46 n26
  replace bel := bl_kept0 bel hg46 lo25
  clear hg46
  clear B38
  replace B47 : Blk w45 g21 #[.int .i64 (k : Int), .int .i64 z1, .int .i64 z2, .int .i64 0, .int .i64 0] 23 := B47
  refine wpList_nil ?_
  show Code.wp _ _ _ _ _
  refine wp_region_lit ?_
  refine st_mv (.int .i64 1) ?_
  simp only [nf0, nf1, nf2, nf3, nf4]
  refine st_value (v := (.int .i64 2)) (by rfl) ((run_add_in (.tmp 36) (.const (.int .i64 1)) rfl rfl rfl (by omega) w45).trans (by rw [show ((1 : Int) + 1) = 2 by omega])) ?_
  simp only [nf0, nf1, nf2, nf3, nf4]
  refine st_mv (.int .i64 2) ?_
  simp only [nf0, nf1, nf2, nf3, nf4]
  refine wpList_nil ?_
  show Code.wp _ _ _ _ _
  refine wp_seq ?_
  refine wp_seq ?_
  refine wp_region_lit ?_
  refine st_mv (.int .i64 2) ?_
  simp only [nf0, nf1, nf2, nf3, nf4]
  refine st_value (v := (.bool true)) (by rfl) ((run_lss (.tmp 34) (.const (.int .i64 4)) rfl rfl rfl w45).trans (by rw [decide_eq_true (by omega)])) ?_
  simp only [nf0, nf1, nf2, nf3, nf4]
  refine wpList_nil ?_
  show Code.wp _ _ _ _ _
  refine wp_cond_true rfl ?_
  refine wp_skip ?_
  show Code.wp _ _ _ _ _
  refine wp_seq ?_
  refine wp_block ?_
  refine wp_seq ?_
  refine wp_seq ?_
  refine wp_region_lit ?_
  refine st_mv (.int .i64 (((((nm (k : Int)).length) + (1 + q1)) + (1 + q2) : Nat) : Int)) ?_
  simp only [nf0, nf1, nf2, nf3, nf4]
  refine st_mv (.string (str l)) ?_
  simp only [nf0, nf1, nf2, nf3, nf4]
  refine st_value (v := (.int .i64 (l.length : Int))) (by rfl) (run_len_text (.tmp 39) rfl Tryd.underlying9 (l := l) rfl w45) ?_
  simp only [nf0, nf1, nf2, nf3, nf4]
  refine st_value (v := (.bool (decide ((l.length : Int) ≤ (((((nm (k : Int)).length) + (1 + q1)) + (1 + q2) : Nat) : Int))))) (by rfl) (run_geq (.tmp 38) (.tmp 40) rfl rfl rfl w45) ?_
  simp only [nf0, nf1, nf2, nf3, nf4]
  refine wpList_nil ?_
  show Code.wp _ _ _ _ _
  cases hg48 : decide ((l.length : Int) ≤ (((((nm (k : Int)).length) + (1 + q1)) + (1 + q2) : Nat) : Int))
  rotate_left
  · have hp83 := of_decide_eq_true hg48
    refine wp_cond_true rfl ?_
    refine wp_exit ?_
    show Code.wp _ _ _ _ _
    refine wp_seq ?_
    refine wp_region_lit ?_
    refine st_value (v := (.agg #[.int .i64 (k : Int), .int .i64 z1, .int .i64 z2, .int .i64 0, .int .i64 0])) (by rfl) (run_loadW (.tmp 6) rfl (cs := #[.int .i64 (k : Int), .int .i64 z1, .int .i64 z2, .int .i64 0, .int .i64 0]) aggEvt rfl B47) ?_
    simp only [nf0, nf1, nf2, nf3, nf4]
    refine st_call1 (v := (.string (str (prE (((k : Int), z1, z2, 0, 0) : TEvt))))) (by rfl) (f_run_call_13_1 (.tmp 69) rfl rfl _) (refPrint_calls (((k : Int), z1, z2, 0, 0) : TEvt) ⟨⟨by show _ ≤ (k : Int); omega, by show (k : Int) ≤ _; omega⟩, hz1.1, hz2.1, zero64, zero64⟩ w45) ?_
    intro w84 hb85
    simp only [nf0, nf1, nf2, nf3, nf4]
    replace B3 := B3.below hb85
    replace B47 := B47.below hb85
    replace bel := bl_step bel hb85
    clear hb85
    refine st_mv (.string (str l)) ?_
    simp only [nf0, nf1, nf2, nf3, nf4]
    refine st_value (v := (.bool (decide ((prE (((k : Int), z1, z2, 0, 0) : TEvt)) = l)))) (by rfl) (run_eql_text (.tmp 70) (.tmp 71) (l := (prE (((k : Int), z1, z2, 0, 0) : TEvt))) (m := l) rfl rfl rfl w84) ?_
    simp only [nf0, nf1, nf2, nf3, nf4]
    refine wpList_nil ?_
    show Code.wp _ _ _ _ _
    cases hg86 : decide ((prE (((k : Int), z1, z2, 0, 0) : TEvt)) = l)
    · have hp87 := of_decide_eq_false hg86
      refine wp_cond_false rfl ?_
      refine wp_skip ?_
      show Code.wp _ _ _ _ _
      refine wp_region_lit ?_
      refine st_mv (.int .i64 (k : Int)) ?_
      simp only [nf0, nf1, nf2, nf3, nf4]
      refine st_value (v := (.int .i64 ((k : Int) + 1))) (by rfl) (run_add_in (.tmp 13) (.const (.int .i64 1)) rfl rfl rfl (by omega) w84) ?_
      simp only [nf0, nf1, nf2, nf3, nf4]
      refine st_mv (.int .i64 ((k : Int) + 1)) ?_
      simp only [nf0, nf1, nf2, nf3, nf4]
      refine wpList_nil ?_
      show ∃ m, m < _ ∧ _
      exact ⟨_, (by omega), (k + 1), rfl, rfl, B3, bel, (by omega), (past hN (mt_break hm2 (by simp) (by omega)))⟩
    have hp88 := of_decide_eq_true hg86
    refine wp_cond_true rfl ?_
    refine wp_seq ?_
    refine wp_region_lit ?_
    refine st_value (v := (.agg #[.int .i64 (k : Int), .int .i64 z1, .int .i64 z2, .int .i64 0, .int .i64 0])) (by rfl) (run_loadW (.tmp 6) rfl (cs := #[.int .i64 (k : Int), .int .i64 z1, .int .i64 z2, .int .i64 0, .int .i64 0]) aggEvt rfl B47) ?_
    simp only [nf0, nf1, nf2, nf3, nf4]
    refine st_row (by rfl) (run_storeW (.tmp 2) (.tmp 73) rfl (cs := #[.int .i64 (k : Int), .int .i64 z1, .int .i64 z2, .int .i64 0, .int .i64 0]) aggEvt rfl rfl B3 rfl (by simp [Value.oneCell'])) B3 ?_
    intro w89 B91 hg90
    simp only [nf0, nf1, nf2, nf3, nf4]
    replace B47 := B47.kept hg90 n26.symm
    replace bel := bl_kept0 bel hg90 lo5
    clear hg90
    clear B3
    refine st_mv (.bool true) ?_
    simp only [nf0, nf1, nf2, nf3, nf4]
    refine wpList_nil ?_
    show Code.wp _ _ _ _ _
    refine wp_ret ?_
    first | show bodyPost _ _ _ _ _ _ | (simp only [Exit.then, Exit.inBlock]; show bodyPost _ _ _ _ _ _)
    have hE : pE l = ((((k : Int), z1, z2, 0, 0) : TEvt), true) := pE_yes ⟨by show known (k : Int); unfold known; omega, ⟨⟨by show _ ≤ (k : Int); omega, by show (k : Int) ≤ _; omega⟩, hz1.1, hz2.1, zero64, zero64⟩⟩ (by assumption)
    exact bodyPost_ret (results_agg1t rfl (cs := #[.int .i64 (k : Int), .int .i64 z1, .int .i64 z2, .int .i64 0, .int .i64 0]) aggEvt (by rfl) B91) rfl ⟨by rw [hE]; rfl, bel⟩
  have hp49 := of_decide_eq_false hg48
  refine wp_cond_false rfl ?_
  refine wp_skip ?_
  show Code.wp _ _ _ _ _
  refine wp_seq ?_
  refine wp_region_lit ?_
  refine st_mv (.string (str l)) ?_
  simp only [nf0, nf1, nf2, nf3, nf4]
  refine st_mv (.int .i64 (((((nm (k : Int)).length) + (1 + q1)) + (1 + q2) : Nat) : Int)) ?_
  simp only [nf0, nf1, nf2, nf3, nf4]
  refine st_value (v := (.int .i64 ((((((nm (k : Int)).length) + (1 + q1)) + (1 + q2) : Nat) : Int) + 1))) (by rfl) (run_add_in (.tmp 44) (.const (.int .i64 1)) rfl rfl rfl (by omega) w45) ?_
  simp only [nf0, nf1, nf2, nf3, nf4]
  refine st_value (v := (.string (str (l.drop (((((nm (k : Int)).length) + (1 + q1)) + (1 + q2)) + 1))))) (by rfl) (run_from_text (.tmp 43) (.tmp 45) rfl Tryd.underlying9 (l := l) (p := (((((nm (k : Int)).length) + (1 + q1)) + (1 + q2)) + 1)) rfl rfl (by omega) (by omega) w45) ?_
  simp only [nf0, nf1, nf2, nf3, nf4]
  obtain ⟨z3, q3, hq3⟩ : ∃ z q, rnum (l.drop (((((nm (k : Int)).length) + (1 + q1)) + (1 + q2)) + 1)) = (z, q) := ⟨_, _, rfl⟩
  have hz3 := rnum_I64 (l.drop (((((nm (k : Int)).length) + (1 + q1)) + (1 + q2)) + 1))
  rw [hq3, List.length_drop] at hz3
  have hm3 : Mt l (k : Int) (((((nm (k : Int)).length) + (1 + q1)) + (1 + q2)) + (1 + q3)) [z1, z2, z3] := mt_next hm2  (by simp) hq3
  have hc50 := refNumber_calls (l.drop (((((nm (k : Int)).length) + (1 + q1)) + (1 + q2)) + 1)) (by rw [List.length_drop]; omega) w45
  rw [hq3] at hc50
  obtain ⟨z3, q3, hq3⟩ : ∃ z q, rnum (l.drop (((((nm (k : Int)).length) + (1 + q1)) + (1 + q2)) + 1)) = (z, q) := ⟨_, _, rfl⟩
  have hz3 := rnum_I64 (l.drop (((((nm (k : Int)).length) + (1 + q1)) + (1 + q2)) + 1))
  rw [hq3, List.length_drop] at hz3
  have hm3 : Mt l (k : Int) (((((nm (k : Int)).length) + (1 + q1)) + (1 + q2)) + (1 + q3)) [z1, z2, z3] := mt_next hm2  (by simp) hq3
  have hc51 := refNumber_calls (l.drop (((((nm (k : Int)).length) + (1 + q1)) + (1 + q2)) + 1)) (by rw [List.length_drop]; omega) w45
  rw [hq3] at hc51
  refine st_call1 (v := (.tuple #[.int .i64 z3, .int .i64 (q3 : Int)])) (by rfl) (f_run_call_24_1 (.tmp 46) rfl rfl _) hc51 ?_
  intro w52 hb53
  simp only [nf0, nf1, nf2, nf3, nf4]
  replace B3 := B3.below hb53
  replace B47 := B47.below hb53
  replace bel := bl_step bel hb53
  clear hb53
  refine st_mv (.tuple #[.int .i64 z3, .int .i64 (q3 : Int)]) ?_
  simp only [nf0, nf1, nf2, nf3, nf4]
  refine st_mv (.int .i64 z3) ?_
  simp only [nf0, nf1, nf2, nf3, nf4]
  refine st_mv (.int .i64 (q3 : Int)) ?_
  simp only [nf0, nf1, nf2, nf3, nf4]
  refine st_mv (.int .i64 z3) ?_
  simp only [nf0, nf1, nf2, nf3, nf4]
  refine st_mv (.int .i64 (q3 : Int)) ?_
  simp only [nf0, nf1, nf2, nf3, nf4]
  refine wpList_nil ?_
  show Code.wp _ _ _ _ _
  refine wp_seq ?_
  refine wp_region_lit ?_
  refine st_mv (.int .i64 (((((nm (k : Int)).length) + (1 + q1)) + (1 + q2) : Nat) : Int)) ?_
  simp only [nf0, nf1, nf2, nf3, nf4]
  refine st_mv (.int .i64 (q3 : Int)) ?_
  simp only [nf0, nf1, nf2, nf3, nf4]
  refine st_value (v := (.int .i64 (1 + (q3 : Int)))) (by rfl) (run_add_in (.const (.int .i64 1)) (.tmp 51) rfl rfl rfl (by omega) w52) ?_
  simp only [nf0, nf1, nf2, nf3, nf4]
  refine st_value (v := (.int .i64 ((((((nm (k : Int)).length) + (1 + q1)) + (1 + q2)) + (1 + q3) : Nat) : Int))) (by rfl) ((run_add_in (.tmp 50) (.tmp 52) rfl rfl rfl (by omega) w52).trans (by rw [show ((((((nm (k : Int)).length) + (1 + q1)) + (1 + q2) : Nat) : Int)) + ((1 + (q3 : Int))) = ((((((nm (k : Int)).length) + (1 + q1)) + (1 + q2)) + (1 + q3) : Nat) : Int) by omega])) ?_
  simp only [nf0, nf1, nf2, nf3, nf4]
  refine st_mv (.int .i64 ((((((nm (k : Int)).length) + (1 + q1)) + (1 + q2)) + (1 + q3) : Nat) : Int)) ?_
  simp only [nf0, nf1, nf2, nf3, nf4]
  refine wpList_nil ?_
  show Code.wp _ _ _ _ _
  refine wp_seq ?_
  refine wp_region_lit ?_
  refine st_mv (.int .i64 2) ?_
  simp only [nf0, nf1, nf2, nf3, nf4]
  refine wpList_nil ?_
  show Code.wp _ _ _ _ _
  refine wp_block ?_
  refine wp_seq ?_
  refine wp_region_lit ?_
  refine st_value (v := (.bool false)) (by rfl) (run_eql_int_f (.tmp 54) (.const (.int .i64 0)) rfl rfl rfl (by decide) w52) ?_
  simp only [nf0, nf1, nf2, nf3, nf4]
  refine st_mv (.bool false) ?_
  simp only [nf0, nf1, nf2, nf3, nf4]
  refine wpList_nil ?_
  show Code.wp _ _ _ _ _
  refine wp_cond_false rfl ?_
  refine wp_seq ?_
  refine wp_region_lit ?_
  refine st_value (v := (.bool false)) (by rfl) (run_eql_int_f (.tmp 54) (.const (.int .i64 1)) rfl rfl rfl (by decide) w52) ?_
  simp only [nf0, nf1, nf2, nf3, nf4]
  refine st_mv (.bool false) ?_
  simp only [nf0, nf1, nf2, nf3, nf4]
  refine wpList_nil ?_
  show Code.wp _ _ _ _ _
  refine wp_cond_false rfl ?_
  refine wp_seq ?_
  refine wp_region_lit ?_
  refine st_value (v := (.bool true)) (by rfl) (run_eql_int_t (.tmp 54) (.const (.int .i64 2)) rfl rfl rfl rfl w52) ?_
  simp only [nf0, nf1, nf2, nf3, nf4]
  refine st_mv (.bool true) ?_
  simp only [nf0, nf1, nf2, nf3, nf4]
  refine wpList_nil ?_
  show Code.wp _ _ _ _ _
  refine wp_cond_true rfl ?_
  refine wp_region_lit ?_
  refine st_mv (.int .i64 z3) ?_
  simp only [nf0, nf1, nf2, nf3, nf4]
  refine st_value (v := (.pointer (some ⟨g21, 3, none⟩))) (by rfl) (run_fieldA (.tmp 6) rfl f_fld_23_3 rfl rfl w52) ?_
  simp only [nf0, nf1, nf2, nf3, nf4]
  refine st_cell (v := (.int .i64 z3)) (by rfl) (run_storeB (.tmp 68) (.tmp 67) rfl f_one_3 B47 (show 3 < 5 by decide) rfl rfl rfl rfl) B47 ?_
  intro w54 B56 hg55
  simp only [nf0, nf1, nf2, nf3, nf4]
  replace B3 := B3.kept hg55 n26
  replace bel := bl_kept0 bel hg55 lo25
  clear hg55
  clear B47
  replace B56 : Blk w54 g21 #[.int .i64 (k : Int), .int .i64 z1, .int .i64 z2, .int .i64 z3, .int .i64 0] 23 := B56
  refine wpList_nil ?_
  show Code.wp _ _ _ _ _
  refine wp_region_lit ?_
  refine st_mv (.int .i64 2) ?_
  simp only [nf0, nf1, nf2, nf3, nf4]
  refine st_value (v := (.int .i64 3)) (by rfl) ((run_add_in (.tmp 36) (.const (.int .i64 1)) rfl rfl rfl (by omega) w54).trans (by rw [show ((2 : Int) + 1) = 3 by omega])) ?_
  simp only [nf0, nf1, nf2, nf3, nf4]
  refine st_mv (.int .i64 3) ?_
  simp only [nf0, nf1, nf2, nf3, nf4]
  refine wpList_nil ?_
  show Code.wp _ _ _ _ _
  refine wp_seq ?_
  refine wp_seq ?_
  refine wp_region_lit ?_
  refine st_mv (.int .i64 3) ?_
  simp only [nf0, nf1, nf2, nf3, nf4]
  refine st_value (v := (.bool true)) (by rfl) ((run_lss (.tmp 34) (.const (.int .i64 4)) rfl rfl rfl w54).trans (by rw [decide_eq_true (by omega)])) ?_
  simp only [nf0, nf1, nf2, nf3, nf4]
  refine wpList_nil ?_
  show Code.wp _ _ _ _ _
  refine wp_cond_true rfl ?_
  refine wp_skip ?_
  show Code.wp _ _ _ _ _
  refine wp_seq ?_
  refine wp_block ?_
  refine wp_seq ?_
  refine wp_seq ?_
  refine wp_region_lit ?_
  refine st_mv (.int .i64 ((((((nm (k : Int)).length) + (1 + q1)) + (1 + q2)) + (1 + q3) : Nat) : Int)) ?_
  simp only [nf0, nf1, nf2, nf3, nf4]
  refine st_mv (.string (str l)) ?_
  simp only [nf0, nf1, nf2, nf3, nf4]
  refine st_value (v := (.int .i64 (l.length : Int))) (by rfl) (run_len_text (.tmp 39) rfl Tryd.underlying9 (l := l) rfl w54) ?_
  simp only [nf0, nf1, nf2, nf3, nf4]
  refine st_value (v := (.bool (decide ((l.length : Int) ≤ ((((((nm (k : Int)).length) + (1 + q1)) + (1 + q2)) + (1 + q3) : Nat) : Int))))) (by rfl) (run_geq (.tmp 38) (.tmp 40) rfl rfl rfl w54) ?_
  simp only [nf0, nf1, nf2, nf3, nf4]
  refine wpList_nil ?_
  show Code.wp _ _ _ _ _
  cases hg57 : decide ((l.length : Int) ≤ ((((((nm (k : Int)).length) + (1 + q1)) + (1 + q2)) + (1 + q3) : Nat) : Int))
  rotate_left
  · have hp74 := of_decide_eq_true hg57
    refine wp_cond_true rfl ?_
    refine wp_exit ?_
    show Code.wp _ _ _ _ _
    refine wp_seq ?_
    refine wp_region_lit ?_
    refine st_value (v := (.agg #[.int .i64 (k : Int), .int .i64 z1, .int .i64 z2, .int .i64 z3, .int .i64 0])) (by rfl) (run_loadW (.tmp 6) rfl (cs := #[.int .i64 (k : Int), .int .i64 z1, .int .i64 z2, .int .i64 z3, .int .i64 0]) aggEvt rfl B56) ?_
    simp only [nf0, nf1, nf2, nf3, nf4]
    refine st_call1 (v := (.string (str (prE (((k : Int), z1, z2, z3, 0) : TEvt))))) (by rfl) (f_run_call_13_1 (.tmp 69) rfl rfl _) (refPrint_calls (((k : Int), z1, z2, z3, 0) : TEvt) ⟨⟨by show _ ≤ (k : Int); omega, by show (k : Int) ≤ _; omega⟩, hz1.1, hz2.1, hz3.1, zero64⟩ w54) ?_
    intro w75 hb76
    simp only [nf0, nf1, nf2, nf3, nf4]
    replace B3 := B3.below hb76
    replace B56 := B56.below hb76
    replace bel := bl_step bel hb76
    clear hb76
    refine st_mv (.string (str l)) ?_
    simp only [nf0, nf1, nf2, nf3, nf4]
    refine st_value (v := (.bool (decide ((prE (((k : Int), z1, z2, z3, 0) : TEvt)) = l)))) (by rfl) (run_eql_text (.tmp 70) (.tmp 71) (l := (prE (((k : Int), z1, z2, z3, 0) : TEvt))) (m := l) rfl rfl rfl w75) ?_
    simp only [nf0, nf1, nf2, nf3, nf4]
    refine wpList_nil ?_
    show Code.wp _ _ _ _ _
    cases hg77 : decide ((prE (((k : Int), z1, z2, z3, 0) : TEvt)) = l)
    · have hp78 := of_decide_eq_false hg77
      refine wp_cond_false rfl ?_
      refine wp_skip ?_
      show Code.wp _ _ _ _ _
      refine wp_region_lit ?_
      refine st_mv (.int .i64 (k : Int)) ?_
      simp only [nf0, nf1, nf2, nf3, nf4]
      refine st_value (v := (.int .i64 ((k : Int) + 1))) (by rfl) (run_add_in (.tmp 13) (.const (.int .i64 1)) rfl rfl rfl (by omega) w75) ?_
      simp only [nf0, nf1, nf2, nf3, nf4]
      refine st_mv (.int .i64 ((k : Int) + 1)) ?_
      simp only [nf0, nf1, nf2, nf3, nf4]
      refine wpList_nil ?_
      show ∃ m, m < _ ∧ _
      exact ⟨_, (by omega), (k + 1), rfl, rfl, B3, bel, (by omega), (past hN (mt_break hm3 (by simp) (by omega)))⟩
    have hp79 := of_decide_eq_true hg77
    refine wp_cond_true rfl ?_
    refine wp_seq ?_
    refine wp_region_lit ?_
    refine st_value (v := (.agg #[.int .i64 (k : Int), .int .i64 z1, .int .i64 z2, .int .i64 z3, .int .i64 0])) (by rfl) (run_loadW (.tmp 6) rfl (cs := #[.int .i64 (k : Int), .int .i64 z1, .int .i64 z2, .int .i64 z3, .int .i64 0]) aggEvt rfl B56) ?_
    simp only [nf0, nf1, nf2, nf3, nf4]
    refine st_row (by rfl) (run_storeW (.tmp 2) (.tmp 73) rfl (cs := #[.int .i64 (k : Int), .int .i64 z1, .int .i64 z2, .int .i64 z3, .int .i64 0]) aggEvt rfl rfl B3 rfl (by simp [Value.oneCell'])) B3 ?_
    intro w80 B82 hg81
    simp only [nf0, nf1, nf2, nf3, nf4]
    replace B56 := B56.kept hg81 n26.symm
    replace bel := bl_kept0 bel hg81 lo5
    clear hg81
    clear B3
    refine st_mv (.bool true) ?_
    simp only [nf0, nf1, nf2, nf3, nf4]
    refine wpList_nil ?_
    show Code.wp _ _ _ _ _
    refine wp_ret ?_
    first | show bodyPost _ _ _ _ _ _ | (simp only [Exit.then, Exit.inBlock]; show bodyPost _ _ _ _ _ _)
    have hE : pE l = ((((k : Int), z1, z2, z3, 0) : TEvt), true) := pE_yes ⟨by show known (k : Int); unfold known; omega, ⟨⟨by show _ ≤ (k : Int); omega, by show (k : Int) ≤ _; omega⟩, hz1.1, hz2.1, hz3.1, zero64⟩⟩ (by assumption)
    exact bodyPost_ret (results_agg1t rfl (cs := #[.int .i64 (k : Int), .int .i64 z1, .int .i64 z2, .int .i64 z3, .int .i64 0]) aggEvt (by rfl) B82) rfl ⟨by rw [hE]; rfl, bel⟩
  have hp58 := of_decide_eq_false hg57
  refine wp_cond_false rfl ?_
  refine wp_skip ?_
  show Code.wp _ _ _ _ _
  refine wp_seq ?_
  refine wp_region_lit ?_
  refine st_mv (.string (str l)) ?_
  simp only [nf0, nf1, nf2, nf3, nf4]
  refine st_mv (.int .i64 ((((((nm (k : Int)).length) + (1 + q1)) + (1 + q2)) + (1 + q3) : Nat) : Int)) ?_
  simp only [nf0, nf1, nf2, nf3, nf4]
  refine st_value (v := (.int .i64 (((((((nm (k : Int)).length) + (1 + q1)) + (1 + q2)) + (1 + q3) : Nat) : Int) + 1))) (by rfl) (run_add_in (.tmp 44) (.const (.int .i64 1)) rfl rfl rfl (by omega) w54) ?_
  simp only [nf0, nf1, nf2, nf3, nf4]
  refine st_value (v := (.string (str (l.drop ((((((nm (k : Int)).length) + (1 + q1)) + (1 + q2)) + (1 + q3)) + 1))))) (by rfl) (run_from_text (.tmp 43) (.tmp 45) rfl Tryd.underlying9 (l := l) (p := ((((((nm (k : Int)).length) + (1 + q1)) + (1 + q2)) + (1 + q3)) + 1)) rfl rfl (by omega) (by omega) w54) ?_
  simp only [nf0, nf1, nf2, nf3, nf4]
  obtain ⟨z4, q4, hq4⟩ : ∃ z q, rnum (l.drop ((((((nm (k : Int)).length) + (1 + q1)) + (1 + q2)) + (1 + q3)) + 1)) = (z, q) := ⟨_, _, rfl⟩
  have hz4 := rnum_I64 (l.drop ((((((nm (k : Int)).length) + (1 + q1)) + (1 + q2)) + (1 + q3)) + 1))
  rw [hq4, List.length_drop] at hz4
  have hm4 : Mt l (k : Int) ((((((nm (k : Int)).length) + (1 + q1)) + (1 + q2)) + (1 + q3)) + (1 + q4)) [z1, z2, z3, z4] := mt_next hm3  (by simp) hq4
  have hc59 := refNumber_calls (l.drop ((((((nm (k : Int)).length) + (1 + q1)) + (1 + q2)) + (1 + q3)) + 1)) (by rw [List.length_drop]; omega) w54
  rw [hq4] at hc59
  obtain ⟨z4, q4, hq4⟩ : ∃ z q, rnum (l.drop ((((((nm (k : Int)).length) + (1 + q1)) + (1 + q2)) + (1 + q3)) + 1)) = (z, q) := ⟨_, _, rfl⟩
  have hz4 := rnum_I64 (l.drop ((((((nm (k : Int)).length) + (1 + q1)) + (1 + q2)) + (1 + q3)) + 1))
  rw [hq4, List.length_drop] at hz4
  have hm4 : Mt l (k : Int) ((((((nm (k : Int)).length) + (1 + q1)) + (1 + q2)) + (1 + q3)) + (1 + q4)) [z1, z2, z3, z4] := mt_next hm3  (by simp) hq4
  have hc60 := refNumber_calls (l.drop ((((((nm (k : Int)).length) + (1 + q1)) + (1 + q2)) + (1 + q3)) + 1)) (by rw [List.length_drop]; omega) w54
  rw [hq4] at hc60
  refine st_call1 (v := (.tuple #[.int .i64 z4, .int .i64 (q4 : Int)])) (by rfl) (f_run_call_24_1 (.tmp 46) rfl rfl _) hc60 ?_
  intro w61 hb62
  simp only [nf0, nf1, nf2, nf3, nf4]
  replace B3 := B3.below hb62
  replace B56 := B56.below hb62
  replace bel := bl_step bel hb62
  clear hb62
  refine st_mv (.tuple #[.int .i64 z4, .int .i64 (q4 : Int)]) ?_
  simp only [nf0, nf1, nf2, nf3, nf4]
  refine st_mv (.int .i64 z4) ?_
  simp only [nf0, nf1, nf2, nf3, nf4]
  refine st_mv (.int .i64 (q4 : Int)) ?_
  simp only [nf0, nf1, nf2, nf3, nf4]
  refine st_mv (.int .i64 z4) ?_
  simp only [nf0, nf1, nf2, nf3, nf4]
  refine st_mv (.int .i64 (q4 : Int)) ?_
  simp only [nf0, nf1, nf2, nf3, nf4]
  refine wpList_nil ?_
  show Code.wp _ _ _ _ _
  refine wp_seq ?_
  refine wp_region_lit ?_
  refine st_mv (.int .i64 ((((((nm (k : Int)).length) + (1 + q1)) + (1 + q2)) + (1 + q3) : Nat) : Int)) ?_
  simp only [nf0, nf1, nf2, nf3, nf4]
  refine st_mv (.int .i64 (q4 : Int)) ?_
  simp only [nf0, nf1, nf2, nf3, nf4]
  refine st_value (v := (.int .i64 (1 + (q4 : Int)))) (by rfl) (run_add_in (.const (.int .i64 1)) (.tmp 51) rfl rfl rfl (by omega) w61) ?_
  simp only [nf0, nf1, nf2, nf3, nf4]
  refine st_value (v := (.int .i64 (((((((nm (k : Int)).length) + (1 + q1)) + (1 + q2)) + (1 + q3)) + (1 + q4) : Nat) : Int))) (by rfl) ((run_add_in (.tmp 50) (.tmp 52) rfl rfl rfl (by omega) w61).trans (by rw [show (((((((nm (k : Int)).length) + (1 + q1)) + (1 + q2)) + (1 + q3) : Nat) : Int)) + ((1 + (q4 : Int))) = (((((((nm (k : Int)).length) + (1 + q1)) + (1 + q2)) + (1 + q3)) + (1 + q4) : Nat) : Int) by omega])) ?_
  simp only [nf0, nf1, nf2, nf3, nf4]
  refine st_mv (.int .i64 (((((((nm (k : Int)).length) + (1 + q1)) + (1 + q2)) + (1 + q3)) + (1 + q4) : Nat) : Int)) ?_
  simp only [nf0, nf1, nf2, nf3, nf4]
  refine wpList_nil ?_
  show Code.wp _ _ _ _ _
  refine wp_seq ?_
  refine wp_region_lit ?_
  refine st_mv (.int .i64 3) ?_
  simp only [nf0, nf1, nf2, nf3, nf4]
  refine wpList_nil ?_
  show Code.wp _ _ _ _ _
  refine wp_block ?_
  refine wp_seq ?_
  refine wp_region_lit ?_
  refine st_value (v := (.bool false)) (by rfl) (run_eql_int_f (.tmp 54) (.const (.int .i64 0)) rfl rfl rfl (by decide) w61) ?_
  simp only [nf0, nf1, nf2, nf3, nf4]
  refine st_mv (.bool false) ?_
  simp only [nf0, nf1, nf2, nf3, nf4]
  refine wpList_nil ?_
  show Code.wp _ _ _ _ _
  refine wp_cond_false rfl ?_
  refine wp_seq ?_
  refine wp_region_lit ?_
  refine st_value (v := (.bool false)) (by rfl) (run_eql_int_f (.tmp 54) (.const (.int .i64 1)) rfl rfl rfl (by decide) w61) ?_
  simp only [nf0, nf1, nf2, nf3, nf4]
  refine st_mv (.bool false) ?_
  simp only [nf0, nf1, nf2, nf3, nf4]
  refine wpList_nil ?_
  show Code.wp _ _ _ _ _
  refine wp_cond_false rfl ?_
  refine wp_seq ?_
  refine wp_region_lit ?_
  refine st_value (v := (.bool false)) (by rfl) (run_eql_int_f (.tmp 54) (.const (.int .i64 2)) rfl rfl rfl (by decide) w61) ?_
  simp only [nf0, nf1, nf2, nf3, nf4]
  refine st_mv (.bool false) ?_
  simp only [nf0, nf1, nf2, nf3, nf4]
  refine wpList_nil ?_
  show Code.wp _ _ _ _ _
  refine wp_cond_false rfl ?_
  refine wp_region_lit ?_
  refine st_mv (.int .i64 z4) ?_
  simp only [nf0, nf1, nf2, nf3, nf4]
  refine st_value (v := (.pointer (some ⟨g21, 4, none⟩))) (by rfl) (run_fieldA (.tmp 6) rfl f_fld_23_4 rfl rfl w61) ?_
  simp only [nf0, nf1, nf2, nf3, nf4]
  refine st_cell (v := (.int .i64 z4)) (by rfl) (run_storeB (.tmp 56) (.tmp 55) rfl f_one_3 B56 (show 4 < 5 by decide) rfl rfl rfl rfl) B56 ?_
  intro w63 B65 hg64
  simp only [nf0, nf1, nf2, nf3, nf4]
  replace B3 := B3.kept hg64 n26
  replace bel := bl_kept0 bel hg64 lo25
  clear hg64
  clear B56
  replace B65 : Blk w63 g21 #[.int .i64 (k : Int), .int .i64 z1, .int .i64 z2, .int .i64 z3, .int .i64 z4] 23 := B65
  refine wpList_nil ?_
  show Code.wp _ _ _ _ _
  refine wp_region_lit ?_
  refine st_mv (.int .i64 3) ?_
  simp only [nf0, nf1, nf2, nf3, nf4]
  refine st_value (v := (.int .i64 4)) (by rfl) ((run_add_in (.tmp 36) (.const (.int .i64 1)) rfl rfl rfl (by omega) w63).trans (by rw [show ((3 : Int) + 1) = 4 by omega])) ?_
  simp only [nf0, nf1, nf2, nf3, nf4]
  refine st_mv (.int .i64 4) ?_
  simp only [nf0, nf1, nf2, nf3, nf4]
  refine wpList_nil ?_
  show Code.wp _ _ _ _ _
  refine wp_seq ?_
  refine wp_seq ?_
  refine wp_region_lit ?_
  refine st_mv (.int .i64 4) ?_
  simp only [nf0, nf1, nf2, nf3, nf4]
  refine st_value (v := (.bool false)) (by rfl) ((run_lss (.tmp 34) (.const (.int .i64 4)) rfl rfl rfl w63).trans (by rw [decide_eq_false (by omega)])) ?_
  simp only [nf0, nf1, nf2, nf3, nf4]
  refine wpList_nil ?_
  show Code.wp _ _ _ _ _
  refine wp_cond_false rfl ?_
  refine wp_exit ?_
  show Code.wp _ _ _ _ _
  refine wp_seq ?_
  refine wp_region_lit ?_
  refine st_value (v := (.agg #[.int .i64 (k : Int), .int .i64 z1, .int .i64 z2, .int .i64 z3, .int .i64 z4])) (by rfl) (run_loadW (.tmp 6) rfl (cs := #[.int .i64 (k : Int), .int .i64 z1, .int .i64 z2, .int .i64 z3, .int .i64 z4]) aggEvt rfl B65) ?_
  simp only [nf0, nf1, nf2, nf3, nf4]
  refine st_call1 (v := (.string (str (prE (((k : Int), z1, z2, z3, z4) : TEvt))))) (by rfl) (f_run_call_13_1 (.tmp 69) rfl rfl _) (refPrint_calls (((k : Int), z1, z2, z3, z4) : TEvt) ⟨⟨by show _ ≤ (k : Int); omega, by show (k : Int) ≤ _; omega⟩, hz1.1, hz2.1, hz3.1, hz4.1⟩ w63) ?_
  intro w66 hb67
  simp only [nf0, nf1, nf2, nf3, nf4]
  replace B3 := B3.below hb67
  replace B65 := B65.below hb67
  replace bel := bl_step bel hb67
  clear hb67
  refine st_mv (.string (str l)) ?_
  simp only [nf0, nf1, nf2, nf3, nf4]
  refine st_value (v := (.bool (decide ((prE (((k : Int), z1, z2, z3, z4) : TEvt)) = l)))) (by rfl) (run_eql_text (.tmp 70) (.tmp 71) (l := (prE (((k : Int), z1, z2, z3, z4) : TEvt))) (m := l) rfl rfl rfl w66) ?_
  simp only [nf0, nf1, nf2, nf3, nf4]
  refine wpList_nil ?_
  show Code.wp _ _ _ _ _
  cases hg68 : decide ((prE (((k : Int), z1, z2, z3, z4) : TEvt)) = l)
  · have hp69 := of_decide_eq_false hg68
    refine wp_cond_false rfl ?_
    refine wp_skip ?_
    show Code.wp _ _ _ _ _
    refine wp_region_lit ?_
    refine st_mv (.int .i64 (k : Int)) ?_
    simp only [nf0, nf1, nf2, nf3, nf4]
    refine st_value (v := (.int .i64 ((k : Int) + 1))) (by rfl) (run_add_in (.tmp 13) (.const (.int .i64 1)) rfl rfl rfl (by omega) w66) ?_
    simp only [nf0, nf1, nf2, nf3, nf4]
    refine st_mv (.int .i64 ((k : Int) + 1)) ?_
    simp only [nf0, nf1, nf2, nf3, nf4]
    refine wpList_nil ?_
    show ∃ m, m < _ ∧ _
    exact ⟨_, (by omega), (k + 1), rfl, rfl, B3, bel, (by omega), (past hN (mt_end hm4 (by assumption)))⟩
  have hp70 := of_decide_eq_true hg68
  refine wp_cond_true rfl ?_
  refine wp_seq ?_
  refine wp_region_lit ?_
  refine st_value (v := (.agg #[.int .i64 (k : Int), .int .i64 z1, .int .i64 z2, .int .i64 z3, .int .i64 z4])) (by rfl) (run_loadW (.tmp 6) rfl (cs := #[.int .i64 (k : Int), .int .i64 z1, .int .i64 z2, .int .i64 z3, .int .i64 z4]) aggEvt rfl B65) ?_
  simp only [nf0, nf1, nf2, nf3, nf4]
  refine st_row (by rfl) (run_storeW (.tmp 2) (.tmp 73) rfl (cs := #[.int .i64 (k : Int), .int .i64 z1, .int .i64 z2, .int .i64 z3, .int .i64 z4]) aggEvt rfl rfl B3 rfl (by simp [Value.oneCell'])) B3 ?_
  intro w71 B73 hg72
  simp only [nf0, nf1, nf2, nf3, nf4]
  replace B65 := B65.kept hg72 n26.symm
  replace bel := bl_kept0 bel hg72 lo5
  clear hg72
  clear B3
  refine st_mv (.bool true) ?_
  simp only [nf0, nf1, nf2, nf3, nf4]
  refine wpList_nil ?_
  show Code.wp _ _ _ _ _
  refine wp_ret ?_
  first | show bodyPost _ _ _ _ _ _ | (simp only [Exit.then, Exit.inBlock]; show bodyPost _ _ _ _ _ _)
  have hE : pE l = ((((k : Int), z1, z2, z3, z4) : TEvt), true) := pE_yes ⟨by show known (k : Int); unfold known; omega, ⟨⟨by show _ ≤ (k : Int); omega, by show (k : Int) ≤ _; omega⟩, hz1.1, hz2.1, hz3.1, hz4.1⟩⟩ (by assumption)
  exact bodyPost_ret (results_agg1t rfl (cs := #[.int .i64 (k : Int), .int .i64 z1, .int .i64 z2, .int .i64 z3, .int .i64 z4]) aggEvt (by rfl) B73) rfl ⟨by rw [hE]; rfl, bel⟩
end Go.Proofs.YtmfdcgocfofokaaDoor

/- The document's example. -/
namespace Go.Proofs.YtmfdcgocfofokaaDoor
open Go.RowKit Go.WideShapes Go.ChangeShapes
set_option linter.unusedSimpArgs false
set_option linter.unusedVariables false

theorem i_zero_23 : ZeroOf Tryd.prog 23 #[.int .i64 0, .int .i64 0, .int .i64 0, .int .i64 0, .int .i64 0] := zeroOf (z := .agg #[.int .i64 0, .int .i64 0, .int .i64 0, .int .i64 0, .int .i64 0]) (by kernel_rfl) rfl
theorem i_run_call_8_1 {o : Oper} {a : Act} (x0 : Operand) {ts : Array TypeId} (ho : o.op = .call { callee := .value (.func 8), args := #[x0], argTypes := ts }) {v0 : Value} (h0 : a.eval x0 = v0) (W : World) : (execOp a.eval o).run Tryd.prog W = .ok (.enter 8 #[v0]) W := by
  unfold execOp
  simp only [ho]
  subst h0
  go_simp
theorem i_run_call_12_1 {o : Oper} {a : Act} (x0 : Operand) {ts : Array TypeId} (ho : o.op = .call { callee := .value (.func 12), args := #[x0], argTypes := ts }) {v0 : Value} (h0 : a.eval x0 = v0) (W : World) : (execOp a.eval o).run Tryd.prog W = .ok (.enter 12 #[v0]) W := by
  unfold execOp
  simp only [ho]
  subst h0
  go_simp
theorem ex_pr : prE ((2, 3, 1, 2, 0) : TEvt) = [100, 105, 115, 112, 97, 116, 99, 104, 32, 51, 32, 49, 32, 50, 32, 48] := by
  simp [prE, tdecI, tdec_small, tdg, nm, nmL]
theorem ex_pE : pE [100, 105, 115, 112, 97, 116, 99, 104, 32, 51, 32, 49, 32, 50, 32, 48] = (((2, 3, 1, 2, 0) : TEvt), true) := pE_yes ⟨by unfold known; decide, by unfold okEvt; exact ⟨by decide, by decide, by decide, by decide, by decide⟩⟩ ex_pr

attribute [local irreducible] Go.wpList Go.Code.wp
set_option maxRecDepth 100000 in
set_option maxHeartbeats 4000000 in
theorem evLives_calls (w : World) : Calls Tryd.prog 7 #[] w fun e w' => e = .returned (.bool true) ∧ Below w.heap.size w w' := by
  have bel : Below w.heap.size w w := Below.refl _ _
  go_enter Tryd.func7, Tryd.ntmps7
  refine wp_seq ?_
  refine wp_region_lit ?_
  refine st_mv (.bool false) ?_
  simp only [nf0, nf1, nf2, nf3, nf4]
  refine wpList_nil ?_
  show Code.wp _ _ _ _ _
  refine wp_seq ?_
  refine wp_region_lit ?_
  refine st_value (v := (.agg #[.int .i64 2, .int .i64 3, .int .i64 1, .int .i64 2, .int .i64 0])) (by rfl) (run_buildV rfl (by kernel_rfl) w) ?_
  simp only [nf0, nf1, nf2, nf3, nf4]
  refine st_new (cs := #[.int .i64 0, .int .i64 0, .int .i64 0, .int .i64 0, .int .i64 0]) (t := 23) (by rfl) (run_allocV rfl i_zero_23 _) ?_
  intro g1 w2 B3 hb4 lo5
  simp only [nf0, nf1, nf2, nf3, nf4]
  replace lo5 := low_le bel lo5
  replace bel := bl_step bel hb4
  clear hb4
  refine st_row (by rfl) (run_storeW (.tmp 1) (.tmp 4) rfl (cs := #[.int .i64 2, .int .i64 3, .int .i64 1, .int .i64 2, .int .i64 0]) aggEvt rfl rfl B3 rfl (by simp [Value.oneCell'])) B3 ?_
  intro w6 B8 hg7
  simp only [nf0, nf1, nf2, nf3, nf4]
  replace bel := bl_kept0 bel hg7 lo5
  clear hg7
  clear B3
  refine wpList_nil ?_
  show Code.wp _ _ _ _ _
  refine wp_seq ?_
  refine wp_region_lit ?_
  refine st_call1 (v := (.tuple #[.agg #[.int .i64 2, .int .i64 3, .int .i64 1, .int .i64 2, .int .i64 0], .bool true])) (by rfl) (i_run_call_8_1 (.const (.string ⟨#[100, 105, 115, 112, 97, 116, 99, 104, 32, 51, 32, 49, 32, 50, 32, 48]⟩)) rfl rfl _) (show Calls _ _ _ _ fun e w' => e = .returned (.tuple #[.agg (eEvt.enc ((2, 3, 1, 2, 0) : TEvt)).toArray, .bool true]) ∧ Below w6.heap.size w6 w' from by have h_ := parse_calls [100, 105, 115, 112, 97, 116, 99, 104, 32, 51, 32, 49, 32, 50, 32, 48] (by decide) w6; rw [ex_pE] at h_; exact h_) ?_
  intro w9 hb10
  simp only [nf0, nf1, nf2, nf3, nf4]
  replace B8 := B8.below hb10
  replace bel := bl_step bel hb10
  clear hb10
  refine st_mv (.tuple #[.agg #[.int .i64 2, .int .i64 3, .int .i64 1, .int .i64 2, .int .i64 0], .bool true]) ?_
  simp only [nf0, nf1, nf2, nf3, nf4]
  refine st_mv (.agg #[.int .i64 2, .int .i64 3, .int .i64 1, .int .i64 2, .int .i64 0]) ?_
  simp only [nf0, nf1, nf2, nf3, nf4]
  refine st_mv (.bool true) ?_
  simp only [nf0, nf1, nf2, nf3, nf4]
  refine st_new (cs := #[.int .i64 0, .int .i64 0, .int .i64 0, .int .i64 0, .int .i64 0]) (t := 23) (by rfl) (run_allocV rfl i_zero_23 _) ?_
  intro g11 w12 B13 hb14 lo15
  simp only [nf0, nf1, nf2, nf3, nf4]
  have n16 := B8.ne lo15
  replace lo15 := low_le bel lo15
  replace B8 := B8.below hb14
  replace bel := bl_step bel hb14
  clear hb14
  refine st_row (by rfl) (run_storeW (.tmp 2) (.tmp 7) rfl (cs := #[.int .i64 2, .int .i64 3, .int .i64 1, .int .i64 2, .int .i64 0]) aggEvt rfl rfl B13 rfl (by simp [Value.oneCell'])) B13 ?_
  intro w17 B19 hg18
  simp only [nf0, nf1, nf2, nf3, nf4]
  replace B8 := B8.kept hg18 n16
  replace bel := bl_kept0 bel hg18 lo15
  clear hg18
  clear B13
  refine st_mv (.bool true) ?_
  simp only [nf0, nf1, nf2, nf3, nf4]
  refine wpList_nil ?_
  show Code.wp _ _ _ _ _
  refine wp_seq ?_
  refine wp_region_lit ?_
  refine st_value (v := (.agg #[.int .i64 2, .int .i64 3, .int .i64 1, .int .i64 2, .int .i64 0])) (by rfl) (run_loadW (.tmp 1) rfl (cs := #[.int .i64 2, .int .i64 3, .int .i64 1, .int .i64 2, .int .i64 0]) aggEvt rfl B8) ?_
  simp only [nf0, nf1, nf2, nf3, nf4]
  refine st_call1 (v := (.string (str (prE ((2, 3, 1, 2, 0) : TEvt))))) (by rfl) (i_run_call_12_1 (.tmp 9) rfl rfl _) (print_calls ((2, 3, 1, 2, 0) : TEvt) (by unfold okEvt; exact ⟨by decide, by decide, by decide, by decide, by decide⟩) w17) ?_
  intro w20 hb21
  simp only [nf0, nf1, nf2, nf3, nf4]
  replace B8 := B8.below hb21
  replace B19 := B19.below hb21
  replace bel := bl_step bel hb21
  clear hb21
  refine st_value (v := (.bool true)) (by rfl) (run_eql_text_t (.tmp 10) (.const (.string ⟨#[100, 105, 115, 112, 97, 116, 99, 104, 32, 51, 32, 49, 32, 50, 32, 48]⟩)) rfl (l := prE ((2, 3, 1, 2, 0) : TEvt)) (m := [100, 105, 115, 112, 97, 116, 99, 104, 32, 51, 32, 49, 32, 50, 32, 48]) rfl rfl ex_pr w20) ?_
  simp only [nf0, nf1, nf2, nf3, nf4]
  refine st_mv (.bool true) ?_
  simp only [nf0, nf1, nf2, nf3, nf4]
  refine st_mv (.bool true) ?_
  simp only [nf0, nf1, nf2, nf3, nf4]
  refine st_mv (.bool true) ?_
  simp only [nf0, nf1, nf2, nf3, nf4]
  refine st_mv (.bool true) ?_
  simp only [nf0, nf1, nf2, nf3, nf4]
  refine st_value (v := (.agg #[.int .i64 2, .int .i64 3, .int .i64 1, .int .i64 2, .int .i64 0])) (by rfl) (run_loadW (.tmp 2) rfl (cs := #[.int .i64 2, .int .i64 3, .int .i64 1, .int .i64 2, .int .i64 0]) aggEvt rfl B19) ?_
  simp only [nf0, nf1, nf2, nf3, nf4]
  refine st_value (v := (.agg #[.int .i64 2, .int .i64 3, .int .i64 1, .int .i64 2, .int .i64 0])) (by rfl) (run_loadW (.tmp 1) rfl (cs := #[.int .i64 2, .int .i64 3, .int .i64 1, .int .i64 2, .int .i64 0]) aggEvt rfl B8) ?_
  simp only [nf0, nf1, nf2, nf3, nf4]
  refine st_value (v := (.bool true)) (by rfl) ((run_eql_agg (.tmp 16) (.tmp 17) rfl eqEvt (p := ((2, 3, 1, 2, 0) : TEvt)) (q := ((2, 3, 1, 2, 0) : TEvt)) rfl rfl trivial trivial w20).trans (by rw [decide_eq_true rfl])) ?_
  simp only [nf0, nf1, nf2, nf3, nf4]
  refine st_mv (.bool true) ?_
  simp only [nf0, nf1, nf2, nf3, nf4]
  refine st_mv (.bool true) ?_
  simp only [nf0, nf1, nf2, nf3, nf4]
  refine wpList_nil ?_
  show Code.wp _ _ _ _ _
  refine wp_ret ?_
  first | show bodyPost _ _ _ _ _ _ | (simp only [Exit.then, Exit.inBlock]; show bodyPost _ _ _ _ _ _)
  exact bodyPost_ret (results_tmp rfl _ _ _) rfl ⟨rfl, bel⟩
end Go.Proofs.YtmfdcgocfofokaaDoor

/- What the law EventLines does. -/
namespace Go.Proofs.YtmfdcgocfofokaaDoor
open Go.RowKit Go.WideShapes Go.ChangeShapes
set_option linter.unusedSimpArgs false
set_option linter.unusedVariables false

theorem k_zero_23 : ZeroOf Tryd.prog 23 #[.int .i64 0, .int .i64 0, .int .i64 0, .int .i64 0, .int .i64 0] := zeroOf (z := .agg #[.int .i64 0, .int .i64 0, .int .i64 0, .int .i64 0, .int .i64 0]) (by kernel_rfl) rfl
theorem k_fld_23_0 : FieldAt Tryd.prog 23 0 0 := fieldAt_of (s := 0) Tryd.underlying23 (by kernel_rfl)
theorem k_one_3 : One Tryd.prog 3 := one_of Tryd.underlying3 rfl (by kernel_rfl)
theorem k_run_call_7_0 {o : Oper} {a : Act}  {ts : Array TypeId} (ho : o.op = .call { callee := .value (.func 7), args := #[], argTypes := ts })  (W : World) : (execOp a.eval o).run Tryd.prog W = .ok (.enter 7 #[]) W := by
  unfold execOp
  simp only [ho]
  go_simp
theorem k_run_call_8_1 {o : Oper} {a : Act} (x0 : Operand) {ts : Array TypeId} (ho : o.op = .call { callee := .value (.func 8), args := #[x0], argTypes := ts }) {v0 : Value} (h0 : a.eval x0 = v0) (W : World) : (execOp a.eval o).run Tryd.prog W = .ok (.enter 8 #[v0]) W := by
  unfold execOp
  simp only [ho]
  subst h0
  go_simp
theorem k_run_call_9_1 {o : Oper} {a : Act} (x0 : Operand) {ts : Array TypeId} (ho : o.op = .call { callee := .value (.func 9), args := #[x0], argTypes := ts }) {v0 : Value} (h0 : a.eval x0 = v0) (W : World) : (execOp a.eval o).run Tryd.prog W = .ok (.enter 9 #[v0]) W := by
  unfold execOp
  simp only [ho]
  subst h0
  go_simp
theorem k_run_call_10_1 {o : Oper} {a : Act} (x0 : Operand) {ts : Array TypeId} (ho : o.op = .call { callee := .value (.func 10), args := #[x0], argTypes := ts }) {v0 : Value} (h0 : a.eval x0 = v0) (W : World) : (execOp a.eval o).run Tryd.prog W = .ok (.enter 10 #[v0]) W := by
  unfold execOp
  simp only [ho]
  subst h0
  go_simp
theorem k_run_call_11_1 {o : Oper} {a : Act} (x0 : Operand) {ts : Array TypeId} (ho : o.op = .call { callee := .value (.func 11), args := #[x0], argTypes := ts }) {v0 : Value} (h0 : a.eval x0 = v0) (W : World) : (execOp a.eval o).run Tryd.prog W = .ok (.enter 11 #[v0]) W := by
  unfold execOp
  simp only [ho]
  subst h0
  go_simp
theorem k_run_call_12_1 {o : Oper} {a : Act} (x0 : Operand) {ts : Array TypeId} (ho : o.op = .call { callee := .value (.func 12), args := #[x0], argTypes := ts }) {v0 : Value} (h0 : a.eval x0 = v0) (W : World) : (execOp a.eval o).run Tryd.prog W = .ok (.enter 12 #[v0]) W := by
  unfold execOp
  simp only [ho]
  subst h0
  go_simp
theorem k_run_call_13_1 {o : Oper} {a : Act} (x0 : Operand) {ts : Array TypeId} (ho : o.op = .call { callee := .value (.func 13), args := #[x0], argTypes := ts }) {v0 : Value} (h0 : a.eval x0 = v0) (W : World) : (execOp a.eval o).run Tryd.prog W = .ok (.enter 13 #[v0]) W := by
  unfold execOp
  simp only [ho]
  subst h0
  go_simp
theorem k_run_call_14_1 {o : Oper} {a : Act} (x0 : Operand) {ts : Array TypeId} (ho : o.op = .call { callee := .value (.func 14), args := #[x0], argTypes := ts }) {v0 : Value} (h0 : a.eval x0 = v0) (W : World) : (execOp a.eval o).run Tryd.prog W = .ok (.enter 14 #[v0]) W := by
  unfold execOp
  simp only [ho]
  subst h0
  go_simp
def wantN (l : List UInt8) (i : Nat) : Int := if 0 < kidx l ∧ kidx l < (i : Int) then kidx l else 0
theorem want_start (l : List UInt8) : wantN l 1 = 0 := if_neg (by omega)
theorem want_yes {l : List UInt8} {i : Nat} (hi : 1 ≤ i ∧ i ≤ 21) (h : nm (i : Int) = l) : wantN l (i + 1) = (i : Int) := by
  have hk := kidx_nm (k := (i : Int)) (by unfold known; omega)
  rw [h] at hk
  unfold wantN
  rw [if_pos (by omega), hk]
theorem want_no {l : List UInt8} {i : Nat} (hi : 1 ≤ i ∧ i ≤ 21) (h : ¬ nm (i : Int) = l) : wantN l (i + 1) = wantN l i := by
  have hk : kidx l ≠ (i : Int) := fun e => h (by rw [← e]; exact (kidx_pos (by omega)).2)
  unfold wantN
  by_cases h1 : 0 < kidx l ∧ kidx l < (i : Int)
  · rw [if_pos h1, if_pos (by omega)]
  · rw [if_neg h1, if_neg (by omega)]
theorem want_end (l : List UInt8) : wantN l 22 = max (kidx l) 0 := by
  have := kidx_rng l
  unfold wantN
  split <;> omega
theorem want_pos (l : List UInt8) : decide (0 < max (kidx l) 0) = decide (0 < kidx l) := by
  rw [decide_eq_decide]; omega

attribute [local irreducible] Go.wpList Go.Code.wp
set_option maxRecDepth 100000 in
set_option maxHeartbeats 4000000 in
theorem linesLaw_calls {l : List UInt8} {p : TEvt} (hp : okEvt p) (w : World) : Calls Tryd.prog 3 #[.agg (eEvt.enc p).toArray, .string (str l)] w fun e w' => e = .returned (.bool true) ∧ Below w.heap.size w w' := by
  have bel : Below w.heap.size w w := Below.refl _ _
  go_enter Tryd.func3, Tryd.ntmps3
  refine wp_seq ?_
  refine wp_region_lit ?_
  refine st_new (cs := #[.int .i64 p.1, .int .i64 p.2.1, .int .i64 p.2.2.1, .int .i64 p.2.2.2.1, .int .i64 p.2.2.2.2]) (t := 23) (by rfl) (run_boxV (.tmp 0) rfl (v := (.agg #[.int .i64 p.1, .int .i64 p.2.1, .int .i64 p.2.2.1, .int .i64 p.2.2.2.1, .int .i64 p.2.2.2.2])) rfl rfl _) ?_
  intro g1 w2 B3 hb4 lo5
  simp only [nf0, nf1, nf2, nf3, nf4]
  replace lo5 := low_le bel lo5
  replace bel := bl_step bel hb4
  clear hb4
  refine st_mv (.bool false) ?_
  simp only [nf0, nf1, nf2, nf3, nf4]
  refine wpList_nil ?_
  show Code.wp _ _ _ _ _
  refine wp_seq ?_
  refine wp_seq ?_
  refine wp_region_lit ?_
  refine st_mv (.string (str l)) ?_
  simp only [nf0, nf1, nf2, nf3, nf4]
  refine st_value (v := (.int .i64 (l.length : Int))) (by rfl) (run_len_text (.tmp 13) rfl Tryd.underlying9 (l := l) rfl w2) ?_
  simp only [nf0, nf1, nf2, nf3, nf4]
  refine st_value (v := (.bool (decide (200 < (l.length : Int))))) (by rfl) (run_gtr (.tmp 14) (.const (.int .i64 200)) rfl rfl rfl w2) ?_
  simp only [nf0, nf1, nf2, nf3, nf4]
  refine wpList_nil ?_
  show Code.wp _ _ _ _ _
  cases hg6 : decide (200 < (l.length : Int))
  rotate_left
  · have hp44 := of_decide_eq_true hg6
    refine wp_cond_true rfl ?_
    refine wp_seq ?_
    refine wp_region_lit ?_
    refine st_call1 (v := (.bool true)) (by rfl) (k_run_call_7_0  rfl  _) (evLives_calls w2) ?_
    intro w45 hb46
    simp only [nf0, nf1, nf2, nf3, nf4]
    replace B3 := B3.below hb46
    replace bel := bl_step bel hb46
    clear hb46
    refine st_mv (.bool true) ?_
    simp only [nf0, nf1, nf2, nf3, nf4]
    refine wpList_nil ?_
    show Code.wp _ _ _ _ _
    refine wp_ret ?_
    first | show bodyPost _ _ _ _ _ _ | (simp only [Exit.then, Exit.inBlock]; show bodyPost _ _ _ _ _ _)
    exact bodyPost_ret (results_tmp rfl _ _ _) rfl ⟨rfl, bel⟩
  have hp7 := of_decide_eq_false hg6
  refine wp_cond_false rfl ?_
  refine wp_skip ?_
  show Code.wp _ _ _ _ _
  refine wp_seq ?_
  refine wp_region_lit ?_
  refine st_mv (.string (str l)) ?_
  simp only [nf0, nf1, nf2, nf3, nf4]
  refine st_call1 (v := (.tuple #[.agg #[.int .i64 ((pE l).1.1), .int .i64 ((pE l).1.2.1), .int .i64 ((pE l).1.2.2.1), .int .i64 ((pE l).1.2.2.2.1), .int .i64 ((pE l).1.2.2.2.2)], .bool ((pE l).2)])) (by rfl) (k_run_call_8_1 (.tmp 18) rfl rfl _) (parse_calls l (by omega) w2) ?_
  intro w8 hb9
  simp only [nf0, nf1, nf2, nf3, nf4]
  replace B3 := B3.below hb9
  replace bel := bl_step bel hb9
  clear hb9
  refine st_mv (.tuple #[.agg #[.int .i64 ((pE l).1.1), .int .i64 ((pE l).1.2.1), .int .i64 ((pE l).1.2.2.1), .int .i64 ((pE l).1.2.2.2.1), .int .i64 ((pE l).1.2.2.2.2)], .bool ((pE l).2)]) ?_
  simp only [nf0, nf1, nf2, nf3, nf4]
  refine st_mv (.agg #[.int .i64 ((pE l).1.1), .int .i64 ((pE l).1.2.1), .int .i64 ((pE l).1.2.2.1), .int .i64 ((pE l).1.2.2.2.1), .int .i64 ((pE l).1.2.2.2.2)]) ?_
  simp only [nf0, nf1, nf2, nf3, nf4]
  refine st_mv (.bool ((pE l).2)) ?_
  simp only [nf0, nf1, nf2, nf3, nf4]
  refine st_new (cs := #[.int .i64 0, .int .i64 0, .int .i64 0, .int .i64 0, .int .i64 0]) (t := 23) (by rfl) (run_allocV rfl k_zero_23 _) ?_
  intro g10 w11 B12 hb13 lo14
  simp only [nf0, nf1, nf2, nf3, nf4]
  have n15 := B3.ne lo14
  replace lo14 := low_le bel lo14
  replace B3 := B3.below hb13
  replace bel := bl_step bel hb13
  clear hb13
  refine st_row (by rfl) (run_storeW (.tmp 5) (.tmp 20) rfl (cs := #[.int .i64 ((pE l).1.1), .int .i64 ((pE l).1.2.1), .int .i64 ((pE l).1.2.2.1), .int .i64 ((pE l).1.2.2.2.1), .int .i64 ((pE l).1.2.2.2.2)]) aggEvt rfl rfl B12 rfl (by simp [Value.oneCell'])) B12 ?_
  intro w16 B18 hg17
  simp only [nf0, nf1, nf2, nf3, nf4]
  replace B3 := B3.kept hg17 n15
  replace bel := bl_kept0 bel hg17 lo14
  clear hg17
  clear B12
  refine st_mv (.bool ((pE l).2)) ?_
  simp only [nf0, nf1, nf2, nf3, nf4]
  refine wpList_nil ?_
  show Code.wp _ _ _ _ _
  refine wp_seq ?_
  refine wp_region_lit ?_
  refine st_mv (.string (str l)) ?_
  simp only [nf0, nf1, nf2, nf3, nf4]
  refine st_call1 (v := (.tuple #[.agg #[.int .i64 ((pE l).1.1), .int .i64 ((pE l).1.2.1), .int .i64 ((pE l).1.2.2.1), .int .i64 ((pE l).1.2.2.2.1), .int .i64 ((pE l).1.2.2.2.2)], .bool ((pE l).2)])) (by rfl) (k_run_call_9_1 (.tmp 23) rfl rfl _) (refParse_calls l (by omega) w16) ?_
  intro w19 hb20
  simp only [nf0, nf1, nf2, nf3, nf4]
  replace B3 := B3.below hb20
  replace B18 := B18.below hb20
  replace bel := bl_step bel hb20
  clear hb20
  refine st_mv (.tuple #[.agg #[.int .i64 ((pE l).1.1), .int .i64 ((pE l).1.2.1), .int .i64 ((pE l).1.2.2.1), .int .i64 ((pE l).1.2.2.2.1), .int .i64 ((pE l).1.2.2.2.2)], .bool ((pE l).2)]) ?_
  simp only [nf0, nf1, nf2, nf3, nf4]
  refine st_mv (.agg #[.int .i64 ((pE l).1.1), .int .i64 ((pE l).1.2.1), .int .i64 ((pE l).1.2.2.1), .int .i64 ((pE l).1.2.2.2.1), .int .i64 ((pE l).1.2.2.2.2)]) ?_
  simp only [nf0, nf1, nf2, nf3, nf4]
  refine st_mv (.bool ((pE l).2)) ?_
  simp only [nf0, nf1, nf2, nf3, nf4]
  refine st_new (cs := #[.int .i64 0, .int .i64 0, .int .i64 0, .int .i64 0, .int .i64 0]) (t := 23) (by rfl) (run_allocV rfl k_zero_23 _) ?_
  intro g21 w22 B23 hb24 lo25
  simp only [nf0, nf1, nf2, nf3, nf4]
  have n26 := B3.ne lo25
  have n27 := B18.ne lo25
  replace lo25 := low_le bel lo25
  replace B3 := B3.below hb24
  replace B18 := B18.below hb24
  replace bel := bl_step bel hb24
  clear hb24
  refine st_row (by rfl) (run_storeW (.tmp 7) (.tmp 25) rfl (cs := #[.int .i64 ((pE l).1.1), .int .i64 ((pE l).1.2.1), .int .i64 ((pE l).1.2.2.1), .int .i64 ((pE l).1.2.2.2.1), .int .i64 ((pE l).1.2.2.2.2)]) aggEvt rfl rfl B23 rfl (by simp [Value.oneCell'])) B23 ?_
  intro w28 B30 hg29
  simp only [nf0, nf1, nf2, nf3, nf4]
  replace B3 := B3.kept hg29 n26
  replace B18 := B18.kept hg29 n27
  replace bel := bl_kept0 bel hg29 lo25
  clear hg29
  clear B23
  refine st_mv (.bool ((pE l).2)) ?_
  simp only [nf0, nf1, nf2, nf3, nf4]
  refine wpList_nil ?_
  show Code.wp _ _ _ _ _
  refine wp_seq ?_
  refine wp_region_lit ?_
  refine st_mv (.string (str l)) ?_
  simp only [nf0, nf1, nf2, nf3, nf4]
  refine st_call1 (v := (.tuple #[.int .i64 (max (kidx l) 0), .bool (decide (0 < kidx l))])) (by rfl) (k_run_call_10_1 (.tmp 28) rfl rfl _) (kind_calls l w28) ?_
  intro w31 hb32
  simp only [nf0, nf1, nf2, nf3, nf4]
  replace B3 := B3.below hb32
  replace B18 := B18.below hb32
  replace B30 := B30.below hb32
  replace bel := bl_step bel hb32
  clear hb32
  refine st_mv (.tuple #[.int .i64 (max (kidx l) 0), .bool (decide (0 < kidx l))]) ?_
  simp only [nf0, nf1, nf2, nf3, nf4]
  refine st_mv (.int .i64 (max (kidx l) 0)) ?_
  simp only [nf0, nf1, nf2, nf3, nf4]
  refine st_mv (.bool (decide (0 < kidx l))) ?_
  simp only [nf0, nf1, nf2, nf3, nf4]
  refine st_mv (.int .i64 (max (kidx l) 0)) ?_
  simp only [nf0, nf1, nf2, nf3, nf4]
  refine st_mv (.bool (decide (0 < kidx l))) ?_
  simp only [nf0, nf1, nf2, nf3, nf4]
  refine wpList_nil ?_
  show Code.wp _ _ _ _ _
  refine wp_seq ?_
  refine wp_region_lit ?_
  refine st_mv (.int .i64 0) ?_
  simp only [nf0, nf1, nf2, nf3, nf4]
  refine wpList_nil ?_
  show Code.wp _ _ _ _ _
  refine wp_seq ?_
  refine wp_seq ?_
  refine wp_region_lit ?_
  refine st_mv (.int .i64 1) ?_
  simp only [nf0, nf1, nf2, nf3, nf4]
  refine wpList_nil ?_
  show Code.wp _ _ _ _ _
  refine wp_block ?_
  refine wp_loop_left (fun n_ a_ wr_ => (fun J33 => ∃ (i : Nat), n_ = 22 - i ∧ a_ = ⟨#[J33 0, .string (str l), .pointer (some ⟨g1, 0, none⟩), J33 3, .bool false, .pointer (some ⟨g10, 0, none⟩), .bool ((pE l).2), .pointer (some ⟨g21, 0, none⟩), .bool ((pE l).2), .int .i64 (max (kidx l) 0), .bool (decide (0 < kidx l)), .int .i64 (wantN l i), .int .i64 (i : Int), J33 13, J33 14, J33 15, J33 16, J33 17, J33 18, J33 19, J33 20, J33 21, J33 22, J33 23, J33 24, J33 25, J33 26, J33 27, J33 28, J33 29, J33 30, J33 31, J33 32, J33 33, J33 34, J33 35, J33 36, J33 37, J33 38, J33 39, J33 40, J33 41, J33 42, J33 43, J33 44, J33 45, J33 46, J33 47, J33 48, J33 49, J33 50, J33 51, J33 52, J33 53, J33 54, J33 55, J33 56, J33 57, J33 58, J33 59, J33 60, J33 61, J33 62, J33 63, J33 64, J33 65, J33 66, J33 67, J33 68, J33 69, J33 70, J33 71, J33 72, J33 73, J33 74, J33 75, J33 76, J33 77, J33 78], []⟩ ∧ Blk wr_ g1 #[.int .i64 p.1, .int .i64 p.2.1, .int .i64 p.2.2.1, .int .i64 p.2.2.2.1, .int .i64 p.2.2.2.2] 23 ∧ Blk wr_ g10 #[.int .i64 ((pE l).1.1), .int .i64 ((pE l).1.2.1), .int .i64 ((pE l).1.2.2.1), .int .i64 ((pE l).1.2.2.2.1), .int .i64 ((pE l).1.2.2.2.2)] 23 ∧ Blk wr_ g21 #[.int .i64 ((pE l).1.1), .int .i64 ((pE l).1.2.1), .int .i64 ((pE l).1.2.2.1), .int .i64 ((pE l).1.2.2.2.1), .int .i64 ((pE l).1.2.2.2.2)] 23 ∧ Below w.heap.size w wr_ ∧ (1 ≤ i ∧ i ≤ 22)) (jk a_)) (22 - 1) ⟨1, rfl, (by rw [want_start]; rfl), B3, B18, B30, bel, (by omega)⟩ ?_
  clear B3
  clear B18
  clear B30
  clear bel
  intro n_ a_ w34 h_
  revert h_
  generalize jk a_ = J33
  rintro ⟨i, hms, rfl, B3, B18, B30, bel, hi⟩
  refine wp_seq ?_
  refine wp_seq ?_
  refine wp_region_lit ?_
  refine st_mv (.int .i64 (i : Int)) ?_
  simp only [nf0, nf1, nf2, nf3, nf4]
  refine st_value (v := (.bool (decide ((i : Int) ≤ 21)))) (by rfl) (run_leq (.tmp 32) (.const (.int .i64 21)) rfl rfl rfl w34) ?_
  simp only [nf0, nf1, nf2, nf3, nf4]
  refine wpList_nil ?_
  show Code.wp _ _ _ _ _
  cases hg35 : decide ((i : Int) ≤ 21)
  rotate_left
  · have hp38 := of_decide_eq_true hg35
    refine wp_cond_true rfl ?_
    refine wp_skip ?_
    show Code.wp _ _ _ _ _
    refine wp_seq ?_
    refine wp_block ?_
    refine wp_seq ?_
    refine wp_region_lit ?_
    refine st_mv (.int .i64 (i : Int)) ?_
    simp only [nf0, nf1, nf2, nf3, nf4]
    refine st_call1 (v := (.string (str (nm (i : Int))))) (by rfl) (k_run_call_11_1 (.tmp 36) rfl rfl _) (refName_calls (i : Int) w34) ?_
    intro w39 hb40
    simp only [nf0, nf1, nf2, nf3, nf4]
    replace B3 := B3.below hb40
    replace B18 := B18.below hb40
    replace B30 := B30.below hb40
    replace bel := bl_step bel hb40
    clear hb40
    refine st_mv (.string (str l)) ?_
    simp only [nf0, nf1, nf2, nf3, nf4]
    refine st_value (v := (.bool (decide ((nm (i : Int)) = l)))) (by rfl) (run_eql_text (.tmp 37) (.tmp 38) (l := (nm (i : Int))) (m := l) rfl rfl rfl w39) ?_
    simp only [nf0, nf1, nf2, nf3, nf4]
    refine wpList_nil ?_
    show Code.wp _ _ _ _ _
    cases hg41 : decide ((nm (i : Int)) = l)
    · have hp42 := of_decide_eq_false hg41
      refine wp_cond_false rfl ?_
      refine wp_skip ?_
      show Code.wp _ _ _ _ _
      refine wp_region_lit ?_
      refine st_mv (.int .i64 (i : Int)) ?_
      simp only [nf0, nf1, nf2, nf3, nf4]
      refine st_value (v := (.int .i64 ((i : Int) + 1))) (by rfl) (run_add_in (.tmp 34) (.const (.int .i64 1)) rfl rfl rfl (by omega) w39) ?_
      simp only [nf0, nf1, nf2, nf3, nf4]
      refine st_mv (.int .i64 ((i : Int) + 1)) ?_
      simp only [nf0, nf1, nf2, nf3, nf4]
      refine wpList_nil ?_
      show ∃ m, m < _ ∧ _
      exact ⟨_, (by omega), (i + 1), rfl, (by rw [want_no (by omega) (by assumption)]; rfl), B3, B18, B30, bel, (by omega)⟩
    have hp43 := of_decide_eq_true hg41
    refine wp_cond_true rfl ?_
    refine wp_region_lit ?_
    refine st_mv (.int .i64 (i : Int)) ?_
    simp only [nf0, nf1, nf2, nf3, nf4]
    refine st_mv (.int .i64 (i : Int)) ?_
    simp only [nf0, nf1, nf2, nf3, nf4]
    refine wpList_nil ?_
    show Code.wp _ _ _ _ _
    refine wp_region_lit ?_
    refine st_mv (.int .i64 (i : Int)) ?_
    simp only [nf0, nf1, nf2, nf3, nf4]
    refine st_value (v := (.int .i64 ((i : Int) + 1))) (by rfl) (run_add_in (.tmp 34) (.const (.int .i64 1)) rfl rfl rfl (by omega) w39) ?_
    simp only [nf0, nf1, nf2, nf3, nf4]
    refine st_mv (.int .i64 ((i : Int) + 1)) ?_
    simp only [nf0, nf1, nf2, nf3, nf4]
    refine wpList_nil ?_
    show ∃ m, m < _ ∧ _
    exact ⟨_, (by omega), (i + 1), rfl, (by rw [want_yes (by omega) (by assumption)]; rfl), B3, B18, B30, bel, (by omega)⟩
  have hp36 := of_decide_eq_false hg35
  refine wp_cond_false rfl ?_
  refine wp_exit ?_
  show Code.wp _ _ _ _ _
  refine wp_seq ?_
  obtain rfl : i = 22 := by omega
  rw [want_end]
  refine wp_region_facts2_lit (C := Abv w34) 38 [.val (.agg #[.int .i64 p.1, .int .i64 p.2.1, .int .i64 p.2.2.1, .int .i64 p.2.2.2.1, .int .i64 p.2.2.2.2]), .val (.string (str (prE p))), .val (.agg #[.int .i64 p.1, .int .i64 p.2.1, .int .i64 p.2.2.1, .int .i64 p.2.2.2.1, .int .i64 p.2.2.2.2]), .val (.string (str (prE p))), .val (.bool true), .val (.bool true), .val (.pointer (some ⟨g1, 0, none⟩)), .val (.int .i64 p.1), .val (.string (str (nm p.1))), .val (.pointer (some ⟨g1, 0, none⟩)), .val (.int .i64 p.1), .val (.string (str (nm p.1))), .val (.bool true), .val (.bool true), .val (.bool true), .val (.agg #[.int .i64 ((pE l).1.1), .int .i64 ((pE l).1.2.1), .int .i64 ((pE l).1.2.2.1), .int .i64 ((pE l).1.2.2.2.1), .int .i64 ((pE l).1.2.2.2.2)]), .val (.agg #[.int .i64 ((pE l).1.1), .int .i64 ((pE l).1.2.1), .int .i64 ((pE l).1.2.2.1), .int .i64 ((pE l).1.2.2.2.1), .int .i64 ((pE l).1.2.2.2.2)]), .val (.bool true), .val (.bool true), .val (.bool true), .val (.bool ((pE l).2)), .val (.bool ((pE l).2)), .val (.bool true), .val (.bool true), .val (.bool true), .val (.int .i64 (max (kidx l) 0)), .val (.int .i64 (max (kidx l) 0)), .val (.bool true), .val (.bool true), .val (.bool true), .val (.bool (decide (0 < kidx l))), .val (.int .i64 (max (kidx l) 0)), .val (.bool (decide (0 < kidx l))), .val (.bool true), .val (.bool true), .val (.bool true), .val (.bool true), .val (.bool true)] w34.heap.size (by kernel_rfl) (by simp) (by kernel_rfl) (by kernel_rfl) (fun _ h => h.size) (Abv.start _) ?_
  simp only [List.take_succ_cons, List.take_zero, List.drop_succ_cons, List.drop_zero]
  refine fst2_val (fun W hC hh => ok2_value (v := (.agg #[.int .i64 p.1, .int .i64 p.2.1, .int .i64 p.2.2.1, .int .i64 p.2.2.2.1, .int .i64 p.2.2.2.2])) (by rfl) (run_loadW (.tmp 2) rfl (cs := #[.int .i64 p.1, .int .i64 p.2.1, .int .i64 p.2.2.1, .int .i64 p.2.2.2.1, .int .i64 p.2.2.2.2]) aggEvt rfl (B3.below hC)) rfl hC (G0.refl _)) ?_
  simp only [nf0, nf1, nf2, nf3, nf4]
  refine fst2_val (fun W hC hh => ok2_call (by rfl) (k_run_call_12_1 (.tmp 41) rfl rfl W) ((print_calls p hp W).mono fun e W' ⟨h1, h2⟩ => ⟨h1, hC.step h2, h2⟩)) ?_
  simp only [nf0, nf1, nf2, nf3, nf4]
  refine fst2_val (fun W hC hh => ok2_value (v := (.agg #[.int .i64 p.1, .int .i64 p.2.1, .int .i64 p.2.2.1, .int .i64 p.2.2.2.1, .int .i64 p.2.2.2.2])) (by rfl) (run_loadW (.tmp 2) rfl (cs := #[.int .i64 p.1, .int .i64 p.2.1, .int .i64 p.2.2.1, .int .i64 p.2.2.2.1, .int .i64 p.2.2.2.2]) aggEvt rfl (B3.below hC)) rfl hC (G0.refl _)) ?_
  simp only [nf0, nf1, nf2, nf3, nf4]
  refine fst2_val (fun W hC hh => ok2_call (by rfl) (k_run_call_13_1 (.tmp 43) rfl rfl W) ((refPrint_calls p hp W).mono fun e W' ⟨h1, h2⟩ => ⟨h1, hC.step h2, h2⟩)) ?_
  simp only [nf0, nf1, nf2, nf3, nf4]
  refine fst2_val (fun W hC hh => ok2_value (v := (.bool true)) (by rfl) (run_eql_text_t (.tmp 42) (.tmp 44) (l := (prE p)) (m := (prE p)) rfl rfl rfl rfl W) rfl hC (G0.refl _)) ?_
  simp only [nf0, nf1, nf2, nf3, nf4]
  refine fst2_val (fun W hC hh => ok2_value (v := (.bool true)) (by rfl) (by rfl) rfl hC (G0.refl _)) ?_
  simp only [nf0, nf1, nf2, nf3, nf4]
  refine fst2_val (fun W hC hh => ok2_value (v := (.pointer (some ⟨g1, 0, none⟩))) (by rfl) (run_fieldA (.tmp 2) rfl k_fld_23_0 rfl rfl W) rfl hC (G0.refl _)) ?_
  simp only [nf0, nf1, nf2, nf3, nf4]
  refine fst2_val (fun W hC hh => ok2_value (v := (.int .i64 p.1)) (by rfl) (run_loadB (.tmp 47) rfl k_one_3 rfl (B3.below hC) rfl) rfl hC (G0.refl _)) ?_
  simp only [nf0, nf1, nf2, nf3, nf4]
  refine fst2_val (fun W hC hh => ok2_call (by rfl) (k_run_call_14_1 (.tmp 48) rfl rfl W) ((name_calls p.1 W).mono fun e W' ⟨h1, h2⟩ => ⟨h1, hC.step h2, h2⟩)) ?_
  simp only [nf0, nf1, nf2, nf3, nf4]
  refine fst2_val (fun W hC hh => ok2_value (v := (.pointer (some ⟨g1, 0, none⟩))) (by rfl) (run_fieldA (.tmp 2) rfl k_fld_23_0 rfl rfl W) rfl hC (G0.refl _)) ?_
  simp only [nf0, nf1, nf2, nf3, nf4]
  refine fst2_val (fun W hC hh => ok2_value (v := (.int .i64 p.1)) (by rfl) (run_loadB (.tmp 50) rfl k_one_3 rfl (B3.below hC) rfl) rfl hC (G0.refl _)) ?_
  simp only [nf0, nf1, nf2, nf3, nf4]
  refine fst2_val (fun W hC hh => ok2_call (by rfl) (k_run_call_11_1 (.tmp 51) rfl rfl W) ((refName_calls p.1 W).mono fun e W' ⟨h1, h2⟩ => ⟨h1, hC.step h2, h2⟩)) ?_
  simp only [nf0, nf1, nf2, nf3, nf4]
  refine fst2_val (fun W hC hh => ok2_value (v := (.bool true)) (by rfl) (run_eql_text_t (.tmp 49) (.tmp 52) (l := (nm p.1)) (m := (nm p.1)) rfl rfl rfl rfl W) rfl hC (G0.refl _)) ?_
  simp only [nf0, nf1, nf2, nf3, nf4]
  refine fst2_val (fun W hC hh => ok2_value (v := (.bool true)) (by rfl) (by rfl) rfl hC (G0.refl _)) ?_
  simp only [nf0, nf1, nf2, nf3, nf4]
  refine fst2_val (fun W hC hh => ok2_value (v := (.bool true)) (by rfl) (by rfl) rfl hC (G0.refl _)) ?_
  simp only [nf0, nf1, nf2, nf3, nf4]
  refine fst2_val (fun W hC hh => ok2_value (v := (.agg #[.int .i64 ((pE l).1.1), .int .i64 ((pE l).1.2.1), .int .i64 ((pE l).1.2.2.1), .int .i64 ((pE l).1.2.2.2.1), .int .i64 ((pE l).1.2.2.2.2)])) (by rfl) (run_loadW (.tmp 5) rfl (cs := #[.int .i64 ((pE l).1.1), .int .i64 ((pE l).1.2.1), .int .i64 ((pE l).1.2.2.1), .int .i64 ((pE l).1.2.2.2.1), .int .i64 ((pE l).1.2.2.2.2)]) aggEvt rfl (B18.below hC)) rfl hC (G0.refl _)) ?_
  simp only [nf0, nf1, nf2, nf3, nf4]
  refine fst2_val (fun W hC hh => ok2_value (v := (.agg #[.int .i64 ((pE l).1.1), .int .i64 ((pE l).1.2.1), .int .i64 ((pE l).1.2.2.1), .int .i64 ((pE l).1.2.2.2.1), .int .i64 ((pE l).1.2.2.2.2)])) (by rfl) (run_loadW (.tmp 7) rfl (cs := #[.int .i64 ((pE l).1.1), .int .i64 ((pE l).1.2.1), .int .i64 ((pE l).1.2.2.1), .int .i64 ((pE l).1.2.2.2.1), .int .i64 ((pE l).1.2.2.2.2)]) aggEvt rfl (B30.below hC)) rfl hC (G0.refl _)) ?_
  simp only [nf0, nf1, nf2, nf3, nf4]
  refine fst2_val (fun W hC hh => ok2_value (v := (.bool true)) (by rfl) ((run_eql_agg (.tmp 56) (.tmp 57) rfl eqEvt (p := (pE l).1) (q := (pE l).1) rfl rfl trivial trivial W).trans (by rw [decide_eq_true rfl])) rfl hC (G0.refl _)) ?_
  simp only [nf0, nf1, nf2, nf3, nf4]
  refine fst2_val (fun W hC hh => ok2_value (v := (.bool true)) (by rfl) (by rfl) rfl hC (G0.refl _)) ?_
  simp only [nf0, nf1, nf2, nf3, nf4]
  refine fst2_val (fun W hC hh => ok2_value (v := (.bool true)) (by rfl) (by rfl) rfl hC (G0.refl _)) ?_
  simp only [nf0, nf1, nf2, nf3, nf4]
  refine fst2_val (fun W hC hh => ok2_value (v := (.bool ((pE l).2))) (by rfl) (by rfl) rfl hC (G0.refl _)) ?_
  simp only [nf0, nf1, nf2, nf3, nf4]
  refine fst2_val (fun W hC hh => ok2_value (v := (.bool ((pE l).2))) (by rfl) (by rfl) rfl hC (G0.refl _)) ?_
  simp only [nf0, nf1, nf2, nf3, nf4]
  refine fst2_val (fun W hC hh => ok2_value (v := (.bool true)) (by rfl) ((runm_eql_bool (.tmp 61) (.tmp 62) rfl Tryd.underlying4 (b := (pE l).2) (c := (pE l).2) rfl rfl W).trans (by rw [beq_self_eq_true])) rfl hC (G0.refl _)) ?_
  simp only [nf0, nf1, nf2, nf3, nf4]
  refine fst2_val (fun W hC hh => ok2_value (v := (.bool true)) (by rfl) (by rfl) rfl hC (G0.refl _)) ?_
  simp only [nf0, nf1, nf2, nf3, nf4]
  refine fst2_val (fun W hC hh => ok2_value (v := (.bool true)) (by rfl) (by rfl) rfl hC (G0.refl _)) ?_
  simp only [nf0, nf1, nf2, nf3, nf4]
  refine fst2_val (fun W hC hh => ok2_value (v := (.int .i64 (max (kidx l) 0))) (by rfl) (by rfl) rfl hC (G0.refl _)) ?_
  simp only [nf0, nf1, nf2, nf3, nf4]
  refine fst2_val (fun W hC hh => ok2_value (v := (.int .i64 (max (kidx l) 0))) (by rfl) (by rfl) rfl hC (G0.refl _)) ?_
  simp only [nf0, nf1, nf2, nf3, nf4]
  refine fst2_val (fun W hC hh => ok2_value (v := (.bool true)) (by rfl) (run_eql_int_t (.tmp 66) (.tmp 67) rfl rfl rfl rfl W) rfl hC (G0.refl _)) ?_
  simp only [nf0, nf1, nf2, nf3, nf4]
  refine fst2_val (fun W hC hh => ok2_value (v := (.bool true)) (by rfl) (by rfl) rfl hC (G0.refl _)) ?_
  simp only [nf0, nf1, nf2, nf3, nf4]
  refine fst2_val (fun W hC hh => ok2_value (v := (.bool true)) (by rfl) (by rfl) rfl hC (G0.refl _)) ?_
  simp only [nf0, nf1, nf2, nf3, nf4]
  refine fst2_val (fun W hC hh => ok2_value (v := (.bool (decide (0 < kidx l)))) (by rfl) (by rfl) rfl hC (G0.refl _)) ?_
  simp only [nf0, nf1, nf2, nf3, nf4]
  refine fst2_val (fun W hC hh => ok2_value (v := (.int .i64 (max (kidx l) 0))) (by rfl) (by rfl) rfl hC (G0.refl _)) ?_
  simp only [nf0, nf1, nf2, nf3, nf4]
  refine fst2_val (fun W hC hh => ok2_value (v := (.bool (decide (0 < kidx l)))) (by rfl) ((run_gtr (.tmp 72) (.const (.int .i64 0)) rfl rfl rfl W).trans (by rw [want_pos])) rfl hC (G0.refl _)) ?_
  simp only [nf0, nf1, nf2, nf3, nf4]
  refine fst2_val (fun W hC hh => ok2_value (v := (.bool true)) (by rfl) ((runm_eql_bool (.tmp 71) (.tmp 73) rfl Tryd.underlying4 (b := decide (0 < kidx l)) (c := decide (0 < kidx l)) rfl rfl W).trans (by rw [beq_self_eq_true])) rfl hC (G0.refl _)) ?_
  simp only [nf0, nf1, nf2, nf3, nf4]
  refine fst2_val (fun W hC hh => ok2_value (v := (.bool true)) (by rfl) (by rfl) rfl hC (G0.refl _)) ?_
  simp only [nf0, nf1, nf2, nf3, nf4]
  refine fst2_val (fun W hC hh => ok2_value (v := (.bool true)) (by rfl) (by rfl) rfl hC (G0.refl _)) ?_
  simp only [nf0, nf1, nf2, nf3, nf4]
  refine fst2_val (fun W hC hh => ok2_call (by rfl) (k_run_call_7_0  rfl  W) ((evLives_calls W).mono fun e W' ⟨h1, h2⟩ => ⟨h1, hC.step h2, h2⟩)) ?_
  simp only [nf0, nf1, nf2, nf3, nf4]
  refine fst2_val (fun W hC hh => ok2_value (v := (.bool true)) (by rfl) (by rfl) rfl hC (G0.refl _)) ?_
  simp only [nf0, nf1, nf2, nf3, nf4]
  refine fst2_nil fun w37 hC hh hnd => ?_
  replace hC : Below w34.heap.size w34 w37 := hC
  clear hh hnd
  replace B3 := B3.below hC
  replace B18 := B18.below hC
  replace B30 := B30.below hC
  replace bel := bl_step bel hC
  clear hC
  refine st_mv (.bool true) ?_
  simp only [nf0, nf1, nf2, nf3, nf4]
  refine wpList_nil ?_
  show Code.wp _ _ _ _ _
  refine wp_ret ?_
  first | show bodyPost _ _ _ _ _ _ | (simp only [Exit.then, Exit.inBlock]; show bodyPost _ _ _ _ _ _)
  exact bodyPost_ret (results_tmp rfl _ _ _) rfl ⟨rfl, bel⟩
end Go.Proofs.YtmfdcgocfofokaaDoor

/- An event that is handed in. -/
namespace Go.Proofs.YtmfdcgocfofokaaDoor
open Go.RowKit Go.WideShapes Go.ChangeShapes

theorem openEvt {H : Type} {enc : TypeId × Value → H} {w : World} {r : Reach} {b0 base : Nat} {spare : Nat → Bool} {held : Bool} {v : Value} {d : DataW H} {ps : List MemPlace}
    (hval : Value.okWide Tryd.prog w r b0 23 v) (h : DataW.Trod enc Tryd.prog w base spare held 23 v d ps) : ∃ p, v = .agg (eEvt.enc p).toArray ∧ okEvt p := by
  unfold Value.okWide at hval
  rw [undEvt] at hval
  obtain ⟨cs, rfl, _⟩ := hval
  obtain ⟨p, h1, h2⟩ := open_one flatEvt h
  refine ⟨p, ?_, h2⟩
  have h3 : cs.toList = eEvt.enc p := h1
  rw [← h3]
theorem openInt {H : Type} {enc : TypeId × Value → H} {w : World} {r : Reach} {b0 base : Nat} {spare : Nat → Bool} {held : Bool} {v : Value} {d : DataW H} {ps : List MemPlace}
    (hval : Value.okWide Tryd.prog w r b0 3 v) (h : DataW.Trod enc Tryd.prog w base spare held 3 v d ps) : ∃ n, v = .int .i64 n ∧ (Lit.int .i64 n).wf = true := by
  obtain ⟨n, hv, _, _, hw⟩ := open_int Tryd.underlying3 hval h
  exact ⟨n, hv, hw⟩
theorem openText {H : Type} {enc : TypeId × Value → H} {w : World} {r : Reach} {b0 base : Nat} {spare : Nat → Bool} {held : Bool} {v : Value} {d : DataW H} {ps : List MemPlace}
    (hval : Value.okWide Tryd.prog w r b0 9 v) (h : DataW.Trod enc Tryd.prog w base spare held 9 v d ps) : ∃ l, v = .string (str l) := by
  obtain ⟨s, hv, _⟩ := Go.ChangeMaps.open_string Tryd.underlying9 hval h
  exact ⟨s.data.toList, by rw [hv, str_of s]⟩
end Go.Proofs.YtmfdcgocfofokaaDoor

/- The law EventLines, at any arguments. -/
namespace Go.Proofs.YtmfdcgocfofokaaDoor
open Go.RowKit Go.WideShapes Go.ChangeShapes

theorem eventLines_law {H : Type} {enc : TypeId × Value → H} {W : World} {v0 v1 : Value} {d0 d1 : DataW H} {p0 p1 : List MemPlace} {b0 b1 : Nat} (o0 : Value.okWide Tryd.prog W .any b0 23 v0) (o1 : Value.okWide Tryd.prog W .any b1 9 v1) (h0 : DataW.Trod enc Tryd.prog W 0 (fun _ => true) true 23 v0 d0 p0) (h1 : DataW.Trod enc Tryd.prog W 0 (fun _ => true) true 9 v1 d1 p1) :
    Calls Tryd.prog 3 #[v0, v1] W fun e W' => e = .returned (.bool true) ∧ Below W.heap.size W W' := by
  obtain ⟨p, rfl, hp⟩ := openEvt o0 h0
  obtain ⟨l, rfl⟩ := openText o1 h1
  exact linesLaw_calls hp W
end Go.Proofs.YtmfdcgocfofokaaDoor

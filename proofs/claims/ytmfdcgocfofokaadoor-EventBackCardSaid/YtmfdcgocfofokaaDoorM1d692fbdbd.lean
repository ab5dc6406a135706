/- Lemmas that the chapter's laws rest on: EvPrints, EvParse, EvText3, EvText4, Bld, BldW, BldS, EvRows, EvRefParse. -/
import Derived.Test.YtmfdcgocfofokaaDoorM2e29848797
import Derived.Lib.Builder
import Derived.Lib.AppendStr
import Derived.Lib.UnsafeStr
import Derived.Laws.Externs
/- An event's line: the program's and the document's. -/
namespace Go.Proofs.YtmfdcgocfofokaaDoor
open Go.RowKit Go.WideShapes Go.ChangeShapes
set_option linter.unusedSimpArgs false
set_option linter.unusedVariables false

theorem d_fld_23_0 : FieldAt Tryd.prog 23 0 0 := fieldAt_of (s := 0) Tryd.underlying23 (by kernel_rfl)
theorem d_one_3 : One Tryd.prog 3 := one_of Tryd.underlying3 rfl (by kernel_rfl)
theorem d_fld_23_1 : FieldAt Tryd.prog 23 1 1 := fieldAt_of (s := 0) Tryd.underlying23 (by kernel_rfl)
theorem d_fld_23_2 : FieldAt Tryd.prog 23 2 2 := fieldAt_of (s := 0) Tryd.underlying23 (by kernel_rfl)
theorem d_fld_23_3 : FieldAt Tryd.prog 23 3 3 := fieldAt_of (s := 0) Tryd.underlying23 (by kernel_rfl)
theorem d_fld_23_4 : FieldAt Tryd.prog 23 4 4 := fieldAt_of (s := 0) Tryd.underlying23 (by kernel_rfl)
theorem d_run_call_14_1 {o : Oper} {a : Act} (x0 : Operand) {ts : Array TypeId} (ho : o.op = .call { callee := .value (.func 14), args := #[x0], argTypes := ts }) {v0 : Value} (h0 : a.eval x0 = v0) (W : World) : (execOp a.eval o).run Tryd.prog W = .ok (.enter 14 #[v0]) W := by
  unfold execOp
  simp only [ho]
  subst h0
  go_simp
theorem d_run_call_27_1 {o : Oper} {a : Act} (x0 : Operand) {ts : Array TypeId} (ho : o.op = .call { callee := .value (.func 27), args := #[x0], argTypes := ts }) {v0 : Value} (h0 : a.eval x0 = v0) (W : World) : (execOp a.eval o).run Tryd.prog W = .ok (.enter 27 #[v0]) W := by
  unfold execOp
  simp only [ho]
  subst h0
  go_simp
theorem d_run_call_28_2 {o : Oper} {a : Act} (x0 : Operand) (x1 : Operand) {ts : Array TypeId} (ho : o.op = .call { callee := .value (.func 28), args := #[x0, x1], argTypes := ts }) {v0 : Value} (h0 : a.eval x0 = v0) {v1 : Value} (h1 : a.eval x1 = v1) (W : World) : (execOp a.eval o).run Tryd.prog W = .ok (.enter 28 #[v0, v1]) W := by
  unfold execOp
  simp only [ho]
  subst h0 h1
  go_simp
theorem d_run_lit_42_1 {o : Oper} {a : Act} (x0 : Operand) (ho : o.op = .buildSlice 42 1 #[(0, x0)]) {m0 : List UInt8} (h0 : a.eval x0 = (.string (str m0))) (W : World) : (execOp a.eval o).run Tryd.prog W = .ok (.value (.slice (some ⟨W.heap.size, 0, none⟩) 1 1)) (W.alloc (.cells #[(.string (str m0))] 9)) := by
  unfold execOp
  simp only [ho, List.map_toArray, List.map_cons, List.map_nil, h0]
  go_simp
theorem d_run_lit_50_4 {o : Oper} {a : Act} (x0 : Operand) (x1 : Operand) (x2 : Operand) (x3 : Operand) (ho : o.op = .buildSlice 50 4 #[(0, x0), (1, x1), (2, x2), (3, x3)]) {m0 : Int} (h0 : a.eval x0 = (.int .i64 m0)) {m1 : Int} (h1 : a.eval x1 = (.int .i64 m1)) {m2 : Int} (h2 : a.eval x2 = (.int .i64 m2)) {m3 : Int} (h3 : a.eval x3 = (.int .i64 m3)) (W : World) : (execOp a.eval o).run Tryd.prog W = .ok (.value (.slice (some ⟨W.heap.size, 0, none⟩) 4 4)) (W.alloc (.cells #[(.int .i64 m0), (.int .i64 m1), (.int .i64 m2), (.int .i64 m3)] 3)) := by
  unfold execOp
  simp only [ho, List.map_toArray, List.map_cons, List.map_nil, h0, h1, h2, h3]
  go_simp
theorem d_run_call_11_1 {o : Oper} {a : Act} (x0 : Operand) {ts : Array TypeId} (ho : o.op = .call { callee := .value (.func 11), args := #[x0], argTypes := ts }) {v0 : Value} (h0 : a.eval x0 = v0) (W : World) : (execOp a.eval o).run Tryd.prog W = .ok (.enter 11 #[v0]) W := by
  unfold execOp
  simp only [ho]
  subst h0
  go_simp
theorem d_run_call_29_1 {o : Oper} {a : Act} (x0 : Operand) {ts : Array TypeId} (ho : o.op = .call { callee := .value (.func 29), args := #[x0], argTypes := ts }) {v0 : Value} (h0 : a.eval x0 = v0) (W : World) : (execOp a.eval o).run Tryd.prog W = .ok (.enter 29 #[v0]) W := by
  unfold execOp
  simp only [ho]
  subst h0
  go_simp

attribute [local irreducible] Go.wpList Go.Code.wp
set_option maxRecDepth 100000 in
set_option maxHeartbeats 4000000 in
theorem print_calls (p : TEvt) (hp : okEvt p) (w : World) : Calls Tryd.prog 12 #[.agg (eEvt.enc p).toArray] w fun e w' => e = .returned (.string (str (prE p))) ∧ Below w.heap.size w w' := by
  have bel : Below w.heap.size w w := Below.refl _ _
  go_enter Tryd.func12, Tryd.ntmps12
  refine wp_seq ?_
  refine wp_region_lit ?_
  refine st_new (cs := #[.int .i64 p.1, .int .i64 p.2.1, .int .i64 p.2.2.1, .int .i64 p.2.2.2.1, .int .i64 p.2.2.2.2]) (t := 23) (by rfl) (run_boxV (.tmp 0) rfl (v := (.agg #[.int .i64 p.1, .int .i64 p.2.1, .int .i64 p.2.2.1, .int .i64 p.2.2.2.1, .int .i64 p.2.2.2.2])) rfl rfl _) ?_
  intro g1 w2 B3 hb4 lo5
  simp only [nf0, nf1, nf2, nf3, nf4]
  replace lo5 := low_le bel lo5
  replace bel := bl_step bel hb4
  clear hb4
  refine st_mv (.string (str [])) ?_
  simp only [nf0, nf1, nf2, nf3, nf4]
  refine wpList_nil ?_
  show Code.wp _ _ _ _ _
  refine wp_seq ?_
  refine wp_region_lit ?_
  refine st_value (v := (.pointer (some ⟨g1, 0, none⟩))) (by rfl) (run_fieldA (.tmp 1) rfl d_fld_23_0 rfl rfl w2) ?_
  simp only [nf0, nf1, nf2, nf3, nf4]
  refine st_value (v := (.int .i64 p.1)) (by rfl) (run_loadB (.tmp 6) rfl d_one_3 rfl B3 rfl) ?_
  simp only [nf0, nf1, nf2, nf3, nf4]
  refine st_call1 (v := (.string (str (nm p.1)))) (by rfl) (d_run_call_14_1 (.tmp 7) rfl rfl _) (name_calls p.1 w2) ?_
  intro w6 hb7
  simp only [nf0, nf1, nf2, nf3, nf4]
  replace B3 := B3.below hb7
  replace bel := bl_step bel hb7
  clear hb7
  refine st_lit (by rfl) (d_run_lit_42_1 (.tmp 8) rfl rfl _) ?_
  intro g8 w9 B10 hb11 lo12
  simp only [nf0, nf1, nf2, nf3, nf4]
  have n13 := B3.ne lo12
  replace lo12 := low_le bel lo12
  replace B3 := B3.below hb11
  replace bel := bl_step bel hb11
  clear hb11
  refine st_mv (.slice (some ⟨g8, 0, none⟩) 1 1) ?_
  simp only [nf0, nf1, nf2, nf3, nf4]
  refine wpList_nil ?_
  show Code.wp _ _ _ _ _
  refine wp_seq ?_
  refine wp_seq ?_
  have n15 : Off (.slice (some ⟨g8, 0, none⟩) 1 1) g1 := fun e => n13.symm (Option.some.inj e)
  have O14 : OwnR w9 w.heap.size 9 eTx (.slice (some ⟨g8, 0, none⟩) 1 1) ([(nm p.1)] : List (List UInt8)) := OwnR.built (xs := ([(nm p.1)] : List (List UInt8))) B10 (by rfl) lo12 (by simp) rfl
  clear B10
  refine wp_region_lit ?_
  refine st_value (v := (.pointer (some ⟨g1, 1, none⟩))) (by rfl) (run_fieldA (.tmp 1) rfl d_fld_23_1 rfl rfl w9) ?_
  simp only [nf0, nf1, nf2, nf3, nf4]
  refine st_value (v := (.int .i64 p.2.1)) (by rfl) (run_loadB (.tmp 10) rfl d_one_3 rfl B3 rfl) ?_
  simp only [nf0, nf1, nf2, nf3, nf4]
  refine st_value (v := (.pointer (some ⟨g1, 2, none⟩))) (by rfl) (run_fieldA (.tmp 1) rfl d_fld_23_2 rfl rfl w9) ?_
  simp only [nf0, nf1, nf2, nf3, nf4]
  refine st_value (v := (.int .i64 p.2.2.1)) (by rfl) (run_loadB (.tmp 12) rfl d_one_3 rfl B3 rfl) ?_
  simp only [nf0, nf1, nf2, nf3, nf4]
  refine st_value (v := (.pointer (some ⟨g1, 3, none⟩))) (by rfl) (run_fieldA (.tmp 1) rfl d_fld_23_3 rfl rfl w9) ?_
  simp only [nf0, nf1, nf2, nf3, nf4]
  refine st_value (v := (.int .i64 p.2.2.2.1)) (by rfl) (run_loadB (.tmp 14) rfl d_one_3 rfl B3 rfl) ?_
  simp only [nf0, nf1, nf2, nf3, nf4]
  refine st_value (v := (.pointer (some ⟨g1, 4, none⟩))) (by rfl) (run_fieldA (.tmp 1) rfl d_fld_23_4 rfl rfl w9) ?_
  simp only [nf0, nf1, nf2, nf3, nf4]
  refine st_value (v := (.int .i64 p.2.2.2.2)) (by rfl) (run_loadB (.tmp 16) rfl d_one_3 rfl B3 rfl) ?_
  simp only [nf0, nf1, nf2, nf3, nf4]
  refine st_lit (n := 4) (by rfl) (d_run_lit_50_4 (.tmp 11) (.tmp 13) (.tmp 15) (.tmp 17) rfl rfl rfl rfl rfl _) ?_
  intro g16 w17 B18 hb19 lo20
  simp only [nf0, nf1, nf2, nf3, nf4]
  have n21 := B3.ne lo20
  have n22 := O14.off lo20
  replace lo20 := low_le bel lo20
  replace B3 := B3.below hb19
  replace O14 := O14.same hb19
  replace bel := bl_step bel hb19
  clear hb19
  refine st_value (v := (.int .i64 4)) (by rfl) (run_len (.tmp 18) rfl ⟨_, Tryd.underlying50⟩ rfl w17) ?_
  simp only [nf0, nf1, nf2, nf3, nf4]
  refine st_mv (.int .i64 0) ?_
  simp only [nf0, nf1, nf2, nf3, nf4]
  refine wpList_nil ?_
  show Code.wp _ _ _ _ _
  refine wp_block ?_
  refine wp_loop_rnds 4 ?_
  show Code.wp _ _ _ _ _
  refine wp_seq ?_
  refine wp_region_lit ?_
  refine st_value (v := (.bool true)) (by rfl) ((run_lss (.tmp 20) (.tmp 19) rfl rfl rfl w17).trans (by rw [decide_eq_true (by omega)])) ?_
  simp only [nf0, nf1, nf2, nf3, nf4]
  refine wpList_nil ?_
  show Code.wp _ _ _ _ _
  refine wp_seq ?_
  refine wp_cond_true rfl ?_
  refine wp_skip ?_
  show Code.wp _ _ _ _ _
  refine wp_seq ?_
  refine wp_block ?_
  refine wp_seq ?_
  refine wp_region_lit ?_
  refine st_value (v := (.pointer (some ⟨g16, 0, none⟩))) (by rfl) (run_index1 (.tmp 18) (.tmp 20) rfl Tryd.underlying50 (by kernel_rfl) rfl rfl (by omega) (by omega) w17) ?_
  simp only [nf0, nf1, nf2, nf3, nf4]
  refine st_value (v := (.int .i64 p.2.1)) (by rfl) (run_loadB (.tmp 22) rfl d_one_3 rfl B18 rfl) ?_
  simp only [nf0, nf1, nf2, nf3, nf4]
  refine st_mv (.int .i64 p.2.1) ?_
  simp only [nf0, nf1, nf2, nf3, nf4]
  refine wpList_nil ?_
  show Code.wp _ _ _ _ _
  refine wp_region_lit ?_
  refine st_mv (.slice (some ⟨g8, 0, none⟩) 1 1) ?_
  simp only [nf0, nf1, nf2, nf3, nf4]
  refine st_mv (.int .i64 p.2.1) ?_
  simp only [nf0, nf1, nf2, nf3, nf4]
  refine st_call1 (v := (.string (str (tdecI p.2.1)))) (by rfl) (d_run_call_27_1 (.tmp 25) rfl rfl _) (dec_calls (n := p.2.1) hp.2.1 w17) ?_
  intro w23 hb24
  simp only [nf0, nf1, nf2, nf3, nf4]
  replace B3 := B3.below hb24
  replace O14 := O14.same hb24
  replace B18 := B18.below hb24
  replace bel := bl_step bel hb24
  clear hb24
  refine st_lit (by rfl) (d_run_lit_42_1 (.tmp 26) rfl rfl _) ?_
  intro g25 w26 B27 hb28 lo29
  simp only [nf0, nf1, nf2, nf3, nf4]
  have n30 := B3.ne lo29
  have n31 := O14.off lo29
  have n32 := B18.ne lo29
  replace lo29 := low_le bel lo29
  replace B3 := B3.below hb28
  replace O14 := O14.same hb28
  replace B18 := B18.below hb28
  replace bel := bl_step bel hb28
  clear hb28
  refine st_append slTx rfl (.tmp 24) (.tmp 27) rfl rfl O14 ([(tdecI p.2.1)] : List (List UInt8)) rfl rfl B27 (by simp [Enc.all, eTx]) (by simp only [List.length_append, List.length_cons, List.length_nil]; omega) bel.size ?_
  intro v33 w34 O35 hg36 hat37
  simp only [nf0, nf1, nf2, nf3, nf4]
  have n38 := (n15 : Off _ _).app B3 hat37
  replace B3 := B3.keptR hg36 n15
  have n39 := (n22 : Off _ _).app B18 hat37
  replace B18 := B18.keptR hg36 n22
  replace bel := bl_app bel O14 hg36
  clear O14 hg36 hat37
  refine st_mv v33 ?_
  simp only [nf0, nf1, nf2, nf3, nf4]
  refine wpList_nil ?_
  show Code.wp _ _ _ _ _
  refine wp_region_lit ?_
  refine st_value (v := (.int .i64 1)) (by rfl) (run_add_in (m := 0) (n := 1) (.tmp 20) (.const (.int .i64 1)) rfl rfl rfl (by omega) w34) ?_
  simp only [nf0, nf1, nf2, nf3, nf4]
  refine st_mv (.int .i64 1) ?_
  simp only [nf0, nf1, nf2, nf3, nf4]
  refine wpList_nil ?_
  show Code.wp _ _ _ _ _
  refine wp_seq ?_
  refine wp_region_lit ?_
  refine st_value (v := (.bool true)) (by rfl) ((run_lss (.tmp 20) (.tmp 19) rfl rfl rfl w34).trans (by rw [decide_eq_true (by omega)])) ?_
  simp only [nf0, nf1, nf2, nf3, nf4]
  refine wpList_nil ?_
  show Code.wp _ _ _ _ _
  refine wp_seq ?_
  refine wp_cond_true rfl ?_
  refine wp_skip ?_
  show Code.wp _ _ _ _ _
  refine wp_seq ?_
  refine wp_block ?_
  refine wp_seq ?_
  refine wp_region_lit ?_
  refine st_value (v := (.pointer (some ⟨g16, 1, none⟩))) (by rfl) (run_index1 (.tmp 18) (.tmp 20) rfl Tryd.underlying50 (by kernel_rfl) rfl rfl (by omega) (by omega) w34) ?_
  simp only [nf0, nf1, nf2, nf3, nf4]
  refine st_value (v := (.int .i64 p.2.2.1)) (by rfl) (run_loadB (.tmp 22) rfl d_one_3 rfl B18 rfl) ?_
  simp only [nf0, nf1, nf2, nf3, nf4]
  refine st_mv (.int .i64 p.2.2.1) ?_
  simp only [nf0, nf1, nf2, nf3, nf4]
  refine wpList_nil ?_
  show Code.wp _ _ _ _ _
  refine wp_region_lit ?_
  refine st_mv v33 ?_
  simp only [nf0, nf1, nf2, nf3, nf4]
  refine st_mv (.int .i64 p.2.2.1) ?_
  simp only [nf0, nf1, nf2, nf3, nf4]
  refine st_call1 (v := (.string (str (tdecI p.2.2.1)))) (by rfl) (d_run_call_27_1 (.tmp 25) rfl rfl _) (dec_calls (n := p.2.2.1) hp.2.2.1 w34) ?_
  intro w40 hb41
  simp only [nf0, nf1, nf2, nf3, nf4]
  replace B3 := B3.below hb41
  replace B18 := B18.below hb41
  replace O35 := O35.same hb41
  replace bel := bl_step bel hb41
  clear hb41
  refine st_lit (by rfl) (d_run_lit_42_1 (.tmp 26) rfl rfl _) ?_
  intro g42 w43 B44 hb45 lo46
  simp only [nf0, nf1, nf2, nf3, nf4]
  have n47 := B3.ne lo46
  have n48 := B18.ne lo46
  have n49 := O35.off lo46
  replace lo46 := low_le bel lo46
  replace B3 := B3.below hb45
  replace B18 := B18.below hb45
  replace O35 := O35.same hb45
  replace bel := bl_step bel hb45
  clear hb45
  refine st_append slTx rfl (.tmp 24) (.tmp 27) rfl rfl O35 ([(tdecI p.2.2.1)] : List (List UInt8)) rfl rfl B44 (by simp [Enc.all, eTx]) (by simp only [List.length_append, List.length_cons, List.length_nil]; omega) bel.size ?_
  intro v50 w51 O52 hg53 hat54
  simp only [nf0, nf1, nf2, nf3, nf4]
  have n55 := (n38 : Off _ _).app B3 hat54
  replace B3 := B3.keptR hg53 n38
  have n56 := (n39 : Off _ _).app B18 hat54
  replace B18 := B18.keptR hg53 n39
  replace bel := bl_app bel O35 hg53
  clear O35 hg53 hat54
  refine st_mv v50 ?_
  simp only [nf0, nf1, nf2, nf3, nf4]
  refine wpList_nil ?_
  show Code.wp _ _ _ _ _
  refine wp_region_lit ?_
  refine st_value (v := (.int .i64 2)) (by rfl) (run_add_in (m := 1) (n := 1) (.tmp 20) (.const (.int .i64 1)) rfl rfl rfl (by omega) w51) ?_
  simp only [nf0, nf1, nf2, nf3, nf4]
  refine st_mv (.int .i64 2) ?_
  simp only [nf0, nf1, nf2, nf3, nf4]
  refine wpList_nil ?_
  show Code.wp _ _ _ _ _
  refine wp_seq ?_
  refine wp_region_lit ?_
  refine st_value (v := (.bool true)) (by rfl) ((run_lss (.tmp 20) (.tmp 19) rfl rfl rfl w51).trans (by rw [decide_eq_true (by omega)])) ?_
  simp only [nf0, nf1, nf2, nf3, nf4]
  refine wpList_nil ?_
  show Code.wp _ _ _ _ _
  refine wp_seq ?_
  refine wp_cond_true rfl ?_
  refine wp_skip ?_
  show Code.wp _ _ _ _ _
  refine wp_seq ?_
  refine wp_block ?_
  refine wp_seq ?_
  refine wp_region_lit ?_
  refine st_value (v := (.pointer (some ⟨g16, 2, none⟩))) (by rfl) (run_index1 (.tmp 18) (.tmp 20) rfl Tryd.underlying50 (by kernel_rfl) rfl rfl (by omega) (by omega) w51) ?_
  simp only [nf0, nf1, nf2, nf3, nf4]
  refine st_value (v := (.int .i64 p.2.2.2.1)) (by rfl) (run_loadB (.tmp 22) rfl d_one_3 rfl B18 rfl) ?_
  simp only [nf0, nf1, nf2, nf3, nf4]
  refine st_mv (.int .i64 p.2.2.2.1) ?_
  simp only [nf0, nf1, nf2, nf3, nf4]
  refine wpList_nil ?_
  show Code.wp _ _ _ _ _
  refine wp_region_lit ?_
  refine st_mv v50 ?_
  simp only [nf0, nf1, nf2, nf3, nf4]
  refine st_mv (.int .i64 p.2.2.2.1) ?_
  simp only [nf0, nf1, nf2, nf3, nf4]
  refine st_call1 (v := (.string (str (tdecI p.2.2.2.1)))) (by rfl) (d_run_call_27_1 (.tmp 25) rfl rfl _) (dec_calls (n := p.2.2.2.1) hp.2.2.2.1 w51) ?_
  intro w57 hb58
  simp only [nf0, nf1, nf2, nf3, nf4]
  replace B3 := B3.below hb58
  replace B18 := B18.below hb58
  replace O52 := O52.same hb58
  replace bel := bl_step bel hb58
  clear hb58
  refine st_lit (by rfl) (d_run_lit_42_1 (.tmp 26) rfl rfl _) ?_
  intro g59 w60 B61 hb62 lo63
  simp only [nf0, nf1, nf2, nf3, nf4]
  have n64 := B3.ne lo63
  have n65 := B18.ne lo63
  have n66 := O52.off lo63
  replace lo63 := low_le bel lo63
  replace B3 := B3.below hb62
  replace B18 := B18.below hb62
  replace O52 := O52.same hb62
  replace bel := bl_step bel hb62
  clear hb62
  refine st_append slTx rfl (.tmp 24) (.tmp 27) rfl rfl O52 ([(tdecI p.2.2.2.1)] : List (List UInt8)) rfl rfl B61 (by simp [Enc.all, eTx]) (by simp only [List.length_append, List.length_cons, List.length_nil]; omega) bel.size ?_
  intro v67 w68 O69 hg70 hat71
  simp only [nf0, nf1, nf2, nf3, nf4]
  have n72 := (n55 : Off _ _).app B3 hat71
  replace B3 := B3.keptR hg70 n55
  have n73 := (n56 : Off _ _).app B18 hat71
  replace B18 := B18.keptR hg70 n56
  replace bel := bl_app bel O52 hg70
  clear O52 hg70 hat71
  refine st_mv v67 ?_
  simp only [nf0, nf1, nf2, nf3, nf4]
  refine wpList_nil ?_
  show Code.wp _ _ _ _ _
  refine wp_region_lit ?_
  refine st_value (v := (.int .i64 3)) (by rfl) (run_add_in (m := 2) (n := 1) (.tmp 20) (.const (.int .i64 1)) rfl rfl rfl (by omega) w68) ?_
  simp only [nf0, nf1, nf2, nf3, nf4]
  refine st_mv (.int .i64 3) ?_
  simp only [nf0, nf1, nf2, nf3, nf4]
  refine wpList_nil ?_
  show Code.wp _ _ _ _ _
  refine wp_seq ?_
  refine wp_region_lit ?_
  refine st_value (v := (.bool true)) (by rfl) ((run_lss (.tmp 20) (.tmp 19) rfl rfl rfl w68).trans (by rw [decide_eq_true (by omega)])) ?_
  simp only [nf0, nf1, nf2, nf3, nf4]
  refine wpList_nil ?_
  show Code.wp _ _ _ _ _
  refine wp_seq ?_
  refine wp_cond_true rfl ?_
  refine wp_skip ?_
  show Code.wp _ _ _ _ _
  refine wp_seq ?_
  refine wp_block ?_
  refine wp_seq ?_
  refine wp_region_lit ?_
  refine st_value (v := (.pointer (some ⟨g16, 3, none⟩))) (by rfl) (run_index1 (.tmp 18) (.tmp 20) rfl Tryd.underlying50 (by kernel_rfl) rfl rfl (by omega) (by omega) w68) ?_
  simp only [nf0, nf1, nf2, nf3, nf4]
  refine st_value (v := (.int .i64 p.2.2.2.2)) (by rfl) (run_loadB (.tmp 22) rfl d_one_3 rfl B18 rfl) ?_
  simp only [nf0, nf1, nf2, nf3, nf4]
  refine st_mv (.int .i64 p.2.2.2.2) ?_
  simp only [nf0, nf1, nf2, nf3, nf4]
  refine wpList_nil ?_
  show Code.wp _ _ _ _ _
  refine wp_region_lit ?_
  refine st_mv v67 ?_
  simp only [nf0, nf1, nf2, nf3, nf4]
  refine st_mv (.int .i64 p.2.2.2.2) ?_
  simp only [nf0, nf1, nf2, nf3, nf4]
  refine st_call1 (v := (.string (str (tdecI p.2.2.2.2)))) (by rfl) (d_run_call_27_1 (.tmp 25) rfl rfl _) (dec_calls (n := p.2.2.2.2) hp.2.2.2.2 w68) ?_
  intro w74 hb75
  simp only [nf0, nf1, nf2, nf3, nf4]
  replace B3 := B3.below hb75
  replace B18 := B18.below hb75
  replace O69 := O69.same hb75
  replace bel := bl_step bel hb75
  clear hb75
  refine st_lit (by rfl) (d_run_lit_42_1 (.tmp 26) rfl rfl _) ?_
  intro g76 w77 B78 hb79 lo80
  simp only [nf0, nf1, nf2, nf3, nf4]
  have n81 := B3.ne lo80
  have n82 := B18.ne lo80
  have n83 := O69.off lo80
  replace lo80 := low_le bel lo80
  replace B3 := B3.below hb79
  replace B18 := B18.below hb79
  replace O69 := O69.same hb79
  replace bel := bl_step bel hb79
  clear hb79
  refine st_append slTx rfl (.tmp 24) (.tmp 27) rfl rfl O69 ([(tdecI p.2.2.2.2)] : List (List UInt8)) rfl rfl B78 (by simp [Enc.all, eTx]) (by simp only [List.length_append, List.length_cons, List.length_nil]; omega) bel.size ?_
  intro v84 w85 O86 hg87 hat88
  simp only [nf0, nf1, nf2, nf3, nf4]
  have n89 := (n72 : Off _ _).app B3 hat88
  replace B3 := B3.keptR hg87 n72
  have n90 := (n73 : Off _ _).app B18 hat88
  replace B18 := B18.keptR hg87 n73
  replace bel := bl_app bel O69 hg87
  clear O69 hg87 hat88
  refine st_mv v84 ?_
  simp only [nf0, nf1, nf2, nf3, nf4]
  refine wpList_nil ?_
  show Code.wp _ _ _ _ _
  refine wp_region_lit ?_
  refine st_value (v := (.int .i64 4)) (by rfl) (run_add_in (m := 3) (n := 1) (.tmp 20) (.const (.int .i64 1)) rfl rfl rfl (by omega) w85) ?_
  simp only [nf0, nf1, nf2, nf3, nf4]
  refine st_mv (.int .i64 4) ?_
  simp only [nf0, nf1, nf2, nf3, nf4]
  refine wpList_nil ?_
  show Code.wp _ _ _ _ _
  refine wp_seq ?_
  refine wp_region_lit ?_
  refine st_value (v := (.bool false)) (by rfl) ((run_lss (.tmp 20) (.tmp 19) rfl rfl rfl w85).trans (by rw [decide_eq_false (by omega)])) ?_
  simp only [nf0, nf1, nf2, nf3, nf4]
  refine wpList_nil ?_
  show Code.wp _ _ _ _ _
  refine wp_seq ?_
  refine wp_cond_false rfl ?_
  refine wp_exit ?_
  show Code.wp _ _ _ _ _
  refine wp_seq ?_
  refine wp_region_lit ?_
  refine st_mv v84 ?_
  simp only [nf0, nf1, nf2, nf3, nf4]
  refine st_call1 (v := (.string (str (prE p)))) (by rfl) (d_run_call_28_2 (.tmp 30) (.const (.string ⟨#[32]⟩)) rfl rfl rfl _) (show Calls _ _ _ _ fun e w' => e = .returned (.string (str (prE p))) ∧ Below w85.heap.size w85 w' from by have h_ := joins_calls [32] O86 (by simp only [List.length_append, List.length_cons, List.length_nil]; omega) (by have hl_ := prE_len hp; have hj_ := prE_join p; rw [show ((((([(nm p.1)] : List (List UInt8)) ++ ([(tdecI p.2.1)] : List (List UInt8))) ++ ([(tdecI p.2.2.1)] : List (List UInt8))) ++ ([(tdecI p.2.2.2.1)] : List (List UInt8))) ++ ([(tdecI p.2.2.2.2)] : List (List UInt8))) = [nm p.1, tdecI p.2.1, tdecI p.2.2.1, tdecI p.2.2.2.1, tdecI p.2.2.2.2] from rfl, hj_]; omega); rw [show ((((([(nm p.1)] : List (List UInt8)) ++ ([(tdecI p.2.1)] : List (List UInt8))) ++ ([(tdecI p.2.2.1)] : List (List UInt8))) ++ ([(tdecI p.2.2.2.1)] : List (List UInt8))) ++ ([(tdecI p.2.2.2.2)] : List (List UInt8))) = [nm p.1, tdecI p.2.1, tdecI p.2.2.1, tdecI p.2.2.2.1, tdecI p.2.2.2.2] from rfl, prE_join] at h_; exact h_) ?_
  intro w91 hb92
  simp only [nf0, nf1, nf2, nf3, nf4]
  replace B3 := B3.below hb92
  replace B18 := B18.below hb92
  replace O86 := O86.same hb92
  replace bel := bl_step bel hb92
  clear hb92
  refine st_mv (.string (str (prE p))) ?_
  simp only [nf0, nf1, nf2, nf3, nf4]
  refine wpList_nil ?_
  show Code.wp _ _ _ _ _
  refine wp_ret ?_
  first | show bodyPost _ _ _ _ _ _ | (simp only [Exit.then, Exit.inBlock]; show bodyPost _ _ _ _ _ _)
  exact bodyPost_ret (results_tmp rfl _ _ _) rfl ⟨rfl, bel⟩
set_option maxRecDepth 100000 in
set_option maxHeartbeats 4000000 in
theorem refPrint_calls (p : TEvt) (hp : okEvt p) (w : World) : Calls Tryd.prog 13 #[.agg (eEvt.enc p).toArray] w fun e w' => e = .returned (.string (str (prE p))) ∧ Below w.heap.size w w' := by
  have bel : Below w.heap.size w w := Below.refl _ _
  have h0 := nm_len p.1
  have h1 := tdecI_len hp.2.1
  have h2 := tdecI_len hp.2.2.1
  have h3 := tdecI_len hp.2.2.2.1
  have h4 := tdecI_len hp.2.2.2.2
  go_enter Tryd.func13, Tryd.ntmps13
  refine wp_seq ?_
  refine wp_region_lit ?_
  refine st_new (cs := #[.int .i64 p.1, .int .i64 p.2.1, .int .i64 p.2.2.1, .int .i64 p.2.2.2.1, .int .i64 p.2.2.2.2]) (t := 23) (by rfl) (run_boxV (.tmp 0) rfl (v := (.agg #[.int .i64 p.1, .int .i64 p.2.1, .int .i64 p.2.2.1, .int .i64 p.2.2.2.1, .int .i64 p.2.2.2.2])) rfl rfl _) ?_
  intro g1 w2 B3 hb4 lo5
  simp only [nf0, nf1, nf2, nf3, nf4]
  replace lo5 := low_le bel lo5
  replace bel := bl_step bel hb4
  clear hb4
  refine st_mv (.string (str [])) ?_
  simp only [nf0, nf1, nf2, nf3, nf4]
  refine wpList_nil ?_
  show Code.wp _ _ _ _ _
  refine wp_seq ?_
  refine wp_region_facts2_lit (C := Abv w2) 23 [.val (.pointer (some ⟨g1, 0, none⟩)), .val (.int .i64 p.1), .val (.string (str (nm p.1))), .val (.string (str ((nm p.1) ++ [32]))), .val (.pointer (some ⟨g1, 1, none⟩)), .val (.int .i64 p.2.1), .val (.string (str (tdecI p.2.1))), .val (.string (str (((nm p.1) ++ [32]) ++ (tdecI p.2.1)))), .val (.string (str ((((nm p.1) ++ [32]) ++ (tdecI p.2.1)) ++ [32]))), .val (.pointer (some ⟨g1, 2, none⟩)), .val (.int .i64 p.2.2.1), .val (.string (str (tdecI p.2.2.1))), .val (.string (str (((((nm p.1) ++ [32]) ++ (tdecI p.2.1)) ++ [32]) ++ (tdecI p.2.2.1)))), .val (.string (str ((((((nm p.1) ++ [32]) ++ (tdecI p.2.1)) ++ [32]) ++ (tdecI p.2.2.1)) ++ [32]))), .val (.pointer (some ⟨g1, 3, none⟩)), .val (.int .i64 p.2.2.2.1), .val (.string (str (tdecI p.2.2.2.1))), .val (.string (str (((((((nm p.1) ++ [32]) ++ (tdecI p.2.1)) ++ [32]) ++ (tdecI p.2.2.1)) ++ [32]) ++ (tdecI p.2.2.2.1)))), .val (.string (str ((((((((nm p.1) ++ [32]) ++ (tdecI p.2.1)) ++ [32]) ++ (tdecI p.2.2.1)) ++ [32]) ++ (tdecI p.2.2.2.1)) ++ [32]))), .val (.pointer (some ⟨g1, 4, none⟩)), .val (.int .i64 p.2.2.2.2), .val (.string (str (tdecI p.2.2.2.2))), .val (.string (str (((((((((nm p.1) ++ [32]) ++ (tdecI p.2.1)) ++ [32]) ++ (tdecI p.2.2.1)) ++ [32]) ++ (tdecI p.2.2.2.1)) ++ [32]) ++ (tdecI p.2.2.2.2))))] w2.heap.size (by kernel_rfl) (by simp) (by kernel_rfl) (by kernel_rfl) (fun _ h => h.size) (Abv.start _) ?_
  simp only [List.take_succ_cons, List.take_zero, List.drop_succ_cons, List.drop_zero]
  refine fst2_val (fun W hC hh => ok2_value (v := (.pointer (some ⟨g1, 0, none⟩))) (by rfl) (run_fieldA (.tmp 1) rfl d_fld_23_0 rfl rfl W) rfl hC (G0.refl _)) ?_
  simp only [nf0, nf1, nf2, nf3, nf4]
  refine fst2_val (fun W hC hh => ok2_value (v := (.int .i64 p.1)) (by rfl) (run_loadB (.tmp 3) rfl d_one_3 rfl (B3.below hC) rfl) rfl hC (G0.refl _)) ?_
  simp only [nf0, nf1, nf2, nf3, nf4]
  refine fst2_val (fun W hC hh => ok2_call (by rfl) (d_run_call_11_1 (.tmp 4) rfl rfl W) ((refName_calls p.1 W).mono fun e W' ⟨h1, h2⟩ => ⟨h1, hC.step h2, h2⟩)) ?_
  simp only [nf0, nf1, nf2, nf3, nf4]
  refine fst2_val (fun W hC hh => ok2_value (v := (.string (str ((nm p.1) ++ [32])))) (by rfl) (run_add_text (.tmp 5) (.const (.string ⟨#[32]⟩)) (l := (nm p.1)) (m := [32]) rfl rfl rfl (by (try simp only [List.length_append, List.length_cons, List.length_nil]); omega) W) rfl hC (G0.refl _)) ?_
  simp only [nf0, nf1, nf2, nf3, nf4]
  refine fst2_val (fun W hC hh => ok2_value (v := (.pointer (some ⟨g1, 1, none⟩))) (by rfl) (run_fieldA (.tmp 1) rfl d_fld_23_1 rfl rfl W) rfl hC (G0.refl _)) ?_
  simp only [nf0, nf1, nf2, nf3, nf4]
  refine fst2_val (fun W hC hh => ok2_value (v := (.int .i64 p.2.1)) (by rfl) (run_loadB (.tmp 7) rfl d_one_3 rfl (B3.below hC) rfl) rfl hC (G0.refl _)) ?_
  simp only [nf0, nf1, nf2, nf3, nf4]
  refine fst2_val (fun W hC hh => ok2_call (by rfl) (d_run_call_29_1 (.tmp 8) rfl rfl W) ((refDec_calls (n := p.2.1) hp.2.1 W).mono fun e W' ⟨h1, h2⟩ => ⟨h1, hC.step h2, h2⟩)) ?_
  simp only [nf0, nf1, nf2, nf3, nf4]
  refine fst2_val (fun W hC hh => ok2_value (v := (.string (str (((nm p.1) ++ [32]) ++ (tdecI p.2.1))))) (by rfl) (run_add_text (.tmp 6) (.tmp 9) (l := ((nm p.1) ++ [32])) (m := (tdecI p.2.1)) rfl rfl rfl (by (try simp only [List.length_append, List.length_cons, List.length_nil]); omega) W) rfl hC (G0.refl _)) ?_
  simp only [nf0, nf1, nf2, nf3, nf4]
  refine fst2_val (fun W hC hh => ok2_value (v := (.string (str ((((nm p.1) ++ [32]) ++ (tdecI p.2.1)) ++ [32])))) (by rfl) (run_add_text (.tmp 10) (.const (.string ⟨#[32]⟩)) (l := (((nm p.1) ++ [32]) ++ (tdecI p.2.1))) (m := [32]) rfl rfl rfl (by (try simp only [List.length_append, List.length_cons, List.length_nil]); omega) W) rfl hC (G0.refl _)) ?_
  simp only [nf0, nf1, nf2, nf3, nf4]
  refine fst2_val (fun W hC hh => ok2_value (v := (.pointer (some ⟨g1, 2, none⟩))) (by rfl) (run_fieldA (.tmp 1) rfl d_fld_23_2 rfl rfl W) rfl hC (G0.refl _)) ?_
  simp only [nf0, nf1, nf2, nf3, nf4]
  refine fst2_val (fun W hC hh => ok2_value (v := (.int .i64 p.2.2.1)) (by rfl) (run_loadB (.tmp 12) rfl d_one_3 rfl (B3.below hC) rfl) rfl hC (G0.refl _)) ?_
  simp only [nf0, nf1, nf2, nf3, nf4]
  refine fst2_val (fun W hC hh => ok2_call (by rfl) (d_run_call_29_1 (.tmp 13) rfl rfl W) ((refDec_calls (n := p.2.2.1) hp.2.2.1 W).mono fun e W' ⟨h1, h2⟩ => ⟨h1, hC.step h2, h2⟩)) ?_
  simp only [nf0, nf1, nf2, nf3, nf4]
  refine fst2_val (fun W hC hh => ok2_value (v := (.string (str (((((nm p.1) ++ [32]) ++ (tdecI p.2.1)) ++ [32]) ++ (tdecI p.2.2.1))))) (by rfl) (run_add_text (.tmp 11) (.tmp 14) (l := ((((nm p.1) ++ [32]) ++ (tdecI p.2.1)) ++ [32])) (m := (tdecI p.2.2.1)) rfl rfl rfl (by (try simp only [List.length_append, List.length_cons, List.length_nil]); omega) W) rfl hC (G0.refl _)) ?_
  simp only [nf0, nf1, nf2, nf3, nf4]
  refine fst2_val (fun W hC hh => ok2_value (v := (.string (str ((((((nm p.1) ++ [32]) ++ (tdecI p.2.1)) ++ [32]) ++ (tdecI p.2.2.1)) ++ [32])))) (by rfl) (run_add_text (.tmp 15) (.const (.string ⟨#[32]⟩)) (l := (((((nm p.1) ++ [32]) ++ (tdecI p.2.1)) ++ [32]) ++ (tdecI p.2.2.1))) (m := [32]) rfl rfl rfl (by (try simp only [List.length_append, List.length_cons, List.length_nil]); omega) W) rfl hC (G0.refl _)) ?_
  simp only [nf0, nf1, nf2, nf3, nf4]
  refine fst2_val (fun W hC hh => ok2_value (v := (.pointer (some ⟨g1, 3, none⟩))) (by rfl) (run_fieldA (.tmp 1) rfl d_fld_23_3 rfl rfl W) rfl hC (G0.refl _)) ?_
  simp only [nf0, nf1, nf2, nf3, nf4]
  refine fst2_val (fun W hC hh => ok2_value (v := (.int .i64 p.2.2.2.1)) (by rfl) (run_loadB (.tmp 17) rfl d_one_3 rfl (B3.below hC) rfl) rfl hC (G0.refl _)) ?_
  simp only [nf0, nf1, nf2, nf3, nf4]
  refine fst2_val (fun W hC hh => ok2_call (by rfl) (d_run_call_29_1 (.tmp 18) rfl rfl W) ((refDec_calls (n := p.2.2.2.1) hp.2.2.2.1 W).mono fun e W' ⟨h1, h2⟩ => ⟨h1, hC.step h2, h2⟩)) ?_
  simp only [nf0, nf1, nf2, nf3, nf4]
  refine fst2_val (fun W hC hh => ok2_value (v := (.string (str (((((((nm p.1) ++ [32]) ++ (tdecI p.2.1)) ++ [32]) ++ (tdecI p.2.2.1)) ++ [32]) ++ (tdecI p.2.2.2.1))))) (by rfl) (run_add_text (.tmp 16) (.tmp 19) (l := ((((((nm p.1) ++ [32]) ++ (tdecI p.2.1)) ++ [32]) ++ (tdecI p.2.2.1)) ++ [32])) (m := (tdecI p.2.2.2.1)) rfl rfl rfl (by (try simp only [List.length_append, List.length_cons, List.length_nil]); omega) W) rfl hC (G0.refl _)) ?_
  simp only [nf0, nf1, nf2, nf3, nf4]
  refine fst2_val (fun W hC hh => ok2_value (v := (.string (str ((((((((nm p.1) ++ [32]) ++ (tdecI p.2.1)) ++ [32]) ++ (tdecI p.2.2.1)) ++ [32]) ++ (tdecI p.2.2.2.1)) ++ [32])))) (by rfl) (run_add_text (.tmp 20) (.const (.string ⟨#[32]⟩)) (l := (((((((nm p.1) ++ [32]) ++ (tdecI p.2.1)) ++ [32]) ++ (tdecI p.2.2.1)) ++ [32]) ++ (tdecI p.2.2.2.1))) (m := [32]) rfl rfl rfl (by (try simp only [List.length_append, List.length_cons, List.length_nil]); omega) W) rfl hC (G0.refl _)) ?_
  simp only [nf0, nf1, nf2, nf3, nf4]
  refine fst2_val (fun W hC hh => ok2_value (v := (.pointer (some ⟨g1, 4, none⟩))) (by rfl) (run_fieldA (.tmp 1) rfl d_fld_23_4 rfl rfl W) rfl hC (G0.refl _)) ?_
  simp only [nf0, nf1, nf2, nf3, nf4]
  refine fst2_val (fun W hC hh => ok2_value (v := (.int .i64 p.2.2.2.2)) (by rfl) (run_loadB (.tmp 22) rfl d_one_3 rfl (B3.below hC) rfl) rfl hC (G0.refl _)) ?_
  simp only [nf0, nf1, nf2, nf3, nf4]
  refine fst2_val (fun W hC hh => ok2_call (by rfl) (d_run_call_29_1 (.tmp 23) rfl rfl W) ((refDec_calls (n := p.2.2.2.2) hp.2.2.2.2 W).mono fun e W' ⟨h1, h2⟩ => ⟨h1, hC.step h2, h2⟩)) ?_
  simp only [nf0, nf1, nf2, nf3, nf4]
  refine fst2_val (fun W hC hh => ok2_value (v := (.string (str (((((((((nm p.1) ++ [32]) ++ (tdecI p.2.1)) ++ [32]) ++ (tdecI p.2.2.1)) ++ [32]) ++ (tdecI p.2.2.2.1)) ++ [32]) ++ (tdecI p.2.2.2.2))))) (by rfl) (run_add_text (.tmp 21) (.tmp 24) (l := ((((((((nm p.1) ++ [32]) ++ (tdecI p.2.1)) ++ [32]) ++ (tdecI p.2.2.1)) ++ [32]) ++ (tdecI p.2.2.2.1)) ++ [32])) (m := (tdecI p.2.2.2.2)) rfl rfl rfl (by (try simp only [List.length_append, List.length_cons, List.length_nil]); omega) W) rfl hC (G0.refl _)) ?_
  simp only [nf0, nf1, nf2, nf3, nf4]
  refine fst2_nil fun w6 hC hh hnd => ?_
  replace hC : Below w2.heap.size w2 w6 := hC
  clear hh hnd
  replace B3 := B3.below hC
  replace bel := bl_step bel hC
  clear hC
  refine st_mv (.string (str (((((((((nm p.1) ++ [32]) ++ (tdecI p.2.1)) ++ [32]) ++ (tdecI p.2.2.1)) ++ [32]) ++ (tdecI p.2.2.2.1)) ++ [32]) ++ (tdecI p.2.2.2.2)))) ?_
  simp only [nf0, nf1, nf2, nf3, nf4]
  refine wpList_nil ?_
  show Code.wp _ _ _ _ _
  refine wp_ret ?_
  first | show bodyPost _ _ _ _ _ _ | (simp only [Exit.then, Exit.inBlock]; show bodyPost _ _ _ _ _ _)
  have hE : prE p = (((((((((nm p.1) ++ [32]) ++ (tdecI p.2.1)) ++ [32]) ++ (tdecI p.2.2.1)) ++ [32]) ++ (tdecI p.2.2.2.1)) ++ [32]) ++ (tdecI p.2.2.2.2)) := by unfold prE; simp only [List.append_assoc, List.cons_append, List.nil_append]
  exact bodyPost_ret (results_tmp rfl _ _ _) rfl ⟨by rw [hE]; rfl, bel⟩
end Go.Proofs.YtmfdcgocfofokaaDoor

/- What event.Parse reads. -/
namespace Go.Proofs.YtmfdcgocfofokaaDoor
open Go.RowKit Go.WideShapes Go.ChangeShapes
set_option linter.unusedSimpArgs false
set_option linter.unusedVariables false

theorem e_zero_23 : ZeroOf Tryd.prog 23 #[.int .i64 0, .int .i64 0, .int .i64 0, .int .i64 0, .int .i64 0] := zeroOf (z := .agg #[.int .i64 0, .int .i64 0, .int .i64 0, .int .i64 0, .int .i64 0]) (by kernel_rfl) rfl
theorem e_zero_44 : ZeroOf Tryd.prog 44 #[.int .i64 0, .int .i64 0, .int .i64 0, .int .i64 0] := zeroOf (z := .agg #[.int .i64 0, .int .i64 0, .int .i64 0, .int .i64 0]) (by kernel_rfl) rfl
theorem e_one_3 : One Tryd.prog 3 := one_of Tryd.underlying3 rfl (by kernel_rfl)
theorem e_run_call_10_1 {o : Oper} {a : Act} (x0 : Operand) {ts : Array TypeId} (ho : o.op = .call { callee := .value (.func 10), args := #[x0], argTypes := ts }) {v0 : Value} (h0 : a.eval x0 = v0) (W : World) : (execOp a.eval o).run Tryd.prog W = .ok (.enter 10 #[v0]) W := by
  unfold execOp
  simp only [ho]
  subst h0
  go_simp
theorem e_run_call_12_1 {o : Oper} {a : Act} (x0 : Operand) {ts : Array TypeId} (ho : o.op = .call { callee := .value (.func 12), args := #[x0], argTypes := ts }) {v0 : Value} (h0 : a.eval x0 = v0) (W : World) : (execOp a.eval o).run Tryd.prog W = .ok (.enter 12 #[v0]) W := by
  unfold execOp
  simp only [ho]
  subst h0
  go_simp
theorem e_run_call_22_2 {o : Oper} {a : Act} (x0 : Operand) (x1 : Operand) {ts : Array TypeId} (ho : o.op = .call { callee := .value (.func 22), args := #[x0, x1], argTypes := ts }) {v0 : Value} (h0 : a.eval x0 = v0) {v1 : Value} (h1 : a.eval x1 = v1) (W : World) : (execOp a.eval o).run Tryd.prog W = .ok (.enter 22 #[v0, v1]) W := by
  unfold execOp
  simp only [ho]
  subst h0 h1
  go_simp
theorem e_run_call_23_1 {o : Oper} {a : Act} (x0 : Operand) {ts : Array TypeId} (ho : o.op = .call { callee := .value (.func 23), args := #[x0], argTypes := ts }) {v0 : Value} (h0 : a.eval x0 = v0) (W : World) : (execOp a.eval o).run Tryd.prog W = .ok (.enter 23 #[v0]) W := by
  unfold execOp
  simp only [ho]
  subst h0
  go_simp
theorem len5 {xs : List (List UInt8)} (h : xs.length = 5) : ∃ a b c d g, xs = [a, b, c, d, g] := by
  match xs, h with
  | [a, b, c, d, g], _ => exact ⟨a, b, c, d, g, rfl⟩

attribute [local irreducible] Go.wpList Go.Code.wp
set_option maxRecDepth 100000 in
set_option maxHeartbeats 4000000 in
theorem parse_five {l : List UInt8} {a b c d g_ : List UInt8} (hpc : pieces 32 l = [a, b, c, d, g_]) (hl : l.length ≤ 100000) (w : World) : Calls Tryd.prog 8 #[.string (str l)] w fun e w' => e = .returned (.tuple #[.agg (eEvt.enc (pE l).1).toArray, .bool (pE l).2]) ∧ Below w.heap.size w w' := by
  have bel : Below w.heap.size w w := Below.refl _ _
  have hlen : ([a, b, c, d, g_].drop 1).length = 4 := rfl
  have hlen5 : [a, b, c, d, g_].length = 5 := rfl
  have hnl : ∀ x ∈ pieces 32 l, x.length ≤ l.length := fun x hx => pieces_mem hx
  rw [hpc] at hnl
  go_enter Tryd.func8, Tryd.ntmps8
  refine wp_seq ?_
  refine wp_region_lit ?_
  refine st_new (cs := #[.int .i64 0, .int .i64 0, .int .i64 0, .int .i64 0, .int .i64 0]) (t := 23) (by rfl) (run_allocV rfl e_zero_23 _) ?_
  intro g1 w2 B3 hb4 lo5
  simp only [nf0, nf1, nf2, nf3, nf4]
  replace lo5 := low_le bel lo5
  replace bel := bl_step bel hb4
  clear hb4
  refine st_mv (.bool false) ?_
  simp only [nf0, nf1, nf2, nf3, nf4]
  refine wpList_nil ?_
  show Code.wp _ _ _ _ _
  refine wp_seq ?_
  refine wp_region_lit ?_
  refine st_mv (.string (str l)) ?_
  simp only [nf0, nf1, nf2, nf3, nf4]
  have hc6 := splits_calls l 32 (by omega) w2
  rw [hpc] at hc6
  refine st_call (by rfl) (e_run_call_22_2 (.tmp 11) (.const (.string ⟨#[32]⟩)) rfl rfl rfl _) hc6 ?_
  rintro v7 w9 ⟨O8, hf10⟩
  simp only [nf0, nf1, nf2, nf3, nf4]
  have n11 := O8.offLow B3
  have O8_ := fun k hk => (O8.lt k hk).1
  replace O8 := O8.lower bel.size
  replace B3 := B3.below hf10
  replace bel := bl_step bel hf10
  clear hf10
  refine st_mv v7 ?_
  simp only [nf0, nf1, nf2, nf3, nf4]
  refine wpList_nil ?_
  show Code.wp _ _ _ _ _
  refine wp_seq ?_
  obtain ⟨A12, c13, hv14, h15, h16, h17, R18⟩ := O8.reads
  subst hv14
  obtain ⟨b19, o20, rfl, _⟩ := R18.at_ (by rw [Enc.all_length]; exact Nat.mul_pos (by omega) (by decide))
  refine wp_region_lit ?_
  refine st_mv (.slice (some ⟨b19, o20, none⟩) [a, b, c, d, g_].length c13) ?_
  simp only [nf0, nf1, nf2, nf3, nf4]
  refine st_value (v := (.pointer (some ⟨b19, o20 + 0 * 1, none⟩))) (by rfl) (run_indexAddrN (.tmp 14) (.const (.int .i64 0)) rfl Tryd.underlying42 slTx.sz (i := 0) rfl (by exact (congrArg (Value.int .i64) (show 0 = ((0 : Nat) : Int) by omega))) (by omega) w9) ?_
  simp only [nf0, nf1, nf2, nf3, nf4]
  refine st_value (v := (.string (str (tx [a, b, c, d, g_] 0)))) (by rfl) (run_load1 (.tmp 15) rfl Tryd.underlying9 rfl slTx.sz rfl (Reads.txAt R18 0 (by omega))) ?_
  simp only [nf0, nf1, nf2, nf3, nf4]
  refine st_call1 (v := (.tuple #[.int .i64 (max (kidx (tx [a, b, c, d, g_] 0)) 0), .bool (decide (0 < kidx (tx [a, b, c, d, g_] 0)))])) (by rfl) (e_run_call_10_1 (.tmp 16) rfl rfl _) (kind_calls (tx [a, b, c, d, g_] 0) w9) ?_
  intro w21 hb22
  simp only [nf0, nf1, nf2, nf3, nf4]
  replace B3 := B3.below hb22
  replace O8 := O8.same hb22
  replace R18 := R18.same hb22
  replace bel := bl_step bel hb22
  clear hb22
  refine st_mv (.tuple #[.int .i64 (max (kidx (tx [a, b, c, d, g_] 0)) 0), .bool (decide (0 < kidx (tx [a, b, c, d, g_] 0)))]) ?_
  simp only [nf0, nf1, nf2, nf3, nf4]
  refine st_mv (.int .i64 (max (kidx (tx [a, b, c, d, g_] 0)) 0)) ?_
  simp only [nf0, nf1, nf2, nf3, nf4]
  refine st_mv (.bool (decide (0 < kidx (tx [a, b, c, d, g_] 0)))) ?_
  simp only [nf0, nf1, nf2, nf3, nf4]
  refine st_mv (.int .i64 (max (kidx (tx [a, b, c, d, g_] 0)) 0)) ?_
  simp only [nf0, nf1, nf2, nf3, nf4]
  refine st_mv (.bool (decide (0 < kidx (tx [a, b, c, d, g_] 0)))) ?_
  simp only [nf0, nf1, nf2, nf3, nf4]
  refine wpList_nil ?_
  show Code.wp _ _ _ _ _
  refine wp_seq ?_
  refine wp_seq ?_
  cases hg23 : decide (0 < kidx (tx [a, b, c, d, g_] 0))
  · have hp24 := of_decide_eq_false hg23
    refine wp_region_lit ?_
    refine st_mv (.bool false) ?_
    simp only [nf0, nf1, nf2, nf3, nf4]
    refine st_value (v := (.bool true)) (by rfl) (run_not (.tmp 20) rfl (b := false) rfl w21) ?_
    simp only [nf0, nf1, nf2, nf3, nf4]
    refine st_mv (.bool true) ?_
    simp only [nf0, nf1, nf2, nf3, nf4]
    refine st_nob (j := 2) (t := 22) (c := true) rfl rfl rfl rfl rfl ?_
    simp only [nf0, nf1, nf2, nf3, nf4]
    refine st_nob (j := 2) (t := 22) (c := true) rfl rfl rfl rfl rfl ?_
    simp only [nf0, nf1, nf2, nf3, nf4]
    refine st_nob (j := 2) (t := 22) (c := true) rfl rfl rfl rfl rfl ?_
    simp only [nf0, nf1, nf2, nf3, nf4]
    refine st_mv (.bool true) ?_
    simp only [nf0, nf1, nf2, nf3, nf4]
    refine wpList_nil ?_
    show Code.wp _ _ _ _ _
    refine wp_cond_true rfl ?_
    refine wp_seq ?_
    refine wp_region_lit ?_
    refine st_value (v := (.agg #[.int .i64 0, .int .i64 0, .int .i64 0, .int .i64 0, .int .i64 0])) (by rfl) (run_buildV rfl (by kernel_rfl) w21) ?_
    simp only [nf0, nf1, nf2, nf3, nf4]
    refine st_row (by rfl) (run_storeW (.tmp 2) (.tmp 27) rfl (cs := #[.int .i64 0, .int .i64 0, .int .i64 0, .int .i64 0, .int .i64 0]) aggEvt rfl rfl B3 rfl (by simp [Value.oneCell'])) B3 ?_
    intro w25 B27 hg26
    simp only [nf0, nf1, nf2, nf3, nf4]
    replace O8 := O8.keptB hg26 n11
    replace bel := bl_kept0 bel hg26 lo5
    replace R18 := OwnR.rdE O8
    clear hg26
    clear B3
    refine st_mv (.bool false) ?_
    simp only [nf0, nf1, nf2, nf3, nf4]
    refine wpList_nil ?_
    show Code.wp _ _ _ _ _
    refine wp_ret ?_
    first | show bodyPost _ _ _ _ _ _ | (simp only [Exit.then, Exit.inBlock]; show bodyPost _ _ _ _ _ _)
    have hE : pE l = ((0, 0, 0, 0, 0), false) := pE_kind (by rw [hpc]; exact (by assumption : ¬ 0 < kidx (tx [a, b, c, d, g_] 0)))
    exact bodyPost_ret (results_agg1t rfl (cs := #[.int .i64 0, .int .i64 0, .int .i64 0, .int .i64 0, .int .i64 0]) aggEvt (by rfl) B27) rfl ⟨by rw [hE]; rfl, bel⟩
  have hp28 := of_decide_eq_true hg23
  refine wp_region_lit ?_
  refine st_mv (.bool true) ?_
  simp only [nf0, nf1, nf2, nf3, nf4]
  refine st_value (v := (.bool false)) (by rfl) (run_not (.tmp 20) rfl (b := true) rfl w21) ?_
  simp only [nf0, nf1, nf2, nf3, nf4]
  refine st_mv (.bool false) ?_
  simp only [nf0, nf1, nf2, nf3, nf4]
  refine st_mv (.slice (some ⟨b19, o20, none⟩) [a, b, c, d, g_].length c13) ?_
  simp only [nf0, nf1, nf2, nf3, nf4]
  refine st_value (v := (.int .i64 ([a, b, c, d, g_].length : Int))) (by rfl) (run_len (.tmp 23) rfl ⟨_, Tryd.underlying42⟩ rfl w21) ?_
  simp only [nf0, nf1, nf2, nf3, nf4]
  refine st_value (v := (.bool false)) (by rfl) ((run_neq_int (.tmp 24) (.const (.int .i64 5)) rfl rfl rfl w21).trans (by rw [decide_eq_true (by omega)]; rfl)) ?_
  simp only [nf0, nf1, nf2, nf3, nf4]
  refine st_mv (.bool false) ?_
  simp only [nf0, nf1, nf2, nf3, nf4]
  refine wpList_nil ?_
  show Code.wp _ _ _ _ _
  refine wp_cond_false rfl ?_
  refine wp_skip ?_
  show Code.wp _ _ _ _ _
  refine wp_seq ?_
  have hk0 : 0 < kidx (tx [a, b, c, d, g_] 0) := by assumption
  have hmx : max (kidx (tx [a, b, c, d, g_] 0)) 0 = kidx (tx [a, b, c, d, g_] 0) := by omega
  have hkn := (kidx_pos hk0).1
  rw [hmx]
  refine wp_region_lit ?_
  refine st_new (cs := #[.int .i64 0, .int .i64 0, .int .i64 0, .int .i64 0]) (t := 44) (by rfl) (run_allocV rfl e_zero_44 _) ?_
  intro g29 w30 B31 hb32 lo33
  simp only [nf0, nf1, nf2, nf3, nf4]
  have n34 := B3.ne lo33
  have n35 := O8.off lo33
  replace lo33 := low_le bel lo33
  replace B3 := B3.below hb32
  replace O8 := O8.same hb32
  replace R18 := R18.same hb32
  replace bel := bl_step bel hb32
  clear hb32
  refine wpList_nil ?_
  show Code.wp _ _ _ _ _
  refine wp_seq ?_
  refine wp_seq ?_
  refine wp_region_lit ?_
  refine st_mv (.slice (some ⟨b19, o20, none⟩) [a, b, c, d, g_].length c13) ?_
  simp only [nf0, nf1, nf2, nf3, nf4]
  have R36 := Reads.cutA (p := 1) R18 h15
  refine st_value (v := (.slice (cutA (some ⟨b19, o20, none⟩) c13 1) ([a, b, c, d, g_].drop 1).length (c13 - 1))) (by rfl) (run_cutlo (.tmp 28) (.const (.int .i64 1)) rfl Tryd.underlying42 slTx.sz rfl rfl (p := 1) (by omega) (by omega) h15 w30) ?_
  simp only [nf0, nf1, nf2, nf3, nf4]
  refine st_value (v := (.int .i64 (([a, b, c, d, g_].drop 1).length : Int))) (by rfl) (run_len (.tmp 29) rfl ⟨_, Tryd.underlying42⟩ rfl w30) ?_
  simp only [nf0, nf1, nf2, nf3, nf4]
  refine st_mv (.int .i64 0) ?_
  simp only [nf0, nf1, nf2, nf3, nf4]
  refine wpList_nil ?_
  show Code.wp _ _ _ _ _
  refine wp_block ?_
  refine wp_loop_rnds 4 ?_
  show Code.wp _ _ _ _ _
  refine wp_seq ?_
  rw [cutA_one (by have hx_ : [a, b, c, d, g_].length = 5 := rfl; omega)]
  have R37 := rd_cut O8
  refine wp_region_lit ?_
  refine st_value (v := (.bool true)) (by rfl) ((run_lss (.tmp 31) (.tmp 30) rfl rfl rfl w30).trans (by rw [decide_eq_true (by omega)])) ?_
  simp only [nf0, nf1, nf2, nf3, nf4]
  refine wpList_nil ?_
  show Code.wp _ _ _ _ _
  refine wp_seq ?_
  refine wp_cond_true rfl ?_
  refine wp_skip ?_
  show Code.wp _ _ _ _ _
  refine wp_seq ?_
  refine wp_block ?_
  refine wp_seq ?_
  refine wp_region_lit ?_
  refine st_mv (.int .i64 0) ?_
  simp only [nf0, nf1, nf2, nf3, nf4]
  refine st_value (v := (.pointer (some ⟨b19, (o20 + 1) + 0 * 1, none⟩))) (by rfl) (run_indexAddrN (.tmp 29) (.tmp 31) rfl Tryd.underlying42 slTx.sz (i := 0) rfl (by exact (congrArg (Value.int .i64) (show 0 = ((0 : Nat) : Int) by omega))) (by omega) w30) ?_
  simp only [nf0, nf1, nf2, nf3, nf4]
  refine st_value (v := (.string (str (tx ([a, b, c, d, g_].drop 1) 0)))) (by rfl) (run_load1 (.tmp 34) rfl Tryd.underlying9 rfl slTx.sz rfl (Reads.txAt R37 0 (by omega))) ?_
  simp only [nf0, nf1, nf2, nf3, nf4]
  refine st_mv (.int .i64 0) ?_
  simp only [nf0, nf1, nf2, nf3, nf4]
  refine st_mv (.string (str (tx ([a, b, c, d, g_].drop 1) 0))) ?_
  simp only [nf0, nf1, nf2, nf3, nf4]
  refine wpList_nil ?_
  show Code.wp _ _ _ _ _
  refine wp_region_lit ?_
  refine st_mv (.int .i64 0) ?_
  simp only [nf0, nf1, nf2, nf3, nf4]
  refine st_mv (.string (str (tx ([a, b, c, d, g_].drop 1) 0))) ?_
  simp only [nf0, nf1, nf2, nf3, nf4]
  refine st_call1 (v := (.int .i64 (numV (tx ([a, b, c, d, g_].drop 1) 0)))) (by rfl) (e_run_call_23_1 (.tmp 37) rfl rfl _) (number_calls (tx ([a, b, c, d, g_].drop 1) 0) (Nat.le_trans (hnl (tx ([a, b, c, d, g_].drop 1) 0) (by simp [tx])) (by omega)) w30) ?_
  intro w38 hb39
  simp only [nf0, nf1, nf2, nf3, nf4]
  replace B3 := B3.below hb39
  replace O8 := O8.same hb39
  replace R18 := R18.same hb39
  replace B31 := B31.below hb39
  replace R37 := R37.same hb39
  replace bel := bl_step bel hb39
  clear hb39
  refine st_value (v := (.pointer (some ⟨g29, 0, none⟩))) (by rfl) (run_indexArr (.tmp 7) (.tmp 36) rfl Tryd.underlying44 (sz := 1) (by kernel_rfl) (i := 0) (k' := 0) rfl rfl rfl (by rfl) (by omega) w38) ?_
  simp only [nf0, nf1, nf2, nf3, nf4]
  refine st_cell (v := (.int .i64 (numV (tx ([a, b, c, d, g_].drop 1) 0)))) (by rfl) (run_storeB (.tmp 39) (.tmp 38) rfl e_one_3 B31 (show 0 < 4 by decide) rfl rfl rfl rfl) B31 ?_
  intro w40 B42 hg41
  simp only [nf0, nf1, nf2, nf3, nf4]
  replace B3 := B3.kept hg41 n34
  replace O8 := O8.keptB hg41 n35
  replace bel := bl_kept0 bel hg41 lo33
  replace R18 := OwnR.rdE O8
  replace R37 := rd_cut O8
  clear hg41
  clear B31
  replace B42 : Blk w40 g29 #[.int .i64 (numV (tx ([a, b, c, d, g_].drop 1) 0)), .int .i64 0, .int .i64 0, .int .i64 0] 44 := B42
  refine wpList_nil ?_
  show Code.wp _ _ _ _ _
  refine wp_region_lit ?_
  refine st_value (v := (.int .i64 1)) (by rfl) (run_add_in (m := 0) (n := 1) (.tmp 31) (.const (.int .i64 1)) rfl rfl rfl (by omega) w40) ?_
  simp only [nf0, nf1, nf2, nf3, nf4]
  refine st_mv (.int .i64 1) ?_
  simp only [nf0, nf1, nf2, nf3, nf4]
  refine wpList_nil ?_
  show Code.wp _ _ _ _ _
  refine wp_seq ?_
  refine wp_region_lit ?_
  refine st_value (v := (.bool true)) (by rfl) ((run_lss (.tmp 31) (.tmp 30) rfl rfl rfl w40).trans (by rw [decide_eq_true (by omega)])) ?_
  simp only [nf0, nf1, nf2, nf3, nf4]
  refine wpList_nil ?_
  show Code.wp _ _ _ _ _
  refine wp_seq ?_
  refine wp_cond_true rfl ?_
  refine wp_skip ?_
  show Code.wp _ _ _ _ _
  refine wp_seq ?_
  refine wp_block ?_
  refine wp_seq ?_
  refine wp_region_lit ?_
  refine st_mv (.int .i64 1) ?_
  simp only [nf0, nf1, nf2, nf3, nf4]
  refine st_value (v := (.pointer (some ⟨b19, (o20 + 1) + 1 * 1, none⟩))) (by rfl) (run_indexAddrN (.tmp 29) (.tmp 31) rfl Tryd.underlying42 slTx.sz (i := 1) rfl (by exact (congrArg (Value.int .i64) (show 1 = ((1 : Nat) : Int) by omega))) (by omega) w40) ?_
  simp only [nf0, nf1, nf2, nf3, nf4]
  refine st_value (v := (.string (str (tx ([a, b, c, d, g_].drop 1) 1)))) (by rfl) (run_load1 (.tmp 34) rfl Tryd.underlying9 rfl slTx.sz rfl (Reads.txAt R37 1 (by omega))) ?_
  simp only [nf0, nf1, nf2, nf3, nf4]
  refine st_mv (.int .i64 1) ?_
  simp only [nf0, nf1, nf2, nf3, nf4]
  refine st_mv (.string (str (tx ([a, b, c, d, g_].drop 1) 1))) ?_
  simp only [nf0, nf1, nf2, nf3, nf4]
  refine wpList_nil ?_
  show Code.wp _ _ _ _ _
  refine wp_region_lit ?_
  refine st_mv (.int .i64 1) ?_
  simp only [nf0, nf1, nf2, nf3, nf4]
  refine st_mv (.string (str (tx ([a, b, c, d, g_].drop 1) 1))) ?_
  simp only [nf0, nf1, nf2, nf3, nf4]
  refine st_call1 (v := (.int .i64 (numV (tx ([a, b, c, d, g_].drop 1) 1)))) (by rfl) (e_run_call_23_1 (.tmp 37) rfl rfl _) (number_calls (tx ([a, b, c, d, g_].drop 1) 1) (Nat.le_trans (hnl (tx ([a, b, c, d, g_].drop 1) 1) (by simp [tx])) (by omega)) w40) ?_
  intro w43 hb44
  simp only [nf0, nf1, nf2, nf3, nf4]
  replace B3 := B3.below hb44
  replace O8 := O8.same hb44
  replace R18 := R18.same hb44
  replace B42 := B42.below hb44
  replace R37 := R37.same hb44
  replace bel := bl_step bel hb44
  clear hb44
  refine st_value (v := (.pointer (some ⟨g29, 1, none⟩))) (by rfl) (run_indexArr (.tmp 7) (.tmp 36) rfl Tryd.underlying44 (sz := 1) (by kernel_rfl) (i := 1) (k' := 1) rfl rfl rfl (by rfl) (by omega) w43) ?_
  simp only [nf0, nf1, nf2, nf3, nf4]
  refine st_cell (v := (.int .i64 (numV (tx ([a, b, c, d, g_].drop 1) 1)))) (by rfl) (run_storeB (.tmp 39) (.tmp 38) rfl e_one_3 B42 (show 1 < 4 by decide) rfl rfl rfl rfl) B42 ?_
  intro w45 B47 hg46
  simp only [nf0, nf1, nf2, nf3, nf4]
  replace B3 := B3.kept hg46 n34
  replace O8 := O8.keptB hg46 n35
  replace bel := bl_kept0 bel hg46 lo33
  replace R18 := OwnR.rdE O8
  replace R37 := rd_cut O8
  clear hg46
  clear B42
  replace B47 : Blk w45 g29 #[.int .i64 (numV (tx ([a, b, c, d, g_].drop 1) 0)), .int .i64 (numV (tx ([a, b, c, d, g_].drop 1) 1)), .int .i64 0, .int .i64 0] 44 := B47
  refine wpList_nil ?_
  show Code.wp _ _ _ _ _
  refine wp_region_lit ?_
  refine st_value (v := (.int .i64 2)) (by rfl) (run_add_in (m := 1) (n := 1) (.tmp 31) (.const (.int .i64 1)) rfl rfl rfl (by omega) w45) ?_
  simp only [nf0, nf1, nf2, nf3, nf4]
  refine st_mv (.int .i64 2) ?_
  simp only [nf0, nf1, nf2, nf3, nf4]
  refine wpList_nil ?_
  show Code.wp _ _ _ _ _
  refine wp_seq ?_
  refine wp_region_lit ?_
  refine st_value (v := (.bool true)) (by rfl) ((run_lss (.tmp 31) (.tmp 30) rfl rfl rfl w45).trans (by rw [decide_eq_true (by omega)])) ?_
  simp only [nf0, nf1, nf2, nf3, nf4]
  refine wpList_nil ?_
  show Code.wp _ _ _ _ _
  refine wp_seq ?_
  refine wp_cond_true rfl ?_
  refine wp_skip ?_
  show Code.wp _ _ _ _ _
  refine wp_seq ?_
  refine wp_block ?_
  refine wp_seq ?_
  refine wp_region_lit ?_
  refine st_mv (.int .i64 2) ?_
  simp only [nf0, nf1, nf2, nf3, nf4]
  refine st_value (v := (.pointer (some ⟨b19, (o20 + 1) + 2 * 1, none⟩))) (by rfl) (run_indexAddrN (.tmp 29) (.tmp 31) rfl Tryd.underlying42 slTx.sz (i := 2) rfl (by exact (congrArg (Value.int .i64) (show 2 = ((2 : Nat) : Int) by omega))) (by omega) w45) ?_
  simp only [nf0, nf1, nf2, nf3, nf4]
  refine st_value (v := (.string (str (tx ([a, b, c, d, g_].drop 1) 2)))) (by rfl) (run_load1 (.tmp 34) rfl Tryd.underlying9 rfl slTx.sz rfl (Reads.txAt R37 2 (by omega))) ?_
  simp only [nf0, nf1, nf2, nf3, nf4]
  refine st_mv (.int .i64 2) ?_
  simp only [nf0, nf1, nf2, nf3, nf4]
  refine st_mv (.string (str (tx ([a, b, c, d, g_].drop 1) 2))) ?_
  simp only [nf0, nf1, nf2, nf3, nf4]
  refine wpList_nil ?_
  show Code.wp _ _ _ _ _
  refine wp_region_lit ?_
  refine st_mv (.int .i64 2) ?_
  simp only [nf0, nf1, nf2, nf3, nf4]
  refine st_mv (.string (str (tx ([a, b, c, d, g_].drop 1) 2))) ?_
  simp only [nf0, nf1, nf2, nf3, nf4]
  refine st_call1 (v := (.int .i64 (numV (tx ([a, b, c, d, g_].drop 1) 2)))) (by rfl) (e_run_call_23_1 (.tmp 37) rfl rfl _) (number_calls (tx ([a, b, c, d, g_].drop 1) 2) (Nat.le_trans (hnl (tx ([a, b, c, d, g_].drop 1) 2) (by simp [tx])) (by omega)) w45) ?_
  intro w48 hb49
  simp only [nf0, nf1, nf2, nf3, nf4]
  replace B3 := B3.below hb49
  replace O8 := O8.same hb49
  replace R18 := R18.same hb49
  replace B47 := B47.below hb49
  replace R37 := R37.same hb49
  replace bel := bl_step bel hb49
  clear hb49
  refine st_value (v := (.pointer (some ⟨g29, 2, none⟩))) (by rfl) (run_indexArr (.tmp 7) (.tmp 36) rfl Tryd.underlying44 (sz := 1) (by kernel_rfl) (i := 2) (k' := 2) rfl rfl rfl (by rfl) (by omega) w48) ?_
  simp only [nf0, nf1, nf2, nf3, nf4]
  refine st_cell (v := (.int .i64 (numV (tx ([a, b, c, d, g_].drop 1) 2)))) (by rfl) (run_storeB (.tmp 39) (.tmp 38) rfl e_one_3 B47 (show 2 < 4 by decide) rfl rfl rfl rfl) B47 ?_
  intro w50 B52 hg51
  simp only [nf0, nf1, nf2, nf3, nf4]
  replace B3 := B3.kept hg51 n34
  replace O8 := O8.keptB hg51 n35
  replace bel := bl_kept0 bel hg51 lo33
  replace R18 := OwnR.rdE O8
  replace R37 := rd_cut O8
  clear hg51
  clear B47
  replace B52 : Blk w50 g29 #[.int .i64 (numV (tx ([a, b, c, d, g_].drop 1) 0)), .int .i64 (numV (tx ([a, b, c, d, g_].drop 1) 1)), .int .i64 (numV (tx ([a, b, c, d, g_].drop 1) 2)), .int .i64 0] 44 := B52
  refine wpList_nil ?_
  show Code.wp _ _ _ _ _
  refine wp_region_lit ?_
  refine st_value (v := (.int .i64 3)) (by rfl) (run_add_in (m := 2) (n := 1) (.tmp 31) (.const (.int .i64 1)) rfl rfl rfl (by omega) w50) ?_
  simp only [nf0, nf1, nf2, nf3, nf4]
  refine st_mv (.int .i64 3) ?_
  simp only [nf0, nf1, nf2, nf3, nf4]
  refine wpList_nil ?_
  show Code.wp _ _ _ _ _
  refine wp_seq ?_
  refine wp_region_lit ?_
  refine st_value (v := (.bool true)) (by rfl) ((run_lss (.tmp 31) (.tmp 30) rfl rfl rfl w50).trans (by rw [decide_eq_true (by omega)])) ?_
  simp only [nf0, nf1, nf2, nf3, nf4]
  refine wpList_nil ?_
  show Code.wp _ _ _ _ _
  refine wp_seq ?_
  refine wp_cond_true rfl ?_
  refine wp_skip ?_
  show Code.wp _ _ _ _ _
  refine wp_seq ?_
  refine wp_block ?_
  refine wp_seq ?_
  refine wp_region_lit ?_
  refine st_mv (.int .i64 3) ?_
  simp only [nf0, nf1, nf2, nf3, nf4]
  refine st_value (v := (.pointer (some ⟨b19, (o20 + 1) + 3 * 1, none⟩))) (by rfl) (run_indexAddrN (.tmp 29) (.tmp 31) rfl Tryd.underlying42 slTx.sz (i := 3) rfl (by exact (congrArg (Value.int .i64) (show 3 = ((3 : Nat) : Int) by omega))) (by omega) w50) ?_
  simp only [nf0, nf1, nf2, nf3, nf4]
  refine st_value (v := (.string (str (tx ([a, b, c, d, g_].drop 1) 3)))) (by rfl) (run_load1 (.tmp 34) rfl Tryd.underlying9 rfl slTx.sz rfl (Reads.txAt R37 3 (by omega))) ?_
  simp only [nf0, nf1, nf2, nf3, nf4]
  refine st_mv (.int .i64 3) ?_
  simp only [nf0, nf1, nf2, nf3, nf4]
  refine st_mv (.string (str (tx ([a, b, c, d, g_].drop 1) 3))) ?_
  simp only [nf0, nf1, nf2, nf3, nf4]
  refine wpList_nil ?_
  show Code.wp _ _ _ _ _
  refine wp_region_lit ?_
  refine st_mv (.int .i64 3) ?_
  simp only [nf0, nf1, nf2, nf3, nf4]
  refine st_mv (.string (str (tx ([a, b, c, d, g_].drop 1) 3))) ?_
  simp only [nf0, nf1, nf2, nf3, nf4]
  refine st_call1 (v := (.int .i64 (numV (tx ([a, b, c, d, g_].drop 1) 3)))) (by rfl) (e_run_call_23_1 (.tmp 37) rfl rfl _) (number_calls (tx ([a, b, c, d, g_].drop 1) 3) (Nat.le_trans (hnl (tx ([a, b, c, d, g_].drop 1) 3) (by simp [tx])) (by omega)) w50) ?_
  intro w53 hb54
  simp only [nf0, nf1, nf2, nf3, nf4]
  replace B3 := B3.below hb54
  replace O8 := O8.same hb54
  replace R18 := R18.same hb54
  replace B52 := B52.below hb54
  replace R37 := R37.same hb54
  replace bel := bl_step bel hb54
  clear hb54
  refine st_value (v := (.pointer (some ⟨g29, 3, none⟩))) (by rfl) (run_indexArr (.tmp 7) (.tmp 36) rfl Tryd.underlying44 (sz := 1) (by kernel_rfl) (i := 3) (k' := 3) rfl rfl rfl (by rfl) (by omega) w53) ?_
  simp only [nf0, nf1, nf2, nf3, nf4]
  refine st_cell (v := (.int .i64 (numV (tx ([a, b, c, d, g_].drop 1) 3)))) (by rfl) (run_storeB (.tmp 39) (.tmp 38) rfl e_one_3 B52 (show 3 < 4 by decide) rfl rfl rfl rfl) B52 ?_
  intro w55 B57 hg56
  simp only [nf0, nf1, nf2, nf3, nf4]
  replace B3 := B3.kept hg56 n34
  replace O8 := O8.keptB hg56 n35
  replace bel := bl_kept0 bel hg56 lo33
  replace R18 := OwnR.rdE O8
  replace R37 := rd_cut O8
  clear hg56
  clear B52
  replace B57 : Blk w55 g29 #[.int .i64 (numV (tx ([a, b, c, d, g_].drop 1) 0)), .int .i64 (numV (tx ([a, b, c, d, g_].drop 1) 1)), .int .i64 (numV (tx ([a, b, c, d, g_].drop 1) 2)), .int .i64 (numV (tx ([a, b, c, d, g_].drop 1) 3))] 44 := B57
  refine wpList_nil ?_
  show Code.wp _ _ _ _ _
  refine wp_region_lit ?_
  refine st_value (v := (.int .i64 4)) (by rfl) (run_add_in (m := 3) (n := 1) (.tmp 31) (.const (.int .i64 1)) rfl rfl rfl (by omega) w55) ?_
  simp only [nf0, nf1, nf2, nf3, nf4]
  refine st_mv (.int .i64 4) ?_
  simp only [nf0, nf1, nf2, nf3, nf4]
  refine wpList_nil ?_
  show Code.wp _ _ _ _ _
  refine wp_seq ?_
  refine wp_region_lit ?_
  refine st_value (v := (.bool false)) (by rfl) ((run_lss (.tmp 31) (.tmp 30) rfl rfl rfl w55).trans (by rw [decide_eq_false (by omega)])) ?_
  simp only [nf0, nf1, nf2, nf3, nf4]
  refine wpList_nil ?_
  show Code.wp _ _ _ _ _
  refine wp_seq ?_
  refine wp_cond_false rfl ?_
  refine wp_exit ?_
  show Code.wp _ _ _ _ _
  refine wp_seq ?_
  refine wp_region_lit ?_
  refine st_mv (.int .i64 (kidx (tx [a, b, c, d, g_] 0))) ?_
  simp only [nf0, nf1, nf2, nf3, nf4]
  refine st_value (v := (.pointer (some ⟨g29, 0, none⟩))) (by rfl) (run_indexArr (.tmp 7) (.const (.int .i64 0)) rfl Tryd.underlying44 (sz := 1) (by kernel_rfl) (i := 0) (k' := 0) rfl rfl rfl (by rfl) (by omega) w55) ?_
  simp only [nf0, nf1, nf2, nf3, nf4]
  refine st_value (v := (.int .i64 (numV (tx ([a, b, c, d, g_].drop 1) 0)))) (by rfl) (run_loadB (.tmp 42) rfl e_one_3 rfl B57 rfl) ?_
  simp only [nf0, nf1, nf2, nf3, nf4]
  refine st_value (v := (.pointer (some ⟨g29, 1, none⟩))) (by rfl) (run_indexArr (.tmp 7) (.const (.int .i64 1)) rfl Tryd.underlying44 (sz := 1) (by kernel_rfl) (i := 1) (k' := 1) rfl rfl rfl (by rfl) (by omega) w55) ?_
  simp only [nf0, nf1, nf2, nf3, nf4]
  refine st_value (v := (.int .i64 (numV (tx ([a, b, c, d, g_].drop 1) 1)))) (by rfl) (run_loadB (.tmp 44) rfl e_one_3 rfl B57 rfl) ?_
  simp only [nf0, nf1, nf2, nf3, nf4]
  refine st_value (v := (.pointer (some ⟨g29, 2, none⟩))) (by rfl) (run_indexArr (.tmp 7) (.const (.int .i64 2)) rfl Tryd.underlying44 (sz := 1) (by kernel_rfl) (i := 2) (k' := 2) rfl rfl rfl (by rfl) (by omega) w55) ?_
  simp only [nf0, nf1, nf2, nf3, nf4]
  refine st_value (v := (.int .i64 (numV (tx ([a, b, c, d, g_].drop 1) 2)))) (by rfl) (run_loadB (.tmp 46) rfl e_one_3 rfl B57 rfl) ?_
  simp only [nf0, nf1, nf2, nf3, nf4]
  refine st_value (v := (.pointer (some ⟨g29, 3, none⟩))) (by rfl) (run_indexArr (.tmp 7) (.const (.int .i64 3)) rfl Tryd.underlying44 (sz := 1) (by kernel_rfl) (i := 3) (k' := 3) rfl rfl rfl (by rfl) (by omega) w55) ?_
  simp only [nf0, nf1, nf2, nf3, nf4]
  refine st_value (v := (.int .i64 (numV (tx ([a, b, c, d, g_].drop 1) 3)))) (by rfl) (run_loadB (.tmp 48) rfl e_one_3 rfl B57 rfl) ?_
  simp only [nf0, nf1, nf2, nf3, nf4]
  refine st_value (v := (.agg #[.int .i64 (kidx (tx [a, b, c, d, g_] 0)), .int .i64 (numV (tx ([a, b, c, d, g_].drop 1) 0)), .int .i64 (numV (tx ([a, b, c, d, g_].drop 1) 1)), .int .i64 (numV (tx ([a, b, c, d, g_].drop 1) 2)), .int .i64 (numV (tx ([a, b, c, d, g_].drop 1) 3))])) (by rfl) (run_buildV rfl (by kernel_rfl) w55) ?_
  simp only [nf0, nf1, nf2, nf3, nf4]
  refine st_new (cs := #[.int .i64 0, .int .i64 0, .int .i64 0, .int .i64 0, .int .i64 0]) (t := 23) (by rfl) (run_allocV rfl e_zero_23 _) ?_
  intro g58 w59 B60 hb61 lo62
  simp only [nf0, nf1, nf2, nf3, nf4]
  have n63 := B3.ne lo62
  have n64 := O8.off lo62
  have n65 := B57.ne lo62
  replace lo62 := low_le bel lo62
  replace B3 := B3.below hb61
  replace O8 := O8.same hb61
  replace R18 := R18.same hb61
  replace B57 := B57.below hb61
  replace R37 := R37.same hb61
  replace bel := bl_step bel hb61
  clear hb61
  refine st_row (by rfl) (run_storeW (.tmp 10) (.tmp 50) rfl (cs := #[.int .i64 (kidx (tx [a, b, c, d, g_] 0)), .int .i64 (numV (tx ([a, b, c, d, g_].drop 1) 0)), .int .i64 (numV (tx ([a, b, c, d, g_].drop 1) 1)), .int .i64 (numV (tx ([a, b, c, d, g_].drop 1) 2)), .int .i64 (numV (tx ([a, b, c, d, g_].drop 1) 3))]) aggEvt rfl rfl B60 rfl (by simp [Value.oneCell'])) B60 ?_
  intro w66 B68 hg67
  simp only [nf0, nf1, nf2, nf3, nf4]
  replace B3 := B3.kept hg67 n63
  replace O8 := O8.keptB hg67 n64
  replace B57 := B57.kept hg67 n65
  replace bel := bl_kept0 bel hg67 lo62
  replace R18 := OwnR.rdE O8
  replace R37 := rd_cut O8
  clear hg67
  clear B60
  refine wpList_nil ?_
  show Code.wp _ _ _ _ _
  refine wp_seq ?_
  refine wp_seq ?_
  have hpr := pE_read hpc hk0
  refine wp_region_lit ?_
  refine st_value (v := (.agg #[.int .i64 (kidx (tx [a, b, c, d, g_] 0)), .int .i64 (numV (tx ([a, b, c, d, g_].drop 1) 0)), .int .i64 (numV (tx ([a, b, c, d, g_].drop 1) 1)), .int .i64 (numV (tx ([a, b, c, d, g_].drop 1) 2)), .int .i64 (numV (tx ([a, b, c, d, g_].drop 1) 3))])) (by rfl) (run_loadW (.tmp 10) rfl (cs := #[.int .i64 (kidx (tx [a, b, c, d, g_] 0)), .int .i64 (numV (tx ([a, b, c, d, g_].drop 1) 0)), .int .i64 (numV (tx ([a, b, c, d, g_].drop 1) 1)), .int .i64 (numV (tx ([a, b, c, d, g_].drop 1) 2)), .int .i64 (numV (tx ([a, b, c, d, g_].drop 1) 3))]) aggEvt rfl B68) ?_
  simp only [nf0, nf1, nf2, nf3, nf4]
  refine st_call1 (v := (.string (str (prE ((kidx (tx [a, b, c, d, g_] 0), numV (tx ([a, b, c, d, g_].drop 1) 0), numV (tx ([a, b, c, d, g_].drop 1) 1), numV (tx ([a, b, c, d, g_].drop 1) 2), numV (tx ([a, b, c, d, g_].drop 1) 3)) : TEvt))))) (by rfl) (e_run_call_12_1 (.tmp 51) rfl rfl _) (print_calls ((kidx (tx [a, b, c, d, g_] 0), numV (tx ([a, b, c, d, g_].drop 1) 0), numV (tx ([a, b, c, d, g_].drop 1) 1), numV (tx ([a, b, c, d, g_].drop 1) 2), numV (tx ([a, b, c, d, g_].drop 1) 3)) : TEvt) (by unfold known at hkn; exact ⟨⟨by show _ ≤ kidx (tx [a, b, c, d, g_] 0); omega, by show kidx (tx [a, b, c, d, g_] 0) ≤ _; omega⟩, numV_I64 _, numV_I64 _, numV_I64 _, numV_I64 _⟩) w66) ?_
  intro w69 hb70
  simp only [nf0, nf1, nf2, nf3, nf4]
  replace B3 := B3.below hb70
  replace O8 := O8.same hb70
  replace R18 := R18.same hb70
  replace B57 := B57.below hb70
  replace R37 := R37.same hb70
  replace B68 := B68.below hb70
  replace bel := bl_step bel hb70
  clear hb70
  refine st_mv (.string (str l)) ?_
  simp only [nf0, nf1, nf2, nf3, nf4]
  refine st_value (v := (.bool (!decide ((prE ((kidx (tx [a, b, c, d, g_] 0), numV (tx ([a, b, c, d, g_].drop 1) 0), numV (tx ([a, b, c, d, g_].drop 1) 1), numV (tx ([a, b, c, d, g_].drop 1) 2), numV (tx ([a, b, c, d, g_].drop 1) 3)) : TEvt)) = l)))) (by rfl) (run_neq_text (.tmp 52) (.tmp 53) (l := (prE ((kidx (tx [a, b, c, d, g_] 0), numV (tx ([a, b, c, d, g_].drop 1) 0), numV (tx ([a, b, c, d, g_].drop 1) 1), numV (tx ([a, b, c, d, g_].drop 1) 2), numV (tx ([a, b, c, d, g_].drop 1) 3)) : TEvt))) (m := l) rfl rfl rfl w69) ?_
  simp only [nf0, nf1, nf2, nf3, nf4]
  refine wpList_nil ?_
  show Code.wp _ _ _ _ _
  cases hg71 : decide ((prE ((kidx (tx [a, b, c, d, g_] 0), numV (tx ([a, b, c, d, g_].drop 1) 0), numV (tx ([a, b, c, d, g_].drop 1) 1), numV (tx ([a, b, c, d, g_].drop 1) 2), numV (tx ([a, b, c, d, g_].drop 1) 3)) : TEvt)) = l)
  · have hp72 := of_decide_eq_false hg71
    refine wp_cond_true rfl ?_
    refine wp_seq ?_
    refine wp_region_lit ?_
    refine st_value (v := (.agg #[.int .i64 0, .int .i64 0, .int .i64 0, .int .i64 0, .int .i64 0])) (by rfl) (run_buildV rfl (by kernel_rfl) w69) ?_
    simp only [nf0, nf1, nf2, nf3, nf4]
    refine st_row (by rfl) (run_storeW (.tmp 2) (.tmp 55) rfl (cs := #[.int .i64 0, .int .i64 0, .int .i64 0, .int .i64 0, .int .i64 0]) aggEvt rfl rfl B3 rfl (by simp [Value.oneCell'])) B3 ?_
    intro w73 B75 hg74
    simp only [nf0, nf1, nf2, nf3, nf4]
    replace O8 := O8.keptB hg74 n11
    replace B57 := B57.kept hg74 n34.symm
    replace B68 := B68.kept hg74 n63.symm
    replace bel := bl_kept0 bel hg74 lo5
    replace R18 := OwnR.rdE O8
    replace R37 := rd_cut O8
    clear hg74
    clear B3
    refine st_mv (.bool false) ?_
    simp only [nf0, nf1, nf2, nf3, nf4]
    refine wpList_nil ?_
    show Code.wp _ _ _ _ _
    refine wp_ret ?_
    first | show bodyPost _ _ _ _ _ _ | (simp only [Exit.then, Exit.inBlock]; show bodyPost _ _ _ _ _ _)
    have hE : pE l = ((0, 0, 0, 0, 0), false) := by rw [hpr]; exact if_neg (by assumption)
    exact bodyPost_ret (results_agg1t rfl (cs := #[.int .i64 0, .int .i64 0, .int .i64 0, .int .i64 0, .int .i64 0]) aggEvt (by rfl) B75) rfl ⟨by rw [hE]; rfl, bel⟩
  have hp76 := of_decide_eq_true hg71
  refine wp_cond_false rfl ?_
  refine wp_skip ?_
  show Code.wp _ _ _ _ _
  refine wp_seq ?_
  refine wp_region_lit ?_
  refine st_value (v := (.agg #[.int .i64 (kidx (tx [a, b, c, d, g_] 0)), .int .i64 (numV (tx ([a, b, c, d, g_].drop 1) 0)), .int .i64 (numV (tx ([a, b, c, d, g_].drop 1) 1)), .int .i64 (numV (tx ([a, b, c, d, g_].drop 1) 2)), .int .i64 (numV (tx ([a, b, c, d, g_].drop 1) 3))])) (by rfl) (run_loadW (.tmp 10) rfl (cs := #[.int .i64 (kidx (tx [a, b, c, d, g_] 0)), .int .i64 (numV (tx ([a, b, c, d, g_].drop 1) 0)), .int .i64 (numV (tx ([a, b, c, d, g_].drop 1) 1)), .int .i64 (numV (tx ([a, b, c, d, g_].drop 1) 2)), .int .i64 (numV (tx ([a, b, c, d, g_].drop 1) 3))]) aggEvt rfl B68) ?_
  simp only [nf0, nf1, nf2, nf3, nf4]
  refine st_row (by rfl) (run_storeW (.tmp 2) (.tmp 56) rfl (cs := #[.int .i64 (kidx (tx [a, b, c, d, g_] 0)), .int .i64 (numV (tx ([a, b, c, d, g_].drop 1) 0)), .int .i64 (numV (tx ([a, b, c, d, g_].drop 1) 1)), .int .i64 (numV (tx ([a, b, c, d, g_].drop 1) 2)), .int .i64 (numV (tx ([a, b, c, d, g_].drop 1) 3))]) aggEvt rfl rfl B3 rfl (by simp [Value.oneCell'])) B3 ?_
  intro w77 B79 hg78
  simp only [nf0, nf1, nf2, nf3, nf4]
  replace O8 := O8.keptB hg78 n11
  replace B57 := B57.kept hg78 n34.symm
  replace B68 := B68.kept hg78 n63.symm
  replace bel := bl_kept0 bel hg78 lo5
  replace R18 := OwnR.rdE O8
  replace R37 := rd_cut O8
  clear hg78
  clear B3
  refine st_mv (.bool true) ?_
  simp only [nf0, nf1, nf2, nf3, nf4]
  refine wpList_nil ?_
  show Code.wp _ _ _ _ _
  refine wp_ret ?_
  first | show bodyPost _ _ _ _ _ _ | (simp only [Exit.then, Exit.inBlock]; show bodyPost _ _ _ _ _ _)
  have hE : pE l = (((kidx (tx [a, b, c, d, g_] 0), numV (tx ([a, b, c, d, g_].drop 1) 0), numV (tx ([a, b, c, d, g_].drop 1) 1), numV (tx ([a, b, c, d, g_].drop 1) 2), numV (tx ([a, b, c, d, g_].drop 1) 3)) : TEvt), true) := by rw [hpr]; exact if_pos (by assumption)
  exact bodyPost_ret (results_agg1t rfl (cs := #[.int .i64 (kidx (tx [a, b, c, d, g_] 0)), .int .i64 (numV (tx ([a, b, c, d, g_].drop 1) 0)), .int .i64 (numV (tx ([a, b, c, d, g_].drop 1) 1)), .int .i64 (numV (tx ([a, b, c, d, g_].drop 1) 2)), .int .i64 (numV (tx ([a, b, c, d, g_].drop 1) 3))]) aggEvt (by rfl) B79) rfl ⟨by rw [hE]; rfl, bel⟩
set_option maxRecDepth 100000 in
set_option maxHeartbeats 4000000 in
theorem parse_other {l : List UInt8} (h5 : (pieces 32 l).length ≠ 5) (hl : l.length ≤ 100000) (w : World) : Calls Tryd.prog 8 #[.string (str l)] w fun e w' => e = .returned (.tuple #[.agg (eEvt.enc (pE l).1).toArray, .bool (pE l).2]) ∧ Below w.heap.size w w' := by
  have bel : Below w.heap.size w w := Below.refl _ _
  have hpl := pieces_len 32 l
  go_enter Tryd.func8, Tryd.ntmps8
  refine wp_seq ?_
  refine wp_region_lit ?_
  refine st_new (cs := #[.int .i64 0, .int .i64 0, .int .i64 0, .int .i64 0, .int .i64 0]) (t := 23) (by rfl) (run_allocV rfl e_zero_23 _) ?_
  intro g1 w2 B3 hb4 lo5
  simp only [nf0, nf1, nf2, nf3, nf4]
  replace lo5 := low_le bel lo5
  replace bel := bl_step bel hb4
  clear hb4
  refine st_mv (.bool false) ?_
  simp only [nf0, nf1, nf2, nf3, nf4]
  refine wpList_nil ?_
  show Code.wp _ _ _ _ _
  refine wp_seq ?_
  refine wp_region_lit ?_
  refine st_mv (.string (str l)) ?_
  simp only [nf0, nf1, nf2, nf3, nf4]
  refine st_call (by rfl) (e_run_call_22_2 (.tmp 11) (.const (.string ⟨#[32]⟩)) rfl rfl rfl _) (splits_calls l 32 (by omega) w2) ?_
  rintro v6 w8 ⟨O7, hf9⟩
  simp only [nf0, nf1, nf2, nf3, nf4]
  have n10 := O7.offLow B3
  have O7_ := fun k hk => (O7.lt k hk).1
  replace O7 := O7.lower bel.size
  replace B3 := B3.below hf9
  replace bel := bl_step bel hf9
  clear hf9
  refine st_mv v6 ?_
  simp only [nf0, nf1, nf2, nf3, nf4]
  refine wpList_nil ?_
  show Code.wp _ _ _ _ _
  refine wp_seq ?_
  obtain ⟨A11, c12, hv13, h14, h15, h16, R17⟩ := O7.reads
  subst hv13
  obtain ⟨b18, o19, rfl, _⟩ := R17.at_ (by rw [Enc.all_length]; exact Nat.mul_pos (by omega) (by decide))
  refine wp_region_lit ?_
  refine st_mv (.slice (some ⟨b18, o19, none⟩) (pieces 32 l).length c12) ?_
  simp only [nf0, nf1, nf2, nf3, nf4]
  refine st_value (v := (.pointer (some ⟨b18, o19 + 0 * 1, none⟩))) (by rfl) (run_indexAddrN (.tmp 14) (.const (.int .i64 0)) rfl Tryd.underlying42 slTx.sz (i := 0) rfl (by exact (congrArg (Value.int .i64) (show 0 = ((0 : Nat) : Int) by omega))) (by omega) w8) ?_
  simp only [nf0, nf1, nf2, nf3, nf4]
  refine st_value (v := (.string (str (tx (pieces 32 l) 0)))) (by rfl) (run_load1 (.tmp 15) rfl Tryd.underlying9 rfl slTx.sz rfl (Reads.txAt R17 0 (by omega))) ?_
  simp only [nf0, nf1, nf2, nf3, nf4]
  refine st_call1 (v := (.tuple #[.int .i64 (max (kidx (tx (pieces 32 l) 0)) 0), .bool (decide (0 < kidx (tx (pieces 32 l) 0)))])) (by rfl) (e_run_call_10_1 (.tmp 16) rfl rfl _) (kind_calls (tx (pieces 32 l) 0) w8) ?_
  intro w20 hb21
  simp only [nf0, nf1, nf2, nf3, nf4]
  replace B3 := B3.below hb21
  replace O7 := O7.same hb21
  replace R17 := R17.same hb21
  replace bel := bl_step bel hb21
  clear hb21
  refine st_mv (.tuple #[.int .i64 (max (kidx (tx (pieces 32 l) 0)) 0), .bool (decide (0 < kidx (tx (pieces 32 l) 0)))]) ?_
  simp only [nf0, nf1, nf2, nf3, nf4]
  refine st_mv (.int .i64 (max (kidx (tx (pieces 32 l) 0)) 0)) ?_
  simp only [nf0, nf1, nf2, nf3, nf4]
  refine st_mv (.bool (decide (0 < kidx (tx (pieces 32 l) 0)))) ?_
  simp only [nf0, nf1, nf2, nf3, nf4]
  refine st_mv (.int .i64 (max (kidx (tx (pieces 32 l) 0)) 0)) ?_
  simp only [nf0, nf1, nf2, nf3, nf4]
  refine st_mv (.bool (decide (0 < kidx (tx (pieces 32 l) 0)))) ?_
  simp only [nf0, nf1, nf2, nf3, nf4]
  refine wpList_nil ?_
  show Code.wp _ _ _ _ _
  refine wp_seq ?_
  refine wp_seq ?_
  cases hg22 : decide (0 < kidx (tx (pieces 32 l) 0))
  · have hp23 := of_decide_eq_false hg22
    refine wp_region_lit ?_
    refine st_mv (.bool false) ?_
    simp only [nf0, nf1, nf2, nf3, nf4]
    refine st_value (v := (.bool true)) (by rfl) (run_not (.tmp 20) rfl (b := false) rfl w20) ?_
    simp only [nf0, nf1, nf2, nf3, nf4]
    refine st_mv (.bool true) ?_
    simp only [nf0, nf1, nf2, nf3, nf4]
    refine st_nob (j := 2) (t := 22) (c := true) rfl rfl rfl rfl rfl ?_
    simp only [nf0, nf1, nf2, nf3, nf4]
    refine st_nob (j := 2) (t := 22) (c := true) rfl rfl rfl rfl rfl ?_
    simp only [nf0, nf1, nf2, nf3, nf4]
    refine st_nob (j := 2) (t := 22) (c := true) rfl rfl rfl rfl rfl ?_
    simp only [nf0, nf1, nf2, nf3, nf4]
    refine st_mv (.bool true) ?_
    simp only [nf0, nf1, nf2, nf3, nf4]
    refine wpList_nil ?_
    show Code.wp _ _ _ _ _
    refine wp_cond_true rfl ?_
    refine wp_seq ?_
    refine wp_region_lit ?_
    refine st_value (v := (.agg #[.int .i64 0, .int .i64 0, .int .i64 0, .int .i64 0, .int .i64 0])) (by rfl) (run_buildV rfl (by kernel_rfl) w20) ?_
    simp only [nf0, nf1, nf2, nf3, nf4]
    refine st_row (by rfl) (run_storeW (.tmp 2) (.tmp 27) rfl (cs := #[.int .i64 0, .int .i64 0, .int .i64 0, .int .i64 0, .int .i64 0]) aggEvt rfl rfl B3 rfl (by simp [Value.oneCell'])) B3 ?_
    intro w24 B26 hg25
    simp only [nf0, nf1, nf2, nf3, nf4]
    replace O7 := O7.keptB hg25 n10
    replace bel := bl_kept0 bel hg25 lo5
    replace R17 := OwnR.rdE O7
    clear hg25
    clear B3
    refine st_mv (.bool false) ?_
    simp only [nf0, nf1, nf2, nf3, nf4]
    refine wpList_nil ?_
    show Code.wp _ _ _ _ _
    refine wp_ret ?_
    first | show bodyPost _ _ _ _ _ _ | (simp only [Exit.then, Exit.inBlock]; show bodyPost _ _ _ _ _ _)
    have hE := pE_five h5
    exact bodyPost_ret (results_agg1t rfl (cs := #[.int .i64 0, .int .i64 0, .int .i64 0, .int .i64 0, .int .i64 0]) aggEvt (by rfl) B26) rfl ⟨by rw [hE]; rfl, bel⟩
  have hp27 := of_decide_eq_true hg22
  refine wp_region_lit ?_
  refine st_mv (.bool true) ?_
  simp only [nf0, nf1, nf2, nf3, nf4]
  refine st_value (v := (.bool false)) (by rfl) (run_not (.tmp 20) rfl (b := true) rfl w20) ?_
  simp only [nf0, nf1, nf2, nf3, nf4]
  refine st_mv (.bool false) ?_
  simp only [nf0, nf1, nf2, nf3, nf4]
  refine st_mv (.slice (some ⟨b18, o19, none⟩) (pieces 32 l).length c12) ?_
  simp only [nf0, nf1, nf2, nf3, nf4]
  refine st_value (v := (.int .i64 ((pieces 32 l).length : Int))) (by rfl) (run_len (.tmp 23) rfl ⟨_, Tryd.underlying42⟩ rfl w20) ?_
  simp only [nf0, nf1, nf2, nf3, nf4]
  refine st_value (v := (.bool true)) (by rfl) ((run_neq_int (.tmp 24) (.const (.int .i64 5)) rfl rfl rfl w20).trans (by rw [decide_eq_false (by omega)]; rfl)) ?_
  simp only [nf0, nf1, nf2, nf3, nf4]
  refine st_mv (.bool true) ?_
  simp only [nf0, nf1, nf2, nf3, nf4]
  refine wpList_nil ?_
  show Code.wp _ _ _ _ _
  refine wp_cond_true rfl ?_
  refine wp_seq ?_
  refine wp_region_lit ?_
  refine st_value (v := (.agg #[.int .i64 0, .int .i64 0, .int .i64 0, .int .i64 0, .int .i64 0])) (by rfl) (run_buildV rfl (by kernel_rfl) w20) ?_
  simp only [nf0, nf1, nf2, nf3, nf4]
  refine st_row (by rfl) (run_storeW (.tmp 2) (.tmp 27) rfl (cs := #[.int .i64 0, .int .i64 0, .int .i64 0, .int .i64 0, .int .i64 0]) aggEvt rfl rfl B3 rfl (by simp [Value.oneCell'])) B3 ?_
  intro w28 B30 hg29
  simp only [nf0, nf1, nf2, nf3, nf4]
  replace O7 := O7.keptB hg29 n10
  replace bel := bl_kept0 bel hg29 lo5
  replace R17 := OwnR.rdE O7
  clear hg29
  clear B3
  refine st_mv (.bool false) ?_
  simp only [nf0, nf1, nf2, nf3, nf4]
  refine wpList_nil ?_
  show Code.wp _ _ _ _ _
  refine wp_ret ?_
  first | show bodyPost _ _ _ _ _ _ | (simp only [Exit.then, Exit.inBlock]; show bodyPost _ _ _ _ _ _)
  have hE := pE_five h5
  exact bodyPost_ret (results_agg1t rfl (cs := #[.int .i64 0, .int .i64 0, .int .i64 0, .int .i64 0, .int .i64 0]) aggEvt (by rfl) B30) rfl ⟨by rw [hE]; rfl, bel⟩
theorem parse_calls (l : List UInt8) (hl : l.length ≤ 100000) (w : World) : Calls Tryd.prog 8 #[.string (str l)] w fun e w' => e = .returned (.tuple #[.agg (eEvt.enc (pE l).1).toArray, .bool (pE l).2]) ∧ Below w.heap.size w w' := by
  by_cases h : (pieces 32 l).length = 5
  · obtain ⟨a, b, c, d, g, hpc⟩ := len5 h
    exact parse_five hpc hl w
  · exact parse_other h hl w
end Go.Proofs.YtmfdcgocfofokaaDoor

/- The document's reading of a line, name by name; lines of a text. -/
namespace Go.Proofs.YtmfdcgocfofokaaDoor
open Go.RowKit Go.WideShapes Go.ChangeShapes

def tails : List Int → List UInt8
  | [] => []
  | n :: r => 32 :: (tdecI n ++ tails r)
theorem tails_head (r : List Int) : tails r = [] ∨ (tails r).head? = some 32 := by
  cases r with
  | nil => exact .inl rfl
  | cons n r => exact .inr rfl
theorem prE_tails (e : TEvt) : prE e = nm e.1 ++ tails [e.2.1, e.2.2.1, e.2.2.2.1, e.2.2.2.2] := by
  simp [prE, tails]
def I64L (r : List Int) : Prop := ∀ n ∈ r, -9223372036854775808 ≤ n ∧ n ≤ 9223372036854775807
/-- So far as a line of the kind k has been read: behind the place at stands what is left. -/
def Mt (l : List UInt8) (k : Int) (at_ : Nat) (zs : List Int) : Prop := ∀ e, okEv e → e.1 = k → prE e = l → ∃ r, l.drop at_ = tails r ∧ [e.2.1, e.2.2.1, e.2.2.2.1, e.2.2.2.2] = zs ++ r
theorem mt_start (l : List UInt8) (k : Int) : Mt l k (nm k).length [] := by
  intro e _ hk hl
  refine ⟨_, ?_, rfl⟩
  subst hk hl
  rw [prE_tails, List.drop_left]
theorem mt_next {l : List UInt8} {k : Int} {at_ q : Nat} {zs : List Int} {z : Int} (h : Mt l k at_ zs) (hz : zs.length < 4) (hq : rnum (l.drop (at_ + 1)) = (z, q)) : Mt l k (at_ + (1 + q)) (zs ++ [z]) := by
  intro e he hk hl
  obtain ⟨r, h1, h2⟩ := h e he hk hl
  cases r with
  | nil =>
    have := congrArg List.length h2
    rw [List.append_nil] at this
    simp at this
    omega
  | cons x r =>
    have hx : -9223372036854775808 ≤ x ∧ x ≤ 9223372036854775807 := by
      have hm : x ∈ [e.2.1, e.2.2.1, e.2.2.2.1, e.2.2.2.2] := by rw [h2]; simp
      simp only [List.mem_cons, List.not_mem_nil, or_false] at hm
      rcases hm with rfl | rfl | rfl | rfl
      · exact he.2.2.1
      · exact he.2.2.2.1
      · exact he.2.2.2.2.1
      · exact he.2.2.2.2.2
    have e1 : l.drop (at_ + 1) = tdecI x ++ tails r := by
      rw [← List.drop_drop, h1]; rfl
    rw [e1, rnum_dec hx (tails_head r)] at hq
    injection hq with hq1 hq2
    subst hq1 hq2
    refine ⟨r, ?_, by rw [h2, List.append_assoc]; rfl⟩
    rw [← Nat.add_assoc, ← List.drop_drop, e1, List.drop_left]
theorem mt_break {l : List UInt8} {k : Int} {at_ : Nat} {zs : List Int} (h : Mt l k at_ zs) (hz : zs.length < 4) (hl : l.length ≤ at_) : ∀ e, okEv e → e.1 = k → prE e ≠ l := by
  intro e he hk he2
  obtain ⟨r, h1, h2⟩ := h e he hk he2
  rw [List.drop_of_length_le hl] at h1
  cases r with
  | nil =>
    have := congrArg List.length h2
    rw [List.append_nil] at this
    simp at this
    omega
  | cons x r => cases h1
theorem mt_end {l : List UInt8} {k : Int} {at_ : Nat} {z1 z2 z3 z4 : Int} (h : Mt l k at_ [z1, z2, z3, z4]) (hn : prE (k, z1, z2, z3, z4) ≠ l) : ∀ e, okEv e → e.1 = k → prE e ≠ l := by
  intro e he hk he2
  obtain ⟨r, h1, h2⟩ := h e he hk he2
  simp only [List.cons_append, List.nil_append, List.cons.injEq] at h2
  obtain ⟨a, b, c, d, _⟩ := h2
  refine hn ?_
  rw [← he2]
  congr 1
  exact Prod.ext hk.symm (Prod.ext a.symm (Prod.ext b.symm (Prod.ext c.symm d.symm)))
theorem mt_pre {l : List UInt8} {k : Int} (h : ¬ ((nm k).length ≤ l.length ∧ l.take (nm k).length = nm k)) : ∀ e, okEv e → e.1 = k → prE e ≠ l := by
  intro e _ hk hl
  refine h ?_
  subst hk hl
  rw [prE_tails]
  exact ⟨by rw [List.length_append]; omega, List.take_left⟩
theorem past {l : List UInt8} {k : Nat} (h : ∀ e, okEv e → prE e = l → (k : Int) ≤ e.1) (h2 : ∀ e, okEv e → e.1 = (k : Int) → prE e ≠ l) : ∀ e, okEv e → prE e = l → ((k + 1 : Nat) : Int) ≤ e.1 := by
  intro e he hl
  have h3 := h e he hl
  have h4 : e.1 ≠ (k : Int) := fun hk => h2 e he hk hl
  omega

/-! ### the lines of a text -/
/-- What the reading of lines yields: the events, or the first line that is wrong. -/
noncomputable def goL : List (List UInt8) → Nat → List TEvt → List TEvt × Int
  | [], _, acc => (acc, 0)
  | [t], i, acc => if t = [] then (acc, 0) else ([], (i : Int) + 1)
  | t :: u :: r, i, acc => if (pE t).2 = true then goL (u :: r) (i + 1) (acc ++ [(pE t).1]) else ([], (i : Int) + 1)
noncomputable def paA (l : List UInt8) : List TEvt × Int := goL (pieces 10 l) 0 []
/-- The text of a row of events. -/
def prA (xs : List TEvt) : List UInt8 := xs.flatMap fun e => prE e ++ [10]
theorem prA_cons (e : TEvt) (xs : List TEvt) : prA (e :: xs) = prE e ++ 10 :: prA xs := by simp [prA]
theorem prA_snoc (xs : List TEvt) (e : TEvt) : prA (xs ++ [e]) = prA xs ++ (prE e ++ [10]) := by simp [prA]
theorem prA_pieces : ∀ xs : List TEvt, pieces 10 (prA xs) = xs.map prE ++ [[]]
  | [] => rfl
  | e :: xs => by rw [prA_cons, pieces_app _ (prE_no10 e), prA_pieces xs]; rfl
theorem prA_len {xs : List TEvt} (h : ∀ e ∈ xs, okEvt e) : (prA xs).length ≤ 93 * xs.length := by
  induction xs with
  | nil => exact Nat.le_refl _
  | cons e xs ih =>
    have h1 := prE_len (h e List.mem_cons_self)
    have h2 := ih fun x hx => h x (List.mem_cons_of_mem _ hx)
    rw [prA_cons, List.length_append, List.length_cons, List.length_cons]
    omega
theorem goL_all : ∀ (xs : List TEvt) (i : Nat) (acc : List TEvt), (∀ e ∈ xs, okEv e) → goL (xs.map prE ++ [[]]) i acc = (acc ++ xs, 0)
  | [], i, acc, _ => by rw [List.map_nil, List.nil_append, goL, if_pos rfl, List.append_nil]
  | e :: xs, i, acc, h => by
    obtain ⟨u, r, hu⟩ : ∃ u r, xs.map prE ++ [[]] = u :: r := by cases hx : xs.map prE with | nil => exact ⟨_, _, rfl⟩ | cons a b => exact ⟨_, _, rfl⟩
    rw [List.map_cons, List.cons_append, hu, goL, pE_yes (h e List.mem_cons_self) rfl, if_pos rfl, ← hu, goL_all xs _ _ (fun x hx => h x (List.mem_cons_of_mem _ hx))]
    simp
theorem paA_all {xs : List TEvt} (h : ∀ e ∈ xs, okEv e) : paA (prA xs) = (xs, 0) := by
  rw [paA, prA_pieces, goL_all xs 0 [] h, List.nil_append]
theorem pE_unknown {e : TEvt} (h : ¬ known e.1) : (pE (prE e)).2 = false := by
  rw [pE_no]
  intro f hf hl
  have := (prE_fields hl).1
  rw [nm_unknown h] at this
  exact (nm_known hf.1).1 this
theorem goL_bad : ∀ (xs : List TEvt) (i : Nat) (acc : List TEvt), (∀ e ∈ xs, okEvt e) → (∃ e ∈ xs, ¬ known e.1) → (goL (xs.map prE ++ [[]]) i acc).2 ≠ 0
  | [], i, acc, _, h => by obtain ⟨e, h, _⟩ := h; cases h
  | e :: xs, i, acc, hI, h => by
    obtain ⟨u, r, hu⟩ : ∃ u r, xs.map prE ++ [[]] = u :: r := by cases hx : xs.map prE with | nil => exact ⟨_, _, rfl⟩ | cons a b => exact ⟨_, _, rfl⟩
    rw [List.map_cons, List.cons_append, hu, goL]
    by_cases hk : known e.1
    · rw [pE_yes ⟨hk, hI e List.mem_cons_self⟩ rfl, if_pos rfl, ← hu]
      refine goL_bad xs _ _ (fun x hx => hI x (List.mem_cons_of_mem _ hx)) ?_
      obtain ⟨f, hf, hfk⟩ := h
      rcases List.mem_cons.1 hf with rfl | hf
      · exact absurd hk hfk
      · exact ⟨f, hf, hfk⟩
    · rw [if_neg (by rw [pE_unknown hk]; decide)]
      show (i : Int) + 1 ≠ 0
      omega
theorem paA_bad {xs : List TEvt} (hI : ∀ e ∈ xs, okEvt e) (h : ∃ e ∈ xs, ¬ known e.1) : (paA (prA xs)).2 ≠ 0 := by
  rw [paA, prA_pieces]
  exact goL_bad xs 0 [] hI h
theorem goL_ok : ∀ (ts : List (List UInt8)) (i : Nat) (acc : List TEvt), (∀ e ∈ acc, okEvt e) → (∀ e ∈ (goL ts i acc).1, okEvt e) ∧ (goL ts i acc).1.length ≤ acc.length + ts.length
  | [], i, acc, h => ⟨h, Nat.le_add_right _ _⟩
  | [t], i, acc, h => by
    rw [goL]
    split
    · exact ⟨h, Nat.le_add_right _ _⟩
    · exact ⟨fun e he => (by cases he), Nat.zero_le _⟩
  | t :: u :: r, i, acc, h => by
    rw [goL]
    split
    · have ih := goL_ok (u :: r) (i + 1) (acc ++ [(pE t).1]) (fun e he => by
        rcases List.mem_append.1 he with he | he
        · exact h e he
        · rw [List.mem_singleton] at he; subst he; exact pE_I64 t)
      refine ⟨ih.1, ?_⟩
      have := ih.2
      simp only [List.length_append, List.length_cons, List.length_nil] at this ⊢
      omega
    · exact ⟨fun e he => (by cases he), Nat.zero_le _⟩
theorem paA_ok (l : List UInt8) : (∀ e ∈ (paA l).1, okEvt e) ∧ (paA l).1.length ≤ l.length + 1 := by
  have h := goL_ok (pieces 10 l) 0 [] (fun e he => by cases he)
  have h2 := pieces_len 10 l
  have h3 : l.count 10 ≤ l.length := List.count_le_length
  refine ⟨h.1, ?_⟩
  have := h.2
  unfold paA
  simp only [List.length_nil] at this
  omega
end Go.Proofs.YtmfdcgocfofokaaDoor

/- Lines of a text, one by one. -/
namespace Go.Proofs.YtmfdcgocfofokaaDoor
open Go.RowKit Go.WideShapes Go.ChangeShapes

theorem tx_take {xs : List (List UInt8)} {n k : Nat} (h : k < n) : tx (xs.take n) k = tx xs k := by
  unfold tx
  rw [List.getD_eq_getElem?_getD, List.getD_eq_getElem?_getD, List.getElem?_take, if_pos h]
theorem tx_mem {xs : List (List UInt8)} {k : Nat} (h : k < xs.length) : tx xs k ∈ xs := List.mem_of_getElem? (tx_get h)
theorem rd_take (p : Nat) {w : World} {base : Nat} {e : TypeId} {A : Option Addr} {c : Nat} {xs : List (List UInt8)} (h : OwnR w base e eTx (.slice A xs.length c) xs) : Reads w A (eTx.all (xs.take p)) := by
  have R := h.rdE
  rw [eTx_all, eStr_all, List.map_map] at R ⊢
  rw [List.map_take]
  exact R.take p
theorem drop_tx {xs : List (List UInt8)} {k : Nat} (h : k < xs.length) : xs.drop k = tx xs k :: xs.drop (k + 1) := by
  rw [List.drop_eq_getElem_cons h]
  have := tx_get h
  rw [List.getElem?_eq_getElem h] at this
  injection this with this
  rw [this]
theorem goL_step {ps : List (List UInt8)} {k : Nat} {acc : List TEvt} (h : k + 1 < ps.length) : goL (ps.drop k) k acc = if (pE (tx ps k)).2 = true then goL (ps.drop (k + 1)) (k + 1) (acc ++ [(pE (tx ps k)).1]) else ([], (k : Int) + 1) := by
  rw [drop_tx (by omega : k < ps.length), drop_tx h, goL]
theorem goL_last {ps : List (List UInt8)} {k : Nat} {acc : List TEvt} (h : k + 1 = ps.length) : goL (ps.drop k) k acc = if tx ps k = [] then (acc, 0) else ([], (k : Int) + 1) := by
  rw [drop_tx (by omega : k < ps.length), List.drop_of_length_le (by omega), goL]
theorem goL_cons {t : List UInt8} {r : List (List UInt8)} {k : Nat} {acc : List TEvt} (h : r ≠ []) : goL (t :: r) k acc = if (pE t).2 = true then goL r (k + 1) (acc ++ [(pE t).1]) else ([], (k : Int) + 1) := by
  cases r with
  | nil => exact absurd rfl h
  | cons u r => rw [goL]
/-- A line that ends at i. -/
theorem line_at {l : List UInt8} {fr i : Nat} (h1 : fr ≤ i) (h2 : i < l.length) (hn : ∀ j, fr ≤ j → j < i → chr l j ≠ 10) (hc : chr l i = 10) : pieces 10 (l.drop fr) = ((l.take i).drop fr) :: pieces 10 (l.drop (i + 1)) := by
  have e : l.drop fr = (l.take i).drop fr ++ 10 :: l.drop (i + 1) := by
    have e1 : l = l.take i ++ l.drop i := (List.take_append_drop i l).symm
    have e2 : l.drop i = l[i] :: l.drop (i + 1) := List.drop_eq_getElem_cons h2
    have e3 : l[i] = 10 := by
      apply UInt8.toNat_inj.1
      have : chr l i = (l[i].toNat : Int) := by unfold chr; rw [List.getD_eq_getElem?_getD, List.getElem?_eq_getElem h2]; rfl
      rw [this] at hc
      show l[i].toNat = 10
      omega
    conv => lhs; rw [e1]
    rw [List.drop_append_of_le_length (by rw [List.length_take]; omega), e2, e3]
  rw [e, pieces_app]
  intro hm
  obtain ⟨j, hj, hje⟩ := List.getElem_of_mem hm
  rw [List.length_drop, List.length_take] at hj
  refine hn (fr + j) (by omega) (by omega) ?_
  rw [List.getElem_drop, List.getElem_take] at hje
  unfold chr
  rw [List.getD_eq_getElem?_getD, List.getElem?_eq_getElem (by omega), hje]
  rfl
theorem line_end {l : List UInt8} {fr : Nat} (hn : ∀ j, fr ≤ j → j < l.length → chr l j ≠ 10) : pieces 10 (l.drop fr) = [l.drop fr] := by
  refine pieces_one fun hm => ?_
  obtain ⟨j, hj, hje⟩ := List.getElem_of_mem hm
  rw [List.length_drop] at hj
  refine hn (fr + j) (by omega) (by omega) ?_
  rw [List.getElem_drop] at hje
  unfold chr
  rw [List.getD_eq_getElem?_getD, List.getElem?_eq_getElem (by omega), hje]
  rfl
theorem goL_one {t : List UInt8} {k : Nat} {acc : List TEvt} : goL [t] k acc = if t = [] then (acc, 0) else ([], (k : Int) + 1) := rfl
theorem prA_take {xs : List TEvt} {k : Nat} (h : k < xs.length) : prA (xs.take (k + 1)) = prA (xs.take k) ++ (prE (evtAt xs k) ++ [10]) := by rw [evt_snoc h, prA_snoc]
theorem flt_snoc {xs : List TEvt} {k : Nat} (P : TEvt → Bool) (h : k < xs.length) : (xs.take (k + 1)).filter P = (xs.take k).filter P ++ (if P (evtAt xs k) = true then [evtAt xs k] else []) := by
  rw [evt_snoc h, List.filter_append]
  congr 1
  by_cases hp : P (evtAt xs k) = true <;> simp [hp]
theorem flt_len (xs : List TEvt) (P : TEvt → Bool) (k : Nat) : ((xs.take k).filter P).length ≤ xs.length := by
  have h1 := List.length_filter_le P (xs.take k)
  have h2 := List.length_take_le k xs
  rw [List.length_take] at h1
  omega
end Go.Proofs.YtmfdcgocfofokaaDoor

/- strings.Builder: its own block, its row of bytes; what its methods do. -/
namespace Go.Proofs.YtmfdcgocfofokaaDoor
open Go.RowKit Go.WideShapes Go.ChangeShapes
set_option linter.unusedVariables false

/-- The blocks that a builder's write may change. -/
def bS (g : Nat) (v : Value) : List Nat := g :: v.ownBlock.toList
section
variable {w0 w w1 w2 w' : World} {g k : Nat} {v v' u : Value} {S : List Nat}
theorem nib (h : k ≠ g) (n : Off v k) : k ∉ bS g v := by
  intro hk
  simp only [bS, List.mem_cons, Option.mem_toList] at hk
  rcases hk with hk | hk
  · exact h hk
  · exact n hk
theorem ofb (h : Off u g) (n : Off2 u v) : ∀ j, j ∈ bS g v → Off u j := by
  intro j hj
  simp only [bS, List.mem_cons, Option.mem_toList] at hj
  rcases hj with rfl | hj
  · exact h
  · intro e
    rcases n with n | n
    · rw [n] at e; cases e
    · exact n (by rw [e, hj])
theorem fr_o (h : Fr S w0 w) (k : w.grownBy w' v.ownBlock) (hs : ∀ j, v.ownBlock = some j → j ∈ S ∨ w0.heap.size ≤ j) : Fr S w0 w' :=
  ⟨k.os.trans h.os, k.tape.trans h.tape, k.output.trans h.output, Nat.le_trans h.size k.size, fun j hj hn => (k.block j (Nat.lt_of_lt_of_le hj h.size) (fun e => by rcases hs j e.symm with h | h; exact hn h; omega)).trans (h.block j hj hn)⟩
theorem bl_b {base : Nat} (h : Below base w0 w) (k : Fr (bS g v) w w') (hb : base ≤ w.heap.size) (hg : base ≤ g) (hv : ∀ j, v.ownBlock = some j → base ≤ j) : Below base w0 w' :=
  h.trans ⟨k.os, k.tape, k.output, k.size, fun j hj => k.block j (by omega) (fun hm => by
    simp only [bS, List.mem_cons, Option.mem_toList] at hm
    rcases hm with rfl | hm
    · omega
    · have := hv j hm; omega)⟩
theorem Off.hatB (n : Off v k) (hk : k < w.heap.size) (hat : v'.ownBlock = v.ownBlock ∨ ∀ j, v'.ownBlock = some j → w.heap.size ≤ j) : Off v' k := by
  rcases hat with h | h
  · rw [Off, h]; exact n
  · intro e; have := h k e; omega
theorem Off2.hatB {α : Type} {base : Nat} {e : TypeId} {E : Enc α} {xs : List α} (n : Off2 v u) (h : OwnR w base e E u xs) (hat : v'.ownBlock = v.ownBlock ∨ ∀ j, v'.ownBlock = some j → w.heap.size ≤ j) : Off2 v' u := by
  rcases hat with hh | hh
  · rw [Off2, hh]; exact n
  · cases hv : v'.ownBlock with
    | none => exact .inl hv
    | some j =>
      refine .inr fun e => ?_
      have := hh j hv
      have := (h.lt j (by rw [← e, hv])).2
      omega
end

theorem str_cells (s : List UInt8) : Lib.strCells (str s) = eByte.all s := by
  rw [eByte_all, Lib.strCells_eq]
  rfl
/-- append of a text's bytes to a row of bytes of the call's own. -/
theorem own_append_str {P : Program} {w : World} {t u ty e : TypeId} (T : SlT P t e eByte 1) (hu : P.underlying u = some .string) (hz : (P.info? e).map (·.zero) = some (some (.int .u8 0)))
    {base : Nat} {v : Value} {xs : List UInt8} (hO : OwnR w base e eByte v xs) (s : List UInt8) (hl : xs.length + s.length ≤ 140737488355328) (hbase : base ≤ w.heap.size) :
    ∃ v' w', (Builtin.append_ #[t, u] ty #[v, .string (str s)]).run P w = .ok v' w' ∧ OwnR w' base e eByte v' (xs ++ s) ∧ w.grownBy w' v.ownBlock ∧ (v'.ownBlock = v.ownBlock ∨ ∀ k, v'.ownBlock = some k → w.heap.size ≤ k) := by
  obtain ⟨i, z, h1, h2, h3, h4, h5⟩ := T.info
  have hz0 : i.zero = some (.int .u8 0) := by simpa [h1] using hz
  have hsz : (str s).size = s.length := rfl
  have h3' : i.size = 1 := h3
  obtain ⟨v', w', r1, r2, r3, _⟩ := Lib.run_append_own_string (P := P) w base t u ty e i T.under hu h1 hz0 h3 h4 v xs.length (eByte.all xs) hO (str s) (by unfold maxLen; rw [hsz]; omega) (by rw [hsz]; exact hl) hbase
  rw [str_cells, hsz] at r2
  refine ⟨v', w', r1, ⟨by rw [eByte.all_length, List.length_append], ?_⟩, r3, ?_⟩
  · have := r2.2
    rw [show eByte.all xs ++ eByte.all s = eByte.all (xs ++ s) by rw [eByte_all, eByte_all, eByte_all, List.map_append]] at this
    rw [List.length_append]
    exact this
  · rcases hO.2 with ⟨rfl, h0⟩ | ⟨g, cap, cur, rfl, hbg, hg, hnc, hcm, hcs, htake⟩
    · -- nil: what is handed back is nil, or lies above (the base may be the heap's end)
      have hO2 : w.ownsRow w.heap.size e 1 (.slice none 0 0) xs.length (eByte.all xs) := ⟨by rw [eByte.all_length]; rfl, .inl ⟨rfl, h0⟩⟩
      obtain ⟨v2, w2, q1, q2, _, _⟩ := Lib.run_append_own_string (P := P) w w.heap.size t u ty e i T.under hu h1 hz0 h3 h4 (.slice none 0 0) xs.length (eByte.all xs) hO2 (str s) (by unfold maxLen; rw [hsz]; omega) (by rw [hsz]; exact hl) (Nat.le_refl _)
      rw [q1] at r1
      injection r1 with e1 e2
      subst e1
      exact .inr fun k hk => (q2.lt k hk).1
    · by_cases hroom : xs.length + s.length ≤ cap
      · have hcs' : cur.size = cap := by have : eByte.sz = 1 := rfl; rw [this] at hcs; omega
        have hr := Lib.run_append_room_string (P := P) w t u ty e i T.under hu h1 h3 g xs.length cap cur hg (str s) hroom (by rw [hsz, hcs']; exact hroom)
        rw [hr] at r1
        injection r1 with e1 e2
        subst e1
        exact .inl rfl
      · have holds : ∀ j u, (eByte.all xs)[j]? = some u → w.cell? ((⟨g, 0, none⟩ : Addr).add j) = some u := by
          have hO3 : OwnR w base e eByte (.slice (some ⟨g, 0, none⟩) xs.length cap) xs := hO
          exact World.ownsRow.cells (g := g) hO3 rfl
        have hr := Lib.run_append_grow_string (P := P) w t u ty e i (.int .u8 0) T.under hu h1 hz0 ⟨g, 0, none⟩ xs.length cap (eByte.all xs) (by rw [h3]; exact eByte.all_length xs) holds (str s) (by rw [hsz]; omega) (by rw [hsz]; omega) (by rw [h4, hsz]; exact growslice_fits (by omega) (by omega))
        rw [hr] at r1
        injection r1 with e1 e2
        subst e1
        exact .inr fun k hk => by simp [Value.ownBlock] at hk; omega
theorem st_append_str {P : Program} {ops : Array Oper} {o : Oper} {rest : List Oper} {a : Act} {w : World} {Q : Exit → Act → World → Prop} {t u e : TypeId} (T : SlT P t e eByte 1) (hu : P.underlying u = some .string) (hz : (P.info? e).map (·.zero) = some (some (.int .u8 0))) (hgd : o.guard = none) (s x : Operand)
    (ho : o.op = .call { callee := .builtin .append, args := #[s, x], argTypes := #[t, u] })
    {base : Nat} {v : Value} {xs : List UInt8} (hs : a.eval s = v) (hO : OwnR w base e eByte v xs) (l : List UInt8) (hx : a.eval x = .string (str l)) (hl : xs.length + l.length ≤ 140737488355328) (hbase : base ≤ w.heap.size)
    (h : ∀ v' w', OwnR w' base e eByte v' (xs ++ l) → w.grownBy w' v.ownBlock → (v'.ownBlock = v.ownBlock ∨ ∀ k, v'.ownBlock = some k → w.heap.size ≤ k) → wpList P ops Q rest (a.put o.dst v') w') : wpList P ops Q (o :: rest) a w := by
  refine wpList_plain hgd fun K hK => ?_
  obtain ⟨v', w', hr, h2, h3, h4⟩ := own_append_str (ty := o.type) T hu hz hO l hl hbase
  unfold Oper.wp execOp
  simp only [ho, resolve, invoke, builtin, Sem.run_bind, Sem.run_pure, Result.andThen_ok, List.map_toArray, List.map_cons, List.map_nil, hs, hx, hr]
  exact hK _ _ (h v' w' h2 h3 h4)

theorem bld_info : (Tryd.prog.info? 5).map (·.zero) = some (some (.int .u8 0)) := by kernel_rfl
theorem bld_size : (Tryd.prog.info? 58).map (·.size) = some 2 := by kernel_rfl
theorem bld_lies : liesAt Tryd.prog Tryd.prog.depth 58 (2 / Tryd.prog.cellsOf 58) 0 58 1 = true := by kernel_rfl
theorem bld_byte : Tryd.prog.cellsOf 5 = 1 := by kernel_rfl

set_option maxHeartbeats 1000000 in
set_option maxRecDepth 100000 in
theorem copyCheck_used (b : Nat) (w : World) (h0 : w.cell? ⟨b, 0, none⟩ = some (.pointer (some ⟨b, 0, none⟩))) :
    Calls Tryd.prog 40 #[.pointer (some ⟨b, 0, none⟩)] w fun e w' => e = .returned (.tuple #[]) ∧ w' = w := by
  obtain ⟨j, hj, _⟩ := Option.map_eq_some_iff.1 bld_size
  go_enter Tryd.func40, Tryd.ntmps40
  go_wp2
  rw [Lib.run_neq_ptr_same w _ Tryd.underlying55 hj]
  go_wp2
  go_end0
  exact ⟨rfl, rfl⟩
set_option maxHeartbeats 1000000 in
set_option maxRecDepth 100000 in
theorem copyCheck_fresh (b : Nat) (w : World) (h0 : w.cell? ⟨b, 0, none⟩ = some (.pointer none)) (hsh : w.shape? b = some (58, 2)) (hfz : w.frozen? ⟨b, 0, none⟩ = false) :
    Calls Tryd.prog 40 #[.pointer (some ⟨b, 0, none⟩)] w fun e w' => e = .returned (.tuple #[]) ∧ w' = w.setCell ⟨b, 0, none⟩ (.pointer (some ⟨b, 0, none⟩)) := by
  obtain ⟨j, hj, hjs⟩ := Option.map_eq_some_iff.1 bld_size
  go_enter Tryd.func40, Tryd.ntmps40
  go_wp2
  rw [Lib.run_to_unsafe w ⟨b, 0, none⟩ Tryd.underlying55 Tryd.underlying73 hj (by rw [hjs]; decide) hsh (Nat.zero_lt_succ 1)]
  simp only [Result.andThen]
  rw [Oper.upon_value]
  go_wp2
  rw [run_callFunc_extern Tryd.func46 (by kernel_rfl) (by kernel_rfl) (by kernel_rfl) (e := Extern.AbiNoEscape.same) (by kernel_rfl)]
  rw [Lib.run_noEscape]
  simp only [Result.andThen]
  rw [Oper.upon_value]
  go_wp2
  rw [Lib.run_from_unsafe w ⟨b, 0, none⟩ Tryd.underlying73 Tryd.underlying55 hj hsh bld_lies]
  simp only [Result.andThen]
  rw [Oper.upon_value]
  go_wp2
  go_end0
  exact ⟨rfl, rfl⟩
/-- A builder's first cell: nil, or where it stands. -/
def Bp (g : Nat) (p : Value) : Prop := p = .pointer none ∨ p = .pointer (some ⟨g, 0, none⟩)
theorem copyCheck_calls {g : Nat} {p v : Value} {w : World} (hp : Bp g p) (hB : Blk w g #[p, v] 58) :
    Calls Tryd.prog 40 #[.pointer (some ⟨g, 0, none⟩)] w fun e w' => ∃ u, e = .returned u ∧ u = .tuple #[] ∧ Blk w' g #[.pointer (some ⟨g, 0, none⟩), v] 58 ∧ w.grownBy w' (some g) := by
  rcases hp with rfl | rfl
  · refine (copyCheck_fresh g w ((hB.cell 0).trans rfl) (by have h : w.heap[g]? = _ := hB; simp [World.shape?, h]) (Lib.frozen_of_heap hB 0)).mono ?_
    rintro e w' ⟨rfl, rfl⟩
    exact ⟨_, rfl, rfl, hB.set 0 _, ⟨rfl, rfl, rfl, by simp [World.setCell], fun k _ hk => Below.heap_setCell _ _ _ _ (fun e => hk (by rw [e]))⟩⟩
  · refine (copyCheck_used g w ((hB.cell 0).trans rfl)).mono ?_
    rintro e w' ⟨rfl, rfl⟩
    exact ⟨_, rfl, rfl, hB, ⟨rfl, rfl, rfl, Nat.le_refl _, fun _ _ _ => rfl⟩⟩
end Go.Proofs.YtmfdcgocfofokaaDoor

/- strings.Builder's WriteByte, WriteString, String. -/
namespace Go.Proofs.YtmfdcgocfofokaaDoor
open Go.RowKit Go.WideShapes Go.ChangeShapes
set_option linter.unusedSimpArgs false
set_option linter.unusedVariables false

theorem bl_one_sl : One Tryd.prog 56 := one_of Tryd.underlying56 rfl (by kernel_rfl)
theorem bl_fld : FieldAt Tryd.prog 58 1 1 := fieldAt_of (s := 0) Tryd.underlying58 (by kernel_rfl)
theorem bl_run_copy {o : Oper} {a : Act} (x0 : Operand) {ts : Array TypeId} (ho : o.op = .call { callee := .value (.func 40), args := #[x0], argTypes := ts }) {v0 : Value} (h0 : a.eval x0 = v0) (W : World) : (execOp a.eval o).run Tryd.prog W = .ok (.enter 40 #[v0]) W := by
  unfold execOp
  simp only [ho]
  subst h0
  go_simp
theorem bl_run_lit {o : Oper} {a : Act} (x0 : Operand) (ho : o.op = .buildSlice 56 1 #[(0, x0)]) {m0 : Int} (h0 : a.eval x0 = .int .u8 m0) (W : World) : (execOp a.eval o).run Tryd.prog W = .ok (.value (.slice (some ⟨W.heap.size, 0, none⟩) 1 1)) (W.alloc (.cells #[.int .u8 m0] 5)) := by
  unfold execOp
  simp only [ho, List.map_toArray, List.map_cons, List.map_nil, h0]
  go_simp
/-- What a write leaves. -/
def BldOut (w w' : World) (base g : Nat) (v : Value) (xs : List UInt8) : Prop := ∃ v', Blk w' g #[.pointer (some ⟨g, 0, none⟩), v'] 58 ∧ OwnR w' base 5 eByte v' xs ∧ Off v' g ∧ (v'.ownBlock = v.ownBlock ∨ ∀ k, v'.ownBlock = some k → w.heap.size ≤ k) ∧ Fr (bS g v) w w'

section
variable {w : World} {base g : Nat} {p v : Value} {xs : List UInt8}
attribute [local irreducible] Go.wpList Go.Code.wp
set_option maxRecDepth 100000 in
theorem writeString_calls (s : List UInt8) (hp : Bp g p) (hB : Blk w g #[p, v] 58) (hO : OwnR w base 5 eByte v xs) (n0 : Off v g) (hbase : base ≤ w.heap.size) (hl : xs.length + s.length ≤ 140737488355328) :
    Calls Tryd.prog 34 #[.pointer (some ⟨g, 0, none⟩), .string (str s)] w fun e w' => ∃ u, e = .returned u ∧ u = .tuple #[.int .i64 ((s.length : Nat) : Int), .nilIface] ∧ BldOut w w' base g v (xs ++ s) := by
  have fr : Fr (bS g v) w w := Fr.refl _ _
  have hgl := hB.lt
  have hvl := hO.lt
  go_enter Tryd.func34, Tryd.ntmps34
  refine wp_seq ?_
  refine wp_region_lit ?_
  refine st_mv (.int .i64 0) ?_
  simp only [nf0, nf1, nf2, nf3, nf4]
  refine st_mv .nilIface ?_
  simp only [nf0, nf1, nf2, nf3, nf4]
  refine wpList_nil ?_
  show Code.wp _ _ _ _ _
  refine wp_seq ?_
  refine wp_region_lit ?_
  refine st_mv (.pointer (some ⟨g, 0, none⟩)) ?_
  simp only [nf0, nf1, nf2, nf3, nf4]
  refine st_call (by rfl) (bl_run_copy (.tmp 6) rfl rfl _) (copyCheck_calls hp hB) ?_
  rintro _ w1 ⟨rfl, hB1, hg1⟩
  simp only [nf0, nf1, nf2, nf3, nf4]
  replace hO := hO.keptB hg1 n0
  replace fr := fr_in fr hg1 (by simp [bS])
  refine wpList_nil ?_
  show Code.wp _ _ _ _ _
  refine wp_seq ?_
  refine wp_region_lit ?_
  refine st_mv (.pointer (some ⟨g, 0, none⟩)) ?_
  simp only [nf0, nf1, nf2, nf3, nf4]
  refine st_mv (.pointer (some ⟨g, 0, none⟩)) ?_
  simp only [nf0, nf1, nf2, nf3, nf4]
  refine st_value (v := (.pointer (some ⟨g, 0, none⟩))) (by rfl) (run_check (.tmp 9) rfl rfl _) ?_
  simp only [nf0, nf1, nf2, nf3, nf4]
  refine st_value (v := (.pointer (some ⟨g, 1, none⟩))) (by rfl) (run_fieldA (.tmp 10) rfl bl_fld rfl rfl _) ?_
  simp only [nf0, nf1, nf2, nf3, nf4]
  refine st_value (v := v) (by rfl) (run_loadB (.tmp 11) rfl bl_one_sl rfl hB1 rfl) ?_
  simp only [nf0, nf1, nf2, nf3, nf4]
  refine st_mv (.string (str s)) ?_
  simp only [nf0, nf1, nf2, nf3, nf4]
  have hbs : base ≤ w1.heap.size := Nat.le_trans hbase fr.size
  have hs2 := fr.size
  refine st_append_str slByte Tryd.underlying9 bld_info rfl (.tmp 12) (.tmp 13) rfl rfl hO s rfl hl hbs ?_
  intro v3 w3 O3 hg3 hat3
  change _ = v.ownBlock ∨ _ at hat3
  have hg3 : World.grownBy _ _ v.ownBlock := hg3
  simp only [nf0, nf1, nf2, nf3, nf4]
  have n3 : Off v3 g := (n0 : Off _ _).hatB hB1.lt hat3
  have hB3 := hB1.keptR hg3 n0
  replace fr := fr_o fr hg3 (fun j hj => .inl (by simp [bS, hj]))
  refine st_value (v := (.pointer (some ⟨g, 0, none⟩))) (by rfl) (run_check (.tmp 8) rfl rfl _) ?_
  simp only [nf0, nf1, nf2, nf3, nf4]
  refine st_value (v := (.pointer (some ⟨g, 1, none⟩))) (by rfl) (run_fieldA (.tmp 15) rfl bl_fld rfl rfl _) ?_
  simp only [nf0, nf1, nf2, nf3, nf4]
  refine st_cell (v := v3) (by rfl) (run_storeB (.tmp 16) (.tmp 14) rfl bl_one_sl hB3 (show 1 < 2 by decide) rfl rfl (OwnR.cell1 O3).1 (OwnR.cell1 O3).2) hB3 ?_
  intro w4 B4 hg4
  simp only [nf0, nf1, nf2, nf3, nf4]
  have O4 := O3.keptB hg4 n3
  replace fr := fr_in fr hg4 (by simp [bS])
  refine wpList_nil ?_
  show Code.wp _ _ _ _ _
  refine wp_seq ?_
  refine wp_region_lit ?_
  refine st_mv (.string (str s)) ?_
  simp only [nf0, nf1, nf2, nf3, nf4]
  refine st_value (v := (.int .i64 ((s.length : Nat) : Int))) (by rfl) (run_len_text (.tmp 17) rfl Tryd.underlying9 rfl _) ?_
  simp only [nf0, nf1, nf2, nf3, nf4]
  refine st_mv (.int .i64 ((s.length : Nat) : Int)) ?_
  simp only [nf0, nf1, nf2, nf3, nf4]
  refine st_mv .nilIface ?_
  simp only [nf0, nf1, nf2, nf3, nf4]
  refine wpList_nil ?_
  show Code.wp _ _ _ _ _
  refine wp_ret ?_
  first | show bodyPost _ _ _ _ _ _ | (simp only [Exit.then, Exit.inBlock]; show bodyPost _ _ _ _ _ _)
  exact bodyPost_ret (results_tmp2 rfl _ _ _) rfl ⟨_, rfl, rfl, v3, B4, O4, n3, hat3.imp id (fun h k hk => by have := h k hk; omega), fr⟩
end
end Go.Proofs.YtmfdcgocfofokaaDoor

/- strings.Builder's String. -/
namespace Go.Proofs.YtmfdcgocfofokaaDoor
open Go.RowKit Go.WideShapes Go.ChangeShapes
set_option linter.unusedSimpArgs false
set_option linter.unusedVariables false

theorem us_none (W : World) (q : Option Addr) : (Builtin.unsafeString_ #[70, 3] 9 #[.pointer q, .int .i64 0]).run Tryd.prog W = .ok (.string .empty) W :=
  Lib.run_unsafeString_none W _ _ _ q
set_option maxHeartbeats 1000000 in
set_option maxRecDepth 100000 in
theorem bString_some (B b g cap : Nat) (p : Value) (cur : Array Value) (l : List UInt8) (w : World) (h0 : l ≠ []) (hbk : w.heap[b]? = some (.cells #[p, .slice (some ⟨g, 0, none⟩) l.length cap] 58 (0, 0)))
    (hbg : B ≤ g) (hg : w.heap[g]? = some (.cells cur 5 (0, 0))) (hnc : l.length ≤ cap) (hcm : cap ≤ maxLen) (hcs : cur.size = cap) (hcells : ∀ j x, l[j]? = some x → w.cell? ((⟨g, 0, none⟩ : Addr).add j) = some (.int .u8 x.toNat)) :
    Calls Tryd.prog 35 #[.pointer (some ⟨b, 0, none⟩)] w fun e w' => e = .returned (.string ⟨l.toArray⟩) ∧ Below B w w' := by
  have hl0 : l.length ≠ 0 := by simpa using h0
  have c1 : w.drew.cell? ⟨b, 1, none⟩ = some (.slice (some ⟨g, 0, none⟩) l.length cap) := by
    have : w.drew.heap[b]? = some (.cells #[p, .slice (some ⟨g, 0, none⟩) l.length cap] 58 (0, 0)) := hbk
    rw [Lib.cell_of_heap this]; rfl
  have hSD : (Builtin.unsafeSliceData_ #[56] 70 #[.slice (some ⟨g, 0, none⟩) l.length cap]).run Tryd.prog w.drew = .ok (.pointer (some ⟨g, 0, none⟩)) w.drew :=
    Lib.run_unsafeSliceData_row _ _ _ _ _ _ (by omega)
  have hUS : (Builtin.unsafeString_ #[70, 3] 9 #[.pointer (some ⟨g, 0, none⟩), .int .i64 l.length]).run Tryd.prog w.drew = .ok (.string ⟨l.toArray⟩) (w.drew.freeze ⟨g, 0, none⟩ l.length) := by
    refine Lib.run_unsafeString_row w.drew 70 3 9 5 Tryd.underlying70 bld_byte g cur.size (by have hg' : w.drew.heap[g]? = some (.cells cur 5 (0, 0)) := hg; simp [World.shape?, hg']) l h0 (by omega) (by unfold maxLen at hcm; omega) ?_
    intro j x hx
    exact hcells j x hx
  go_enter Tryd.func35, Tryd.ntmps35
  go_wp2
  go_region
  all_goals (go_wp2; go_ret; exact ⟨rfl, Lib.below_freeze (Below.drew (Below.refl B w)) (p := ⟨g, 0, none⟩) hbg _⟩)
set_option maxHeartbeats 1000000 in
set_option maxRecDepth 100000 in
theorem bString_nil (B b : Nat) (p : Value) (w : World) (hbk : w.heap[b]? = some (.cells #[p, .slice none 0 0] 58 (0, 0))) :
    Calls Tryd.prog 35 #[.pointer (some ⟨b, 0, none⟩)] w fun e w' => e = .returned (.string ⟨#[]⟩) ∧ Below B w w' := by
  have hUS := us_none
  have c1 : w.drew.cell? ⟨b, 1, none⟩ = some (.slice none 0 0) := by
    have : w.drew.heap[b]? = some (.cells #[p, .slice none 0 0] 58 (0, 0)) := hbk
    rw [Lib.cell_of_heap this]; rfl
  have hSD : (Builtin.unsafeSliceData_ #[56] 70 #[.slice none 0 0]).run Tryd.prog w.drew = .ok (.pointer none) w.drew := rfl
  go_enter Tryd.func35, Tryd.ntmps35
  go_wp2
  go_region
  all_goals (go_wp2; go_ret; exact ⟨rfl, Below.drew (Below.refl B w)⟩)
set_option maxHeartbeats 2000000 in
set_option maxRecDepth 100000 in
theorem bString_noroom (B b g : Nat) (p : Value) (cur : Array Value) (w : World) (hBw : B ≤ w.heap.size) (hbk : w.heap[b]? = some (.cells #[p, .slice (some ⟨g, 0, none⟩) 0 0] 58 (0, 0))) (hg : w.heap[g]? = some (.cells cur 5 (0, 0))) :
    Calls Tryd.prog 35 #[.pointer (some ⟨b, 0, none⟩)] w fun e w' => e = .returned (.string ⟨#[]⟩) ∧ Below B w w' := by
  have hUS := us_none
  have hlt : b < w.heap.size := by
    rcases Nat.lt_or_ge b w.heap.size with h' | h'
    · exact h'
    · simp [Array.getElem?_eq_none h'] at hbk
  have c1 : w.drew.cell? ⟨b, 1, none⟩ = some (.slice (some ⟨g, 0, none⟩) 0 0) := by
    have : w.drew.heap[b]? = some (.cells #[p, .slice (some ⟨g, 0, none⟩) 0 0] 58 (0, 0)) := hbk
    rw [Lib.cell_of_heap this]; rfl
  have hSD : (Builtin.unsafeSliceData_ #[56] 70 #[.slice (some ⟨g, 0, none⟩) 0 0]).run Tryd.prog w.drew = .ok (.pointer (some ⟨w.drew.heap.size, 0, none⟩)) (w.drew.alloc (.view ⟨g, 0, none⟩ 5)) :=
    Lib.run_unsafeSliceData_zero w.drew _ _ 5 Tryd.underlying70 ⟨g, 0, none⟩ 0 (5, cur.size) (by have hg' : w.drew.heap[g]? = some (.cells cur 5 (0, 0)) := hg; simp [World.shape?, hg'])
  have c2 : (w.drew.alloc (.view ⟨g, 0, none⟩ 5)).cell? ⟨b, 1, none⟩ = some (.slice (some ⟨g, 0, none⟩) 0 0) := by
    have : (w.drew.alloc (.view ⟨g, 0, none⟩ 5)).heap[b]? = _ := (Lib.alloc_old w.drew _ b hlt).trans hbk
    rw [Lib.cell_of_heap this]; rfl
  have c3 : (w.alloc (.view ⟨g, 0, none⟩ 5)).drew.cell? ⟨b, 1, none⟩ = some (.slice (some ⟨g, 0, none⟩) 0 0) := c2
  have c0 : w.cell? ⟨b, 1, none⟩ = some (.slice (some ⟨g, 0, none⟩) 0 0) := c1
  go_enter Tryd.func35, Tryd.ntmps35
  go_wp2
  go_region
  all_goals (go_wp2; go_ret; exact ⟨rfl, (Below.drew (Below.refl B w)).alloc hBw _⟩)
set_option maxHeartbeats 2000000 in
set_option maxRecDepth 100000 in
theorem bString_room (B b g cap : Nat) (p : Value) (w : World) (hc0 : cap ≠ 0) (hbk : w.heap[b]? = some (.cells #[p, .slice (some ⟨g, 0, none⟩) 0 cap] 58 (0, 0))) :
    Calls Tryd.prog 35 #[.pointer (some ⟨b, 0, none⟩)] w fun e w' => e = .returned (.string ⟨#[]⟩) ∧ Below B w w' := by
  have hUS := us_none
  have c1 : w.drew.cell? ⟨b, 1, none⟩ = some (.slice (some ⟨g, 0, none⟩) 0 cap) := by
    have : w.drew.heap[b]? = some (.cells #[p, .slice (some ⟨g, 0, none⟩) 0 cap] 58 (0, 0)) := hbk
    rw [Lib.cell_of_heap this]; rfl
  have hSD : (Builtin.unsafeSliceData_ #[56] 70 #[.slice (some ⟨g, 0, none⟩) 0 cap]).run Tryd.prog w.drew = .ok (.pointer (some ⟨g, 0, none⟩)) w.drew :=
    Lib.run_unsafeSliceData_row _ _ _ _ _ _ hc0
  clear hc0
  go_enter Tryd.func35, Tryd.ntmps35
  go_wp2
  go_region
  all_goals (go_wp2; go_ret; exact ⟨rfl, Below.drew (Below.refl B w)⟩)
/-- What the builder has, as a text. -/
theorem bString_calls {w : World} {base g : Nat} {p v : Value} {xs : List UInt8} (hB : Blk w g #[p, v] 58) (hO : OwnR w base 5 eByte v xs) (hbase : base ≤ w.heap.size) :
    Calls Tryd.prog 35 #[.pointer (some ⟨g, 0, none⟩)] w fun e w' => e = .returned (.string (str xs)) ∧ Below base w w' := by
  rcases hO.2 with ⟨rfl, h0⟩ | ⟨g', cap, cur, rfl, hbg, hg, hnc, hcm, hcs, htake⟩
  · cases xs with
    | nil => exact bString_nil base g p w hB
    | cons x r => cases h0
  · have hcs' : cur.size = cap := by have h : eByte.sz = 1 := rfl; rw [h] at hcs; omega
    cases xs with
    | nil =>
      by_cases hc : cap = 0
      · subst hc
        exact bString_noroom base g g' p cur w hbase hB hg
      · exact bString_room base g g' cap p w hc hB
    | cons x r =>
      refine bString_some base g g' cap p cur (x :: r) w (by simp) hB hbg hg hnc hcm hcs' fun j y hj => ?_
      exact World.ownsRow.cells (g := g') hO rfl j _ (by rw [eByte_all, List.getElem?_map, hj]; rfl)
theorem bString_bel {w0 w : World} {g : Nat} {p v : Value} {xs : List UInt8} (hB : Blk w g #[p, v] 58) (hO : OwnR w w0.heap.size 5 eByte v xs) (bel : Below w0.heap.size w0 w) :
    Calls Tryd.prog 35 #[.pointer (some ⟨g, 0, none⟩)] w fun e w' => ∃ u, e = .returned u ∧ u = .string (str xs) ∧ Below w0.heap.size w0 w' :=
  (bString_calls hB hO bel.size).mono fun e w' ⟨h1, h2⟩ => ⟨_, h1, rfl, bel.trans h2⟩
end Go.Proofs.YtmfdcgocfofokaaDoor

/- Rows of events: printed, compared, those that are so. -/
namespace Go.Proofs.YtmfdcgocfofokaaDoor
open Go.RowKit Go.WideShapes Go.ChangeShapes
set_option linter.unusedSimpArgs false
set_option linter.unusedVariables false

theorem g_zero_58 : ZeroOf Tryd.prog 58 #[.pointer none, .slice none 0 0] := zeroOf (z := .agg #[.pointer none, .slice none 0 0]) (by kernel_rfl) rfl
theorem g_zero_23 : ZeroOf Tryd.prog 23 #[.int .i64 0, .int .i64 0, .int .i64 0, .int .i64 0, .int .i64 0] := zeroOf (z := .agg #[.int .i64 0, .int .i64 0, .int .i64 0, .int .i64 0, .int .i64 0]) (by kernel_rfl) rfl
theorem g_run_call_12_1 {o : Oper} {a : Act} (x0 : Operand) {ts : Array TypeId} (ho : o.op = .call { callee := .value (.func 12), args := #[x0], argTypes := ts }) {v0 : Value} (h0 : a.eval x0 = v0) (W : World) : (execOp a.eval o).run Tryd.prog W = .ok (.enter 12 #[v0]) W := by
  unfold execOp
  simp only [ho]
  subst h0
  go_simp
theorem g_run_call_34_2 {o : Oper} {a : Act} (x0 : Operand) (x1 : Operand) {ts : Array TypeId} (ho : o.op = .call { callee := .value (.func 34), args := #[x0, x1], argTypes := ts }) {v0 : Value} (h0 : a.eval x0 = v0) {v1 : Value} (h1 : a.eval x1 = v1) (W : World) : (execOp a.eval o).run Tryd.prog W = .ok (.enter 34 #[v0, v1]) W := by
  unfold execOp
  simp only [ho]
  subst h0 h1
  go_simp
theorem g_run_call_35_1 {o : Oper} {a : Act} (x0 : Operand) {ts : Array TypeId} (ho : o.op = .call { callee := .value (.func 35), args := #[x0], argTypes := ts }) {v0 : Value} (h0 : a.eval x0 = v0) (W : World) : (execOp a.eval o).run Tryd.prog W = .ok (.enter 35 #[v0]) W := by
  unfold execOp
  simp only [ho]
  subst h0
  go_simp
theorem g_fld_23_0 : FieldAt Tryd.prog 23 0 0 := fieldAt_of (s := 0) Tryd.underlying23 (by kernel_rfl)
theorem g_one_3 : One Tryd.prog 3 := one_of Tryd.underlying3 rfl (by kernel_rfl)
theorem g_run_callc_31_1_1 {o : Oper} {a : Act} (x : Operand) (x0 : Operand) {ts : Array TypeId} (ho : o.op = .call { callee := .value x, args := #[x0], argTypes := ts }) {c0 : Value} (hx : a.eval x = .func (.func 31) #[] #[c0]) {v0 : Value} (h0 : a.eval x0 = v0) (W : World) : (execOp a.eval o).run Tryd.prog W = .ok (.enter 31 #[v0, c0]) W := by
  unfold execOp
  simp only [ho]
  subst h0
  generalize a.eval = ρ at *
  go_simp
theorem g_run_lit_32_1 {o : Oper} {a : Act} (x0 : Operand) (ho : o.op = .buildSlice 32 1 #[(0, x0)]) {m0 : TEvt} (h0 : a.eval x0 = .agg #[.int .i64 m0.1, .int .i64 m0.2.1, .int .i64 m0.2.2.1, .int .i64 m0.2.2.2.1, .int .i64 m0.2.2.2.2]) (W : World) : (execOp a.eval o).run Tryd.prog W = .ok (.value (.slice (some ⟨W.heap.size, 0, none⟩) 1 1)) (W.alloc (.cells #[.int .i64 m0.1, .int .i64 m0.2.1, .int .i64 m0.2.2.1, .int .i64 m0.2.2.2.1, .int .i64 m0.2.2.2.2] 23)) := by
  unfold execOp
  simp only [ho, List.map_toArray, List.map_cons, List.map_nil, h0]
  go_simp
theorem g_run_call_30_2 {o : Oper} {a : Act} (x0 : Operand) (x1 : Operand) {ts : Array TypeId} (ho : o.op = .call { callee := .value (.func 30), args := #[x0, x1], argTypes := ts }) {v0 : Value} (h0 : a.eval x0 = v0) {v1 : Value} (h1 : a.eval x1 = v1) (W : World) : (execOp a.eval o).run Tryd.prog W = .ok (.enter 30 #[v0, v1]) W := by
  unfold execOp
  simp only [ho]
  subst h0 h1
  go_simp
theorem g_fld_23_1 : FieldAt Tryd.prog 23 1 1 := fieldAt_of (s := 0) Tryd.underlying23 (by kernel_rfl)
theorem g_run_callc_32_1_1 {o : Oper} {a : Act} (x : Operand) (x0 : Operand) {ts : Array TypeId} (ho : o.op = .call { callee := .value x, args := #[x0], argTypes := ts }) {c0 : Value} (hx : a.eval x = .func (.func 32) #[] #[c0]) {v0 : Value} (h0 : a.eval x0 = v0) (W : World) : (execOp a.eval o).run Tryd.prog W = .ok (.enter 32 #[v0, c0]) W := by
  unfold execOp
  simp only [ho]
  subst h0
  generalize a.eval = ρ at *
  go_simp
theorem g_run_callc_33_1_2 {o : Oper} {a : Act} (x : Operand) (x0 : Operand) {ts : Array TypeId} (ho : o.op = .call { callee := .value x, args := #[x0], argTypes := ts }) {c0 c1 : Value} (hx : a.eval x = .func (.func 33) #[] #[c0, c1]) {v0 : Value} (h0 : a.eval x0 = v0) (W : World) : (execOp a.eval o).run Tryd.prog W = .ok (.enter 33 #[v0, c0, c1]) W := by
  unfold execOp
  simp only [ho]
  subst h0
  generalize a.eval = ρ at *
  go_simp
def evK (k : Int) (p : TEvt) : Bool := decide (p.1 = k)
def evT (k : Int) (p : TEvt) : Bool := decide (p.2.1 = k)
def evKT (k t : Int) (p : TEvt) : Bool := decide (p.1 = k) && decide (p.2.1 = t)

attribute [local irreducible] Go.wpList Go.Code.wp
set_option maxRecDepth 100000 in
set_option maxHeartbeats 4000000 in
theorem same_calls (A B : Option Addr) (xs ys : List TEvt) (cap cap' : Nat) (hcap : xs.length ≤ cap) (hcap' : ys.length ≤ cap') (hl : xs.length ≤ 1000000) (hl' : ys.length ≤ 1000000) (w : World) (hr : Reads w A (eEvt.all xs)) (hr' : Reads w B (eEvt.all ys)) : Calls Tryd.prog 15 #[.slice A xs.length cap, .slice B ys.length cap'] w fun e w' => e = .returned (.bool (decide (xs = ys))) ∧ Below w.heap.size w w' := by
  have bel : Below w.heap.size w w := Below.refl _ _
  go_enter Tryd.func15, Tryd.ntmps15
  refine wp_seq ?_
  refine wp_region_lit ?_
  refine st_mv (.bool false) ?_
  simp only [nf0, nf1, nf2, nf3, nf4]
  refine wpList_nil ?_
  show Code.wp _ _ _ _ _
  refine wp_seq ?_
  refine wp_seq ?_
  refine wp_region_lit ?_
  refine st_mv (.slice A xs.length cap) ?_
  simp only [nf0, nf1, nf2, nf3, nf4]
  refine st_value (v := (.int .i64 (xs.length : Int))) (by rfl) (run_len (.tmp 6) rfl ⟨_, Tryd.underlying32⟩ rfl w) ?_
  simp only [nf0, nf1, nf2, nf3, nf4]
  refine st_mv (.slice B ys.length cap') ?_
  simp only [nf0, nf1, nf2, nf3, nf4]
  refine st_value (v := (.int .i64 (ys.length : Int))) (by rfl) (run_len (.tmp 8) rfl ⟨_, Tryd.underlying32⟩ rfl w) ?_
  simp only [nf0, nf1, nf2, nf3, nf4]
  refine st_value (v := (.bool (!decide ((xs.length : Int) = (ys.length : Int))))) (by rfl) (run_neq_int (.tmp 7) (.tmp 9) rfl rfl rfl w) ?_
  simp only [nf0, nf1, nf2, nf3, nf4]
  refine wpList_nil ?_
  show Code.wp _ _ _ _ _
  cases hg1 : decide ((xs.length : Int) = (ys.length : Int))
  · have hp2 := of_decide_eq_false hg1
    refine wp_cond_true rfl ?_
    refine wp_seq ?_
    refine wp_region_lit ?_
    refine st_mv (.bool false) ?_
    simp only [nf0, nf1, nf2, nf3, nf4]
    refine wpList_nil ?_
    show Code.wp _ _ _ _ _
    refine wp_ret ?_
    first | show bodyPost _ _ _ _ _ _ | (simp only [Exit.then, Exit.inBlock]; show bodyPost _ _ _ _ _ _)
    have hE : ¬ xs = ys := fun e => by subst e; omega
    exact bodyPost_ret (results_tmp rfl _ _ _) rfl ⟨by rw [decide_eq_false hE]; rfl, bel⟩
  have hp3 := of_decide_eq_true hg1
  refine wp_cond_false rfl ?_
  refine wp_skip ?_
  show Code.wp _ _ _ _ _
  refine wp_seq ?_
  refine wp_seq ?_
  refine wp_region_lit ?_
  refine st_mv (.slice A xs.length cap) ?_
  simp only [nf0, nf1, nf2, nf3, nf4]
  refine st_value (v := (.int .i64 (xs.length : Int))) (by rfl) (run_len (.tmp 11) rfl ⟨_, Tryd.underlying32⟩ rfl w) ?_
  simp only [nf0, nf1, nf2, nf3, nf4]
  refine st_mv (.int .i64 0) ?_
  simp only [nf0, nf1, nf2, nf3, nf4]
  refine wpList_nil ?_
  show Code.wp _ _ _ _ _
  refine wp_block ?_
  refine wp_loop_left (fun n_ a_ wr_ => (fun J4 => ∃ (k : Nat), n_ = xs.length - k ∧ a_ = ⟨#[.slice A xs.length cap, .slice B ys.length cap', J4 2, J4 3, J4 4, J4 5, J4 6, J4 7, J4 8, J4 9, J4 10, .slice A xs.length cap, .int .i64 (xs.length : Int), .int .i64 (k : Int), J4 14, J4 15, J4 16, J4 17, J4 18, J4 19, J4 20, J4 21, J4 22, J4 23, J4 24, J4 25], []⟩ ∧ Below w.heap.size w wr_ ∧ (k ≤ xs.length) ∧ (∀ j, j < k → evtAt xs j = evtAt ys j)) (jk a_)) (xs.length - 0) ⟨0, rfl, rfl, bel, (Nat.zero_le _), (fun j h => absurd h (Nat.not_lt_zero _))⟩ ?_
  clear bel
  intro n_ a_ w5 h_
  revert h_
  generalize jk a_ = J4
  rintro ⟨k, hms, rfl, bel, hk, hS⟩
  refine wp_seq ?_
  refine wp_region_lit ?_
  refine st_value (v := (.bool (decide ((k : Int) < (xs.length : Int))))) (by rfl) (run_lss (.tmp 13) (.tmp 12) rfl rfl rfl w5) ?_
  simp only [nf0, nf1, nf2, nf3, nf4]
  refine wpList_nil ?_
  show Code.wp _ _ _ _ _
  refine wp_seq ?_
  cases hg6 : decide ((k : Int) < (xs.length : Int))
  · have hp7 := of_decide_eq_false hg6
    refine wp_cond_false rfl ?_
    refine wp_exit ?_
    show Code.wp _ _ _ _ _
    refine wp_seq ?_
    refine wp_region_lit ?_
    refine st_mv (.bool true) ?_
    simp only [nf0, nf1, nf2, nf3, nf4]
    refine wpList_nil ?_
    show Code.wp _ _ _ _ _
    refine wp_ret ?_
    first | show bodyPost _ _ _ _ _ _ | (simp only [Exit.then, Exit.inBlock]; show bodyPost _ _ _ _ _ _)
    have hE : xs = ys := evt_ext (by omega) fun j hj => hS j (by omega)
    exact bodyPost_ret (results_tmp rfl _ _ _) rfl ⟨by rw [decide_eq_true hE]; rfl, bel⟩
  have hp8 := of_decide_eq_true hg6
  refine wp_cond_true rfl ?_
  refine wp_skip ?_
  show Code.wp _ _ _ _ _
  refine wp_seq ?_
  refine wp_block ?_
  refine wp_seq ?_
  refine wp_region_lit ?_
  refine st_mv (.int .i64 (k : Int)) ?_
  simp only [nf0, nf1, nf2, nf3, nf4]
  refine st_mv (.int .i64 (k : Int)) ?_
  simp only [nf0, nf1, nf2, nf3, nf4]
  refine wpList_nil ?_
  show Code.wp _ _ _ _ _
  refine wp_seq ?_
  obtain ⟨b9, o10, rfl, _⟩ := (hr.same bel).at_ (by rw [Enc.all_length]; exact Nat.mul_pos (by omega) (by decide))
  obtain ⟨b11, o12, rfl, _⟩ := (hr'.same bel).at_ (by rw [Enc.all_length]; exact Nat.mul_pos (by omega) (by decide))
  refine wp_region_facts_lit (C := Abv w5) (G := G0) [.val (.slice (some ⟨b9, o10, none⟩) xs.length cap), .val (.int .i64 (k : Int)), .val (.pointer (some ⟨b9, o10 + k * 5, none⟩)), .val (.agg #[.int .i64 ((evtAt xs k).1), .int .i64 ((evtAt xs k).2.1), .int .i64 ((evtAt xs k).2.2.1), .int .i64 ((evtAt xs k).2.2.2.1), .int .i64 ((evtAt xs k).2.2.2.2)]), .val (.slice (some ⟨b11, o12, none⟩) ys.length cap'), .val (.int .i64 (k : Int)), .val (.pointer (some ⟨b11, o12 + k * 5, none⟩)), .val (.agg #[.int .i64 ((evtAt ys k).1), .int .i64 ((evtAt ys k).2.1), .int .i64 ((evtAt ys k).2.2.1), .int .i64 ((evtAt ys k).2.2.2.1), .int .i64 ((evtAt ys k).2.2.2.2)]), .val (.bool (!decide ((evtAt xs k) = (evtAt ys k))))] (by kernel_rfl) (by kernel_rfl) (Abv.start _) ?_
  refine fsteps_val (fun W hC hh => opok_value (v := (.slice (some ⟨b9, o10, none⟩) xs.length cap)) (by rfl) (by rfl) rfl hC (G0.refl _)) ?_
  simp only [nf0, nf1, nf2, nf3, nf4]
  refine fsteps_val (fun W hC hh => opok_value (v := (.int .i64 (k : Int))) (by rfl) (by rfl) rfl hC (G0.refl _)) ?_
  simp only [nf0, nf1, nf2, nf3, nf4]
  refine fsteps_val (fun W hC hh => opok_value (v := (.pointer (some ⟨b9, o10 + k * 5, none⟩))) (by rfl) (run_indexAddrN (.tmp 16) (.tmp 17) rfl Tryd.underlying32 slEvt.sz (i := k) rfl rfl (by omega) W) rfl hC (G0.refl _)) ?_
  simp only [nf0, nf1, nf2, nf3, nf4]
  refine fsteps_val (fun W hC hh => opok_value (v := (.agg #[.int .i64 ((evtAt xs k).1), .int .i64 ((evtAt xs k).2.1), .int .i64 ((evtAt xs k).2.2.1), .int .i64 ((evtAt xs k).2.2.2.1), .int .i64 ((evtAt xs k).2.2.2.2)])) (by rfl) (run_loadE (E := eEvt) (.tmp 18) rfl aggEvt rfl (hr.same (bl_step bel hC)) (evtAt_get (by omega))) rfl hC (G0.refl _)) ?_
  simp only [nf0, nf1, nf2, nf3, nf4]
  refine fsteps_val (fun W hC hh => opok_value (v := (.slice (some ⟨b11, o12, none⟩) ys.length cap')) (by rfl) (by rfl) rfl hC (G0.refl _)) ?_
  simp only [nf0, nf1, nf2, nf3, nf4]
  refine fsteps_val (fun W hC hh => opok_value (v := (.int .i64 (k : Int))) (by rfl) (by rfl) rfl hC (G0.refl _)) ?_
  simp only [nf0, nf1, nf2, nf3, nf4]
  refine fsteps_val (fun W hC hh => opok_value (v := (.pointer (some ⟨b11, o12 + k * 5, none⟩))) (by rfl) (run_indexAddrN (.tmp 20) (.tmp 21) rfl Tryd.underlying32 slEvt.sz (i := k) rfl rfl (by omega) W) rfl hC (G0.refl _)) ?_
  simp only [nf0, nf1, nf2, nf3, nf4]
  refine fsteps_val (fun W hC hh => opok_value (v := (.agg #[.int .i64 ((evtAt ys k).1), .int .i64 ((evtAt ys k).2.1), .int .i64 ((evtAt ys k).2.2.1), .int .i64 ((evtAt ys k).2.2.2.1), .int .i64 ((evtAt ys k).2.2.2.2)])) (by rfl) (run_loadE (E := eEvt) (.tmp 22) rfl aggEvt rfl (hr'.same (bl_step bel hC)) (evtAt_get (by omega))) rfl hC (G0.refl _)) ?_
  simp only [nf0, nf1, nf2, nf3, nf4]
  refine fsteps_val (fun W hC hh => opok_value (v := (.bool (!decide ((evtAt xs k) = (evtAt ys k))))) (by rfl) (run_neq_agg (.tmp 19) (.tmp 23) rfl eqEvt (p := (evtAt xs k)) (q := (evtAt ys k)) rfl rfl trivial trivial W) rfl hC (G0.refl _)) ?_
  simp only [nf0, nf1, nf2, nf3, nf4]
  refine fsteps_nil fun w13 hC _ => ?_
  replace hC : Below w5.heap.size w5 w13 := hC
  replace bel := bl_step bel hC
  clear hC
  show Code.wp _ _ _ _ _
  cases hg14 : decide ((evtAt xs k) = (evtAt ys k))
  · have hp15 := of_decide_eq_false hg14
    refine wp_cond_true rfl ?_
    refine wp_seq ?_
    refine wp_region_lit ?_
    refine st_mv (.bool false) ?_
    simp only [nf0, nf1, nf2, nf3, nf4]
    refine wpList_nil ?_
    show Code.wp _ _ _ _ _
    refine wp_ret ?_
    first | show bodyPost _ _ _ _ _ _ | (simp only [Exit.then, Exit.inBlock]; show bodyPost _ _ _ _ _ _)
    have hE : ¬ xs = ys := fun e => hp15 (by rw [e])
    exact bodyPost_ret (results_tmp rfl _ _ _) rfl ⟨by rw [decide_eq_false hE]; rfl, bel⟩
  have hp16 := of_decide_eq_true hg14
  refine wp_cond_false rfl ?_
  refine wp_skip ?_
  show Code.wp _ _ _ _ _
  refine wp_region_lit ?_
  refine st_value (v := (.int .i64 ((k : Int) + 1))) (by rfl) (run_add_in (.tmp 13) (.const (.int .i64 1)) rfl rfl rfl (by omega) w13) ?_
  simp only [nf0, nf1, nf2, nf3, nf4]
  refine st_mv (.int .i64 ((k : Int) + 1)) ?_
  simp only [nf0, nf1, nf2, nf3, nf4]
  refine wpList_nil ?_
  show ∃ m, m < _ ∧ _
  exact ⟨_, (by omega), (k + 1), rfl, rfl, bel, (by omega), (fun j h => by rcases Nat.lt_or_ge j k with g | g; exact hS j g; obtain rfl : j = k := (by omega); exact hp16)⟩
set_option maxRecDepth 100000 in
set_option maxHeartbeats 4000000 in
theorem printAll_calls (A : Option Addr) (xs : List TEvt) (cap : Nat) (hcap : xs.length ≤ cap) (hl : xs.length ≤ 10000) (hok : ∀ e ∈ xs, okEvt e) (w : World) (hr : Reads w A (eEvt.all xs)) : Calls Tryd.prog 21 #[.slice A xs.length cap] w fun e w' => e = .returned (.string (str (prA xs))) ∧ Below w.heap.size w w' := by
  have bel : Below w.heap.size w w := Below.refl _ _
  have hpl : ∀ k, (prA (xs.take k)).length ≤ 93 * xs.length := fun k => by have h1_ := prA_len (xs := xs.take k) fun e he => hok e (List.mem_of_mem_take he); have h2_ : (xs.take k).length ≤ xs.length := (by rw [List.length_take]; omega); omega
  go_enter Tryd.func21, Tryd.ntmps21
  refine wp_seq ?_
  refine wp_region_lit ?_
  refine st_mv (.string (str [])) ?_
  simp only [nf0, nf1, nf2, nf3, nf4]
  refine wpList_nil ?_
  show Code.wp _ _ _ _ _
  refine wp_seq ?_
  refine wp_region_lit ?_
  refine st_new (cs := #[.pointer none, .slice none 0 0]) (t := 58) (by rfl) (run_allocV rfl g_zero_58 _) ?_
  intro g1 w2 B3 hb4 lo5
  simp only [nf0, nf1, nf2, nf3, nf4]
  replace lo5 := low_le bel lo5
  replace bel := bl_step bel hb4
  clear hb4
  refine wpList_nil ?_
  show Code.wp _ _ _ _ _
  refine wp_seq ?_
  refine wp_seq ?_
  refine wp_region_lit ?_
  refine st_mv (.slice A xs.length cap) ?_
  simp only [nf0, nf1, nf2, nf3, nf4]
  refine st_value (v := (.int .i64 (xs.length : Int))) (by rfl) (run_len (.tmp 6) rfl ⟨_, Tryd.underlying32⟩ rfl w2) ?_
  simp only [nf0, nf1, nf2, nf3, nf4]
  refine st_mv (.int .i64 0) ?_
  simp only [nf0, nf1, nf2, nf3, nf4]
  refine wpList_nil ?_
  show Code.wp _ _ _ _ _
  refine wp_block ?_
  have O6 : OwnR w2 w.heap.size 5 eByte (.slice none 0 0) [] := OwnR.nil _ _ _ _
  have n7 : Off (.slice none 0 0) g1 := Off.nil _
  refine wp_loop_left (fun n_ a_ wr_ => (fun J9 => ∃ (k : Nat) (pp : Value) (vv : Value), n_ = xs.length - k ∧ a_ = ⟨#[.slice A xs.length cap, J9 1, .string (str []), .pointer (some ⟨g1, 0, none⟩), J9 4, J9 5, .slice A xs.length cap, .int .i64 (xs.length : Int), .int .i64 (k : Int), J9 9, J9 10, J9 11, J9 12, J9 13, J9 14, J9 15, J9 16, J9 17], []⟩ ∧ Blk wr_ g1 #[pp, vv] 58 ∧ OwnR wr_ w.heap.size 5 eByte vv (prA (xs.take k)) ∧ Off vv g1 ∧ Below w.heap.size w wr_ ∧ (k ≤ xs.length) ∧ (Bp g1 pp)) (jk a_)) (xs.length - 0) ⟨0, (.pointer none), (.slice none 0 0), rfl, rfl, B3, O6, n7, bel, (Nat.zero_le _), (.inl rfl)⟩ ?_
  clear B3
  clear O6
  clear n7
  clear bel
  intro n_ a_ w11 h_
  revert h_
  generalize jk a_ = J9
  rintro ⟨k, pp, vv, hms, rfl, B3, O6, n10, bel, hk, hpp⟩
  refine wp_seq ?_
  refine wp_region_lit ?_
  refine st_value (v := (.bool (decide ((k : Int) < (xs.length : Int))))) (by rfl) (run_lss (.tmp 8) (.tmp 7) rfl rfl rfl w11) ?_
  simp only [nf0, nf1, nf2, nf3, nf4]
  refine wpList_nil ?_
  show Code.wp _ _ _ _ _
  refine wp_seq ?_
  cases hg12 : decide ((k : Int) < (xs.length : Int))
  · have hp13 := of_decide_eq_false hg12
    refine wp_cond_false rfl ?_
    refine wp_exit ?_
    show Code.wp _ _ _ _ _
    refine wp_seq ?_
    obtain rfl : k = xs.length := by omega
    have O14 := O6
    rw [List.take_length] at O14
    clear O6
    refine wp_region_lit ?_
    refine st_call (by rfl) (g_run_call_35_1 (.tmp 3) rfl rfl _) (bString_bel B3 O14 bel) ?_
    rintro _ w15 ⟨rfl, hf16⟩
    simp only [nf0, nf1, nf2, nf3, nf4]
    replace bel := hf16
    clear B3
    clear O14
    refine st_mv (.string (str (prA xs))) ?_
    simp only [nf0, nf1, nf2, nf3, nf4]
    refine wpList_nil ?_
    show Code.wp _ _ _ _ _
    refine wp_ret ?_
    first | show bodyPost _ _ _ _ _ _ | (simp only [Exit.then, Exit.inBlock]; show bodyPost _ _ _ _ _ _)
    exact bodyPost_ret (results_tmp rfl _ _ _) rfl ⟨rfl, bel⟩
  have hp17 := of_decide_eq_true hg12
  refine wp_cond_true rfl ?_
  refine wp_skip ?_
  show Code.wp _ _ _ _ _
  refine wp_seq ?_
  refine wp_block ?_
  refine wp_seq ?_
  obtain ⟨b18, o19, rfl, _⟩ := (hr.same bel).at_ (by rw [Enc.all_length]; exact Nat.mul_pos (by omega) (by decide))
  refine wp_region_lit ?_
  refine st_value (v := (.pointer (some ⟨b18, o19 + k * 5, none⟩))) (by rfl) (run_indexAddrN (.tmp 6) (.tmp 8) rfl Tryd.underlying32 slEvt.sz (i := k) rfl rfl (by omega) w11) ?_
  simp only [nf0, nf1, nf2, nf3, nf4]
  refine st_value (v := (.agg #[.int .i64 ((evtAt xs k).1), .int .i64 ((evtAt xs k).2.1), .int .i64 ((evtAt xs k).2.2.1), .int .i64 ((evtAt xs k).2.2.2.1), .int .i64 ((evtAt xs k).2.2.2.2)])) (by rfl) (run_loadE (E := eEvt) (.tmp 10) rfl aggEvt rfl (hr.same bel) (evtAt_get (by omega))) ?_
  simp only [nf0, nf1, nf2, nf3, nf4]
  refine st_new (cs := #[.int .i64 0, .int .i64 0, .int .i64 0, .int .i64 0, .int .i64 0]) (t := 23) (by rfl) (run_allocV rfl g_zero_23 _) ?_
  intro g20 w21 B22 hb23 lo24
  simp only [nf0, nf1, nf2, nf3, nf4]
  have n25 := B3.ne lo24
  have n26 := O6.off lo24
  replace lo24 := low_le bel lo24
  replace B3 := B3.below hb23
  replace O6 := O6.same hb23
  replace bel := bl_step bel hb23
  clear hb23
  refine st_row (by rfl) (run_storeW (.tmp 5) (.tmp 11) rfl (cs := #[.int .i64 ((evtAt xs k).1), .int .i64 ((evtAt xs k).2.1), .int .i64 ((evtAt xs k).2.2.1), .int .i64 ((evtAt xs k).2.2.2.1), .int .i64 ((evtAt xs k).2.2.2.2)]) aggEvt rfl rfl B22 rfl (by simp [Value.oneCell'])) B22 ?_
  intro w27 B29 hg28
  simp only [nf0, nf1, nf2, nf3, nf4]
  replace B3 := B3.kept hg28 n25
  replace O6 := O6.keptB hg28 n26
  replace bel := bl_kept0 bel hg28 lo24
  clear hg28
  clear B22
  refine wpList_nil ?_
  show Code.wp _ _ _ _ _
  have hel := prE_len (hok _ (evtAt_mem (l := xs) (i := k) (by omega)))
  refine wp_region_lit ?_
  refine st_value (v := (.agg #[.int .i64 ((evtAt xs k).1), .int .i64 ((evtAt xs k).2.1), .int .i64 ((evtAt xs k).2.2.1), .int .i64 ((evtAt xs k).2.2.2.1), .int .i64 ((evtAt xs k).2.2.2.2)])) (by rfl) (run_loadW (.tmp 5) rfl (cs := #[.int .i64 ((evtAt xs k).1), .int .i64 ((evtAt xs k).2.1), .int .i64 ((evtAt xs k).2.2.1), .int .i64 ((evtAt xs k).2.2.2.1), .int .i64 ((evtAt xs k).2.2.2.2)]) aggEvt rfl B29) ?_
  simp only [nf0, nf1, nf2, nf3, nf4]
  refine st_call1 (v := (.string (str (prE (evtAt xs k))))) (by rfl) (g_run_call_12_1 (.tmp 12) rfl rfl _) (print_calls (evtAt xs k) (hok _ (evtAt_mem (by omega))) w27) ?_
  intro w30 hb31
  simp only [nf0, nf1, nf2, nf3, nf4]
  replace B3 := B3.below hb31
  replace O6 := O6.same hb31
  replace B29 := B29.below hb31
  replace bel := bl_step bel hb31
  clear hb31
  refine st_value (v := (.string (str ((prE (evtAt xs k)) ++ [10])))) (by rfl) (run_add_text (.tmp 13) (.const (.string ⟨#[10]⟩)) (l := (prE (evtAt xs k))) (m := [10]) rfl rfl rfl (by (try simp only [List.length_append, List.length_cons, List.length_nil]); omega) w30) ?_
  simp only [nf0, nf1, nf2, nf3, nf4]
  refine st_call (by rfl) (g_run_call_34_2 (.tmp 3) (.tmp 14) rfl rfl rfl _) (writeString_calls ((prE (evtAt xs k)) ++ [10]) hpp B3 O6 n10 bel.size (by have h1_ := hpl k; have h2_ := prE_len (hok _ (evtAt_mem (l := xs) (i := k) (by omega))); simp only [List.length_append, List.length_cons, List.length_nil]; omega)) ?_
  rintro _ w38 ⟨rfl, v35, B32, O33, n34, hat36, hf39⟩
  simp only [nf0, nf1, nf2, nf3, nf4]
  have n40 : Off v35 g20 := (n26 : Off _ _).hatB B29.lt hat36
  replace B29 := B29.fr hf39 (nib n25.symm n26)
  replace bel := bl_b bel hf39 bel.size lo5 (fun j hj => (O6.lt j hj).1)
  clear hf39
  clear B3
  clear O6
  clear hat36
  refine wpList_nil ?_
  show Code.wp _ _ _ _ _
  refine wp_region_lit ?_
  refine st_value (v := (.int .i64 ((k : Int) + 1))) (by rfl) (run_add_in (.tmp 8) (.const (.int .i64 1)) rfl rfl rfl (by omega) w38) ?_
  simp only [nf0, nf1, nf2, nf3, nf4]
  refine st_mv (.int .i64 ((k : Int) + 1)) ?_
  simp only [nf0, nf1, nf2, nf3, nf4]
  refine wpList_nil ?_
  show ∃ m, m < _ ∧ _
  exact ⟨_, (by omega), (k + 1), _, _, rfl, rfl, B32, (by have h_ := O33; rw [← prA_take (by omega)] at h_; exact h_), n34, bel, (by omega), (.inr rfl)⟩
set_option maxRecDepth 100000 in
set_option maxHeartbeats 4000000 in
theorem isOf_calls {w : World} {p : TEvt} {k : Int} {ck : Nat} (hk : Blk w ck #[.int .i64 k] 3) : Calls Tryd.prog 31 #[.agg (eEvt.enc p).toArray, .pointer (some ⟨ck, 0, none⟩)] w fun e w' => e = .returned (.bool (evK k p)) ∧ Below w.heap.size w w' := by
  have bel : Below w.heap.size w w := Below.refl _ _
  go_enter Tryd.func31, Tryd.ntmps31
  refine wp_seq ?_
  refine wp_region_lit ?_
  refine st_new (cs := #[.int .i64 p.1, .int .i64 p.2.1, .int .i64 p.2.2.1, .int .i64 p.2.2.2.1, .int .i64 p.2.2.2.2]) (t := 23) (by rfl) (run_boxV (.tmp 0) rfl (v := (.agg #[.int .i64 p.1, .int .i64 p.2.1, .int .i64 p.2.2.1, .int .i64 p.2.2.2.1, .int .i64 p.2.2.2.2])) rfl rfl _) ?_
  intro g1 w2 B3 hb4 lo5
  simp only [nf0, nf1, nf2, nf3, nf4]
  have n6 := hk.ne lo5
  replace lo5 := low_le bel lo5
  replace hk := hk.below hb4
  replace bel := bl_step bel hb4
  clear hb4
  refine st_mv (.bool false) ?_
  simp only [nf0, nf1, nf2, nf3, nf4]
  refine wpList_nil ?_
  show Code.wp _ _ _ _ _
  refine wp_seq ?_
  refine wp_region_lit ?_
  refine st_value (v := (.pointer (some ⟨g1, 0, none⟩))) (by rfl) (run_fieldA (.tmp 2) rfl g_fld_23_0 rfl rfl w2) ?_
  simp only [nf0, nf1, nf2, nf3, nf4]
  refine st_value (v := (.int .i64 p.1)) (by rfl) (run_loadB (.tmp 4) rfl g_one_3 rfl B3 rfl) ?_
  simp only [nf0, nf1, nf2, nf3, nf4]
  refine st_value (v := (.int .i64 k)) (by rfl) (run_loadB (.tmp 1) rfl g_one_3 rfl hk rfl) ?_
  simp only [nf0, nf1, nf2, nf3, nf4]
  refine st_value (v := (.bool (decide (p.1 = k)))) (by rfl) (run_eql_int (.tmp 5) (.tmp 6) rfl rfl rfl w2) ?_
  simp only [nf0, nf1, nf2, nf3, nf4]
  refine st_mv (.bool (decide (p.1 = k))) ?_
  simp only [nf0, nf1, nf2, nf3, nf4]
  refine wpList_nil ?_
  show Code.wp _ _ _ _ _
  refine wp_ret ?_
  first | show bodyPost _ _ _ _ _ _ | (simp only [Exit.then, Exit.inBlock]; show bodyPost _ _ _ _ _ _)
  exact bodyPost_ret (results_tmp rfl _ _ _) rfl ⟨rfl, bel⟩
set_option maxRecDepth 100000 in
set_option maxHeartbeats 4000000 in
theorem someOf_calls {w : World} {k : Int} {ck : Nat} (hk : Blk w ck #[.int .i64 k] 3) {A : Option Addr} {xs : List TEvt} {cap : Nat} (hcap : xs.length ≤ cap) (hl : xs.length ≤ 10000) (hr : Reads w A (eEvt.all xs)) : Calls Tryd.prog 30 #[.slice A xs.length cap, .func (.func 31) #[] #[.pointer (some ⟨ck, 0, none⟩)]] w fun e w' => ∃ v, e = .returned v ∧ OwnR w' w.heap.size 23 eEvt v (xs.filter (evK k)) ∧ Below w.heap.size w w' := by
  have bel : Below w.heap.size w w := Below.refl _ _
  go_enter Tryd.func30, Tryd.ntmps30
  refine wp_seq ?_
  refine wp_region_lit ?_
  have O1 : OwnR w w.heap.size 23 eEvt (.slice none 0 0) [] := OwnR.nil _ _ _ _
  have n3 := Off.nil ck
  refine st_mv (.slice none 0 0) ?_
  simp only [nf0, nf1, nf2, nf3, nf4]
  refine wpList_nil ?_
  show Code.wp _ _ _ _ _
  refine wp_seq ?_
  refine wp_seq ?_
  refine wp_region_lit ?_
  refine st_mv (.slice A xs.length cap) ?_
  simp only [nf0, nf1, nf2, nf3, nf4]
  refine st_value (v := (.int .i64 (xs.length : Int))) (by rfl) (run_len (.tmp 7) rfl ⟨_, Tryd.underlying32⟩ rfl w) ?_
  simp only [nf0, nf1, nf2, nf3, nf4]
  refine st_mv (.int .i64 0) ?_
  simp only [nf0, nf1, nf2, nf3, nf4]
  refine wpList_nil ?_
  show Code.wp _ _ _ _ _
  refine wp_block ?_
  refine wp_loop_left (fun n_ a_ wr_ => (fun J4 => ∃ (i : Nat) (va : Value), n_ = xs.length - i ∧ a_ = ⟨#[.slice A xs.length cap, .func (.func 31) #[] #[.pointer (some ⟨ck, 0, none⟩)], J4 2, J4 3, va, J4 5, J4 6, .slice A xs.length cap, .int .i64 (xs.length : Int), .int .i64 (i : Int), J4 10, J4 11, J4 12, J4 13, J4 14, J4 15, J4 16, J4 17, J4 18, J4 19, J4 20, J4 21], []⟩ ∧ Blk wr_ ck #[.int .i64 k] 3 ∧ OwnR wr_ w.heap.size 23 eEvt va ((xs.take i).filter (evK k)) ∧ Off va ck ∧ Below w.heap.size w wr_ ∧ (i ≤ xs.length)) (jk a_)) (xs.length - 0) ⟨0, (.slice none 0 0), rfl, rfl, hk, (by rw [List.take_zero]; exact O1), n3, bel, (Nat.zero_le _)⟩ ?_
  clear hk
  clear O1
  clear n3
  clear bel
  intro n_ a_ w6 h_
  revert h_
  generalize jk a_ = J4
  rintro ⟨i, va, hms, rfl, hk, O1, n5, bel, hi⟩
  refine wp_seq ?_
  refine wp_region_lit ?_
  refine st_value (v := (.bool (decide ((i : Int) < (xs.length : Int))))) (by rfl) (run_lss (.tmp 9) (.tmp 8) rfl rfl rfl w6) ?_
  simp only [nf0, nf1, nf2, nf3, nf4]
  refine wpList_nil ?_
  show Code.wp _ _ _ _ _
  refine wp_seq ?_
  cases hg7 : decide ((i : Int) < (xs.length : Int))
  · have hp8 := of_decide_eq_false hg7
    refine wp_cond_false rfl ?_
    refine wp_exit ?_
    show Code.wp _ _ _ _ _
    refine wp_seq ?_
    refine wp_region_lit ?_
    refine st_mv va ?_
    simp only [nf0, nf1, nf2, nf3, nf4]
    refine st_mv va ?_
    simp only [nf0, nf1, nf2, nf3, nf4]
    refine wpList_nil ?_
    show Code.wp _ _ _ _ _
    refine wp_ret ?_
    first | show bodyPost _ _ _ _ _ _ | (simp only [Exit.then, Exit.inBlock]; show bodyPost _ _ _ _ _ _)
    obtain rfl : i = xs.length := by omega
    exact bodyPost_ret (results_tmp rfl _ _ _) rfl ⟨_, rfl, by have h := O1; rw [List.take_length] at h; exact h, bel⟩
  have hp9 := of_decide_eq_true hg7
  refine wp_cond_true rfl ?_
  refine wp_skip ?_
  show Code.wp _ _ _ _ _
  refine wp_seq ?_
  refine wp_block ?_
  refine wp_seq ?_
  obtain ⟨b10, o11, rfl, _⟩ := (hr.same bel).at_ (by rw [Enc.all_length]; exact Nat.mul_pos (by omega) (by decide))
  refine wp_region_lit ?_
  refine st_value (v := (.pointer (some ⟨b10, o11 + i * 5, none⟩))) (by rfl) (run_indexAddrN (.tmp 7) (.tmp 9) rfl Tryd.underlying32 slEvt.sz (i := i) rfl rfl (by omega) w6) ?_
  simp only [nf0, nf1, nf2, nf3, nf4]
  refine st_value (v := (.agg #[.int .i64 ((evtAt xs i).1), .int .i64 ((evtAt xs i).2.1), .int .i64 ((evtAt xs i).2.2.1), .int .i64 ((evtAt xs i).2.2.2.1), .int .i64 ((evtAt xs i).2.2.2.2)])) (by rfl) (run_loadE (E := eEvt) (.tmp 11) rfl aggEvt rfl (hr.same bel) (evtAt_get (by omega))) ?_
  simp only [nf0, nf1, nf2, nf3, nf4]
  refine st_new (cs := #[.int .i64 0, .int .i64 0, .int .i64 0, .int .i64 0, .int .i64 0]) (t := 23) (by rfl) (run_allocV rfl g_zero_23 _) ?_
  intro g12 w13 B14 hb15 lo16
  simp only [nf0, nf1, nf2, nf3, nf4]
  have n17 := hk.ne lo16
  have n18 := O1.off lo16
  replace lo16 := low_le bel lo16
  replace hk := hk.below hb15
  replace O1 := O1.same hb15
  replace bel := bl_step bel hb15
  clear hb15
  refine st_row (by rfl) (run_storeW (.tmp 6) (.tmp 12) rfl (cs := #[.int .i64 ((evtAt xs i).1), .int .i64 ((evtAt xs i).2.1), .int .i64 ((evtAt xs i).2.2.1), .int .i64 ((evtAt xs i).2.2.2.1), .int .i64 ((evtAt xs i).2.2.2.2)]) aggEvt rfl rfl B14 rfl (by simp [Value.oneCell'])) B14 ?_
  intro w19 B21 hg20
  simp only [nf0, nf1, nf2, nf3, nf4]
  replace hk := hk.kept hg20 n17
  replace O1 := O1.keptB hg20 n18
  replace bel := bl_kept0 bel hg20 lo16
  clear hg20
  clear B14
  refine wpList_nil ?_
  show Code.wp _ _ _ _ _
  refine wp_seq ?_
  refine wp_region_lit ?_
  refine st_mv (.func (.func 31) #[] #[.pointer (some ⟨ck, 0, none⟩)]) ?_
  simp only [nf0, nf1, nf2, nf3, nf4]
  refine st_value (v := (.agg #[.int .i64 ((evtAt xs i).1), .int .i64 ((evtAt xs i).2.1), .int .i64 ((evtAt xs i).2.2.1), .int .i64 ((evtAt xs i).2.2.2.1), .int .i64 ((evtAt xs i).2.2.2.2)])) (by rfl) (run_loadW (.tmp 6) rfl (cs := #[.int .i64 ((evtAt xs i).1), .int .i64 ((evtAt xs i).2.1), .int .i64 ((evtAt xs i).2.2.1), .int .i64 ((evtAt xs i).2.2.2.1), .int .i64 ((evtAt xs i).2.2.2.2)]) aggEvt rfl B21) ?_
  simp only [nf0, nf1, nf2, nf3, nf4]
  refine st_call1 (v := (.bool (evK k (evtAt xs i)))) (by rfl) (g_run_callc_31_1_1 (.tmp 13) (.tmp 14) rfl rfl rfl _) (isOf_calls (p := (evtAt xs i)) hk) ?_
  intro w22 hb23
  simp only [nf0, nf1, nf2, nf3, nf4]
  replace hk := hk.below hb23
  replace O1 := O1.same hb23
  replace B21 := B21.below hb23
  replace bel := bl_step bel hb23
  clear hb23
  refine wpList_nil ?_
  show Code.wp _ _ _ _ _
  cases hg24 : evK k (evtAt xs i)
  · have hp25 := trivial
    refine wp_cond_false rfl ?_
    refine wp_skip ?_
    show Code.wp _ _ _ _ _
    refine wp_region_lit ?_
    refine st_value (v := (.int .i64 ((i : Int) + 1))) (by rfl) (run_add_in (.tmp 9) (.const (.int .i64 1)) rfl rfl rfl (by omega) w22) ?_
    simp only [nf0, nf1, nf2, nf3, nf4]
    refine st_mv (.int .i64 ((i : Int) + 1)) ?_
    simp only [nf0, nf1, nf2, nf3, nf4]
    refine wpList_nil ?_
    show ∃ m, m < _ ∧ _
    exact ⟨_, (by omega), (i + 1), va, rfl, rfl, hk, (by rw [flt_snoc _ (by omega), if_neg (by simp only [Bool.not_eq_true]; assumption), List.append_nil]; exact O1), n5, bel, (by omega)⟩
  have hp26 := trivial
  refine wp_cond_true rfl ?_
  refine wp_region_lit ?_
  refine st_mv va ?_
  simp only [nf0, nf1, nf2, nf3, nf4]
  refine st_value (v := (.agg #[.int .i64 ((evtAt xs i).1), .int .i64 ((evtAt xs i).2.1), .int .i64 ((evtAt xs i).2.2.1), .int .i64 ((evtAt xs i).2.2.2.1), .int .i64 ((evtAt xs i).2.2.2.2)])) (by rfl) (run_loadW (.tmp 6) rfl (cs := #[.int .i64 ((evtAt xs i).1), .int .i64 ((evtAt xs i).2.1), .int .i64 ((evtAt xs i).2.2.1), .int .i64 ((evtAt xs i).2.2.2.1), .int .i64 ((evtAt xs i).2.2.2.2)]) aggEvt rfl B21) ?_
  simp only [nf0, nf1, nf2, nf3, nf4]
  refine st_lit (by rfl) (g_run_lit_32_1 (.tmp 17) rfl (m0 := (((evtAt xs i).1), ((evtAt xs i).2.1), ((evtAt xs i).2.2.1), ((evtAt xs i).2.2.2.1), ((evtAt xs i).2.2.2.2))) rfl _) ?_
  intro g27 w28 B29 hb30 lo31
  simp only [nf0, nf1, nf2, nf3, nf4]
  have n32 := hk.ne lo31
  have n33 := O1.off lo31
  have n34 := B21.ne lo31
  replace lo31 := low_le bel lo31
  replace hk := hk.below hb30
  replace O1 := O1.same hb30
  replace B21 := B21.below hb30
  replace bel := bl_step bel hb30
  clear hb30
  refine st_append slEvt rfl (.tmp 16) (.tmp 18) rfl rfl O1 ([(((evtAt xs i).1), ((evtAt xs i).2.1), ((evtAt xs i).2.2.1), ((evtAt xs i).2.2.2.1), ((evtAt xs i).2.2.2.2))] : List TEvt) rfl rfl B29 (by simp [Enc.all, eEvt]) (by have h_ := flt_len xs (evK k) i; simp only [List.length_cons, List.length_nil]; omega) bel.size ?_
  intro v35 w36 O37 hg38 hat39
  simp only [nf0, nf1, nf2, nf3, nf4]
  have n40 := (n5 : Off _ _).app hk hat39
  replace hk := hk.keptR hg38 n5
  have n41 := (n18 : Off _ _).app B21 hat39
  replace B21 := B21.keptR hg38 n18
  replace bel := bl_app bel O1 hg38
  clear O1 hg38 hat39
  refine st_mv v35 ?_
  simp only [nf0, nf1, nf2, nf3, nf4]
  refine wpList_nil ?_
  show Code.wp _ _ _ _ _
  refine wp_region_lit ?_
  refine st_value (v := (.int .i64 ((i : Int) + 1))) (by rfl) (run_add_in (.tmp 9) (.const (.int .i64 1)) rfl rfl rfl (by omega) w36) ?_
  simp only [nf0, nf1, nf2, nf3, nf4]
  refine st_mv (.int .i64 ((i : Int) + 1)) ?_
  simp only [nf0, nf1, nf2, nf3, nf4]
  refine wpList_nil ?_
  show ∃ m, m < _ ∧ _
  exact ⟨_, (by omega), (i + 1), v35, rfl, rfl, hk, (by rw [flt_snoc _ (by omega), if_pos (by assumption)]; exact O37), n40, bel, (by omega)⟩
set_option maxRecDepth 100000 in
set_option maxHeartbeats 4000000 in
theorem askOf_calls (A : Option Addr) (xs : List TEvt) (cap : Nat) (k : Int) (hcap : xs.length ≤ cap) (hl : xs.length ≤ 10000) (w : World) (hr : Reads w A (eEvt.all xs)) : Calls Tryd.prog 16 #[.slice A xs.length cap, .int .i64 k] w fun e w' => ∃ v, e = .returned v ∧ OwnR w' w.heap.size 23 eEvt v (xs.filter (evK k)) ∧ Below w.heap.size w w' := by
  have bel : Below w.heap.size w w := Below.refl _ _
  go_enter Tryd.func16, Tryd.ntmps16
  refine wp_seq ?_
  refine wp_region_lit ?_
  refine st_new (cs := #[.int .i64 k]) (t := 3) (by rfl) (run_boxV (.tmp 1) rfl (v := (.int .i64 k)) rfl rfl _) ?_
  intro g1 w2 B3 hb4 lo5
  simp only [nf0, nf1, nf2, nf3, nf4]
  replace lo5 := low_le bel lo5
  replace bel := bl_step bel hb4
  clear hb4
  refine st_mv (.slice none 0 0) ?_
  simp only [nf0, nf1, nf2, nf3, nf4]
  refine wpList_nil ?_
  show Code.wp _ _ _ _ _
  refine wp_seq ?_
  refine wp_region_lit ?_
  refine st_mv (.slice A xs.length cap) ?_
  simp only [nf0, nf1, nf2, nf3, nf4]
  refine st_value (v := (.func (.func 31) #[] #[.pointer (some ⟨g1, 0, none⟩)])) (by rfl) (run_func (f := .func 31) (c := #[.tmp 3]) (v := (.func (.func 31) #[] #[.pointer (some ⟨g1, 0, none⟩)])) (by rfl) (by rw [List.map_toArray]; rfl) w2) ?_
  simp only [nf0, nf1, nf2, nf3, nf4]
  refine st_call (by rfl) (g_run_call_30_2 (.tmp 5) (.tmp 6) rfl rfl rfl _) (someOf_calls B3 hcap (by omega) (hr.same bel)) ?_
  rintro v6 w8 ⟨O7, hf9⟩
  simp only [nf0, nf1, nf2, nf3, nf4]
  have n10 := O7.offLow B3
  have O7_ := fun k hk => (O7.lt k hk).1
  replace O7 := O7.lower bel.size
  replace B3 := B3.below hf9
  replace bel := bl_step bel hf9
  clear hf9
  refine st_mv v6 ?_
  simp only [nf0, nf1, nf2, nf3, nf4]
  refine wpList_nil ?_
  show Code.wp _ _ _ _ _
  refine wp_ret ?_
  first | show bodyPost _ _ _ _ _ _ | (simp only [Exit.then, Exit.inBlock]; show bodyPost _ _ _ _ _ _)
  refine bodyPost_ret (results_tmp rfl _ _ _) rfl ⟨_, rfl, ?_, bel⟩
  exact O7
set_option maxRecDepth 100000 in
set_option maxHeartbeats 4000000 in
theorem isTask_calls {w : World} {p : TEvt} {k : Int} {ck : Nat} (hk : Blk w ck #[.int .i64 k] 3) : Calls Tryd.prog 32 #[.agg (eEvt.enc p).toArray, .pointer (some ⟨ck, 0, none⟩)] w fun e w' => e = .returned (.bool (evT k p)) ∧ Below w.heap.size w w' := by
  have bel : Below w.heap.size w w := Below.refl _ _
  go_enter Tryd.func32, Tryd.ntmps32
  refine wp_seq ?_
  refine wp_region_lit ?_
  refine st_new (cs := #[.int .i64 p.1, .int .i64 p.2.1, .int .i64 p.2.2.1, .int .i64 p.2.2.2.1, .int .i64 p.2.2.2.2]) (t := 23) (by rfl) (run_boxV (.tmp 0) rfl (v := (.agg #[.int .i64 p.1, .int .i64 p.2.1, .int .i64 p.2.2.1, .int .i64 p.2.2.2.1, .int .i64 p.2.2.2.2])) rfl rfl _) ?_
  intro g1 w2 B3 hb4 lo5
  simp only [nf0, nf1, nf2, nf3, nf4]
  have n6 := hk.ne lo5
  replace lo5 := low_le bel lo5
  replace hk := hk.below hb4
  replace bel := bl_step bel hb4
  clear hb4
  refine st_mv (.bool false) ?_
  simp only [nf0, nf1, nf2, nf3, nf4]
  refine wpList_nil ?_
  show Code.wp _ _ _ _ _
  refine wp_seq ?_
  refine wp_region_lit ?_
  refine st_value (v := (.pointer (some ⟨g1, 1, none⟩))) (by rfl) (run_fieldA (.tmp 2) rfl g_fld_23_1 rfl rfl w2) ?_
  simp only [nf0, nf1, nf2, nf3, nf4]
  refine st_value (v := (.int .i64 p.2.1)) (by rfl) (run_loadB (.tmp 4) rfl g_one_3 rfl B3 rfl) ?_
  simp only [nf0, nf1, nf2, nf3, nf4]
  refine st_value (v := (.int .i64 k)) (by rfl) (run_loadB (.tmp 1) rfl g_one_3 rfl hk rfl) ?_
  simp only [nf0, nf1, nf2, nf3, nf4]
  refine st_value (v := (.bool (decide (p.2.1 = k)))) (by rfl) (run_eql_int (.tmp 5) (.tmp 6) rfl rfl rfl w2) ?_
  simp only [nf0, nf1, nf2, nf3, nf4]
  refine st_mv (.bool (decide (p.2.1 = k))) ?_
  simp only [nf0, nf1, nf2, nf3, nf4]
  refine wpList_nil ?_
  show Code.wp _ _ _ _ _
  refine wp_ret ?_
  first | show bodyPost _ _ _ _ _ _ | (simp only [Exit.then, Exit.inBlock]; show bodyPost _ _ _ _ _ _)
  exact bodyPost_ret (results_tmp rfl _ _ _) rfl ⟨rfl, bel⟩
set_option maxRecDepth 100000 in
set_option maxHeartbeats 4000000 in
theorem someTask_calls {w : World} {k : Int} {ck : Nat} (hk : Blk w ck #[.int .i64 k] 3) {A : Option Addr} {xs : List TEvt} {cap : Nat} (hcap : xs.length ≤ cap) (hl : xs.length ≤ 10000) (hr : Reads w A (eEvt.all xs)) : Calls Tryd.prog 30 #[.slice A xs.length cap, .func (.func 32) #[] #[.pointer (some ⟨ck, 0, none⟩)]] w fun e w' => ∃ v, e = .returned v ∧ OwnR w' w.heap.size 23 eEvt v (xs.filter (evT k)) ∧ Below w.heap.size w w' := by
  have bel : Below w.heap.size w w := Below.refl _ _
  go_enter Tryd.func30, Tryd.ntmps30
  refine wp_seq ?_
  refine wp_region_lit ?_
  have O1 : OwnR w w.heap.size 23 eEvt (.slice none 0 0) [] := OwnR.nil _ _ _ _
  have n3 := Off.nil ck
  refine st_mv (.slice none 0 0) ?_
  simp only [nf0, nf1, nf2, nf3, nf4]
  refine wpList_nil ?_
  show Code.wp _ _ _ _ _
  refine wp_seq ?_
  refine wp_seq ?_
  refine wp_region_lit ?_
  refine st_mv (.slice A xs.length cap) ?_
  simp only [nf0, nf1, nf2, nf3, nf4]
  refine st_value (v := (.int .i64 (xs.length : Int))) (by rfl) (run_len (.tmp 7) rfl ⟨_, Tryd.underlying32⟩ rfl w) ?_
  simp only [nf0, nf1, nf2, nf3, nf4]
  refine st_mv (.int .i64 0) ?_
  simp only [nf0, nf1, nf2, nf3, nf4]
  refine wpList_nil ?_
  show Code.wp _ _ _ _ _
  refine wp_block ?_
  refine wp_loop_left (fun n_ a_ wr_ => (fun J4 => ∃ (i : Nat) (va : Value), n_ = xs.length - i ∧ a_ = ⟨#[.slice A xs.length cap, .func (.func 32) #[] #[.pointer (some ⟨ck, 0, none⟩)], J4 2, J4 3, va, J4 5, J4 6, .slice A xs.length cap, .int .i64 (xs.length : Int), .int .i64 (i : Int), J4 10, J4 11, J4 12, J4 13, J4 14, J4 15, J4 16, J4 17, J4 18, J4 19, J4 20, J4 21], []⟩ ∧ Blk wr_ ck #[.int .i64 k] 3 ∧ OwnR wr_ w.heap.size 23 eEvt va ((xs.take i).filter (evT k)) ∧ Off va ck ∧ Below w.heap.size w wr_ ∧ (i ≤ xs.length)) (jk a_)) (xs.length - 0) ⟨0, (.slice none 0 0), rfl, rfl, hk, (by rw [List.take_zero]; exact O1), n3, bel, (Nat.zero_le _)⟩ ?_
  clear hk
  clear O1
  clear n3
  clear bel
  intro n_ a_ w6 h_
  revert h_
  generalize jk a_ = J4
  rintro ⟨i, va, hms, rfl, hk, O1, n5, bel, hi⟩
  refine wp_seq ?_
  refine wp_region_lit ?_
  refine st_value (v := (.bool (decide ((i : Int) < (xs.length : Int))))) (by rfl) (run_lss (.tmp 9) (.tmp 8) rfl rfl rfl w6) ?_
  simp only [nf0, nf1, nf2, nf3, nf4]
  refine wpList_nil ?_
  show Code.wp _ _ _ _ _
  refine wp_seq ?_
  cases hg7 : decide ((i : Int) < (xs.length : Int))
  · have hp8 := of_decide_eq_false hg7
    refine wp_cond_false rfl ?_
    refine wp_exit ?_
    show Code.wp _ _ _ _ _
    refine wp_seq ?_
    refine wp_region_lit ?_
    refine st_mv va ?_
    simp only [nf0, nf1, nf2, nf3, nf4]
    refine st_mv va ?_
    simp only [nf0, nf1, nf2, nf3, nf4]
    refine wpList_nil ?_
    show Code.wp _ _ _ _ _
    refine wp_ret ?_
    first | show bodyPost _ _ _ _ _ _ | (simp only [Exit.then, Exit.inBlock]; show bodyPost _ _ _ _ _ _)
    obtain rfl : i = xs.length := by omega
    exact bodyPost_ret (results_tmp rfl _ _ _) rfl ⟨_, rfl, by have h := O1; rw [List.take_length] at h; exact h, bel⟩
  have hp9 := of_decide_eq_true hg7
  refine wp_cond_true rfl ?_
  refine wp_skip ?_
  show Code.wp _ _ _ _ _
  refine wp_seq ?_
  refine wp_block ?_
  refine wp_seq ?_
  obtain ⟨b10, o11, rfl, _⟩ := (hr.same bel).at_ (by rw [Enc.all_length]; exact Nat.mul_pos (by omega) (by decide))
  refine wp_region_lit ?_
  refine st_value (v := (.pointer (some ⟨b10, o11 + i * 5, none⟩))) (by rfl) (run_indexAddrN (.tmp 7) (.tmp 9) rfl Tryd.underlying32 slEvt.sz (i := i) rfl rfl (by omega) w6) ?_
  simp only [nf0, nf1, nf2, nf3, nf4]
  refine st_value (v := (.agg #[.int .i64 ((evtAt xs i).1), .int .i64 ((evtAt xs i).2.1), .int .i64 ((evtAt xs i).2.2.1), .int .i64 ((evtAt xs i).2.2.2.1), .int .i64 ((evtAt xs i).2.2.2.2)])) (by rfl) (run_loadE (E := eEvt) (.tmp 11) rfl aggEvt rfl (hr.same bel) (evtAt_get (by omega))) ?_
  simp only [nf0, nf1, nf2, nf3, nf4]
  refine st_new (cs := #[.int .i64 0, .int .i64 0, .int .i64 0, .int .i64 0, .int .i64 0]) (t := 23) (by rfl) (run_allocV rfl g_zero_23 _) ?_
  intro g12 w13 B14 hb15 lo16
  simp only [nf0, nf1, nf2, nf3, nf4]
  have n17 := hk.ne lo16
  have n18 := O1.off lo16
  replace lo16 := low_le bel lo16
  replace hk := hk.below hb15
  replace O1 := O1.same hb15
  replace bel := bl_step bel hb15
  clear hb15
  refine st_row (by rfl) (run_storeW (.tmp 6) (.tmp 12) rfl (cs := #[.int .i64 ((evtAt xs i).1), .int .i64 ((evtAt xs i).2.1), .int .i64 ((evtAt xs i).2.2.1), .int .i64 ((evtAt xs i).2.2.2.1), .int .i64 ((evtAt xs i).2.2.2.2)]) aggEvt rfl rfl B14 rfl (by simp [Value.oneCell'])) B14 ?_
  intro w19 B21 hg20
  simp only [nf0, nf1, nf2, nf3, nf4]
  replace hk := hk.kept hg20 n17
  replace O1 := O1.keptB hg20 n18
  replace bel := bl_kept0 bel hg20 lo16
  clear hg20
  clear B14
  refine wpList_nil ?_
  show Code.wp _ _ _ _ _
  refine wp_seq ?_
  refine wp_region_lit ?_
  refine st_mv (.func (.func 32) #[] #[.pointer (some ⟨ck, 0, none⟩)]) ?_
  simp only [nf0, nf1, nf2, nf3, nf4]
  refine st_value (v := (.agg #[.int .i64 ((evtAt xs i).1), .int .i64 ((evtAt xs i).2.1), .int .i64 ((evtAt xs i).2.2.1), .int .i64 ((evtAt xs i).2.2.2.1), .int .i64 ((evtAt xs i).2.2.2.2)])) (by rfl) (run_loadW (.tmp 6) rfl (cs := #[.int .i64 ((evtAt xs i).1), .int .i64 ((evtAt xs i).2.1), .int .i64 ((evtAt xs i).2.2.1), .int .i64 ((evtAt xs i).2.2.2.1), .int .i64 ((evtAt xs i).2.2.2.2)]) aggEvt rfl B21) ?_
  simp only [nf0, nf1, nf2, nf3, nf4]
  refine st_call1 (v := (.bool (evT k (evtAt xs i)))) (by rfl) (g_run_callc_32_1_1 (.tmp 13) (.tmp 14) rfl rfl rfl _) (isTask_calls (p := (evtAt xs i)) hk) ?_
  intro w22 hb23
  simp only [nf0, nf1, nf2, nf3, nf4]
  replace hk := hk.below hb23
  replace O1 := O1.same hb23
  replace B21 := B21.below hb23
  replace bel := bl_step bel hb23
  clear hb23
  refine wpList_nil ?_
  show Code.wp _ _ _ _ _
  cases hg24 : evT k (evtAt xs i)
  · have hp25 := trivial
    refine wp_cond_false rfl ?_
    refine wp_skip ?_
    show Code.wp _ _ _ _ _
    refine wp_region_lit ?_
    refine st_value (v := (.int .i64 ((i : Int) + 1))) (by rfl) (run_add_in (.tmp 9) (.const (.int .i64 1)) rfl rfl rfl (by omega) w22) ?_
    simp only [nf0, nf1, nf2, nf3, nf4]
    refine st_mv (.int .i64 ((i : Int) + 1)) ?_
    simp only [nf0, nf1, nf2, nf3, nf4]
    refine wpList_nil ?_
    show ∃ m, m < _ ∧ _
    exact ⟨_, (by omega), (i + 1), va, rfl, rfl, hk, (by rw [flt_snoc _ (by omega), if_neg (by simp only [Bool.not_eq_true]; assumption), List.append_nil]; exact O1), n5, bel, (by omega)⟩
  have hp26 := trivial
  refine wp_cond_true rfl ?_
  refine wp_region_lit ?_
  refine st_mv va ?_
  simp only [nf0, nf1, nf2, nf3, nf4]
  refine st_value (v := (.agg #[.int .i64 ((evtAt xs i).1), .int .i64 ((evtAt xs i).2.1), .int .i64 ((evtAt xs i).2.2.1), .int .i64 ((evtAt xs i).2.2.2.1), .int .i64 ((evtAt xs i).2.2.2.2)])) (by rfl) (run_loadW (.tmp 6) rfl (cs := #[.int .i64 ((evtAt xs i).1), .int .i64 ((evtAt xs i).2.1), .int .i64 ((evtAt xs i).2.2.1), .int .i64 ((evtAt xs i).2.2.2.1), .int .i64 ((evtAt xs i).2.2.2.2)]) aggEvt rfl B21) ?_
  simp only [nf0, nf1, nf2, nf3, nf4]
  refine st_lit (by rfl) (g_run_lit_32_1 (.tmp 17) rfl (m0 := (((evtAt xs i).1), ((evtAt xs i).2.1), ((evtAt xs i).2.2.1), ((evtAt xs i).2.2.2.1), ((evtAt xs i).2.2.2.2))) rfl _) ?_
  intro g27 w28 B29 hb30 lo31
  simp only [nf0, nf1, nf2, nf3, nf4]
  have n32 := hk.ne lo31
  have n33 := O1.off lo31
  have n34 := B21.ne lo31
  replace lo31 := low_le bel lo31
  replace hk := hk.below hb30
  replace O1 := O1.same hb30
  replace B21 := B21.below hb30
  replace bel := bl_step bel hb30
  clear hb30
  refine st_append slEvt rfl (.tmp 16) (.tmp 18) rfl rfl O1 ([(((evtAt xs i).1), ((evtAt xs i).2.1), ((evtAt xs i).2.2.1), ((evtAt xs i).2.2.2.1), ((evtAt xs i).2.2.2.2))] : List TEvt) rfl rfl B29 (by simp [Enc.all, eEvt]) (by have h_ := flt_len xs (evT k) i; simp only [List.length_cons, List.length_nil]; omega) bel.size ?_
  intro v35 w36 O37 hg38 hat39
  simp only [nf0, nf1, nf2, nf3, nf4]
  have n40 := (n5 : Off _ _).app hk hat39
  replace hk := hk.keptR hg38 n5
  have n41 := (n18 : Off _ _).app B21 hat39
  replace B21 := B21.keptR hg38 n18
  replace bel := bl_app bel O1 hg38
  clear O1 hg38 hat39
  refine st_mv v35 ?_
  simp only [nf0, nf1, nf2, nf3, nf4]
  refine wpList_nil ?_
  show Code.wp _ _ _ _ _
  refine wp_region_lit ?_
  refine st_value (v := (.int .i64 ((i : Int) + 1))) (by rfl) (run_add_in (.tmp 9) (.const (.int .i64 1)) rfl rfl rfl (by omega) w36) ?_
  simp only [nf0, nf1, nf2, nf3, nf4]
  refine st_mv (.int .i64 ((i : Int) + 1)) ?_
  simp only [nf0, nf1, nf2, nf3, nf4]
  refine wpList_nil ?_
  show ∃ m, m < _ ∧ _
  exact ⟨_, (by omega), (i + 1), v35, rfl, rfl, hk, (by rw [flt_snoc _ (by omega), if_pos (by assumption)]; exact O37), n40, bel, (by omega)⟩
set_option maxRecDepth 100000 in
set_option maxHeartbeats 4000000 in
theorem askTask_calls (A : Option Addr) (xs : List TEvt) (cap : Nat) (k : Int) (hcap : xs.length ≤ cap) (hl : xs.length ≤ 10000) (w : World) (hr : Reads w A (eEvt.all xs)) : Calls Tryd.prog 17 #[.slice A xs.length cap, .int .i64 k] w fun e w' => ∃ v, e = .returned v ∧ OwnR w' w.heap.size 23 eEvt v (xs.filter (evT k)) ∧ Below w.heap.size w w' := by
  have bel : Below w.heap.size w w := Below.refl _ _
  go_enter Tryd.func17, Tryd.ntmps17
  refine wp_seq ?_
  refine wp_region_lit ?_
  refine st_new (cs := #[.int .i64 k]) (t := 3) (by rfl) (run_boxV (.tmp 1) rfl (v := (.int .i64 k)) rfl rfl _) ?_
  intro g1 w2 B3 hb4 lo5
  simp only [nf0, nf1, nf2, nf3, nf4]
  replace lo5 := low_le bel lo5
  replace bel := bl_step bel hb4
  clear hb4
  refine st_mv (.slice none 0 0) ?_
  simp only [nf0, nf1, nf2, nf3, nf4]
  refine wpList_nil ?_
  show Code.wp _ _ _ _ _
  refine wp_seq ?_
  refine wp_region_lit ?_
  refine st_mv (.slice A xs.length cap) ?_
  simp only [nf0, nf1, nf2, nf3, nf4]
  refine st_value (v := (.func (.func 32) #[] #[.pointer (some ⟨g1, 0, none⟩)])) (by rfl) (run_func (f := .func 32) (c := #[.tmp 3]) (v := (.func (.func 32) #[] #[.pointer (some ⟨g1, 0, none⟩)])) (by rfl) (by rw [List.map_toArray]; rfl) w2) ?_
  simp only [nf0, nf1, nf2, nf3, nf4]
  refine st_call (by rfl) (g_run_call_30_2 (.tmp 5) (.tmp 6) rfl rfl rfl _) (someTask_calls B3 hcap (by omega) (hr.same bel)) ?_
  rintro v6 w8 ⟨O7, hf9⟩
  simp only [nf0, nf1, nf2, nf3, nf4]
  have n10 := O7.offLow B3
  have O7_ := fun k hk => (O7.lt k hk).1
  replace O7 := O7.lower bel.size
  replace B3 := B3.below hf9
  replace bel := bl_step bel hf9
  clear hf9
  refine st_mv v6 ?_
  simp only [nf0, nf1, nf2, nf3, nf4]
  refine wpList_nil ?_
  show Code.wp _ _ _ _ _
  refine wp_ret ?_
  first | show bodyPost _ _ _ _ _ _ | (simp only [Exit.then, Exit.inBlock]; show bodyPost _ _ _ _ _ _)
  refine bodyPost_ret (results_tmp rfl _ _ _) rfl ⟨_, rfl, ?_, bel⟩
  exact O7
set_option maxRecDepth 100000 in
set_option maxHeartbeats 4000000 in
theorem isCount_calls {w : World} {p : TEvt} {k t : Int} {ck ct : Nat} (hk : Blk w ck #[.int .i64 k] 3) (ht : Blk w ct #[.int .i64 t] 3) (hne : ck ≠ ct) : Calls Tryd.prog 33 #[.agg (eEvt.enc p).toArray, .pointer (some ⟨ck, 0, none⟩), .pointer (some ⟨ct, 0, none⟩)] w fun e w' => e = .returned (.bool (evKT k t p)) ∧ Below w.heap.size w w' := by
  have bel : Below w.heap.size w w := Below.refl _ _
  go_enter Tryd.func33, Tryd.ntmps33
  refine wp_seq ?_
  refine wp_region_lit ?_
  refine st_new (cs := #[.int .i64 p.1, .int .i64 p.2.1, .int .i64 p.2.2.1, .int .i64 p.2.2.2.1, .int .i64 p.2.2.2.2]) (t := 23) (by rfl) (run_boxV (.tmp 0) rfl (v := (.agg #[.int .i64 p.1, .int .i64 p.2.1, .int .i64 p.2.2.1, .int .i64 p.2.2.2.1, .int .i64 p.2.2.2.2])) rfl rfl _) ?_
  intro g1 w2 B3 hb4 lo5
  simp only [nf0, nf1, nf2, nf3, nf4]
  have n6 := hk.ne lo5
  have n7 := ht.ne lo5
  replace lo5 := low_le bel lo5
  replace hk := hk.below hb4
  replace ht := ht.below hb4
  replace bel := bl_step bel hb4
  clear hb4
  refine st_mv (.bool false) ?_
  simp only [nf0, nf1, nf2, nf3, nf4]
  refine wpList_nil ?_
  show Code.wp _ _ _ _ _
  refine wp_seq ?_
  cases hg8 : decide (p.1 = k)
  · have hp9 := of_decide_eq_false hg8
    refine wp_region_lit ?_
    refine st_value (v := (.pointer (some ⟨g1, 0, none⟩))) (by rfl) (run_fieldA (.tmp 3) rfl g_fld_23_0 rfl rfl w2) ?_
    simp only [nf0, nf1, nf2, nf3, nf4]
    refine st_value (v := (.int .i64 p.1)) (by rfl) (run_loadB (.tmp 5) rfl g_one_3 rfl B3 rfl) ?_
    simp only [nf0, nf1, nf2, nf3, nf4]
    refine st_value (v := (.int .i64 k)) (by rfl) (run_loadB (.tmp 1) rfl g_one_3 rfl hk rfl) ?_
    simp only [nf0, nf1, nf2, nf3, nf4]
    refine st_value (v := (.bool false)) (by rfl) ((run_eql_int (.tmp 6) (.tmp 7) rfl rfl rfl w2).trans (by rw [hg8])) ?_
    simp only [nf0, nf1, nf2, nf3, nf4]
    refine st_mv (.bool false) ?_
    simp only [nf0, nf1, nf2, nf3, nf4]
    refine st_nob (j := 4) (t := 9) (c := false) rfl rfl rfl rfl rfl ?_
    simp only [nf0, nf1, nf2, nf3, nf4]
    refine st_nob (j := 4) (t := 9) (c := false) rfl rfl rfl rfl rfl ?_
    simp only [nf0, nf1, nf2, nf3, nf4]
    refine st_nob (j := 4) (t := 9) (c := false) rfl rfl rfl rfl rfl ?_
    simp only [nf0, nf1, nf2, nf3, nf4]
    refine st_nob (j := 4) (t := 9) (c := false) rfl rfl rfl rfl rfl ?_
    simp only [nf0, nf1, nf2, nf3, nf4]
    refine st_mv (.bool false) ?_
    simp only [nf0, nf1, nf2, nf3, nf4]
    refine st_mv (.bool false) ?_
    simp only [nf0, nf1, nf2, nf3, nf4]
    refine wpList_nil ?_
    show Code.wp _ _ _ _ _
    refine wp_ret ?_
    first | show bodyPost _ _ _ _ _ _ | (simp only [Exit.then, Exit.inBlock]; show bodyPost _ _ _ _ _ _)
    have hE : evKT k t p = false := by unfold evKT; first | (rw [Bool.eq_iff_iff]; simp only [Bool.and_eq_true, decide_eq_true_eq]; first | (constructor <;> intro h_ <;> simp_all)) | simp_all
    exact bodyPost_ret (results_tmp rfl _ _ _) rfl ⟨by rw [hE]; rfl, bel⟩
  have hp10 := of_decide_eq_true hg8
  refine wp_region_lit ?_
  refine st_value (v := (.pointer (some ⟨g1, 0, none⟩))) (by rfl) (run_fieldA (.tmp 3) rfl g_fld_23_0 rfl rfl w2) ?_
  simp only [nf0, nf1, nf2, nf3, nf4]
  refine st_value (v := (.int .i64 p.1)) (by rfl) (run_loadB (.tmp 5) rfl g_one_3 rfl B3 rfl) ?_
  simp only [nf0, nf1, nf2, nf3, nf4]
  refine st_value (v := (.int .i64 k)) (by rfl) (run_loadB (.tmp 1) rfl g_one_3 rfl hk rfl) ?_
  simp only [nf0, nf1, nf2, nf3, nf4]
  refine st_value (v := (.bool true)) (by rfl) ((run_eql_int (.tmp 6) (.tmp 7) rfl rfl rfl w2).trans (by rw [hg8])) ?_
  simp only [nf0, nf1, nf2, nf3, nf4]
  refine st_mv (.bool true) ?_
  simp only [nf0, nf1, nf2, nf3, nf4]
  refine st_value (v := (.pointer (some ⟨g1, 1, none⟩))) (by rfl) (run_fieldA (.tmp 3) rfl g_fld_23_1 rfl rfl w2) ?_
  simp only [nf0, nf1, nf2, nf3, nf4]
  refine st_value (v := (.int .i64 p.2.1)) (by rfl) (run_loadB (.tmp 10) rfl g_one_3 rfl B3 rfl) ?_
  simp only [nf0, nf1, nf2, nf3, nf4]
  refine st_value (v := (.int .i64 t)) (by rfl) (run_loadB (.tmp 2) rfl g_one_3 rfl ht rfl) ?_
  simp only [nf0, nf1, nf2, nf3, nf4]
  refine st_value (v := (.bool (decide (p.2.1 = t)))) (by rfl) (run_eql_int (.tmp 11) (.tmp 12) rfl rfl rfl w2) ?_
  simp only [nf0, nf1, nf2, nf3, nf4]
  refine st_mv (.bool (decide (p.2.1 = t))) ?_
  simp only [nf0, nf1, nf2, nf3, nf4]
  refine st_mv (.bool (decide (p.2.1 = t))) ?_
  simp only [nf0, nf1, nf2, nf3, nf4]
  refine wpList_nil ?_
  show Code.wp _ _ _ _ _
  refine wp_ret ?_
  first | show bodyPost _ _ _ _ _ _ | (simp only [Exit.then, Exit.inBlock]; show bodyPost _ _ _ _ _ _)
  have hE : evKT k t p = decide (p.2.1 = t) := by unfold evKT; first | (rw [Bool.eq_iff_iff]; simp only [Bool.and_eq_true, decide_eq_true_eq]; first | (constructor <;> intro h_ <;> simp_all)) | simp_all
  exact bodyPost_ret (results_tmp rfl _ _ _) rfl ⟨by rw [hE]; rfl, bel⟩
set_option maxRecDepth 100000 in
set_option maxHeartbeats 4000000 in
theorem someCount_calls {w : World} {k t : Int} {ck ct : Nat} (hk : Blk w ck #[.int .i64 k] 3) (ht : Blk w ct #[.int .i64 t] 3) (hne : ck ≠ ct) {A : Option Addr} {xs : List TEvt} {cap : Nat} (hcap : xs.length ≤ cap) (hl : xs.length ≤ 10000) (hr : Reads w A (eEvt.all xs)) : Calls Tryd.prog 30 #[.slice A xs.length cap, .func (.func 33) #[] #[.pointer (some ⟨ck, 0, none⟩), .pointer (some ⟨ct, 0, none⟩)]] w fun e w' => ∃ v, e = .returned v ∧ OwnR w' w.heap.size 23 eEvt v (xs.filter (evKT k t)) ∧ Below w.heap.size w w' := by
  have bel : Below w.heap.size w w := Below.refl _ _
  go_enter Tryd.func30, Tryd.ntmps30
  refine wp_seq ?_
  refine wp_region_lit ?_
  have O1 : OwnR w w.heap.size 23 eEvt (.slice none 0 0) [] := OwnR.nil _ _ _ _
  have n3 := Off.nil ck
  have n4 := Off.nil ct
  refine st_mv (.slice none 0 0) ?_
  simp only [nf0, nf1, nf2, nf3, nf4]
  refine wpList_nil ?_
  show Code.wp _ _ _ _ _
  refine wp_seq ?_
  refine wp_seq ?_
  refine wp_region_lit ?_
  refine st_mv (.slice A xs.length cap) ?_
  simp only [nf0, nf1, nf2, nf3, nf4]
  refine st_value (v := (.int .i64 (xs.length : Int))) (by rfl) (run_len (.tmp 7) rfl ⟨_, Tryd.underlying32⟩ rfl w) ?_
  simp only [nf0, nf1, nf2, nf3, nf4]
  refine st_mv (.int .i64 0) ?_
  simp only [nf0, nf1, nf2, nf3, nf4]
  refine wpList_nil ?_
  show Code.wp _ _ _ _ _
  refine wp_block ?_
  refine wp_loop_left (fun n_ a_ wr_ => (fun J5 => ∃ (i : Nat) (va : Value), n_ = xs.length - i ∧ a_ = ⟨#[.slice A xs.length cap, .func (.func 33) #[] #[.pointer (some ⟨ck, 0, none⟩), .pointer (some ⟨ct, 0, none⟩)], J5 2, J5 3, va, J5 5, J5 6, .slice A xs.length cap, .int .i64 (xs.length : Int), .int .i64 (i : Int), J5 10, J5 11, J5 12, J5 13, J5 14, J5 15, J5 16, J5 17, J5 18, J5 19, J5 20, J5 21], []⟩ ∧ Blk wr_ ck #[.int .i64 k] 3 ∧ Blk wr_ ct #[.int .i64 t] 3 ∧ OwnR wr_ w.heap.size 23 eEvt va ((xs.take i).filter (evKT k t)) ∧ Off va ck ∧ Off va ct ∧ Below w.heap.size w wr_ ∧ (i ≤ xs.length)) (jk a_)) (xs.length - 0) ⟨0, (.slice none 0 0), rfl, rfl, hk, ht, (by rw [List.take_zero]; exact O1), n3, n4, bel, (Nat.zero_le _)⟩ ?_
  clear hk
  clear ht
  clear O1
  clear n3 n4
  clear bel
  intro n_ a_ w8 h_
  revert h_
  generalize jk a_ = J5
  rintro ⟨i, va, hms, rfl, hk, ht, O1, n6, n7, bel, hi⟩
  refine wp_seq ?_
  refine wp_region_lit ?_
  refine st_value (v := (.bool (decide ((i : Int) < (xs.length : Int))))) (by rfl) (run_lss (.tmp 9) (.tmp 8) rfl rfl rfl w8) ?_
  simp only [nf0, nf1, nf2, nf3, nf4]
  refine wpList_nil ?_
  show Code.wp _ _ _ _ _
  refine wp_seq ?_
  cases hg9 : decide ((i : Int) < (xs.length : Int))
  · have hp10 := of_decide_eq_false hg9
    refine wp_cond_false rfl ?_
    refine wp_exit ?_
    show Code.wp _ _ _ _ _
    refine wp_seq ?_
    refine wp_region_lit ?_
    refine st_mv va ?_
    simp only [nf0, nf1, nf2, nf3, nf4]
    refine st_mv va ?_
    simp only [nf0, nf1, nf2, nf3, nf4]
    refine wpList_nil ?_
    show Code.wp _ _ _ _ _
    refine wp_ret ?_
    first | show bodyPost _ _ _ _ _ _ | (simp only [Exit.then, Exit.inBlock]; show bodyPost _ _ _ _ _ _)
    obtain rfl : i = xs.length := by omega
    exact bodyPost_ret (results_tmp rfl _ _ _) rfl ⟨_, rfl, by have h := O1; rw [List.take_length] at h; exact h, bel⟩
  have hp11 := of_decide_eq_true hg9
  refine wp_cond_true rfl ?_
  refine wp_skip ?_
  show Code.wp _ _ _ _ _
  refine wp_seq ?_
  refine wp_block ?_
  refine wp_seq ?_
  obtain ⟨b12, o13, rfl, _⟩ := (hr.same bel).at_ (by rw [Enc.all_length]; exact Nat.mul_pos (by omega) (by decide))
  refine wp_region_lit ?_
  refine st_value (v := (.pointer (some ⟨b12, o13 + i * 5, none⟩))) (by rfl) (run_indexAddrN (.tmp 7) (.tmp 9) rfl Tryd.underlying32 slEvt.sz (i := i) rfl rfl (by omega) w8) ?_
  simp only [nf0, nf1, nf2, nf3, nf4]
  refine st_value (v := (.agg #[.int .i64 ((evtAt xs i).1), .int .i64 ((evtAt xs i).2.1), .int .i64 ((evtAt xs i).2.2.1), .int .i64 ((evtAt xs i).2.2.2.1), .int .i64 ((evtAt xs i).2.2.2.2)])) (by rfl) (run_loadE (E := eEvt) (.tmp 11) rfl aggEvt rfl (hr.same bel) (evtAt_get (by omega))) ?_
  simp only [nf0, nf1, nf2, nf3, nf4]
  refine st_new (cs := #[.int .i64 0, .int .i64 0, .int .i64 0, .int .i64 0, .int .i64 0]) (t := 23) (by rfl) (run_allocV rfl g_zero_23 _) ?_
  intro g14 w15 B16 hb17 lo18
  simp only [nf0, nf1, nf2, nf3, nf4]
  have n19 := hk.ne lo18
  have n20 := ht.ne lo18
  have n21 := O1.off lo18
  replace lo18 := low_le bel lo18
  replace hk := hk.below hb17
  replace ht := ht.below hb17
  replace O1 := O1.same hb17
  replace bel := bl_step bel hb17
  clear hb17
  refine st_row (by rfl) (run_storeW (.tmp 6) (.tmp 12) rfl (cs := #[.int .i64 ((evtAt xs i).1), .int .i64 ((evtAt xs i).2.1), .int .i64 ((evtAt xs i).2.2.1), .int .i64 ((evtAt xs i).2.2.2.1), .int .i64 ((evtAt xs i).2.2.2.2)]) aggEvt rfl rfl B16 rfl (by simp [Value.oneCell'])) B16 ?_
  intro w22 B24 hg23
  simp only [nf0, nf1, nf2, nf3, nf4]
  replace hk := hk.kept hg23 n19
  replace ht := ht.kept hg23 n20
  replace O1 := O1.keptB hg23 n21
  replace bel := bl_kept0 bel hg23 lo18
  clear hg23
  clear B16
  refine wpList_nil ?_
  show Code.wp _ _ _ _ _
  refine wp_seq ?_
  refine wp_region_lit ?_
  refine st_mv (.func (.func 33) #[] #[.pointer (some ⟨ck, 0, none⟩), .pointer (some ⟨ct, 0, none⟩)]) ?_
  simp only [nf0, nf1, nf2, nf3, nf4]
  refine st_value (v := (.agg #[.int .i64 ((evtAt xs i).1), .int .i64 ((evtAt xs i).2.1), .int .i64 ((evtAt xs i).2.2.1), .int .i64 ((evtAt xs i).2.2.2.1), .int .i64 ((evtAt xs i).2.2.2.2)])) (by rfl) (run_loadW (.tmp 6) rfl (cs := #[.int .i64 ((evtAt xs i).1), .int .i64 ((evtAt xs i).2.1), .int .i64 ((evtAt xs i).2.2.1), .int .i64 ((evtAt xs i).2.2.2.1), .int .i64 ((evtAt xs i).2.2.2.2)]) aggEvt rfl B24) ?_
  simp only [nf0, nf1, nf2, nf3, nf4]
  refine st_call1 (v := (.bool (evKT k t (evtAt xs i)))) (by rfl) (g_run_callc_33_1_2 (.tmp 13) (.tmp 14) rfl rfl rfl _) (isCount_calls (p := (evtAt xs i)) hk ht hne) ?_
  intro w25 hb26
  simp only [nf0, nf1, nf2, nf3, nf4]
  replace hk := hk.below hb26
  replace ht := ht.below hb26
  replace O1 := O1.same hb26
  replace B24 := B24.below hb26
  replace bel := bl_step bel hb26
  clear hb26
  refine wpList_nil ?_
  show Code.wp _ _ _ _ _
  cases hg27 : evKT k t (evtAt xs i)
  · have hp28 := trivial
    refine wp_cond_false rfl ?_
    refine wp_skip ?_
    show Code.wp _ _ _ _ _
    refine wp_region_lit ?_
    refine st_value (v := (.int .i64 ((i : Int) + 1))) (by rfl) (run_add_in (.tmp 9) (.const (.int .i64 1)) rfl rfl rfl (by omega) w25) ?_
    simp only [nf0, nf1, nf2, nf3, nf4]
    refine st_mv (.int .i64 ((i : Int) + 1)) ?_
    simp only [nf0, nf1, nf2, nf3, nf4]
    refine wpList_nil ?_
    show ∃ m, m < _ ∧ _
    exact ⟨_, (by omega), (i + 1), va, rfl, rfl, hk, ht, (by rw [flt_snoc _ (by omega), if_neg (by simp only [Bool.not_eq_true]; assumption), List.append_nil]; exact O1), n6, n7, bel, (by omega)⟩
  have hp29 := trivial
  refine wp_cond_true rfl ?_
  refine wp_region_lit ?_
  refine st_mv va ?_
  simp only [nf0, nf1, nf2, nf3, nf4]
  refine st_value (v := (.agg #[.int .i64 ((evtAt xs i).1), .int .i64 ((evtAt xs i).2.1), .int .i64 ((evtAt xs i).2.2.1), .int .i64 ((evtAt xs i).2.2.2.1), .int .i64 ((evtAt xs i).2.2.2.2)])) (by rfl) (run_loadW (.tmp 6) rfl (cs := #[.int .i64 ((evtAt xs i).1), .int .i64 ((evtAt xs i).2.1), .int .i64 ((evtAt xs i).2.2.1), .int .i64 ((evtAt xs i).2.2.2.1), .int .i64 ((evtAt xs i).2.2.2.2)]) aggEvt rfl B24) ?_
  simp only [nf0, nf1, nf2, nf3, nf4]
  refine st_lit (by rfl) (g_run_lit_32_1 (.tmp 17) rfl (m0 := (((evtAt xs i).1), ((evtAt xs i).2.1), ((evtAt xs i).2.2.1), ((evtAt xs i).2.2.2.1), ((evtAt xs i).2.2.2.2))) rfl _) ?_
  intro g30 w31 B32 hb33 lo34
  simp only [nf0, nf1, nf2, nf3, nf4]
  have n35 := hk.ne lo34
  have n36 := ht.ne lo34
  have n37 := O1.off lo34
  have n38 := B24.ne lo34
  replace lo34 := low_le bel lo34
  replace hk := hk.below hb33
  replace ht := ht.below hb33
  replace O1 := O1.same hb33
  replace B24 := B24.below hb33
  replace bel := bl_step bel hb33
  clear hb33
  refine st_append slEvt rfl (.tmp 16) (.tmp 18) rfl rfl O1 ([(((evtAt xs i).1), ((evtAt xs i).2.1), ((evtAt xs i).2.2.1), ((evtAt xs i).2.2.2.1), ((evtAt xs i).2.2.2.2))] : List TEvt) rfl rfl B32 (by simp [Enc.all, eEvt]) (by have h_ := flt_len xs (evKT k t) i; simp only [List.length_cons, List.length_nil]; omega) bel.size ?_
  intro v39 w40 O41 hg42 hat43
  simp only [nf0, nf1, nf2, nf3, nf4]
  have n44 := (n6 : Off _ _).app hk hat43
  replace hk := hk.keptR hg42 n6
  have n45 := (n7 : Off _ _).app ht hat43
  replace ht := ht.keptR hg42 n7
  have n46 := (n21 : Off _ _).app B24 hat43
  replace B24 := B24.keptR hg42 n21
  replace bel := bl_app bel O1 hg42
  clear O1 hg42 hat43
  refine st_mv v39 ?_
  simp only [nf0, nf1, nf2, nf3, nf4]
  refine wpList_nil ?_
  show Code.wp _ _ _ _ _
  refine wp_region_lit ?_
  refine st_value (v := (.int .i64 ((i : Int) + 1))) (by rfl) (run_add_in (.tmp 9) (.const (.int .i64 1)) rfl rfl rfl (by omega) w40) ?_
  simp only [nf0, nf1, nf2, nf3, nf4]
  refine st_mv (.int .i64 ((i : Int) + 1)) ?_
  simp only [nf0, nf1, nf2, nf3, nf4]
  refine wpList_nil ?_
  show ∃ m, m < _ ∧ _
  exact ⟨_, (by omega), (i + 1), v39, rfl, rfl, hk, ht, (by rw [flt_snoc _ (by omega), if_pos (by assumption)]; exact O41), n44, n45, bel, (by omega)⟩
set_option maxRecDepth 100000 in
set_option maxHeartbeats 4000000 in
theorem askCount_calls (A : Option Addr) (xs : List TEvt) (cap : Nat) (k t : Int) (hcap : xs.length ≤ cap) (hl : xs.length ≤ 10000) (w : World) (hr : Reads w A (eEvt.all xs)) : Calls Tryd.prog 18 #[.slice A xs.length cap, .int .i64 k, .int .i64 t] w fun e w' => e = .returned (.int .i64 ((xs.filter (evKT k t)).length : Int)) ∧ Below w.heap.size w w' := by
  have bel : Below w.heap.size w w := Below.refl _ _
  go_enter Tryd.func18, Tryd.ntmps18
  refine wp_seq ?_
  refine wp_region_lit ?_
  refine st_new (cs := #[.int .i64 k]) (t := 3) (by rfl) (run_boxV (.tmp 1) rfl (v := (.int .i64 k)) rfl rfl _) ?_
  intro g1 w2 B3 hb4 lo5
  simp only [nf0, nf1, nf2, nf3, nf4]
  replace lo5 := low_le bel lo5
  replace bel := bl_step bel hb4
  clear hb4
  refine st_new (cs := #[.int .i64 t]) (t := 3) (by rfl) (run_boxV (.tmp 2) rfl (v := (.int .i64 t)) rfl rfl _) ?_
  intro g6 w7 B8 hb9 lo10
  simp only [nf0, nf1, nf2, nf3, nf4]
  have n11 := B3.ne lo10
  replace lo10 := low_le bel lo10
  replace B3 := B3.below hb9
  replace bel := bl_step bel hb9
  clear hb9
  refine st_mv (.int .i64 0) ?_
  simp only [nf0, nf1, nf2, nf3, nf4]
  refine wpList_nil ?_
  show Code.wp _ _ _ _ _
  refine wp_seq ?_
  refine wp_region_lit ?_
  refine st_mv (.slice A xs.length cap) ?_
  simp only [nf0, nf1, nf2, nf3, nf4]
  refine st_value (v := (.func (.func 33) #[] #[.pointer (some ⟨g1, 0, none⟩), .pointer (some ⟨g6, 0, none⟩)])) (by rfl) (run_func (f := .func 33) (c := #[.tmp 4, .tmp 5]) (v := (.func (.func 33) #[] #[.pointer (some ⟨g1, 0, none⟩), .pointer (some ⟨g6, 0, none⟩)])) (by rfl) (by rw [List.map_toArray]; rfl) w7) ?_
  simp only [nf0, nf1, nf2, nf3, nf4]
  refine st_call (by rfl) (g_run_call_30_2 (.tmp 7) (.tmp 8) rfl rfl rfl _) (someCount_calls B3 B8 n11 hcap (by omega) (hr.same bel)) ?_
  rintro v12 w14 ⟨O13, hf15⟩
  simp only [nf0, nf1, nf2, nf3, nf4]
  have n16 := O13.offLow B3
  have n17 := O13.offLow B8
  have O13_ := fun k hk => (O13.lt k hk).1
  replace O13 := O13.lower bel.size
  replace B3 := B3.below hf15
  replace B8 := B8.below hf15
  replace bel := bl_step bel hf15
  clear hf15
  obtain ⟨A18, c19, hv20, h21, h22, h23, R24⟩ := O13.reads
  refine st_value (v := (.int .i64 ((xs.filter (evKT k t)).length : Int))) (by rfl) (run_len (.tmp 9) rfl ⟨_, Tryd.underlying32⟩ (by exact hv20) w14) ?_
  simp only [nf0, nf1, nf2, nf3, nf4]
  refine st_mv (.int .i64 ((xs.filter (evKT k t)).length : Int)) ?_
  simp only [nf0, nf1, nf2, nf3, nf4]
  refine wpList_nil ?_
  show Code.wp _ _ _ _ _
  refine wp_ret ?_
  first | show bodyPost _ _ _ _ _ _ | (simp only [Exit.then, Exit.inBlock]; show bodyPost _ _ _ _ _ _)
  exact bodyPost_ret (results_tmp rfl _ _ _) rfl ⟨rfl, bel⟩
end Go.Proofs.YtmfdcgocfofokaaDoor

/- What the document reads of a line. -/
namespace Go.Proofs.YtmfdcgocfofokaaDoor
open Go.RowKit Go.WideShapes Go.ChangeShapes
set_option linter.unusedSimpArgs false
set_option linter.unusedVariables false

theorem f_zero_23 : ZeroOf Tryd.prog 23 #[.int .i64 0, .int .i64 0, .int .i64 0, .int .i64 0, .int .i64 0] := zeroOf (z := .agg #[.int .i64 0, .int .i64 0, .int .i64 0, .int .i64 0, .int .i64 0]) (by kernel_rfl) rfl
theorem f_fld_23_1 : FieldAt Tryd.prog 23 1 1 := fieldAt_of (s := 0) Tryd.underlying23 (by kernel_rfl)
theorem f_one_3 : One Tryd.prog 3 := one_of Tryd.underlying3 rfl (by kernel_rfl)
theorem f_fld_23_2 : FieldAt Tryd.prog 23 2 2 := fieldAt_of (s := 0) Tryd.underlying23 (by kernel_rfl)
theorem f_fld_23_3 : FieldAt Tryd.prog 23 3 3 := fieldAt_of (s := 0) Tryd.underlying23 (by kernel_rfl)
theorem f_fld_23_4 : FieldAt Tryd.prog 23 4 4 := fieldAt_of (s := 0) Tryd.underlying23 (by kernel_rfl)
theorem f_run_call_11_1 {o : Oper} {a : Act} (x0 : Operand) {ts : Array TypeId} (ho : o.op = .call { callee := .value (.func 11), args := #[x0], argTypes := ts }) {v0 : Value} (h0 : a.eval x0 = v0) (W : World) : (execOp a.eval o).run Tryd.prog W = .ok (.enter 11 #[v0]) W := by
  unfold execOp
  simp only [ho]
  subst h0
  go_simp
theorem f_run_call_13_1 {o : Oper} {a : Act} (x0 : Operand) {ts : Array TypeId} (ho : o.op = .call { callee := .value (.func 13), args := #[x0], argTypes := ts }) {v0 : Value} (h0 : a.eval x0 = v0) (W : World) : (execOp a.eval o).run Tryd.prog W = .ok (.enter 13 #[v0]) W := by
  unfold execOp
  simp only [ho]
  subst h0
  go_simp
theorem f_run_call_24_1 {o : Oper} {a : Act} (x0 : Operand) {ts : Array TypeId} (ho : o.op = .call { callee := .value (.func 24), args := #[x0], argTypes := ts }) {v0 : Value} (h0 : a.eval x0 = v0) (W : World) : (execOp a.eval o).run Tryd.prog W = .ok (.enter 24 #[v0]) W := by
  unfold execOp
  simp only [ho]
  subst h0
  go_simp
theorem zero64 : -9223372036854775808 ≤ (0 : Int) ∧ (0 : Int) ≤ 9223372036854775807 := by omega

attribute [local irreducible] Go.wpList Go.Code.wp
set_option maxRecDepth 100000 in
set_option maxHeartbeats 4000000 in
theorem refParse_calls (l : List UInt8) (hl : l.length ≤ 100000) (w : World) : Calls Tryd.prog 9 #[.string (str l)] w fun e w' => e = .returned (.tuple #[.agg (eEvt.enc (pE l).1).toArray, .bool (pE l).2]) ∧ Below w.heap.size w w' := by
  have bel : Below w.heap.size w w := Below.refl _ _
  go_enter Tryd.func9, Tryd.ntmps9
  refine wp_seq ?_
  refine wp_region_lit ?_
  refine st_new (cs := #[.int .i64 0, .int .i64 0, .int .i64 0, .int .i64 0, .int .i64 0]) (t := 23) (by rfl) (run_allocV rfl f_zero_23 _) ?_
  intro g1 w2 B3 hb4 lo5
  simp only [nf0, nf1, nf2, nf3, nf4]
  replace lo5 := low_le bel lo5
  replace bel := bl_step bel hb4
  clear hb4
  refine st_mv (.bool false) ?_
  simp only [nf0, nf1, nf2, nf3, nf4]
  refine wpList_nil ?_
  show Code.wp _ _ _ _ _
  refine wp_seq ?_
  refine wp_seq ?_
  refine wp_region_lit ?_
  refine st_mv (.int .i64 1) ?_
  simp only [nf0, nf1, nf2, nf3, nf4]
  refine wpList_nil ?_
  show Code.wp _ _ _ _ _
  refine wp_block ?_
  refine wp_loop_left (fun n_ a_ wr_ => (fun J6 => ∃ (k : Nat), n_ = 22 - k ∧ a_ = ⟨#[.string (str l), J6 1, .pointer (some ⟨g1, 0, none⟩), J6 3, .int .i64 (k : Int), J6 5, J6 6, J6 7, J6 8, J6 9, J6 10, J6 11, J6 12, J6 13, J6 14, J6 15, J6 16, J6 17, J6 18, J6 19, J6 20, J6 21, J6 22, J6 23, J6 24, J6 25, J6 26, J6 27, J6 28, J6 29, J6 30, J6 31, J6 32, J6 33, J6 34, J6 35, J6 36, J6 37, J6 38, J6 39, J6 40, J6 41, J6 42, J6 43, J6 44, J6 45, J6 46, J6 47, J6 48, J6 49, J6 50, J6 51, J6 52, J6 53, J6 54, J6 55, J6 56, J6 57, J6 58, J6 59, J6 60, J6 61, J6 62, J6 63, J6 64, J6 65, J6 66, J6 67, J6 68, J6 69, J6 70, J6 71, J6 72, J6 73, J6 74], []⟩ ∧ Blk wr_ g1 #[.int .i64 0, .int .i64 0, .int .i64 0, .int .i64 0, .int .i64 0] 23 ∧ Below w.heap.size w wr_ ∧ (1 ≤ k ∧ k ≤ 22) ∧ (∀ e, okEv e → prE e = l → (k : Int) ≤ e.1)) (jk a_)) (22 - 1) ⟨1, rfl, rfl, B3, bel, (by omega), (fun e he _ => he.1.1)⟩ ?_
  clear B3
  clear bel
  intro n_ a_ w7 h_
  revert h_
  generalize jk a_ = J6
  rintro ⟨k, hms, rfl, B3, bel, hk, hN⟩
  have hnl := nm_len (k : Int)
  have hm0 := mt_start l (k : Int)
  refine wp_seq ?_
  refine wp_seq ?_
  refine wp_region_lit ?_
  refine st_mv (.int .i64 (k : Int)) ?_
  simp only [nf0, nf1, nf2, nf3, nf4]
  refine st_value (v := (.bool (decide ((k : Int) ≤ 21)))) (by rfl) (run_leq (.tmp 11) (.const (.int .i64 21)) rfl rfl rfl w7) ?_
  simp only [nf0, nf1, nf2, nf3, nf4]
  refine wpList_nil ?_
  show Code.wp _ _ _ _ _
  cases hg8 : decide ((k : Int) ≤ 21)
  · have hp9 := of_decide_eq_false hg8
    refine wp_cond_false rfl ?_
    refine wp_exit ?_
    show Code.wp _ _ _ _ _
    refine wp_seq ?_
    refine wp_region_lit ?_
    refine st_value (v := (.agg #[.int .i64 0, .int .i64 0, .int .i64 0, .int .i64 0, .int .i64 0])) (by rfl) (run_buildV rfl (by kernel_rfl) w7) ?_
    simp only [nf0, nf1, nf2, nf3, nf4]
    refine st_row (by rfl) (run_storeW (.tmp 2) (.tmp 74) rfl (cs := #[.int .i64 0, .int .i64 0, .int .i64 0, .int .i64 0, .int .i64 0]) aggEvt rfl rfl B3 rfl (by simp [Value.oneCell'])) B3 ?_
    intro w10 B12 hg11
    simp only [nf0, nf1, nf2, nf3, nf4]
    replace bel := bl_kept0 bel hg11 lo5
    clear hg11
    clear B3
    refine st_mv (.bool false) ?_
    simp only [nf0, nf1, nf2, nf3, nf4]
    refine wpList_nil ?_
    show Code.wp _ _ _ _ _
    refine wp_ret ?_
    first | show bodyPost _ _ _ _ _ _ | (simp only [Exit.then, Exit.inBlock]; show bodyPost _ _ _ _ _ _)
    have hE : pE l = ((0, 0, 0, 0, 0), false) := pE_no fun e he hl_ => by have h1_ := hN e he hl_; have h2_ := he.1.2; omega
    exact bodyPost_ret (results_agg1t rfl (cs := #[.int .i64 0, .int .i64 0, .int .i64 0, .int .i64 0, .int .i64 0]) aggEvt (by rfl) B12) rfl ⟨by rw [hE]; rfl, bel⟩
  have hp13 := of_decide_eq_true hg8
  refine wp_cond_true rfl ?_
  refine wp_skip ?_
  show Code.wp _ _ _ _ _
  refine wp_seq ?_
  refine wp_block ?_
  refine wp_seq ?_
  refine wp_region_lit ?_
  refine st_mv (.int .i64 (k : Int)) ?_
  simp only [nf0, nf1, nf2, nf3, nf4]
  refine st_call1 (v := (.string (str (nm (k : Int))))) (by rfl) (f_run_call_11_1 (.tmp 15) rfl rfl _) (refName_calls (k : Int) w7) ?_
  intro w14 hb15
  simp only [nf0, nf1, nf2, nf3, nf4]
  replace B3 := B3.below hb15
  replace bel := bl_step bel hb15
  clear hb15
  refine st_mv (.string (str (nm (k : Int)))) ?_
  simp only [nf0, nf1, nf2, nf3, nf4]
  refine wpList_nil ?_
  show Code.wp _ _ _ _ _
  refine wp_seq ?_
  refine wp_seq ?_
  cases hg16 : decide ((l.length : Int) < ((nm (k : Int)).length : Int))
  rotate_left
  · have hp110 := of_decide_eq_true hg16
    refine wp_region_lit ?_
    refine st_mv (.string (str l)) ?_
    simp only [nf0, nf1, nf2, nf3, nf4]
    refine st_value (v := (.int .i64 (l.length : Int))) (by rfl) (run_len_text (.tmp 17) rfl Tryd.underlying9 (l := l) rfl w14) ?_
    simp only [nf0, nf1, nf2, nf3, nf4]
    refine st_mv (.string (str (nm (k : Int)))) ?_
    simp only [nf0, nf1, nf2, nf3, nf4]
    refine st_value (v := (.int .i64 ((nm (k : Int)).length : Int))) (by rfl) (run_len_text (.tmp 19) rfl Tryd.underlying9 (l := (nm (k : Int))) rfl w14) ?_
    simp only [nf0, nf1, nf2, nf3, nf4]
    refine st_value (v := (.bool true)) (by rfl) ((run_lss (.tmp 18) (.tmp 20) rfl rfl rfl w14).trans (by rw [hg16])) ?_
    simp only [nf0, nf1, nf2, nf3, nf4]
    refine st_mv (.bool true) ?_
    simp only [nf0, nf1, nf2, nf3, nf4]
    refine st_nob (j := 5) (t := 22) (c := true) rfl rfl rfl rfl rfl ?_
    simp only [nf0, nf1, nf2, nf3, nf4]
    refine st_nob (j := 5) (t := 22) (c := true) rfl rfl rfl rfl rfl ?_
    simp only [nf0, nf1, nf2, nf3, nf4]
    refine st_nob (j := 5) (t := 22) (c := true) rfl rfl rfl rfl rfl ?_
    simp only [nf0, nf1, nf2, nf3, nf4]
    refine st_nob (j := 5) (t := 22) (c := true) rfl rfl rfl rfl rfl ?_
    simp only [nf0, nf1, nf2, nf3, nf4]
    refine st_nob (j := 5) (t := 22) (c := true) rfl rfl rfl rfl rfl ?_
    simp only [nf0, nf1, nf2, nf3, nf4]
    refine st_nob (j := 5) (t := 22) (c := true) rfl rfl rfl rfl rfl ?_
    simp only [nf0, nf1, nf2, nf3, nf4]
    refine st_mv (.bool true) ?_
    simp only [nf0, nf1, nf2, nf3, nf4]
    refine wpList_nil ?_
    show Code.wp _ _ _ _ _
    refine wp_cond_true rfl ?_
    refine wp_exit ?_
    show Code.wp _ _ _ _ _
    refine wp_region_lit ?_
    refine st_mv (.int .i64 (k : Int)) ?_
    simp only [nf0, nf1, nf2, nf3, nf4]
    refine st_value (v := (.int .i64 ((k : Int) + 1))) (by rfl) (run_add_in (.tmp 13) (.const (.int .i64 1)) rfl rfl rfl (by omega) w14) ?_
    simp only [nf0, nf1, nf2, nf3, nf4]
    refine st_mv (.int .i64 ((k : Int) + 1)) ?_
    simp only [nf0, nf1, nf2, nf3, nf4]
    refine wpList_nil ?_
    show ∃ m, m < _ ∧ _
    exact ⟨_, (by omega), (k + 1), rfl, rfl, B3, bel, (by omega), (past hN (mt_pre (by rintro ⟨h1_, h2_⟩; first | contradiction | omega)))⟩
  have hp17 := of_decide_eq_false hg16
  refine wp_region_lit ?_
  refine st_mv (.string (str l)) ?_
  simp only [nf0, nf1, nf2, nf3, nf4]
  refine st_value (v := (.int .i64 (l.length : Int))) (by rfl) (run_len_text (.tmp 17) rfl Tryd.underlying9 (l := l) rfl w14) ?_
  simp only [nf0, nf1, nf2, nf3, nf4]
  refine st_mv (.string (str (nm (k : Int)))) ?_
  simp only [nf0, nf1, nf2, nf3, nf4]
  refine st_value (v := (.int .i64 ((nm (k : Int)).length : Int))) (by rfl) (run_len_text (.tmp 19) rfl Tryd.underlying9 (l := (nm (k : Int))) rfl w14) ?_
  simp only [nf0, nf1, nf2, nf3, nf4]
  refine st_value (v := (.bool false)) (by rfl) ((run_lss (.tmp 18) (.tmp 20) rfl rfl rfl w14).trans (by rw [hg16])) ?_
  simp only [nf0, nf1, nf2, nf3, nf4]
  refine st_mv (.bool false) ?_
  simp only [nf0, nf1, nf2, nf3, nf4]
  refine st_mv (.string (str l)) ?_
  simp only [nf0, nf1, nf2, nf3, nf4]
  refine st_mv (.string (str (nm (k : Int)))) ?_
  simp only [nf0, nf1, nf2, nf3, nf4]
  refine st_value (v := (.int .i64 ((nm (k : Int)).length : Int))) (by rfl) (run_len_text (.tmp 24) rfl Tryd.underlying9 (l := (nm (k : Int))) rfl w14) ?_
  simp only [nf0, nf1, nf2, nf3, nf4]
  refine st_value (v := (.string (str (l.take ((nm (k : Int)).length))))) (by rfl) (run_to_text (.tmp 23) (.tmp 25) rfl Tryd.underlying9 (l := l) (q := ((nm (k : Int)).length)) rfl rfl (by omega) (by omega) w14) ?_
  simp only [nf0, nf1, nf2, nf3, nf4]
  refine st_mv (.string (str (nm (k : Int)))) ?_
  simp only [nf0, nf1, nf2, nf3, nf4]
  refine st_value (v := (.bool (!decide ((l.take ((nm (k : Int)).length)) = (nm (k : Int)))))) (by rfl) (run_neq_text (.tmp 26) (.tmp 27) (l := (l.take ((nm (k : Int)).length))) (m := (nm (k : Int))) rfl rfl rfl w14) ?_
  simp only [nf0, nf1, nf2, nf3, nf4]
  refine st_mv (.bool (!decide ((l.take ((nm (k : Int)).length)) = (nm (k : Int))))) ?_
  simp only [nf0, nf1, nf2, nf3, nf4]
  refine wpList_nil ?_
  show Code.wp _ _ _ _ _
  cases hg18 : decide ((l.take ((nm (k : Int)).length)) = (nm (k : Int)))
  · have hp19 := of_decide_eq_false hg18
    refine wp_cond_true rfl ?_
    refine wp_exit ?_
    show Code.wp _ _ _ _ _
    refine wp_region_lit ?_
    refine st_mv (.int .i64 (k : Int)) ?_
    simp only [nf0, nf1, nf2, nf3, nf4]
    refine st_value (v := (.int .i64 ((k : Int) + 1))) (by rfl) (run_add_in (.tmp 13) (.const (.int .i64 1)) rfl rfl rfl (by omega) w14) ?_
    simp only [nf0, nf1, nf2, nf3, nf4]
    refine st_mv (.int .i64 ((k : Int) + 1)) ?_
    simp only [nf0, nf1, nf2, nf3, nf4]
    refine wpList_nil ?_
    show ∃ m, m < _ ∧ _
    exact ⟨_, (by omega), (k + 1), rfl, rfl, B3, bel, (by omega), (past hN (mt_pre (by rintro ⟨h1_, h2_⟩; first | contradiction | omega)))⟩
  have hp20 := of_decide_eq_true hg18
  refine wp_cond_false rfl ?_
  refine wp_skip ?_
  show Code.wp _ _ _ _ _
  refine wp_seq ?_
  refine wp_region_lit ?_
  refine st_mv (.int .i64 (k : Int)) ?_
  simp only [nf0, nf1, nf2, nf3, nf4]
  refine st_value (v := (.agg #[.int .i64 (k : Int), .int .i64 0, .int .i64 0, .int .i64 0, .int .i64 0])) (by rfl) (run_buildV rfl (by kernel_rfl) w14) ?_
  simp only [nf0, nf1, nf2, nf3, nf4]
  refine st_new (cs := #[.int .i64 0, .int .i64 0, .int .i64 0, .int .i64 0, .int .i64 0]) (t := 23) (by rfl) (run_allocV rfl f_zero_23 _) ?_
  intro g21 w22 B23 hb24 lo25
  simp only [nf0, nf1, nf2, nf3, nf4]
  have n26 := B3.ne lo25
  replace lo25 := low_le bel lo25
  replace B3 := B3.below hb24
  replace bel := bl_step bel hb24
  clear hb24
  refine st_row (by rfl) (run_storeW (.tmp 6) (.tmp 31) rfl (cs := #[.int .i64 (k : Int), .int .i64 0, .int .i64 0, .int .i64 0, .int .i64 0]) aggEvt rfl rfl B23 rfl (by simp [Value.oneCell'])) B23 ?_
  intro w27 B29 hg28
  simp only [nf0, nf1, nf2, nf3, nf4]
  replace B3 := B3.kept hg28 n26
  replace bel := bl_kept0 bel hg28 lo25
  clear hg28
  clear B23
  refine wpList_nil ?_
  show Code.wp _ _ _ _ _
  refine wp_seq ?_
  refine wp_region_lit ?_
  refine st_mv (.string (str (nm (k : Int)))) ?_
  simp only [nf0, nf1, nf2, nf3, nf4]
  refine st_value (v := (.int .i64 ((nm (k : Int)).length : Int))) (by rfl) (run_len_text (.tmp 32) rfl Tryd.underlying9 (l := (nm (k : Int))) rfl w27) ?_
  simp only [nf0, nf1, nf2, nf3, nf4]
  refine st_mv (.int .i64 ((nm (k : Int)).length : Int)) ?_
  simp only [nf0, nf1, nf2, nf3, nf4]
  refine wpList_nil ?_
  show Code.wp _ _ _ _ _
  refine wp_seq ?_
  refine wp_seq ?_
  refine wp_region_lit ?_
  refine st_mv (.int .i64 0) ?_
  simp only [nf0, nf1, nf2, nf3, nf4]
  refine wpList_nil ?_
  show Code.wp _ _ _ _ _
  refine wp_block ?_
  refine wp_loop_rnds 4 ?_
  show Code.wp _ _ _ _ _
  refine wp_seq ?_
  refine wp_seq ?_
  refine wp_region_lit ?_
  refine st_mv (.int .i64 0) ?_
  simp only [nf0, nf1, nf2, nf3, nf4]
  refine st_value (v := (.bool true)) (by rfl) ((run_lss (.tmp 34) (.const (.int .i64 4)) rfl rfl rfl w27).trans (by rw [decide_eq_true (by omega)])) ?_
  simp only [nf0, nf1, nf2, nf3, nf4]
  refine wpList_nil ?_
  show Code.wp _ _ _ _ _
  refine wp_cond_true rfl ?_
  refine wp_skip ?_
  show Code.wp _ _ _ _ _
  refine wp_seq ?_
  refine wp_block ?_
  refine wp_seq ?_
  refine wp_seq ?_
  refine wp_region_lit ?_
  refine st_mv (.int .i64 ((nm (k : Int)).length : Int)) ?_
  simp only [nf0, nf1, nf2, nf3, nf4]
  refine st_mv (.string (str l)) ?_
  simp only [nf0, nf1, nf2, nf3, nf4]
  refine st_value (v := (.int .i64 (l.length : Int))) (by rfl) (run_len_text (.tmp 39) rfl Tryd.underlying9 (l := l) rfl w27) ?_
  simp only [nf0, nf1, nf2, nf3, nf4]
  refine st_value (v := (.bool (decide ((l.length : Int) ≤ ((nm (k : Int)).length : Int))))) (by rfl) (run_geq (.tmp 38) (.tmp 40) rfl rfl rfl w27) ?_
  simp only [nf0, nf1, nf2, nf3, nf4]
  refine wpList_nil ?_
  show Code.wp _ _ _ _ _
  cases hg30 : decide ((l.length : Int) ≤ ((nm (k : Int)).length : Int))
  rotate_left
  · have hp101 := of_decide_eq_true hg30
    refine wp_cond_true rfl ?_
    refine wp_exit ?_
    show Code.wp _ _ _ _ _
    refine wp_seq ?_
    refine wp_region_lit ?_
    refine st_value (v := (.agg #[.int .i64 (k : Int), .int .i64 0, .int .i64 0, .int .i64 0, .int .i64 0])) (by rfl) (run_loadW (.tmp 6) rfl (cs := #[.int .i64 (k : Int), .int .i64 0, .int .i64 0, .int .i64 0, .int .i64 0]) aggEvt rfl B29) ?_
    simp only [nf0, nf1, nf2, nf3, nf4]
    refine st_call1 (v := (.string (str (prE (((k : Int), 0, 0, 0, 0) : TEvt))))) (by rfl) (f_run_call_13_1 (.tmp 69) rfl rfl _) (refPrint_calls (((k : Int), 0, 0, 0, 0) : TEvt) ⟨⟨by show _ ≤ (k : Int); omega, by show (k : Int) ≤ _; omega⟩, zero64, zero64, zero64, zero64⟩ w27) ?_
    intro w102 hb103
    simp only [nf0, nf1, nf2, nf3, nf4]
    replace B3 := B3.below hb103
    replace B29 := B29.below hb103
    replace bel := bl_step bel hb103
    clear hb103
    refine st_mv (.string (str l)) ?_
    simp only [nf0, nf1, nf2, nf3, nf4]
    refine st_value (v := (.bool (decide ((prE (((k : Int), 0, 0, 0, 0) : TEvt)) = l)))) (by rfl) (run_eql_text (.tmp 70) (.tmp 71) (l := (prE (((k : Int), 0, 0, 0, 0) : TEvt))) (m := l) rfl rfl rfl w102) ?_
    simp only [nf0, nf1, nf2, nf3, nf4]
    refine wpList_nil ?_
    show Code.wp _ _ _ _ _
    cases hg104 : decide ((prE (((k : Int), 0, 0, 0, 0) : TEvt)) = l)
    · have hp105 := of_decide_eq_false hg104
      refine wp_cond_false rfl ?_
      refine wp_skip ?_
      show Code.wp _ _ _ _ _
      refine wp_region_lit ?_
      refine st_mv (.int .i64 (k : Int)) ?_
      simp only [nf0, nf1, nf2, nf3, nf4]
      refine st_value (v := (.int .i64 ((k : Int) + 1))) (by rfl) (run_add_in (.tmp 13) (.const (.int .i64 1)) rfl rfl rfl (by omega) w102) ?_
      simp only [nf0, nf1, nf2, nf3, nf4]
      refine st_mv (.int .i64 ((k : Int) + 1)) ?_
      simp only [nf0, nf1, nf2, nf3, nf4]
      refine wpList_nil ?_
      show ∃ m, m < _ ∧ _
      exact ⟨_, (by omega), (k + 1), rfl, rfl, B3, bel, (by omega), (past hN (mt_break hm0 (by simp) (by omega)))⟩
    have hp106 := of_decide_eq_true hg104
    refine wp_cond_true rfl ?_
    refine wp_seq ?_
    refine wp_region_lit ?_
    refine st_value (v := (.agg #[.int .i64 (k : Int), .int .i64 0, .int .i64 0, .int .i64 0, .int .i64 0])) (by rfl) (run_loadW (.tmp 6) rfl (cs := #[.int .i64 (k : Int), .int .i64 0, .int .i64 0, .int .i64 0, .int .i64 0]) aggEvt rfl B29) ?_
    simp only [nf0, nf1, nf2, nf3, nf4]
    refine st_row (by rfl) (run_storeW (.tmp 2) (.tmp 73) rfl (cs := #[.int .i64 (k : Int), .int .i64 0, .int .i64 0, .int .i64 0, .int .i64 0]) aggEvt rfl rfl B3 rfl (by simp [Value.oneCell'])) B3 ?_
    intro w107 B109 hg108
    simp only [nf0, nf1, nf2, nf3, nf4]
    replace B29 := B29.kept hg108 n26.symm
    replace bel := bl_kept0 bel hg108 lo5
    clear hg108
    clear B3
    refine st_mv (.bool true) ?_
    simp only [nf0, nf1, nf2, nf3, nf4]
    refine wpList_nil ?_
    show Code.wp _ _ _ _ _
    refine wp_ret ?_
    first | show bodyPost _ _ _ _ _ _ | (simp only [Exit.then, Exit.inBlock]; show bodyPost _ _ _ _ _ _)
    have hE : pE l = ((((k : Int), 0, 0, 0, 0) : TEvt), true) := pE_yes ⟨by show known (k : Int); unfold known; omega, ⟨⟨by show _ ≤ (k : Int); omega, by show (k : Int) ≤ _; omega⟩, zero64, zero64, zero64, zero64⟩⟩ (by assumption)
    exact bodyPost_ret (results_agg1t rfl (cs := #[.int .i64 (k : Int), .int .i64 0, .int .i64 0, .int .i64 0, .int .i64 0]) aggEvt (by rfl) B109) rfl ⟨by rw [hE]; rfl, bel⟩
  have hp31 := of_decide_eq_false hg30
  refine wp_cond_false rfl ?_
  refine wp_skip ?_
  show Code.wp _ _ _ _ _
  refine wp_seq ?_
  refine wp_region_lit ?_
  refine st_mv (.string (str l)) ?_
  simp only [nf0, nf1, nf2, nf3, nf4]
  refine st_mv (.int .i64 ((nm (k : Int)).length : Int)) ?_
  simp only [nf0, nf1, nf2, nf3, nf4]
  refine st_value (v := (.int .i64 (((nm (k : Int)).length : Int) + 1))) (by rfl) (run_add_in (.tmp 44) (.const (.int .i64 1)) rfl rfl rfl (by omega) w27) ?_
  simp only [nf0, nf1, nf2, nf3, nf4]
  refine st_value (v := (.string (str (l.drop (((nm (k : Int)).length) + 1))))) (by rfl) (run_from_text (.tmp 43) (.tmp 45) rfl Tryd.underlying9 (l := l) (p := (((nm (k : Int)).length) + 1)) rfl rfl (by omega) (by omega) w27) ?_
  simp only [nf0, nf1, nf2, nf3, nf4]
  obtain ⟨z1, q1, hq1⟩ : ∃ z q, rnum (l.drop (((nm (k : Int)).length) + 1)) = (z, q) := ⟨_, _, rfl⟩
  have hz1 := rnum_I64 (l.drop (((nm (k : Int)).length) + 1))
  rw [hq1, List.length_drop] at hz1
  have hm1 : Mt l (k : Int) (((nm (k : Int)).length) + (1 + q1)) [z1] := mt_next hm0  (by simp) hq1
  have hc32 := refNumber_calls (l.drop (((nm (k : Int)).length) + 1)) (by rw [List.length_drop]; omega) w27
  rw [hq1] at hc32
  obtain ⟨z1, q1, hq1⟩ : ∃ z q, rnum (l.drop (((nm (k : Int)).length) + 1)) = (z, q) := ⟨_, _, rfl⟩
  have hz1 := rnum_I64 (l.drop (((nm (k : Int)).length) + 1))
  rw [hq1, List.length_drop] at hz1
  have hm1 : Mt l (k : Int) (((nm (k : Int)).length) + (1 + q1)) [z1] := mt_next hm0  (by simp) hq1
  have hc33 := refNumber_calls (l.drop (((nm (k : Int)).length) + 1)) (by rw [List.length_drop]; omega) w27
  rw [hq1] at hc33
  refine st_call1 (v := (.tuple #[.int .i64 z1, .int .i64 (q1 : Int)])) (by rfl) (f_run_call_24_1 (.tmp 46) rfl rfl _) hc33 ?_
  intro w34 hb35
  simp only [nf0, nf1, nf2, nf3, nf4]
  replace B3 := B3.below hb35
  replace B29 := B29.below hb35
  replace bel := bl_step bel hb35
  clear hb35
  refine st_mv (.tuple #[.int .i64 z1, .int .i64 (q1 : Int)]) ?_
  simp only [nf0, nf1, nf2, nf3, nf4]
  refine st_mv (.int .i64 z1) ?_
  simp only [nf0, nf1, nf2, nf3, nf4]
  refine st_mv (.int .i64 (q1 : Int)) ?_
  simp only [nf0, nf1, nf2, nf3, nf4]
  refine st_mv (.int .i64 z1) ?_
  simp only [nf0, nf1, nf2, nf3, nf4]
  refine st_mv (.int .i64 (q1 : Int)) ?_
  simp only [nf0, nf1, nf2, nf3, nf4]
  refine wpList_nil ?_
  show Code.wp _ _ _ _ _
  refine wp_seq ?_
  refine wp_region_lit ?_
  refine st_mv (.int .i64 ((nm (k : Int)).length : Int)) ?_
  simp only [nf0, nf1, nf2, nf3, nf4]
  refine st_mv (.int .i64 (q1 : Int)) ?_
  simp only [nf0, nf1, nf2, nf3, nf4]
  refine st_value (v := (.int .i64 (1 + (q1 : Int)))) (by rfl) (run_add_in (.const (.int .i64 1)) (.tmp 51) rfl rfl rfl (by omega) w34) ?_
  simp only [nf0, nf1, nf2, nf3, nf4]
  refine st_value (v := (.int .i64 ((((nm (k : Int)).length) + (1 + q1) : Nat) : Int))) (by rfl) ((run_add_in (.tmp 50) (.tmp 52) rfl rfl rfl (by omega) w34).trans (by rw [show (((nm (k : Int)).length : Int)) + ((1 + (q1 : Int))) = ((((nm (k : Int)).length) + (1 + q1) : Nat) : Int) by omega])) ?_
  simp only [nf0, nf1, nf2, nf3, nf4]
  refine st_mv (.int .i64 ((((nm (k : Int)).length) + (1 + q1) : Nat) : Int)) ?_
  simp only [nf0, nf1, nf2, nf3, nf4]
  refine wpList_nil ?_
  show Code.wp _ _ _ _ _
  refine wp_seq ?_
  refine wp_region_lit ?_
  refine st_mv (.int .i64 0) ?_
  simp only [nf0, nf1, nf2, nf3, nf4]
  refine wpList_nil ?_
  show Code.wp _ _ _ _ _
  refine wp_block ?_
  refine wp_seq ?_
  refine wp_region_lit ?_
  refine st_value (v := (.bool true)) (by rfl) (run_eql_int_t (.tmp 54) (.const (.int .i64 0)) rfl rfl rfl rfl w34) ?_
  simp only [nf0, nf1, nf2, nf3, nf4]
  refine st_mv (.bool true) ?_
  simp only [nf0, nf1, nf2, nf3, nf4]
  refine wpList_nil ?_
  show Code.wp _ _ _ _ _
  refine wp_cond_true rfl ?_
  refine wp_region_lit ?_
  refine st_mv (.int .i64 z1) ?_
  simp only [nf0, nf1, nf2, nf3, nf4]
  refine st_value (v := (.pointer (some ⟨g21, 1, none⟩))) (by rfl) (run_fieldA (.tmp 6) rfl f_fld_23_1 rfl rfl w34) ?_
  simp only [nf0, nf1, nf2, nf3, nf4]
  refine st_cell (v := (.int .i64 z1)) (by rfl) (run_storeB (.tmp 60) (.tmp 59) rfl f_one_3 B29 (show 1 < 5 by decide) rfl rfl rfl rfl) B29 ?_
  intro w36 B38 hg37
  simp only [nf0, nf1, nf2, nf3, nf4]
  replace B3 := B3.kept hg37 n26
  replace bel := bl_kept0 bel hg37 lo25
  clear hg37
  clear B29
  replace B38 : Blk w36 g21 #[.int .i64 (k : Int), .int .i64 z1, .int .i64 0, .int .i64 0, .int .i64 0] 23 := B38
  refine wpList_nil ?_
  show Code.wp _ _ _ _ _
  refine wp_region_lit ?_
  refine st_mv (.int .i64 0) ?_
  simp only [nf0, nf1, nf2, nf3, nf4]
  refine st_value (v := (.int .i64 1)) (by rfl) ((run_add_in (.tmp 36) (.const (.int .i64 1)) rfl rfl rfl (by omega) w36).trans (by rw [show ((0 : Int) + 1) = 1 by omega])) ?_
  simp only [nf0, nf1, nf2, nf3, nf4]
  refine st_mv (.int .i64 1) ?_
  simp only [nf0, nf1, nf2, nf3, nf4]
  refine wpList_nil ?_
  show Code.wp _ _ _ _ _
  refine wp_seq ?_
  refine wp_seq ?_
  refine wp_region_lit ?_
  refine st_mv (.int .i64 1) ?_
  simp only [nf0, nf1, nf2, nf3, nf4]
  refine st_value (v := (.bool true)) (by rfl) ((run_lss (.tmp 34) (.const (.int .i64 4)) rfl rfl rfl w36).trans (by rw [decide_eq_true (by omega)])) ?_
  simp only [nf0, nf1, nf2, nf3, nf4]
  refine wpList_nil ?_
  show Code.wp _ _ _ _ _
  refine wp_cond_true rfl ?_
  refine wp_skip ?_
  show Code.wp _ _ _ _ _
  refine wp_seq ?_
  refine wp_block ?_
  refine wp_seq ?_
  refine wp_seq ?_
  refine wp_region_lit ?_
  refine st_mv (.int .i64 ((((nm (k : Int)).length) + (1 + q1) : Nat) : Int)) ?_
  simp only [nf0, nf1, nf2, nf3, nf4]
  refine st_mv (.string (str l)) ?_
  simp only [nf0, nf1, nf2, nf3, nf4]
  refine st_value (v := (.int .i64 (l.length : Int))) (by rfl) (run_len_text (.tmp 39) rfl Tryd.underlying9 (l := l) rfl w36) ?_
  simp only [nf0, nf1, nf2, nf3, nf4]
  refine st_value (v := (.bool (decide ((l.length : Int) ≤ ((((nm (k : Int)).length) + (1 + q1) : Nat) : Int))))) (by rfl) (run_geq (.tmp 38) (.tmp 40) rfl rfl rfl w36) ?_
  simp only [nf0, nf1, nf2, nf3, nf4]
  refine wpList_nil ?_
  show Code.wp _ _ _ _ _
  cases hg39 : decide ((l.length : Int) ≤ ((((nm (k : Int)).length) + (1 + q1) : Nat) : Int))
  rotate_left
  · have hp92 := of_decide_eq_true hg39
    refine wp_cond_true rfl ?_
    refine wp_exit ?_
    show Code.wp _ _ _ _ _
    refine wp_seq ?_
    refine wp_region_lit ?_
    refine st_value (v := (.agg #[.int .i64 (k : Int), .int .i64 z1, .int .i64 0, .int .i64 0, .int .i64 0])) (by rfl) (run_loadW (.tmp 6) rfl (cs := #[.int .i64 (k : Int), .int .i64 z1, .int .i64 0, .int .i64 0, .int .i64 0]) aggEvt rfl B38) ?_
    simp only [nf0, nf1, nf2, nf3, nf4]
    refine st_call1 (v := (.string (str (prE (((k : Int), z1, 0, 0, 0) : TEvt))))) (by rfl) (f_run_call_13_1 (.tmp 69) rfl rfl _) (refPrint_calls (((k : Int), z1, 0, 0, 0) : TEvt) ⟨⟨by show _ ≤ (k : Int); omega, by show (k : Int) ≤ _; omega⟩, hz1.1, zero64, zero64, zero64⟩ w36) ?_
    intro w93 hb94
    simp only [nf0, nf1, nf2, nf3, nf4]
    replace B3 := B3.below hb94
    replace B38 := B38.below hb94
    replace bel := bl_step bel hb94
    clear hb94
    refine st_mv (.string (str l)) ?_
    simp only [nf0, nf1, nf2, nf3, nf4]
    refine st_value (v := (.bool (decide ((prE (((k : Int), z1, 0, 0, 0) : TEvt)) = l)))) (by rfl) (run_eql_text (.tmp 70) (.tmp 71) (l := (prE (((k : Int), z1, 0, 0, 0) : TEvt))) (m := l) rfl rfl rfl w93) ?_
    simp only [nf0, nf1, nf2, nf3, nf4]
    refine wpList_nil ?_
    show Code.wp _ _ _ _ _
    cases hg95 : decide ((prE (((k : Int), z1, 0, 0, 0) : TEvt)) = l)
    · have hp96 := of_decide_eq_false hg95
      refine wp_cond_false rfl ?_
      refine wp_skip ?_
      show Code.wp _ _ _ _ _
      refine wp_region_lit ?_
      refine st_mv (.int .i64 (k : Int)) ?_
      simp only [nf0, nf1, nf2, nf3, nf4]
      refine st_value (v := (.int .i64 ((k : Int) + 1))) (by rfl) (run_add_in (.tmp 13) (.const (.int .i64 1)) rfl rfl rfl (by omega) w93) ?_
      simp only [nf0, nf1, nf2, nf3, nf4]
      refine st_mv (.int .i64 ((k : Int) + 1)) ?_
      simp only [nf0, nf1, nf2, nf3, nf4]
      refine wpList_nil ?_
      show ∃ m, m < _ ∧ _
      exact ⟨_, (by omega), (k + 1), rfl, rfl, B3, bel, (by omega), (past hN (mt_break hm1 (by simp) (by omega)))⟩
    have hp97 := of_decide_eq_true hg95
    refine wp_cond_true rfl ?_
    refine wp_seq ?_
    refine wp_region_lit ?_
    refine st_value (v := (.agg #[.int .i64 (k : Int), .int .i64 z1, .int .i64 0, .int .i64 0, .int .i64 0])) (by rfl) (run_loadW (.tmp 6) rfl (cs := #[.int .i64 (k : Int), .int .i64 z1, .int .i64 0, .int .i64 0, .int .i64 0]) aggEvt rfl B38) ?_
    simp only [nf0, nf1, nf2, nf3, nf4]
    refine st_row (by rfl) (run_storeW (.tmp 2) (.tmp 73) rfl (cs := #[.int .i64 (k : Int), .int .i64 z1, .int .i64 0, .int .i64 0, .int .i64 0]) aggEvt rfl rfl B3 rfl (by simp [Value.oneCell'])) B3 ?_
    intro w98 B100 hg99
    simp only [nf0, nf1, nf2, nf3, nf4]
    replace B38 := B38.kept hg99 n26.symm
    replace bel := bl_kept0 bel hg99 lo5
    clear hg99
    clear B3
    refine st_mv (.bool true) ?_
    simp only [nf0, nf1, nf2, nf3, nf4]
    refine wpList_nil ?_
    show Code.wp _ _ _ _ _
    refine wp_ret ?_
    first | show bodyPost _ _ _ _ _ _ | (simp only [Exit.then, Exit.inBlock]; show bodyPost _ _ _ _ _ _)
    have hE : pE l = ((((k : Int), z1, 0, 0, 0) : TEvt), true) := pE_yes ⟨by show known (k : Int); unfold known; omega, ⟨⟨by show _ ≤ (k : Int); omega, by show (k : Int) ≤ _; omega⟩, hz1.1, zero64, zero64, zero64⟩⟩ (by assumption)
    exact bodyPost_ret (results_agg1t rfl (cs := #[.int .i64 (k : Int), .int .i64 z1, .int .i64 0, .int .i64 0, .int .i64 0]) aggEvt (by rfl) B100) rfl ⟨by rw [hE]; rfl, bel⟩
  have hp40 := of_decide_eq_false hg39
  refine wp_cond_false rfl ?_
  refine wp_skip ?_
  show Code.wp _ _ _ _ _
  refine wp_seq ?_
  refine wp_region_lit ?_
  refine st_mv (.string (str l)) ?_
  simp only [nf0, nf1, nf2, nf3, nf4]
  refine st_mv (.int .i64 ((((nm (k : Int)).length) + (1 + q1) : Nat) : Int)) ?_
  simp only [nf0, nf1, nf2, nf3, nf4]
  refine st_value (v := (.int .i64 (((((nm (k : Int)).length) + (1 + q1) : Nat) : Int) + 1))) (by rfl) (run_add_in (.tmp 44) (.const (.int .i64 1)) rfl rfl rfl (by omega) w36) ?_
  simp only [nf0, nf1, nf2, nf3, nf4]
  refine st_value (v := (.string (str (l.drop ((((nm (k : Int)).length) + (1 + q1)) + 1))))) (by rfl) (run_from_text (.tmp 43) (.tmp 45) rfl Tryd.underlying9 (l := l) (p := ((((nm (k : Int)).length) + (1 + q1)) + 1)) rfl rfl (by omega) (by omega) w36) ?_
  simp only [nf0, nf1, nf2, nf3, nf4]
  obtain ⟨z2, q2, hq2⟩ : ∃ z q, rnum (l.drop ((((nm (k : Int)).length) + (1 + q1)) + 1)) = (z, q) := ⟨_, _, rfl⟩
  have hz2 := rnum_I64 (l.drop ((((nm (k : Int)).length) + (1 + q1)) + 1))
  rw [hq2, List.length_drop] at hz2
  have hm2 : Mt l (k : Int) ((((nm (k : Int)).length) + (1 + q1)) + (1 + q2)) [z1, z2] := mt_next hm1  (by simp) hq2
  have hc41 := refNumber_calls (l.drop ((((nm (k : Int)).length) + (1 + q1)) + 1)) (by rw [List.length_drop]; omega) w36
  rw [hq2] at hc41
  obtain ⟨z2, q2, hq2⟩ : ∃ z q, rnum (l.drop ((((nm (k : Int)).length) + (1 + q1)) + 1)) = (z, q) := ⟨_, _, rfl⟩
  have hz2 := rnum_I64 (l.drop ((((nm (k : Int)).length) + (1 + q1)) + 1))
  rw [hq2, List.length_drop] at hz2
  have hm2 : Mt l (k : Int) ((((nm (k : Int)).length) + (1 + q1)) + (1 + q2)) [z1, z2] := mt_next hm1  (by simp) hq2
  have hc42 := refNumber_calls (l.drop ((((nm (k : Int)).length) + (1 + q1)) + 1)) (by rw [List.length_drop]; omega) w36
  rw [hq2] at hc42
  refine st_call1 (v := (.tuple #[.int .i64 z2, .int .i64 (q2 : Int)])) (by rfl) (f_run_call_24_1 (.tmp 46) rfl rfl _) hc42 ?_
  intro w43 hb44
  simp only [nf0, nf1, nf2, nf3, nf4]
  replace B3 := B3.below hb44
  replace B38 := B38.below hb44
  replace bel := bl_step bel hb44
  clear hb44
  refine st_mv (.tuple #[.int .i64 z2, .int .i64 (q2 : Int)]) ?_
  simp only [nf0, nf1, nf2, nf3, nf4]
  refine st_mv (.int .i64 z2) ?_
  simp only [nf0, nf1, nf2, nf3, nf4]
  refine st_mv (.int .i64 (q2 : Int)) ?_
  simp only [nf0, nf1, nf2, nf3, nf4]
  refine st_mv (.int .i64 z2) ?_
  simp only [nf0, nf1, nf2, nf3, nf4]
  refine st_mv (.int .i64 (q2 : Int)) ?_
  simp only [nf0, nf1, nf2, nf3, nf4]
  refine wpList_nil ?_
  show Code.wp _ _ _ _ _
  refine wp_seq ?_
  refine wp_region_lit ?_
  refine st_mv (.int .i64 ((((nm (k : Int)).length) + (1 + q1) : Nat) : Int)) ?_
  simp only [nf0, nf1, nf2, nf3, nf4]
  refine st_mv (.int .i64 (q2 : Int)) ?_
  simp only [nf0, nf1, nf2, nf3, nf4]
  refine st_value (v := (.int .i64 (1 + (q2 : Int)))) (by rfl) (run_add_in (.const (.int .i64 1)) (.tmp 51) rfl rfl rfl (by omega) w43) ?_
  simp only [nf0, nf1, nf2, nf3, nf4]
  refine st_value (v := (.int .i64 (((((nm (k : Int)).length) + (1 + q1)) + (1 + q2) : Nat) : Int))) (by rfl) ((run_add_in (.tmp 50) (.tmp 52) rfl rfl rfl (by omega) w43).trans (by rw [show (((((nm (k : Int)).length) + (1 + q1) : Nat) : Int)) + ((1 + (q2 : Int))) = (((((nm (k : Int)).length) + (1 + q1)) + (1 + q2) : Nat) : Int) by omega])) ?_
  simp only [nf0, nf1, nf2, nf3, nf4]
  refine st_mv (.int .i64 (((((nm (k : Int)).length) + (1 + q1)) + (1 + q2) : Nat) : Int)) ?_
  simp only [nf0, nf1, nf2, nf3, nf4]
  refine wpList_nil ?_
  show Code.wp _ _ _ _ _
  refine wp_seq ?_
  refine wp_region_lit ?_
  refine st_mv (.int .i64 1) ?_
  simp only [nf0, nf1, nf2, nf3, nf4]
  refine wpList_nil ?_
  show Code.wp _ _ _ _ _
  refine wp_block ?_
  refine wp_seq ?_
  refine wp_region_lit ?_
  refine st_value (v := (.bool false)) (by rfl) (run_eql_int_f (.tmp 54) (.const (.int .i64 0)) rfl rfl rfl (by decide) w43) ?_
  simp only [nf0, nf1, nf2, nf3, nf4]
  refine st_mv (.bool false) ?_
  simp only [nf0, nf1, nf2, nf3, nf4]
  refine wpList_nil ?_
  show Code.wp _ _ _ _ _
  refine wp_cond_false rfl ?_
  refine wp_seq ?_
  refine wp_region_lit ?_
  refine st_value (v := (.bool true)) (by rfl) (run_eql_int_t (.tmp 54) (.const (.int .i64 1)) rfl rfl rfl rfl w43) ?_
  simp only [nf0, nf1, nf2, nf3, nf4]
  refine st_mv (.bool true) ?_
  simp only [nf0, nf1, nf2, nf3, nf4]
  refine wpList_nil ?_
  show Code.wp _ _ _ _ _
  refine wp_cond_true rfl ?_
  refine wp_region_lit ?_
  refine st_mv (.int .i64 z2) ?_
  simp only [nf0, nf1, nf2, nf3, nf4]
  refine st_value (v := (.pointer (some ⟨g21, 2, none⟩))) (by rfl) (run_fieldA (.tmp 6) rfl f_fld_23_2 rfl rfl w43) ?_
  simp only [nf0, nf1, nf2, nf3, nf4]
  refine st_cell (v := (.int .i64 z2)) (by rfl) (run_storeB (.tmp 64) (.tmp 63) rfl f_one_3 B38 (show 2 < 5 by decide) rfl rfl rfl rfl) B38 ?_
  intro w45 B47 hg46
  simp only [nf0, nf1, nf2, nf3, nf4]
  replace B3 := B3.kept hg46 n26
  replace bel := bl_kept0 bel hg46 lo25
  clear hg46
  clear B38
  replace B47 : Blk w45 g21 #[.int .i64 (k : Int), .int .i64 z1, .int .i64 z2, .int .i64 0, .int .i64 0] 23 := B47
  refine wpList_nil ?_
  show Code.wp _ _ _ _ _
  refine wp_region_lit ?_
  refine st_mv (.int .i64 1) ?_
  simp only [nf0, nf1, nf2, nf3, nf4]
  refine st_value (v := (.int .i64 2)) (by rfl) ((run_add_in (.tmp 36) (.const (.int .i64 1)) rfl rfl rfl (by omega) w45).trans (by rw [show ((1 : Int) + 1) = 2 by omega])) ?_
  simp only [nf0, nf1, nf2, nf3, nf4]
  refine st_mv (.int .i64 2) ?_
  simp only [nf0, nf1, nf2, nf3, nf4]
  refine wpList_nil ?_
  show Code.wp _ _ _ _ _
  refine wp_seq ?_
  refine wp_seq ?_
  refine wp_region_lit ?_
  refine st_mv (.int .i64 2) ?_
  simp only [nf0, nf1, nf2, nf3, nf4]
  refine st_value (v := (.bool true)) (by rfl) ((run_lss (.tmp 34) (.const (.int .i64 4)) rfl rfl rfl w45).trans (by rw [decide_eq_true (by omega)])) ?_
  simp only [nf0, nf1, nf2, nf3, nf4]
  refine wpList_nil ?_
  show Code.wp _ _ _ _ _
  refine wp_cond_true rfl ?_
  refine wp_skip ?_
  show Code.wp _ _ _ _ _
  refine wp_seq ?_
  refine wp_block ?_
  refine wp_seq ?_
  refine wp_seq ?_
  refine wp_region_lit ?_
  refine st_mv (.int .i64 (((((nm (k : Int)).length) + (1 + q1)) + (1 + q2) : Nat) : Int)) ?_
  simp only [nf0, nf1, nf2, nf3, nf4]
  refine st_mv (.string (str l)) ?_
  simp only [nf0, nf1, nf2, nf3, nf4]
  refine st_value (v := (.int .i64 (l.length : Int))) (by rfl) (run_len_text (.tmp 39) rfl Tryd.underlying9 (l := l) rfl w45) ?_
  simp only [nf0, nf1, nf2, nf3, nf4]
  refine st_value (v := (.bool (decide ((l.length : Int) ≤ (((((nm (k : Int)).length) + (1 + q1)) + (1 + q2) : Nat) : Int))))) (by rfl) (run_geq (.tmp 38) (.tmp 40) rfl rfl rfl w45) ?_
  simp only [nf0, nf1, nf2, nf3, nf4]
  refine wpList_nil ?_
  show Code.wp _ _ _ _ _
  cases hg48 : decide ((l.length : Int) ≤ (((((nm (k : Int)).length) + (1 + q1)) + (1 + q2) : Nat) : Int))
  rotate_left
  · have hp83 := of_decide_eq_true hg48
    refine wp_cond_true rfl ?_
    refine wp_exit ?_
    show Code.wp _ _ _ _ _
    refine wp_seq ?_
    refine wp_region_lit ?_
    refine st_value (v := (.agg #[.int .i64 (k : Int), .int .i64 z1, .int .i64 z2, .int .i64 0, .int .i64 0])) (by rfl) (run_loadW (.tmp 6) rfl (cs := #[.int .i64 (k : Int), .int .i64 z1, .int .i64 z2, .int .i64 0, .int .i64 0]) aggEvt rfl B47) ?_
    simp only [nf0, nf1, nf2, nf3, nf4]
    refine st_call1 (v := (.string (str (prE (((k : Int), z1, z2, 0, 0) : TEvt))))) (by rfl) (f_run_call_13_1 (.tmp 69) rfl rfl _) (refPrint_calls (((k : Int), z1, z2, 0, 0) : TEvt) ⟨⟨by show _ ≤ (k : Int); omega, by show (k : Int) ≤ _; omega⟩, hz1.1, hz2.1, zero64, zero64⟩ w45) ?_
    intro w84 hb85
    simp only [nf0, nf1, nf2, nf3, nf4]
    replace B3 := B3.below hb85
    replace B47 := B47.below hb85
    replace bel := bl_step bel hb85
    clear hb85
    refine st_mv (.string (str l)) ?_
    simp only [nf0, nf1, nf2, nf3, nf4]
    refine st_value (v := (.bool (decide ((prE (((k : Int), z1, z2, 0, 0) : TEvt)) = l)))) (by rfl) (run_eql_text (.tmp 70) (.tmp 71) (l := (prE (((k : Int), z1, z2, 0, 0) : TEvt))) (m := l) rfl rfl rfl w84) ?_
    simp only [nf0, nf1, nf2, nf3, nf4]
    refine wpList_nil ?_
    show Code.wp _ _ _ _ _
    cases hg86 : decide ((prE (((k : Int), z1, z2, 0, 0) : TEvt)) = l)
    · have hp87 := of_decide_eq_false hg86
      refine wp_cond_false rfl ?_
      refine wp_skip ?_
      show Code.wp _ _ _ _ _
      refine wp_region_lit ?_
      refine st_mv (.int .i64 (k : Int)) ?_
      simp only [nf0, nf1, nf2, nf3, nf4]
      refine st_value (v := (.int .i64 ((k : Int) + 1))) (by rfl) (run_add_in (.tmp 13) (.const (.int .i64 1)) rfl rfl rfl (by omega) w84) ?_
      simp only [nf0, nf1, nf2, nf3, nf4]
      refine st_mv (.int .i64 ((k : Int) + 1)) ?_
      simp only [nf0, nf1, nf2, nf3, nf4]
      refine wpList_nil ?_
      show ∃ m, m < _ ∧ _
      exact ⟨_, (by omega), (k + 1), rfl, rfl, B3, bel, (by omega), (past hN (mt_break hm2 (by simp) (by omega)))⟩
    have hp88 := of_decide_eq_true hg86
    refine wp_cond_true rfl ?_
    refine wp_seq ?_
    refine wp_region_lit ?_
    refine st_value (v := (.agg #[.int .i64 (k : Int), .int .i64 z1, .int .i64 z2, .int .i64 0, .int .i64 0])) (by rfl) (run_loadW (.tmp 6) rfl (cs := #[.int .i64 (k : Int), .int .i64 z1, .int .i64 z2, .int .i64 0, .int .i64 0]) aggEvt rfl B47) ?_
    simp only [nf0, nf1, nf2, nf3, nf4]
    refine st_row (by rfl) (run_storeW (.tmp 2) (.tmp 73) rfl (cs := #[.int .i64 (k : Int), .int .i64 z1, .int .i64 z2, .int .i64 0, .int .i64 0]) aggEvt rfl rfl B3 rfl (by simp [Value.oneCell'])) B3 ?_
    intro w89 B91 hg90
    simp only [nf0, nf1, nf2, nf3, nf4]
    replace B47 := B47.kept hg90 n26.symm
    replace bel := bl_kept0 bel hg90 lo5
    clear hg90
    clear B3
    refine st_mv (.bool true) ?_
    simp only [nf0, nf1, nf2, nf3, nf4]
    refine wpList_nil ?_
    show Code.wp _ _ _ _ _
    refine wp_ret ?_
    first | show bodyPost _ _ _ _ _ _ | (simp only [Exit.then, Exit.inBlock]; show bodyPost _ _ _ _ _ _)
    have hE : pE l = ((((k : Int), z1, z2, 0, 0) : TEvt), true) := pE_yes ⟨by show known (k : Int); unfold known; omega, ⟨⟨by show _ ≤ (k : Int); omega, by show (k : Int) ≤ _; omega⟩, hz1.1, hz2.1, zero64, zero64⟩⟩ (by assumption)
    exact bodyPost_ret (results_agg1t rfl (cs := #[.int .i64 (k : Int), .int .i64 z1, .int .i64 z2, .int .i64 0, .int .i64 0]) aggEvt (by rfl) B91) rfl ⟨by rw [hE]; rfl, bel⟩
  have hp49 := of_decide_eq_false hg48
  refine wp_cond_false rfl ?_
  refine wp_skip ?_
  show Code.wp _ _ _ _ _
  refine wp_seq ?_
  refine wp_region_lit ?_
  refine st_mv (.string (str l)) ?_
  simp only [nf0, nf1, nf2, nf3, nf4]
  refine st_mv (.int .i64 (((((nm (k : Int)).length) + (1 + q1)) + (1 + q2) : Nat) : Int)) ?_
  simp only [nf0, nf1, nf2, nf3, nf4]
  refine st_value (v := (.int .i64 ((((((nm (k : Int)).length) + (1 + q1)) + (1 + q2) : Nat) : Int) + 1))) (by rfl) (run_add_in (.tmp 44) (.const (.int .i64 1)) rfl rfl rfl (by omega) w45) ?_
  simp only [nf0, nf1, nf2, nf3, nf4]
  refine st_value (v := (.string (str (l.drop (((((nm (k : Int)).length) + (1 + q1)) + (1 + q2)) + 1))))) (by rfl) (run_from_text (.tmp 43) (.tmp 45) rfl Tryd.underlying9 (l := l) (p := (((((nm (k : Int)).length) + (1 + q1)) + (1 + q2)) + 1)) rfl rfl (by omega) (by omega) w45) ?_
  simp only [nf0, nf1, nf2, nf3, nf4]
  obtain ⟨z3, q3, hq3⟩ : ∃ z q, rnum (l.drop (((((nm (k : Int)).length) + (1 + q1)) + (1 + q2)) + 1)) = (z, q) := ⟨_, _, rfl⟩
  have hz3 := rnum_I64 (l.drop (((((nm (k : Int)).length) + (1 + q1)) + (1 + q2)) + 1))
  rw [hq3, List.length_drop] at hz3
  have hm3 : Mt l (k : Int) (((((nm (k : Int)).length) + (1 + q1)) + (1 + q2)) + (1 + q3)) [z1, z2, z3] := mt_next hm2  (by simp) hq3
  have hc50 := refNumber_calls (l.drop (((((nm (k : Int)).length) + (1 + q1)) + (1 + q2)) + 1)) (by rw [List.length_drop]; omega) w45
  rw [hq3] at hc50
  obtain ⟨z3, q3, hq3⟩ : ∃ z q, rnum (l.drop (((((nm (k : Int)).length) + (1 + q1)) + (1 + q2)) + 1)) = (z, q) := ⟨_, _, rfl⟩
  have hz3 := rnum_I64 (l.drop (((((nm (k : Int)).length) + (1 + q1)) + (1 + q2)) + 1))
  rw [hq3, List.length_drop] at hz3
  have hm3 : Mt l (k : Int) (((((nm (k : Int)).length) + (1 + q1)) + (1 + q2)) + (1 + q3)) [z1, z2, z3] := mt_next hm2  (by simp) hq3
  have hc51 := refNumber_calls (l.drop (((((nm (k : Int)).length) + (1 + q1)) + (1 + q2)) + 1)) (by rw [List.length_drop]; omega) w45
  rw [hq3] at hc51
  refine st_call1 (v := (.tuple #[.int .i64 z3, .int .i64 (q3 : Int)])) (by rfl) (f_run_call_24_1 (.tmp 46) rfl rfl _) hc51 ?_
  intro w52 hb53
  simp only [nf0, nf1, nf2, nf3, nf4]
  replace B3 := B3.below hb53
  replace B47 := B47.below hb53
  replace bel := bl_step bel hb53
  clear hb53
  refine st_mv (.tuple #[.int .i64 z3, .int .i64 (q3 : Int)]) ?_
  simp only [nf0, nf1, nf2, nf3, nf4]
  refine st_mv (.int .i64 z3) ?_
  simp only [nf0, nf1, nf2, nf3, nf4]
  refine st_mv (.int .i64 (q3 : Int)) ?_
  simp only [nf0, nf1, nf2, nf3, nf4]
  refine st_mv (.int .i64 z3) ?_
  simp only [nf0, nf1, nf2, nf3, nf4]
  refine st_mv (.int .i64 (q3 : Int)) ?_
  simp only [nf0, nf1, nf2, nf3, nf4]
  refine wpList_nil ?_
  show Code.wp _ _ _ _ _
  refine wp_seq ?_
  refine wp_region_lit ?_
  refine st_mv (.int .i64 (((((nm (k : Int)).length) + (1 + q1)) + (1 + q2) : Nat) : Int)) ?_
  simp only [nf0, nf1, nf2, nf3, nf4]
  refine st_mv (.int .i64 (q3 : Int)) ?_
  simp only [nf0, nf1, nf2, nf3, nf4]
  refine st_value (v := (.int .i64 (1 + (q3 : Int)))) (by rfl) (run_add_in (.const (.int .i64 1)) (.tmp 51) rfl rfl rfl (by omega) w52) ?_
  simp only [nf0, nf1, nf2, nf3, nf4]
  refine st_value (v := (.int .i64 ((((((nm (k : Int)).length) + (1 + q1)) + (1 + q2)) + (1 + q3) : Nat) : Int))) (by rfl) ((run_add_in (.tmp 50) (.tmp 52) rfl rfl rfl (by omega) w52).trans (by rw [show ((((((nm (k : Int)).length) + (1 + q1)) + (1 + q2) : Nat) : Int)) + ((1 + (q3 : Int))) = ((((((nm (k : Int)).length) + (1 + q1)) + (1 + q2)) + (1 + q3) : Nat) : Int) by omega])) ?_
  simp only [nf0, nf1, nf2, nf3, nf4]
  refine st_mv (.int .i64 ((((((nm (k : Int)).length) + (1 + q1)) + (1 + q2)) + (1 + q3) : Nat) : Int)) ?_
  simp only [nf0, nf1, nf2, nf3, nf4]
  refine wpList_nil ?_
  show Code.wp _ _ _ _ _
  refine wp_seq ?_
  refine wp_region_lit ?_
  refine st_mv (.int .i64 2) ?_
  simp only [nf0, nf1, nf2, nf3, nf4]
  refine wpList_nil ?_
  show Code.wp _ _ _ _ _
  refine wp_block ?_
  refine wp_seq ?_
  refine wp_region_lit ?_
  refine st_value (v := (.bool false)) (by rfl) (run_eql_int_f (.tmp 54) (.const (.int .i64 0)) rfl rfl rfl (by decide) w52) ?_
  simp only [nf0, nf1, nf2, nf3, nf4]
  refine st_mv (.bool false) ?_
  simp only [nf0, nf1, nf2, nf3, nf4]
  refine wpList_nil ?_
  show Code.wp _ _ _ _ _
  refine wp_cond_false rfl ?_
  refine wp_seq ?_
  refine wp_region_lit ?_
  refine st_value (v := (.bool false)) (by rfl) (run_eql_int_f (.tmp 54) (.const (.int .i64 1)) rfl rfl rfl (by decide) w52) ?_
  simp only [nf0, nf1, nf2, nf3, nf4]
  refine st_mv (.bool false) ?_
  simp only [nf0, nf1, nf2, nf3, nf4]
  refine wpList_nil ?_
  show Code.wp _ _ _ _ _
  refine wp_cond_false rfl ?_
  refine wp_seq ?_
  refine wp_region_lit ?_
  refine st_value (v := (.bool true)) (by rfl) (run_eql_int_t (.tmp 54) (.const (.int .i64 2)) rfl rfl rfl rfl w52) ?_
  simp only [nf0, nf1, nf2, nf3, nf4]
  refine st_mv (.bool true) ?_
  simp only [nf0, nf1, nf2, nf3, nf4]
  refine wpList_nil ?_
  show Code.wp _ _ _ _ _
  refine wp_cond_true rfl ?_
  refine wp_region_lit ?_
  refine st_mv (.int .i64 z3) ?_
  simp only [nf0, nf1, nf2, nf3, nf4]
  refine st_value (v := (.pointer (some ⟨g21, 3, none⟩))) (by rfl) (run_fieldA (.tmp 6) rfl f_fld_23_3 rfl rfl w52) ?_
  simp only [nf0, nf1, nf2, nf3, nf4]
  refine st_cell (v := (.int .i64 z3)) (by rfl) (run_storeB (.tmp 68) (.tmp 67) rfl f_one_3 B47 (show 3 < 5 by decide) rfl rfl rfl rfl) B47 ?_
  intro w54 B56 hg55
  simp only [nf0, nf1, nf2, nf3, nf4]
  replace B3 := B3.kept hg55 n26
  replace bel := bl_kept0 bel hg55 lo25
  clear hg55
  clear B47
  replace B56 : Blk w54 g21 #[.int .i64 (k : Int), .int .i64 z1, .int .i64 z2, .int .i64 z3, .int .i64 0] 23 := B56
  refine wpList_nil ?_
  show Code.wp _ _ _ _ _
  refine wp_region_lit ?_
  refine st_mv (.int .i64 2) ?_
  simp only [nf0, nf1, nf2, nf3, nf4]
  refine st_value (v := (.int .i64 3)) (by rfl) ((run_add_in (.tmp 36) (.const (.int .i64 1)) rfl rfl rfl (by omega) w54).trans (by rw [show ((2 : Int) + 1) = 3 by omega])) ?_
  simp only [nf0, nf1, nf2, nf3, nf4]
  refine st_mv (.int .i64 3) ?_
  simp only [nf0, nf1, nf2, nf3, nf4]
  refine wpList_nil ?_
  show Code.wp _ _ _ _ _
  refine wp_seq ?_
  refine wp_seq ?_
  refine wp_region_lit ?_
  refine st_mv (.int .i64 3) ?_
  simp only [nf0, nf1, nf2, nf3, nf4]
  refine st_value (v := (.bool true)) (by rfl) ((run_lss (.tmp 34) (.const (.int .i64 4)) rfl rfl rfl w54).trans (by rw [decide_eq_true (by omega)])) ?_
  simp only [nf0, nf1, nf2, nf3, nf4]
  refine wpList_nil ?_
  show Code.wp _ _ _ _ _
  refine wp_cond_true rfl ?_
  refine wp_skip ?_
  show Code.wp _ _ _ _ _
  refine wp_seq ?_
  refine wp_block ?_
  refine wp_seq ?_
  refine wp_seq ?_
  refine wp_region_lit ?_
  refine st_mv (.int .i64 ((((((nm (k : Int)).length) + (1 + q1)) + (1 + q2)) + (1 + q3) : Nat) : Int)) ?_
  simp only [nf0, nf1, nf2, nf3, nf4]
  refine st_mv (.string (str l)) ?_
  simp only [nf0, nf1, nf2, nf3, nf4]
  refine st_value (v := (.int .i64 (l.length : Int))) (by rfl) (run_len_text (.tmp 39) rfl Tryd.underlying9 (l := l) rfl w54) ?_
  simp only [nf0, nf1, nf2, nf3, nf4]
  refine st_value (v := (.bool (decide ((l.length : Int) ≤ ((((((nm (k : Int)).length) + (1 + q1)) + (1 + q2)) + (1 + q3) : Nat) : Int))))) (by rfl) (run_geq (.tmp 38) (.tmp 40) rfl rfl rfl w54) ?_
  simp only [nf0, nf1, nf2, nf3, nf4]
  refine wpList_nil ?_
  show Code.wp _ _ _ _ _
  cases hg57 : decide ((l.length : Int) ≤ ((((((nm (k : Int)).length) + (1 + q1)) + (1 + q2)) + (1 + q3) : Nat) : Int))
  rotate_left
  · have hp74 := of_decide_eq_true hg57
    refine wp_cond_true rfl ?_
    refine wp_exit ?_
    show Code.wp _ _ _ _ _
    refine wp_seq ?_
    refine wp_region_lit ?_
    refine st_value (v := (.agg #[.int .i64 (k : Int), .int .i64 z1, .int .i64 z2, .int .i64 z3, .int .i64 0])) (by rfl) (run_loadW (.tmp 6) rfl (cs := #[.int .i64 (k : Int), .int .i64 z1, .int .i64 z2, .int .i64 z3, .int .i64 0]) aggEvt rfl B56) ?_
    simp only [nf0, nf1, nf2, nf3, nf4]
    refine st_call1 (v := (.string (str (prE (((k : Int), z1, z2, z3, 0) : TEvt))))) (by rfl) (f_run_call_13_1 (.tmp 69) rfl rfl _) (refPrint_calls (((k : Int), z1, z2, z3, 0) : TEvt) ⟨⟨by show _ ≤ (k : Int); omega, by show (k : Int) ≤ _; omega⟩, hz1.1, hz2.1, hz3.1, zero64⟩ w54) ?_
    intro w75 hb76
    simp only [nf0, nf1, nf2, nf3, nf4]
    replace B3 := B3.below hb76
    replace B56 := B56.below hb76
    replace bel := bl_step bel hb76
    clear hb76
    refine st_mv (.string (str l)) ?_
    simp only [nf0, nf1, nf2, nf3, nf4]
    refine st_value (v := (.bool (decide ((prE (((k : Int), z1, z2, z3, 0) : TEvt)) = l)))) (by rfl) (run_eql_text (.tmp 70) (.tmp 71) (l := (prE (((k : Int), z1, z2, z3, 0) : TEvt))) (m := l) rfl rfl rfl w75) ?_
    simp only [nf0, nf1, nf2, nf3, nf4]
    refine wpList_nil ?_
    show Code.wp _ _ _ _ _
    cases hg77 : decide ((prE (((k : Int), z1, z2, z3, 0) : TEvt)) = l)
    · have hp78 := of_decide_eq_false hg77
      refine wp_cond_false rfl ?_
      refine wp_skip ?_
      show Code.wp _ _ _ _ _
      refine wp_region_lit ?_
      refine st_mv (.int .i64 (k : Int)) ?_
      simp only [nf0, nf1, nf2, nf3, nf4]
      refine st_value (v := (.int .i64 ((k : Int) + 1))) (by rfl) (run_add_in (.tmp 13) (.const (.int .i64 1)) rfl rfl rfl (by omega) w75) ?_
      simp only [nf0, nf1, nf2, nf3, nf4]
      refine st_mv (.int .i64 ((k : Int) + 1)) ?_
      simp only [nf0, nf1, nf2, nf3, nf4]
      refine wpList_nil ?_
      show ∃ m, m < _ ∧ _
      exact ⟨_, (by omega), (k + 1), rfl, rfl, B3, bel, (by omega), (past hN (mt_break hm3 (by simp) (by omega)))⟩
    have hp79 := of_decide_eq_true hg77
    refine wp_cond_true rfl ?_
    refine wp_seq ?_
    refine wp_region_lit ?_
    refine st_value (v := (.agg #[.int .i64 (k : Int), .int .i64 z1, .int .i64 z2, .int .i64 z3, .int .i64 0])) (by rfl) (run_loadW (.tmp 6) rfl (cs := #[.int .i64 (k : Int), .int .i64 z1, .int .i64 z2, .int .i64 z3, .int .i64 0]) aggEvt rfl B56) ?_
    simp only [nf0, nf1, nf2, nf3, nf4]
    refine st_row (by rfl) (run_storeW (.tmp 2) (.tmp 73) rfl (cs := #[.int .i64 (k : Int), .int .i64 z1, .int .i64 z2, .int .i64 z3, .int .i64 0]) aggEvt rfl rfl B3 rfl (by simp [Value.oneCell'])) B3 ?_
    intro w80 B82 hg81
    simp only [nf0, nf1, nf2, nf3, nf4]
    replace B56 := B56.kept hg81 n26.symm
    replace bel := bl_kept0 bel hg81 lo5
    clear hg81
    clear B3
    refine st_mv (.bool true) ?_
    simp only [nf0, nf1, nf2, nf3, nf4]
    refine wpList_nil ?_
    show Code.wp _ _ _ _ _
    refine wp_ret ?_
    first | show bodyPost _ _ _ _ _ _ | (simp only [Exit.then, Exit.inBlock]; show bodyPost _ _ _ _ _ _)
    have hE : pE l = ((((k : Int), z1, z2, z3, 0) : TEvt), true) := pE_yes ⟨by show known (k : Int); unfold known; omega, ⟨⟨by show _ ≤ (k : Int); omega, by show (k : Int) ≤ _; omega⟩, hz1.1, hz2.1, hz3.1, zero64⟩⟩ (by assumption)
    exact bodyPost_ret (results_agg1t rfl (cs := #[.int .i64 (k : Int), .int .i64 z1, .int .i64 z2, .int .i64 z3, .int .i64 0]) aggEvt (by rfl) B82) rfl ⟨by rw [hE]; rfl, bel⟩
  have hp58 := of_decide_eq_false hg57
  refine wp_cond_false rfl ?_
  refine wp_skip ?_
  show Code.wp _ _ _ _ _
  refine wp_seq ?_
  refine wp_region_lit ?_
  refine st_mv (.string (str l)) ?_
  simp only [nf0, nf1, nf2, nf3, nf4]
  refine st_mv (.int .i64 ((((((nm (k : Int)).length) + (1 + q1)) + (1 + q2)) + (1 + q3) : Nat) : Int)) ?_
  simp only [nf0, nf1, nf2, nf3, nf4]
  refine st_value (v := (.int .i64 (((((((nm (k : Int)).length) + (1 + q1)) + (1 + q2)) + (1 + q3) : Nat) : Int) + 1))) (by rfl) (run_add_in (.tmp 44) (.const (.int .i64 1)) rfl rfl rfl (by omega) w54) ?_
  simp only [nf0, nf1, nf2, nf3, nf4]
  refine st_value (v := (.string (str (l.drop ((((((nm (k : Int)).length) + (1 + q1)) + (1 + q2)) + (1 + q3)) + 1))))) (by rfl) (run_from_text (.tmp 43) (.tmp 45) rfl Tryd.underlying9 (l := l) (p := ((((((nm (k : Int)).length) + (1 + q1)) + (1 + q2)) + (1 + q3)) + 1)) rfl rfl (by omega) (by omega) w54) ?_
  simp only [nf0, nf1, nf2, nf3, nf4]
  obtain ⟨z4, q4, hq4⟩ : ∃ z q, rnum (l.drop ((((((nm (k : Int)).length) + (1 + q1)) + (1 + q2)) + (1 + q3)) + 1)) = (z, q) := ⟨_, _, rfl⟩
  have hz4 := rnum_I64 (l.drop ((((((nm (k : Int)).length) + (1 + q1)) + (1 + q2)) + (1 + q3)) + 1))
  rw [hq4, List.length_drop] at hz4
  have hm4 : Mt l (k : Int) ((((((nm (k : Int)).length) + (1 + q1)) + (1 + q2)) + (1 + q3)) + (1 + q4)) [z1, z2, z3, z4] := mt_next hm3  (by simp) hq4
  have hc59 := refNumber_calls (l.drop ((((((nm (k : Int)).length) + (1 + q1)) + (1 + q2)) + (1 + q3)) + 1)) (by rw [List.length_drop]; omega) w54
  rw [hq4] at hc59
  obtain ⟨z4, q4, hq4⟩ : ∃ z q, rnum (l.drop ((((((nm (k : Int)).length) + (1 + q1)) + (1 + q2)) + (1 + q3)) + 1)) = (z, q) := ⟨_, _, rfl⟩
  have hz4 := rnum_I64 (l.drop ((((((nm (k : Int)).length) + (1 + q1)) + (1 + q2)) + (1 + q3)) + 1))
  rw [hq4, List.length_drop] at hz4
  have hm4 : Mt l (k : Int) ((((((nm (k : Int)).length) + (1 + q1)) + (1 + q2)) + (1 + q3)) + (1 + q4)) [z1, z2, z3, z4] := mt_next hm3  (by simp) hq4
  have hc60 := refNumber_calls (l.drop ((((((nm (k : Int)).length) + (1 + q1)) + (1 + q2)) + (1 + q3)) + 1)) (by rw [List.length_drop]; omega) w54
  rw [hq4] at hc60
  refine st_call1 (v := (.tuple #[.int .i64 z4, .int .i64 (q4 : Int)])) (by rfl) (f_run_call_24_1 (.tmp 46) rfl rfl _) hc60 ?_
  intro w61 hb62
  simp only [nf0, nf1, nf2, nf3, nf4]
  replace B3 := B3.below hb62
  replace B56 := B56.below hb62
  replace bel := bl_step bel hb62
  clear hb62
  refine st_mv (.tuple #[.int .i64 z4, .int .i64 (q4 : Int)]) ?_
  simp only [nf0, nf1, nf2, nf3, nf4]
  refine st_mv (.int .i64 z4) ?_
  simp only [nf0, nf1, nf2, nf3, nf4]
  refine st_mv (.int .i64 (q4 : Int)) ?_
  simp only [nf0, nf1, nf2, nf3, nf4]
  refine st_mv (.int .i64 z4) ?_
  simp only [nf0, nf1, nf2, nf3, nf4]
  refine st_mv (.int .i64 (q4 : Int)) ?_
  simp only [nf0, nf1, nf2, nf3, nf4]
  refine wpList_nil ?_
  show Code.wp _ _ _ _ _
  refine wp_seq ?_
  refine wp_region_lit ?_
  refine st_mv (.int .i64 ((((((nm (k : Int)).length) + (1 + q1)) + (1 + q2)) + (1 + q3) : Nat) : Int)) ?_
  simp only [nf0, nf1, nf2, nf3, nf4]
  refine st_mv (.int .i64 (q4 : Int)) ?_
  simp only [nf0, nf1, nf2, nf3, nf4]
  refine st_value (v := (.int .i64 (1 + (q4 : Int)))) (by rfl) (run_add_in (.const (.int .i64 1)) (.tmp 51) rfl rfl rfl (by omega) w61) ?_
  simp only [nf0, nf1, nf2, nf3, nf4]
  refine st_value (v := (.int .i64 (((((((nm (k : Int)).length) + (1 + q1)) + (1 + q2)) + (1 + q3)) + (1 + q4) : Nat) : Int))) (by rfl) ((run_add_in (.tmp 50) (.tmp 52) rfl rfl rfl (by omega) w61).trans (by rw [show (((((((nm (k : Int)).length) + (1 + q1)) + (1 + q2)) + (1 + q3) : Nat) : Int)) + ((1 + (q4 : Int))) = (((((((nm (k : Int)).length) + (1 + q1)) + (1 + q2)) + (1 + q3)) + (1 + q4) : Nat) : Int) by omega])) ?_
  simp only [nf0, nf1, nf2, nf3, nf4]
  refine st_mv (.int .i64 (((((((nm (k : Int)).length) + (1 + q1)) + (1 + q2)) + (1 + q3)) + (1 + q4) : Nat) : Int)) ?_
  simp only [nf0, nf1, nf2, nf3, nf4]
  refine wpList_nil ?_
  show Code.wp _ _ _ _ _
  refine wp_seq ?_
  refine wp_region_lit ?_
  refine st_mv (.int .i64 3) ?_
  simp only [nf0, nf1, nf2, nf3, nf4]
  refine wpList_nil ?_
  show Code.wp _ _ _ _ _
  refine wp_block ?_
  refine wp_seq ?_
  refine wp_region_lit ?_
  refine st_value (v := (.bool false)) (by rfl) (run_eql_int_f (.tmp 54) (.const (.int .i64 0)) rfl rfl rfl (by decide) w61) ?_
  simp only [nf0, nf1, nf2, nf3, nf4]
  refine st_mv (.bool false) ?_
  simp only [nf0, nf1, nf2, nf3, nf4]
  refine wpList_nil ?_
  show Code.wp _ _ _ _ _
  refine wp_cond_false rfl ?_
  refine wp_seq ?_
  refine wp_region_lit ?_
  refine st_value (v := (.bool false)) (by rfl) (run_eql_int_f (.tmp 54) (.const (.int .i64 1)) rfl rfl rfl (by decide) w61) ?_
  simp only [nf0, nf1, nf2, nf3, nf4]
  refine st_mv (.bool false) ?_
  simp only [nf0, nf1, nf2, nf3, nf4]
  refine wpList_nil ?_
  show Code.wp _ _ _ _ _
  refine wp_cond_false rfl ?_
  refine wp_seq ?_
  refine wp_region_lit ?_
  refine st_value (v := (.bool false)) (by rfl) (run_eql_int_f (.tmp 54) (.const (.int .i64 2)) rfl rfl rfl (by decide) w61) ?_
  simp only [nf0, nf1, nf2, nf3, nf4]
  refine st_mv (.bool false) ?_
  simp only [nf0, nf1, nf2, nf3, nf4]
  refine wpList_nil ?_
  show Code.wp _ _ _ _ _
  refine wp_cond_false rfl ?_
  refine wp_region_lit ?_
  refine st_mv (.int .i64 z4) ?_
  simp only [nf0, nf1, nf2, nf3, nf4]
  refine st_value (v := (.pointer (some ⟨g21, 4, none⟩))) (by rfl) (run_fieldA (.tmp 6) rfl f_fld_23_4 rfl rfl w61) ?_
  simp only [nf0, nf1, nf2, nf3, nf4]
  refine st_cell (v := (.int .i64 z4)) (by rfl) (run_storeB (.tmp 56) (.tmp 55) rfl f_one_3 B56 (show 4 < 5 by decide) rfl rfl rfl rfl) B56 ?_
  intro w63 B65 hg64
  simp only [nf0, nf1, nf2, nf3, nf4]
  replace B3 := B3.kept hg64 n26
  replace bel := bl_kept0 bel hg64 lo25
  clear hg64
  clear B56
  replace B65 : Blk w63 g21 #[.int .i64 (k : Int), .int .i64 z1, .int .i64 z2, .int .i64 z3, .int .i64 z4] 23 := B65
  refine wpList_nil ?_
  show Code.wp _ _ _ _ _
  refine wp_region_lit ?_
  refine st_mv (.int .i64 3) ?_
  simp only [nf0, nf1, nf2, nf3, nf4]
  refine st_value (v := (.int .i64 4)) (by rfl) ((run_add_in (.tmp 36) (.const (.int .i64 1)) rfl rfl rfl (by omega) w63).trans (by rw [show ((3 : Int) + 1) = 4 by omega])) ?_
  simp only [nf0, nf1, nf2, nf3, nf4]
  refine st_mv (.int .i64 4) ?_
  simp only [nf0, nf1, nf2, nf3, nf4]
  refine wpList_nil ?_
  show Code.wp _ _ _ _ _
  refine wp_seq ?_
  refine wp_seq ?_
  refine wp_region_lit ?_
  refine st_mv (.int .i64 4) ?_
  simp only [nf0, nf1, nf2, nf3, nf4]
  refine st_value (v := (.bool false)) (by rfl) ((run_lss (.tmp 34) (.const (.int .i64 4)) rfl rfl rfl w63).trans (by rw [decide_eq_false (by omega)])) ?_
  simp only [nf0, nf1, nf2, nf3, nf4]
  refine wpList_nil ?_
  show Code.wp _ _ _ _ _
  refine wp_cond_false rfl ?_
  refine wp_exit ?_
  show Code.wp _ _ _ _ _
  refine wp_seq ?_
  refine wp_region_lit ?_
  refine st_value (v := (.agg #[.int .i64 (k : Int), .int .i64 z1, .int .i64 z2, .int .i64 z3, .int .i64 z4])) (by rfl) (run_loadW (.tmp 6) rfl (cs := #[.int .i64 (k : Int), .int .i64 z1, .int .i64 z2, .int .i64 z3, .int .i64 z4]) aggEvt rfl B65) ?_
  simp only [nf0, nf1, nf2, nf3, nf4]
  refine st_call1 (v := (.string (str (prE (((k : Int), z1, z2, z3, z4) : TEvt))))) (by rfl) (f_run_call_13_1 (.tmp 69) rfl rfl _) (refPrint_calls (((k : Int), z1, z2, z3, z4) : TEvt) ⟨⟨by show _ ≤ (k : Int); omega, by show (k : Int) ≤ _; omega⟩, hz1.1, hz2.1, hz3.1, hz4.1⟩ w63) ?_
  intro w66 hb67
  simp only [nf0, nf1, nf2, nf3, nf4]
  replace B3 := B3.below hb67
  replace B65 := B65.below hb67
  replace bel := bl_step bel hb67
  clear hb67
  refine st_mv (.string (str l)) ?_
  simp only [nf0, nf1, nf2, nf3, nf4]
  refine st_value (v := (.bool (decide ((prE (((k : Int), z1, z2, z3, z4) : TEvt)) = l)))) (by rfl) (run_eql_text (.tmp 70) (.tmp 71) (l := (prE (((k : Int), z1, z2, z3, z4) : TEvt))) (m := l) rfl rfl rfl w66) ?_
  simp only [nf0, nf1, nf2, nf3, nf4]
  refine wpList_nil ?_
  show Code.wp _ _ _ _ _
  cases hg68 : decide ((prE (((k : Int), z1, z2, z3, z4) : TEvt)) = l)
  · have hp69 := of_decide_eq_false hg68
    refine wp_cond_false rfl ?_
    refine wp_skip ?_
    show Code.wp _ _ _ _ _
    refine wp_region_lit ?_
    refine st_mv (.int .i64 (k : Int)) ?_
    simp only [nf0, nf1, nf2, nf3, nf4]
    refine st_value (v := (.int .i64 ((k : Int) + 1))) (by rfl) (run_add_in (.tmp 13) (.const (.int .i64 1)) rfl rfl rfl (by omega) w66) ?_
    simp only [nf0, nf1, nf2, nf3, nf4]
    refine st_mv (.int .i64 ((k : Int) + 1)) ?_
    simp only [nf0, nf1, nf2, nf3, nf4]
    refine wpList_nil ?_
    show ∃ m, m < _ ∧ _
    exact ⟨_, (by omega), (k + 1), rfl, rfl, B3, bel, (by omega), (past hN (mt_end hm4 (by assumption)))⟩
  have hp70 := of_decide_eq_true hg68
  refine wp_cond_true rfl ?_
  refine wp_seq ?_
  refine wp_region_lit ?_
  refine st_value (v := (.agg #[.int .i64 (k : Int), .int .i64 z1, .int .i64 z2, .int .i64 z3, .int .i64 z4])) (by rfl) (run_loadW (.tmp 6) rfl (cs := #[.int .i64 (k : Int), .int .i64 z1, .int .i64 z2, .int .i64 z3, .int .i64 z4]) aggEvt rfl B65) ?_
  simp only [nf0, nf1, nf2, nf3, nf4]
  refine st_row (by rfl) (run_storeW (.tmp 2) (.tmp 73) rfl (cs := #[.int .i64 (k : Int), .int .i64 z1, .int .i64 z2, .int .i64 z3, .int .i64 z4]) aggEvt rfl rfl B3 rfl (by simp [Value.oneCell'])) B3 ?_
  intro w71 B73 hg72
  simp only [nf0, nf1, nf2, nf3, nf4]
  replace B65 := B65.kept hg72 n26.symm
  replace bel := bl_kept0 bel hg72 lo5
  clear hg72
  clear B3
  refine st_mv (.bool true) ?_
  simp only [nf0, nf1, nf2, nf3, nf4]
  refine wpList_nil ?_
  show Code.wp _ _ _ _ _
  refine wp_ret ?_
  first | show bodyPost _ _ _ _ _ _ | (simp only [Exit.then, Exit.inBlock]; show bodyPost _ _ _ _ _ _)
  have hE : pE l = ((((k : Int), z1, z2, z3, z4) : TEvt), true) := pE_yes ⟨by show known (k : Int); unfold known; omega, ⟨⟨by show _ ≤ (k : Int); omega, by show (k : Int) ≤ _; omega⟩, hz1.1, hz2.1, hz3.1, hz4.1⟩⟩ (by assumption)
  exact bodyPost_ret (results_agg1t rfl (cs := #[.int .i64 (k : Int), .int .i64 z1, .int .i64 z2, .int .i64 z3, .int .i64 z4]) aggEvt (by rfl) B73) rfl ⟨by rw [hE]; rfl, bel⟩
end Go.Proofs.YtmfdcgocfofokaaDoor

/- desc's reader: a token. -/
import Derived.Test.YtkebpmcgmmhifaaDescScan
namespace Go.Proofs.Ytkebpmcgmmhifaa
open Go.RowKit Go.WideShapes Go.ChangeShapes
set_option linter.unusedSimpArgs false
set_option linter.unusedVariables false

theorem d_zero_33 : ZeroOf Try.prog 33 #[.int .i64 0, .string ⟨#[]⟩, .int .i64 0, .int .i64 0, .int .i64 0] := zeroOf (z := .agg #[.int .i64 0, .string ⟨#[]⟩, .int .i64 0, .int .i64 0, .int .i64 0]) (by kernel_rfl) rfl
theorem d_fld_45_0 : FieldAt Try.prog 45 0 0 := fieldAt_of (s := 2) Try.underlying45 (by kernel_rfl)
theorem d_fld_45_1 : FieldAt Try.prog 45 1 3 := fieldAt_of (s := 0) Try.underlying45 (by kernel_rfl)
theorem d_one_9 : One Try.prog 9 := one_of Try.underlying9 rfl (by kernel_rfl)
theorem d_fld_43_0 : FieldAt Try.prog 43 0 0 := fieldAt_of (s := 0) Try.underlying43 (by kernel_rfl)
theorem d_one_3 : One Try.prog 3 := one_of Try.underlying3 rfl (by kernel_rfl)
theorem d_fld_33_1 : FieldAt Try.prog 33 1 1 := fieldAt_of (s := 0) Try.underlying33 (by kernel_rfl)
theorem d_fld_33_0 : FieldAt Try.prog 33 0 0 := fieldAt_of (s := 0) Try.underlying33 (by kernel_rfl)
theorem d_run_call_24_1 {o : Oper} {a : Act} (x0 : Operand) {ts : Array TypeId} (ho : o.op = .call { callee := .value (.func 24), args := #[x0], argTypes := ts }) {v0 : Value} (h0 : a.eval x0 = v0) (W : World) : (execOp a.eval o).run Try.prog W = .ok (.enter 24 #[v0]) W := by
  unfold execOp
  simp only [ho]
  subst h0
  go_simp
theorem d_run_call_30_2 {o : Oper} {a : Act} (x0 : Operand) (x1 : Operand) {ts : Array TypeId} (ho : o.op = .call { callee := .value (.func 30), args := #[x0, x1], argTypes := ts }) {v0 : Value} (h0 : a.eval x0 = v0) {v1 : Value} (h1 : a.eval x1 = v1) (W : World) : (execOp a.eval o).run Try.prog W = .ok (.enter 30 #[v0, v1]) W := by
  unfold execOp
  simp only [ho]
  subst h0 h1
  go_simp
theorem d_run_call_31_2 {o : Oper} {a : Act} (x0 : Operand) (x1 : Operand) {ts : Array TypeId} (ho : o.op = .call { callee := .value (.func 31), args := #[x0, x1], argTypes := ts }) {v0 : Value} (h0 : a.eval x0 = v0) {v1 : Value} (h1 : a.eval x1 = v1) (W : World) : (execOp a.eval o).run Try.prog W = .ok (.enter 31 #[v0, v1]) W := by
  unfold execOp
  simp only [ho]
  subst h0 h1
  go_simp
theorem d_run_call_34_1 {o : Oper} {a : Act} (x0 : Operand) {ts : Array TypeId} (ho : o.op = .call { callee := .value (.func 34), args := #[x0], argTypes := ts }) {v0 : Value} (h0 : a.eval x0 = v0) (W : World) : (execOp a.eval o).run Try.prog W = .ok (.enter 34 #[v0]) W := by
  unfold execOp
  simp only [ho]
  subst h0
  go_simp
theorem d_run_call_35_1 {o : Oper} {a : Act} (x0 : Operand) {ts : Array TypeId} (ho : o.op = .call { callee := .value (.func 35), args := #[x0], argTypes := ts }) {v0 : Value} (h0 : a.eval x0 = v0) (W : World) : (execOp a.eval o).run Try.prog W = .ok (.enter 35 #[v0]) W := by
  unfold execOp
  simp only [ho]
  subst h0
  go_simp

attribute [local irreducible] Go.wpList Go.Code.wp
set_option maxRecDepth 100000 in
set_option maxHeartbeats 4000000 in
theorem token_calls {w : World} {r i : Nat} {l : List UInt8} (hB : Blk w r #[.int .i64 (i : Int), .int .i64 (((lnS l i).1 : Nat) : Int), .int .i64 (((lnS l i).2 : Nat) : Int), .string (str l)] 45) (hil : i < l.length) (hl : l.length ≤ 1000000) : Calls Try.prog 21 #[.pointer (some ⟨r, 0, none⟩)] w fun e w' => ∃ u, e = .returned u ∧ ∃ t : TTok, u = .tuple #[.agg (eTok.enc t).toArray, .int .i64 (terr l i)] ∧ t.2.2 = plc l i ∧ (terr l i = 0 → t = tokI l i) ∧ Blk w' r #[.int .i64 ((wend l i : Nat) : Int), .int .i64 (((lnS l (wend l i)).1 : Nat) : Int), .int .i64 (((lnS l (wend l i)).2 : Nat) : Int), .string (str l)] 45 ∧ Fr [r] w w' := by
  have bel : Fr [r] w w := Fr.refl _ _
  have hw1 := ext_ge inW l i
  have hw2 := ext_le inW l i (by omega)
  have hd1 := ext_ge inL l i
  have hd2 := ext_le inL l i (by omega)
  have hcr := chr_range l i
  go_enter Try.func21, Try.ntmps21
  refine wp_seq ?_
  refine wp_region_lit ?_
  refine st_new (cs := #[.int .i64 0, .string ⟨#[]⟩, .int .i64 0, .int .i64 0, .int .i64 0]) (t := 33) (by rfl) (run_allocV rfl d_zero_33 _) ?_
  intro g1 w2 B3 hb4 lo5
  simp only [nf0, nf1, nf2, nf3, nf4]
  have n6 := hB.ne lo5
  replace lo5 := low_fr bel lo5
  replace hB := hB.below hb4
  replace bel := fr_step bel hb4
  clear hb4
  refine st_mv (.int .i64 0) ?_
  simp only [nf0, nf1, nf2, nf3, nf4]
  refine wpList_nil ?_
  show Code.wp _ _ _ _ _
  refine wp_seq ?_
  refine wp_region_lit ?_
  refine st_mv (.pointer (some ⟨r, 0, none⟩)) ?_
  simp only [nf0, nf1, nf2, nf3, nf4]
  refine st_value (v := (.pointer (some ⟨r, 0, none⟩))) (by rfl) (run_check (.tmp 8) rfl rfl w2) ?_
  simp only [nf0, nf1, nf2, nf3, nf4]
  refine st_value (v := (.pointer (some ⟨r, 0, none⟩))) (by rfl) (run_fieldA (.tmp 9) rfl d_fld_45_0 rfl rfl w2) ?_
  simp only [nf0, nf1, nf2, nf3, nf4]
  refine st_value (v := (.agg #[.int .i64 (i : Int), .int .i64 (((lnS l i).1 : Nat) : Int), .int .i64 (((lnS l i).2 : Nat) : Int)])) (by rfl) (run_loadP (.tmp 10) rfl (vs := [.int .i64 (i : Int), .int .i64 (((lnS l i).1 : Nat) : Int), .int .i64 (((lnS l i).2 : Nat) : Int)]) aggPlace rfl hB (by rfl)) ?_
  simp only [nf0, nf1, nf2, nf3, nf4]
  refine st_call1 (v := (.agg #[.int .i64 (i : Int), .int .i64 (((lnS l i).1 : Nat) : Int), .int .i64 (((i : Nat) : Int) - (((lnS l i).2 : Nat) : Int) + 1)])) (by rfl) (d_run_call_34_1 (.tmp 11) rfl rfl _) (at_calls i (by omega) w2) ?_
  intro w7 hb8
  simp only [nf0, nf1, nf2, nf3, nf4]
  replace hB := hB.below hb8
  replace B3 := B3.below hb8
  replace bel := fr_step bel hb8
  clear hb8
  refine st_value (v := (.agg #[.int .i64 0, .string ⟨#[]⟩, .int .i64 (i : Int), .int .i64 (((lnS l i).1 : Nat) : Int), .int .i64 (((i : Nat) : Int) - (((lnS l i).2 : Nat) : Int) + 1)])) (by rfl) (run_buildV rfl (by kernel_rfl) w7) ?_
  simp only [nf0, nf1, nf2, nf3, nf4]
  refine st_new (cs := #[.int .i64 0, .string ⟨#[]⟩, .int .i64 0, .int .i64 0, .int .i64 0]) (t := 33) (by rfl) (run_allocV rfl d_zero_33 _) ?_
  intro g9 w10 B11 hb12 lo13
  simp only [nf0, nf1, nf2, nf3, nf4]
  have n14 := hB.ne lo13
  have n15 := B3.ne lo13
  replace lo13 := low_fr bel lo13
  replace hB := hB.below hb12
  replace B3 := B3.below hb12
  replace bel := fr_step bel hb12
  clear hb12
  refine st_row (by rfl) (run_storeW (.tmp 4) (.tmp 13) rfl (cs := #[.int .i64 0, .string ⟨#[]⟩, .int .i64 (i : Int), .int .i64 (((lnS l i).1 : Nat) : Int), .int .i64 (((i : Nat) : Int) - (((lnS l i).2 : Nat) : Int) + 1)]) aggTok rfl rfl B11 rfl (by simp [Value.oneCell'])) B11 ?_
  intro w16 B18 hg17
  simp only [nf0, nf1, nf2, nf3, nf4]
  replace hB := hB.kept hg17 n14
  replace B3 := B3.kept hg17 n15
  replace bel := fr_own bel hg17 lo13
  clear hg17
  clear B11
  refine wpList_nil ?_
  show Code.wp _ _ _ _ _
  refine wp_seq ?_
  refine wp_region_lit ?_
  refine st_mv (.int .i64 1) ?_
  simp only [nf0, nf1, nf2, nf3, nf4]
  refine st_mv (.int .i64 0) ?_
  simp only [nf0, nf1, nf2, nf3, nf4]
  refine wpList_nil ?_
  show Code.wp _ _ _ _ _
  refine wp_seq ?_
  refine wp_seq ?_
  refine wp_region_facts_lit (C := Abv w16) (G := G0) [.val (.pointer (some ⟨r, 0, none⟩)), .val (.pointer (some ⟨r, 0, none⟩)), .val (.pointer (some ⟨r, 3, none⟩)), .val (.string (str l)), .val (.pointer (some ⟨r, 0, none⟩)), .val (.pointer (some ⟨r, 0, none⟩)), .val (.pointer (some ⟨r, 0, none⟩)), .val (.pointer (some ⟨r, 0, none⟩)), .val (.int .i64 (i : Int)), .val (.int .u8 (chr l i)), .val (.int .u8 (chr l i))] (by kernel_rfl) (by kernel_rfl) (Abv.start _) ?_
  refine fsteps_val (fun W hC hh => opok_value (v := (.pointer (some ⟨r, 0, none⟩))) (by rfl) (by rfl) rfl hC (G0.refl _)) ?_
  simp only [nf0, nf1, nf2, nf3, nf4]
  refine fsteps_val (fun W hC hh => opok_value (v := (.pointer (some ⟨r, 0, none⟩))) (by rfl) (run_check (.tmp 14) rfl rfl W) rfl hC (G0.refl _)) ?_
  simp only [nf0, nf1, nf2, nf3, nf4]
  refine fsteps_val (fun W hC hh => opok_value (v := (.pointer (some ⟨r, 3, none⟩))) (by rfl) (run_fieldA (.tmp 15) rfl d_fld_45_1 rfl rfl W) rfl hC (G0.refl _)) ?_
  simp only [nf0, nf1, nf2, nf3, nf4]
  refine fsteps_val (fun W hC hh => opok_value (v := (.string (str l))) (by rfl) (run_loadB (.tmp 16) rfl d_one_9 rfl (hB.below hC) rfl) rfl hC (G0.refl _)) ?_
  simp only [nf0, nf1, nf2, nf3, nf4]
  refine fsteps_val (fun W hC hh => opok_value (v := (.pointer (some ⟨r, 0, none⟩))) (by rfl) (by rfl) rfl hC (G0.refl _)) ?_
  simp only [nf0, nf1, nf2, nf3, nf4]
  refine fsteps_val (fun W hC hh => opok_value (v := (.pointer (some ⟨r, 0, none⟩))) (by rfl) (run_check (.tmp 18) rfl rfl W) rfl hC (G0.refl _)) ?_
  simp only [nf0, nf1, nf2, nf3, nf4]
  refine fsteps_val (fun W hC hh => opok_value (v := (.pointer (some ⟨r, 0, none⟩))) (by rfl) (run_fieldA (.tmp 19) rfl d_fld_45_0 rfl rfl W) rfl hC (G0.refl _)) ?_
  simp only [nf0, nf1, nf2, nf3, nf4]
  refine fsteps_val (fun W hC hh => opok_value (v := (.pointer (some ⟨r, 0, none⟩))) (by rfl) (run_fieldA (.tmp 20) rfl d_fld_43_0 rfl rfl W) rfl hC (G0.refl _)) ?_
  simp only [nf0, nf1, nf2, nf3, nf4]
  refine fsteps_val (fun W hC hh => opok_value (v := (.int .i64 (i : Int))) (by rfl) (run_loadB (.tmp 21) rfl d_one_3 rfl (hB.below hC) rfl) rfl hC (G0.refl _)) ?_
  simp only [nf0, nf1, nf2, nf3, nf4]
  refine fsteps_val (fun W hC hh => opok_value (v := (.int .u8 (chr l i))) (by rfl) (run_index_text (.tmp 17) (.tmp 22) rfl Try.underlying9 (l := l) rfl rfl i (by omega) (by omega) W) rfl hC (G0.refl _)) ?_
  simp only [nf0, nf1, nf2, nf3, nf4]
  refine fsteps_val (fun W hC hh => opok_value (v := (.int .u8 (chr l i))) (by rfl) (by rfl) rfl hC (G0.refl _)) ?_
  simp only [nf0, nf1, nf2, nf3, nf4]
  refine fsteps_nil fun w19 hC _ => ?_
  replace hC : Below w16.heap.size w16 w19 := hC
  replace hB := hB.below hC
  replace B3 := B3.below hC
  replace B18 := B18.below hC
  replace bel := fr_step bel hC
  clear hC
  show Code.wp _ _ _ _ _
  refine wp_block ?_
  refine wp_seq ?_
  refine wp_region_lit ?_
  refine st_mv (.int .u8 (chr l i)) ?_
  simp only [nf0, nf1, nf2, nf3, nf4]
  refine st_call1 (v := (.bool (isS (chr l i)))) (by rfl) (d_run_call_24_1 (.tmp 25) rfl rfl _) (isSmall_calls (chr l i) w19) ?_
  intro w20 hb21
  simp only [nf0, nf1, nf2, nf3, nf4]
  replace hB := hB.below hb21
  replace B3 := B3.below hb21
  replace B18 := B18.below hb21
  replace bel := fr_step bel hb21
  clear hb21
  refine st_mv (.bool (isS (chr l i))) ?_
  simp only [nf0, nf1, nf2, nf3, nf4]
  refine wpList_nil ?_
  show Code.wp _ _ _ _ _
  cases hg22 : isS (chr l i)
  rotate_left
  · have hp107 := trivial
    have hk1 : kd (chr l i) = 1 := of_decide_eq_true hg22
    refine wp_cond_true rfl ?_
    refine wp_seq ?_
    refine wp_region_lit ?_
    refine st_mv (.pointer (some ⟨r, 0, none⟩)) ?_
    simp only [nf0, nf1, nf2, nf3, nf4]
    refine st_call1 (v := (.int .i64 ((ext inW l i - i : Nat) : Int))) (by rfl) (d_run_call_31_2 (.tmp 27) (.func 23) rfl rfl rfl _) (run_inWord hB (by omega) hl) ?_
    intro w108 hb109
    simp only [nf0, nf1, nf2, nf3, nf4]
    replace hB := hB.below hb109
    replace B3 := B3.below hb109
    replace B18 := B18.below hb109
    replace bel := fr_step bel hb109
    clear hb109
    refine st_value (v := (.pointer (some ⟨g9, 0, none⟩))) (by rfl) (run_fieldA (.tmp 4) rfl d_fld_33_0 rfl rfl w108) ?_
    simp only [nf0, nf1, nf2, nf3, nf4]
    refine st_cell (v := (.int .i64 1)) (by rfl) (run_storeB (.tmp 29) (.const (.int .i64 1)) rfl d_one_3 B18 (show 0 < 5 by decide) rfl rfl rfl rfl) B18 ?_
    intro w110 B112 hg111
    simp only [nf0, nf1, nf2, nf3, nf4]
    replace hB := hB.kept hg111 n14
    replace B3 := B3.kept hg111 n15
    replace bel := fr_own bel hg111 lo13
    clear hg111
    clear B18
    replace B112 : Blk w110 g9 #[.int .i64 1, .string ⟨#[]⟩, .int .i64 (i : Int), .int .i64 (((lnS l i).1 : Nat) : Int), .int .i64 (((i : Nat) : Int) - (((lnS l i).2 : Nat) : Int) + 1)] 33 := B112
    refine st_mv (.int .i64 ((ext inW l i - i : Nat) : Int)) ?_
    simp only [nf0, nf1, nf2, nf3, nf4]
    refine wpList_nil ?_
    show Code.wp _ _ _ _ _
    refine wp_seq ?_
    refine wp_region_lit ?_
    refine st_mv (.int .i64 ((ext inW l i - i : Nat) : Int)) ?_
    simp only [nf0, nf1, nf2, nf3, nf4]
    refine st_value (v := (.bool (decide (32 < ((ext inW l i - i : Nat) : Int))))) (by rfl) (run_gtr (.tmp 30) (.const (.int .i64 32)) rfl rfl rfl w110) ?_
    simp only [nf0, nf1, nf2, nf3, nf4]
    refine wpList_nil ?_
    show Code.wp _ _ _ _ _
    cases hg113 : decide (32 < ((ext inW l i - i : Nat) : Int))
    · have hp114 := of_decide_eq_false hg113
      refine wp_cond_false rfl ?_
      refine wp_skip ?_
      show Code.wp _ _ _ _ _
      refine wp_seq ?_
      refine wp_region_lit ?_
      refine st_mv (.pointer (some ⟨r, 0, none⟩)) ?_
      simp only [nf0, nf1, nf2, nf3, nf4]
      refine st_mv (.int .i64 ((ext inW l i - i : Nat) : Int)) ?_
      simp only [nf0, nf1, nf2, nf3, nf4]
      refine st_call (by rfl) (d_run_call_30_2 (.tmp 50) (.tmp 51) rfl rfl rfl _) (pass_calls (ext inW l i - i) hB (by omega) hl) ?_
      rintro u116 w118 ⟨rfl, B115, hf119⟩
      simp only [nf0, nf1, nf2, nf3, nf4]
      rw [show i + (ext inW l i - i) = (ext inW l i) from (by omega)] at B115
      replace B3 := B3.fr hf119 (ni1 n6.symm)
      replace B112 := B112.fr hf119 (ni1 n14.symm)
      replace bel := fr_call bel hf119 (by simp)
      clear hf119
      clear hB
      refine st_value (v := (.pointer (some ⟨g9, 1, none⟩))) (by rfl) (run_fieldA (.tmp 4) rfl d_fld_33_1 rfl rfl w118) ?_
      simp only [nf0, nf1, nf2, nf3, nf4]
      refine st_cell (v := (.string (str ((l.take (i + (ext inW l i - i))).drop i)))) (by rfl) (run_storeB (.tmp 53) (.tmp 52) rfl d_one_9 B112 (show 1 < 5 by decide) rfl rfl rfl rfl) B112 ?_
      intro w120 B122 hg121
      simp only [nf0, nf1, nf2, nf3, nf4]
      replace B115 := B115.kept hg121 n14
      replace B3 := B3.kept hg121 n15
      replace bel := fr_own bel hg121 lo13
      clear hg121
      clear B112
      replace B122 : Blk w120 g9 #[.int .i64 1, .string (str ((l.take (i + (ext inW l i - i))).drop i)), .int .i64 (i : Int), .int .i64 (((lnS l i).1 : Nat) : Int), .int .i64 (((i : Nat) : Int) - (((lnS l i).2 : Nat) : Int) + 1)] 33 := B122
      refine wpList_nil ?_
      show Code.wp _ _ _ _ _
      refine wp_seq ?_
      refine wp_region_lit ?_
      refine st_value (v := (.agg #[.int .i64 1, .string (str ((l.take (i + (ext inW l i - i))).drop i)), .int .i64 (i : Int), .int .i64 (((lnS l i).1 : Nat) : Int), .int .i64 (((i : Nat) : Int) - (((lnS l i).2 : Nat) : Int) + 1)])) (by rfl) (run_loadW (.tmp 4) rfl (cs := #[.int .i64 1, .string (str ((l.take (i + (ext inW l i - i))).drop i)), .int .i64 (i : Int), .int .i64 (((lnS l i).1 : Nat) : Int), .int .i64 (((i : Nat) : Int) - (((lnS l i).2 : Nat) : Int) + 1)]) aggTok rfl B122) ?_
      simp only [nf0, nf1, nf2, nf3, nf4]
      refine st_mv (.int .i64 0) ?_
      simp only [nf0, nf1, nf2, nf3, nf4]
      refine st_row (by rfl) (run_storeW (.tmp 2) (.tmp 54) rfl (cs := #[.int .i64 1, .string (str ((l.take (i + (ext inW l i - i))).drop i)), .int .i64 (i : Int), .int .i64 (((lnS l i).1 : Nat) : Int), .int .i64 (((i : Nat) : Int) - (((lnS l i).2 : Nat) : Int) + 1)]) aggTok rfl rfl B3 rfl (by simp [Value.oneCell'])) B3 ?_
      intro w123 B125 hg124
      simp only [nf0, nf1, nf2, nf3, nf4]
      replace B115 := B115.kept hg124 n6
      replace B122 := B122.kept hg124 n15.symm
      replace bel := fr_own bel hg124 lo5
      clear hg124
      clear B3
      refine st_mv (.int .i64 0) ?_
      simp only [nf0, nf1, nf2, nf3, nf4]
      refine wpList_nil ?_
      show Code.wp _ _ _ _ _
      refine wp_ret ?_
      first | show bodyPost _ _ _ _ _ _ | (simp only [Exit.then, Exit.inBlock]; show bodyPost _ _ _ _ _ _)
      have hw : wend l i = ext inW l i := by unfold wend; rw [if_pos hk1]
      have ht : terr l i = 0 := by unfold terr; rw [if_pos hk1, hw]; split <;> omega
      have hx : (l.take (i + (ext inW l i - i))).drop i = (l.take (wend l i)).drop i := by rw [hw, show i + (ext inW l i - i) = ext inW l i by omega]
      have hkk : tkind (kd (chr l i)) = 1 := by rw [hk1]; rfl
      exact bodyPost_ret (results_agg1t rfl (cs := #[.int .i64 1, .string (str ((l.take (i + (ext inW l i - i))).drop i)), .int .i64 (i : Int), .int .i64 (((lnS l i).1 : Nat) : Int), .int .i64 (((i : Nat) : Int) - (((lnS l i).2 : Nat) : Int) + 1)]) aggTok (by rfl) B125) rfl ⟨_, rfl, (1, ((l.take (i + (ext inW l i - i))).drop i), plc l i), by rw [ht]; rfl, rfl, (fun _ => by unfold tokI; rw [hkk, ← hx]), by have h_ := B115; rw [hw]; exact h_, bel⟩
    have hp126 := of_decide_eq_true hg113
    refine wp_cond_true rfl ?_
    refine wp_region_lit ?_
    refine st_mv (.int .i64 2) ?_
    simp only [nf0, nf1, nf2, nf3, nf4]
    refine wpList_nil ?_
    show Code.wp _ _ _ _ _
    refine wp_seq ?_
    refine wp_region_lit ?_
    refine st_mv (.pointer (some ⟨r, 0, none⟩)) ?_
    simp only [nf0, nf1, nf2, nf3, nf4]
    refine st_mv (.int .i64 ((ext inW l i - i : Nat) : Int)) ?_
    simp only [nf0, nf1, nf2, nf3, nf4]
    refine st_call (by rfl) (d_run_call_30_2 (.tmp 50) (.tmp 51) rfl rfl rfl _) (pass_calls (ext inW l i - i) hB (by omega) hl) ?_
    rintro u128 w130 ⟨rfl, B127, hf131⟩
    simp only [nf0, nf1, nf2, nf3, nf4]
    rw [show i + (ext inW l i - i) = (ext inW l i) from (by omega)] at B127
    replace B3 := B3.fr hf131 (ni1 n6.symm)
    replace B112 := B112.fr hf131 (ni1 n14.symm)
    replace bel := fr_call bel hf131 (by simp)
    clear hf131
    clear hB
    refine st_value (v := (.pointer (some ⟨g9, 1, none⟩))) (by rfl) (run_fieldA (.tmp 4) rfl d_fld_33_1 rfl rfl w130) ?_
    simp only [nf0, nf1, nf2, nf3, nf4]
    refine st_cell (v := (.string (str ((l.take (i + (ext inW l i - i))).drop i)))) (by rfl) (run_storeB (.tmp 53) (.tmp 52) rfl d_one_9 B112 (show 1 < 5 by decide) rfl rfl rfl rfl) B112 ?_
    intro w132 B134 hg133
    simp only [nf0, nf1, nf2, nf3, nf4]
    replace B127 := B127.kept hg133 n14
    replace B3 := B3.kept hg133 n15
    replace bel := fr_own bel hg133 lo13
    clear hg133
    clear B112
    replace B134 : Blk w132 g9 #[.int .i64 1, .string (str ((l.take (i + (ext inW l i - i))).drop i)), .int .i64 (i : Int), .int .i64 (((lnS l i).1 : Nat) : Int), .int .i64 (((i : Nat) : Int) - (((lnS l i).2 : Nat) : Int) + 1)] 33 := B134
    refine wpList_nil ?_
    show Code.wp _ _ _ _ _
    refine wp_seq ?_
    refine wp_region_lit ?_
    refine st_value (v := (.agg #[.int .i64 1, .string (str ((l.take (i + (ext inW l i - i))).drop i)), .int .i64 (i : Int), .int .i64 (((lnS l i).1 : Nat) : Int), .int .i64 (((i : Nat) : Int) - (((lnS l i).2 : Nat) : Int) + 1)])) (by rfl) (run_loadW (.tmp 4) rfl (cs := #[.int .i64 1, .string (str ((l.take (i + (ext inW l i - i))).drop i)), .int .i64 (i : Int), .int .i64 (((lnS l i).1 : Nat) : Int), .int .i64 (((i : Nat) : Int) - (((lnS l i).2 : Nat) : Int) + 1)]) aggTok rfl B134) ?_
    simp only [nf0, nf1, nf2, nf3, nf4]
    refine st_mv (.int .i64 2) ?_
    simp only [nf0, nf1, nf2, nf3, nf4]
    refine st_row (by rfl) (run_storeW (.tmp 2) (.tmp 54) rfl (cs := #[.int .i64 1, .string (str ((l.take (i + (ext inW l i - i))).drop i)), .int .i64 (i : Int), .int .i64 (((lnS l i).1 : Nat) : Int), .int .i64 (((i : Nat) : Int) - (((lnS l i).2 : Nat) : Int) + 1)]) aggTok rfl rfl B3 rfl (by simp [Value.oneCell'])) B3 ?_
    intro w135 B137 hg136
    simp only [nf0, nf1, nf2, nf3, nf4]
    replace B127 := B127.kept hg136 n6
    replace B134 := B134.kept hg136 n15.symm
    replace bel := fr_own bel hg136 lo5
    clear hg136
    clear B3
    refine st_mv (.int .i64 2) ?_
    simp only [nf0, nf1, nf2, nf3, nf4]
    refine wpList_nil ?_
    show Code.wp _ _ _ _ _
    refine wp_ret ?_
    first | show bodyPost _ _ _ _ _ _ | (simp only [Exit.then, Exit.inBlock]; show bodyPost _ _ _ _ _ _)
    have hw : wend l i = ext inW l i := by unfold wend; rw [if_pos hk1]
    have ht : terr l i = 2 := by unfold terr; rw [if_pos hk1, hw]; split <;> omega
    have hx : (l.take (i + (ext inW l i - i))).drop i = (l.take (wend l i)).drop i := by rw [hw, show i + (ext inW l i - i) = ext inW l i by omega]
    have hkk : tkind (kd (chr l i)) = 1 := by rw [hk1]; rfl
    exact bodyPost_ret (results_agg1t rfl (cs := #[.int .i64 1, .string (str ((l.take (i + (ext inW l i - i))).drop i)), .int .i64 (i : Int), .int .i64 (((lnS l i).1 : Nat) : Int), .int .i64 (((i : Nat) : Int) - (((lnS l i).2 : Nat) : Int) + 1)]) aggTok (by rfl) B137) rfl ⟨_, rfl, (1, ((l.take (i + (ext inW l i - i))).drop i), plc l i), by rw [ht]; rfl, rfl, (fun h => by rw [ht] at h; omega), by have h_ := B127; rw [hw]; exact h_, bel⟩
  have hp23 := trivial
  have hk1 : ¬ kd (chr l i) = 1 := of_decide_eq_false hg22
  refine wp_cond_false rfl ?_
  refine wp_seq ?_
  refine wp_region_lit ?_
  refine st_mv (.int .u8 (chr l i)) ?_
  simp only [nf0, nf1, nf2, nf3, nf4]
  refine st_call1 (v := (.bool (isD (chr l i)))) (by rfl) (d_run_call_35_1 (.tmp 33) rfl rfl _) (isDigit_calls (chr l i) w20) ?_
  intro w24 hb25
  simp only [nf0, nf1, nf2, nf3, nf4]
  replace hB := hB.below hb25
  replace B3 := B3.below hb25
  replace B18 := B18.below hb25
  replace bel := fr_step bel hb25
  clear hb25
  refine st_mv (.bool (isD (chr l i))) ?_
  simp only [nf0, nf1, nf2, nf3, nf4]
  refine wpList_nil ?_
  show Code.wp _ _ _ _ _
  cases hg26 : isD (chr l i)
  rotate_left
  · have hp90 := trivial
    have hk2 : kd (chr l i) = 2 := of_decide_eq_true hg26
    refine wp_cond_true rfl ?_
    refine wp_region_lit ?_
    refine st_mv (.pointer (some ⟨r, 0, none⟩)) ?_
    simp only [nf0, nf1, nf2, nf3, nf4]
    refine st_call1 (v := (.int .i64 ((ext inL l i - i : Nat) : Int))) (by rfl) (d_run_call_31_2 (.tmp 35) (.func 36) rfl rfl rfl _) (run_inList hB (by omega) hl) ?_
    intro w91 hb92
    simp only [nf0, nf1, nf2, nf3, nf4]
    replace hB := hB.below hb92
    replace B3 := B3.below hb92
    replace B18 := B18.below hb92
    replace bel := fr_step bel hb92
    clear hb92
    refine st_value (v := (.pointer (some ⟨g9, 0, none⟩))) (by rfl) (run_fieldA (.tmp 4) rfl d_fld_33_0 rfl rfl w91) ?_
    simp only [nf0, nf1, nf2, nf3, nf4]
    refine st_cell (v := (.int .i64 2)) (by rfl) (run_storeB (.tmp 37) (.const (.int .i64 2)) rfl d_one_3 B18 (show 0 < 5 by decide) rfl rfl rfl rfl) B18 ?_
    intro w93 B95 hg94
    simp only [nf0, nf1, nf2, nf3, nf4]
    replace hB := hB.kept hg94 n14
    replace B3 := B3.kept hg94 n15
    replace bel := fr_own bel hg94 lo13
    clear hg94
    clear B18
    replace B95 : Blk w93 g9 #[.int .i64 2, .string ⟨#[]⟩, .int .i64 (i : Int), .int .i64 (((lnS l i).1 : Nat) : Int), .int .i64 (((i : Nat) : Int) - (((lnS l i).2 : Nat) : Int) + 1)] 33 := B95
    refine st_mv (.int .i64 ((ext inL l i - i : Nat) : Int)) ?_
    simp only [nf0, nf1, nf2, nf3, nf4]
    refine wpList_nil ?_
    show Code.wp _ _ _ _ _
    refine wp_seq ?_
    refine wp_region_lit ?_
    refine st_mv (.pointer (some ⟨r, 0, none⟩)) ?_
    simp only [nf0, nf1, nf2, nf3, nf4]
    refine st_mv (.int .i64 ((ext inL l i - i : Nat) : Int)) ?_
    simp only [nf0, nf1, nf2, nf3, nf4]
    refine st_call (by rfl) (d_run_call_30_2 (.tmp 50) (.tmp 51) rfl rfl rfl _) (pass_calls (ext inL l i - i) hB (by omega) hl) ?_
    rintro u97 w99 ⟨rfl, B96, hf100⟩
    simp only [nf0, nf1, nf2, nf3, nf4]
    rw [show i + (ext inL l i - i) = (ext inL l i) from (by omega)] at B96
    replace B3 := B3.fr hf100 (ni1 n6.symm)
    replace B95 := B95.fr hf100 (ni1 n14.symm)
    replace bel := fr_call bel hf100 (by simp)
    clear hf100
    clear hB
    refine st_value (v := (.pointer (some ⟨g9, 1, none⟩))) (by rfl) (run_fieldA (.tmp 4) rfl d_fld_33_1 rfl rfl w99) ?_
    simp only [nf0, nf1, nf2, nf3, nf4]
    refine st_cell (v := (.string (str ((l.take (i + (ext inL l i - i))).drop i)))) (by rfl) (run_storeB (.tmp 53) (.tmp 52) rfl d_one_9 B95 (show 1 < 5 by decide) rfl rfl rfl rfl) B95 ?_
    intro w101 B103 hg102
    simp only [nf0, nf1, nf2, nf3, nf4]
    replace B96 := B96.kept hg102 n14
    replace B3 := B3.kept hg102 n15
    replace bel := fr_own bel hg102 lo13
    clear hg102
    clear B95
    replace B103 : Blk w101 g9 #[.int .i64 2, .string (str ((l.take (i + (ext inL l i - i))).drop i)), .int .i64 (i : Int), .int .i64 (((lnS l i).1 : Nat) : Int), .int .i64 (((i : Nat) : Int) - (((lnS l i).2 : Nat) : Int) + 1)] 33 := B103
    refine wpList_nil ?_
    show Code.wp _ _ _ _ _
    refine wp_seq ?_
    refine wp_region_lit ?_
    refine st_value (v := (.agg #[.int .i64 2, .string (str ((l.take (i + (ext inL l i - i))).drop i)), .int .i64 (i : Int), .int .i64 (((lnS l i).1 : Nat) : Int), .int .i64 (((i : Nat) : Int) - (((lnS l i).2 : Nat) : Int) + 1)])) (by rfl) (run_loadW (.tmp 4) rfl (cs := #[.int .i64 2, .string (str ((l.take (i + (ext inL l i - i))).drop i)), .int .i64 (i : Int), .int .i64 (((lnS l i).1 : Nat) : Int), .int .i64 (((i : Nat) : Int) - (((lnS l i).2 : Nat) : Int) + 1)]) aggTok rfl B103) ?_
    simp only [nf0, nf1, nf2, nf3, nf4]
    refine st_mv (.int .i64 0) ?_
    simp only [nf0, nf1, nf2, nf3, nf4]
    refine st_row (by rfl) (run_storeW (.tmp 2) (.tmp 54) rfl (cs := #[.int .i64 2, .string (str ((l.take (i + (ext inL l i - i))).drop i)), .int .i64 (i : Int), .int .i64 (((lnS l i).1 : Nat) : Int), .int .i64 (((i : Nat) : Int) - (((lnS l i).2 : Nat) : Int) + 1)]) aggTok rfl rfl B3 rfl (by simp [Value.oneCell'])) B3 ?_
    intro w104 B106 hg105
    simp only [nf0, nf1, nf2, nf3, nf4]
    replace B96 := B96.kept hg105 n6
    replace B103 := B103.kept hg105 n15.symm
    replace bel := fr_own bel hg105 lo5
    clear hg105
    clear B3
    refine st_mv (.int .i64 0) ?_
    simp only [nf0, nf1, nf2, nf3, nf4]
    refine wpList_nil ?_
    show Code.wp _ _ _ _ _
    refine wp_ret ?_
    first | show bodyPost _ _ _ _ _ _ | (simp only [Exit.then, Exit.inBlock]; show bodyPost _ _ _ _ _ _)
    have hw : wend l i = ext inL l i := by unfold wend; rw [if_neg (by omega), if_pos hk2]
    have ht : terr l i = 0 := by unfold terr; rw [if_neg (by omega), if_pos (.inl hk2)]
    have hx : (l.take (i + (ext inL l i - i))).drop i = (l.take (wend l i)).drop i := by rw [hw, show i + (ext inL l i - i) = ext inL l i by omega]
    have hkk : tkind (kd (chr l i)) = 2 := by rw [hk2]; rfl
    exact bodyPost_ret (results_agg1t rfl (cs := #[.int .i64 2, .string (str ((l.take (i + (ext inL l i - i))).drop i)), .int .i64 (i : Int), .int .i64 (((lnS l i).1 : Nat) : Int), .int .i64 (((i : Nat) : Int) - (((lnS l i).2 : Nat) : Int) + 1)]) aggTok (by rfl) B106) rfl ⟨_, rfl, (2, ((l.take (i + (ext inL l i - i))).drop i), plc l i), by rw [ht]; rfl, rfl, (fun _ => by unfold tokI; rw [hkk, ← hx]), by have h_ := B96; rw [hw]; exact h_, bel⟩
  have hp27 := trivial
  have hk2 : ¬ kd (chr l i) = 2 := of_decide_eq_false hg26
  refine wp_cond_false rfl ?_
  refine wp_seq ?_
  cases hg28 : decide ((chr l i) = 123)
  rotate_left
  · have hp75 := of_decide_eq_true hg28
    refine wp_region_lit ?_
    refine st_mv (.int .u8 (chr l i)) ?_
    simp only [nf0, nf1, nf2, nf3, nf4]
    refine st_value (v := (.bool true)) (by rfl) ((run_eql_int (.tmp 39) (.const (.int .u8 123)) rfl rfl rfl w24).trans (by rw [hg28])) ?_
    simp only [nf0, nf1, nf2, nf3, nf4]
    refine st_mv (.bool true) ?_
    simp only [nf0, nf1, nf2, nf3, nf4]
    refine st_nob (j := 2) (t := 41) (c := true) rfl rfl rfl rfl rfl ?_
    simp only [nf0, nf1, nf2, nf3, nf4]
    refine st_nob (j := 2) (t := 41) (c := true) rfl rfl rfl rfl rfl ?_
    simp only [nf0, nf1, nf2, nf3, nf4]
    refine st_mv (.bool true) ?_
    simp only [nf0, nf1, nf2, nf3, nf4]
    refine st_mv (.bool true) ?_
    simp only [nf0, nf1, nf2, nf3, nf4]
    refine st_nob (j := 6) (t := 45) (c := true) rfl rfl rfl rfl rfl ?_
    simp only [nf0, nf1, nf2, nf3, nf4]
    refine st_nob (j := 6) (t := 45) (c := true) rfl rfl rfl rfl rfl ?_
    simp only [nf0, nf1, nf2, nf3, nf4]
    refine st_mv (.bool true) ?_
    simp only [nf0, nf1, nf2, nf3, nf4]
    refine st_mv (.bool true) ?_
    simp only [nf0, nf1, nf2, nf3, nf4]
    refine wpList_nil ?_
    show Code.wp _ _ _ _ _
    refine wp_cond_true rfl ?_
    refine wp_region_lit ?_
    refine st_value (v := (.pointer (some ⟨g9, 0, none⟩))) (by rfl) (run_fieldA (.tmp 4) rfl d_fld_33_0 rfl rfl w24) ?_
    simp only [nf0, nf1, nf2, nf3, nf4]
    refine st_cell (v := (.int .i64 3)) (by rfl) (run_storeB (.tmp 49) (.const (.int .i64 3)) rfl d_one_3 B18 (show 0 < 5 by decide) rfl rfl rfl rfl) B18 ?_
    intro w76 B78 hg77
    simp only [nf0, nf1, nf2, nf3, nf4]
    replace hB := hB.kept hg77 n14
    replace B3 := B3.kept hg77 n15
    replace bel := fr_own bel hg77 lo13
    clear hg77
    clear B18
    replace B78 : Blk w76 g9 #[.int .i64 3, .string ⟨#[]⟩, .int .i64 (i : Int), .int .i64 (((lnS l i).1 : Nat) : Int), .int .i64 (((i : Nat) : Int) - (((lnS l i).2 : Nat) : Int) + 1)] 33 := B78
    refine wpList_nil ?_
    show Code.wp _ _ _ _ _
    refine wp_seq ?_
    refine wp_region_lit ?_
    refine st_mv (.pointer (some ⟨r, 0, none⟩)) ?_
    simp only [nf0, nf1, nf2, nf3, nf4]
    refine st_mv (.int .i64 1) ?_
    simp only [nf0, nf1, nf2, nf3, nf4]
    refine st_call (by rfl) (d_run_call_30_2 (.tmp 50) (.tmp 51) rfl rfl rfl _) (pass_calls 1 hB (by omega) hl) ?_
    rintro u80 w82 ⟨rfl, B79, hf83⟩
    simp only [nf0, nf1, nf2, nf3, nf4]
    replace B3 := B3.fr hf83 (ni1 n6.symm)
    replace B78 := B78.fr hf83 (ni1 n14.symm)
    replace bel := fr_call bel hf83 (by simp)
    clear hf83
    clear hB
    refine st_value (v := (.pointer (some ⟨g9, 1, none⟩))) (by rfl) (run_fieldA (.tmp 4) rfl d_fld_33_1 rfl rfl w82) ?_
    simp only [nf0, nf1, nf2, nf3, nf4]
    refine st_cell (v := (.string (str ((l.take (i + 1)).drop i)))) (by rfl) (run_storeB (.tmp 53) (.tmp 52) rfl d_one_9 B78 (show 1 < 5 by decide) rfl rfl rfl rfl) B78 ?_
    intro w84 B86 hg85
    simp only [nf0, nf1, nf2, nf3, nf4]
    replace B79 := B79.kept hg85 n14
    replace B3 := B3.kept hg85 n15
    replace bel := fr_own bel hg85 lo13
    clear hg85
    clear B78
    replace B86 : Blk w84 g9 #[.int .i64 3, .string (str ((l.take (i + 1)).drop i)), .int .i64 (i : Int), .int .i64 (((lnS l i).1 : Nat) : Int), .int .i64 (((i : Nat) : Int) - (((lnS l i).2 : Nat) : Int) + 1)] 33 := B86
    refine wpList_nil ?_
    show Code.wp _ _ _ _ _
    refine wp_seq ?_
    refine wp_region_lit ?_
    refine st_value (v := (.agg #[.int .i64 3, .string (str ((l.take (i + 1)).drop i)), .int .i64 (i : Int), .int .i64 (((lnS l i).1 : Nat) : Int), .int .i64 (((i : Nat) : Int) - (((lnS l i).2 : Nat) : Int) + 1)])) (by rfl) (run_loadW (.tmp 4) rfl (cs := #[.int .i64 3, .string (str ((l.take (i + 1)).drop i)), .int .i64 (i : Int), .int .i64 (((lnS l i).1 : Nat) : Int), .int .i64 (((i : Nat) : Int) - (((lnS l i).2 : Nat) : Int) + 1)]) aggTok rfl B86) ?_
    simp only [nf0, nf1, nf2, nf3, nf4]
    refine st_mv (.int .i64 0) ?_
    simp only [nf0, nf1, nf2, nf3, nf4]
    refine st_row (by rfl) (run_storeW (.tmp 2) (.tmp 54) rfl (cs := #[.int .i64 3, .string (str ((l.take (i + 1)).drop i)), .int .i64 (i : Int), .int .i64 (((lnS l i).1 : Nat) : Int), .int .i64 (((i : Nat) : Int) - (((lnS l i).2 : Nat) : Int) + 1)]) aggTok rfl rfl B3 rfl (by simp [Value.oneCell'])) B3 ?_
    intro w87 B89 hg88
    simp only [nf0, nf1, nf2, nf3, nf4]
    replace B79 := B79.kept hg88 n6
    replace B86 := B86.kept hg88 n15.symm
    replace bel := fr_own bel hg88 lo5
    clear hg88
    clear B3
    refine st_mv (.int .i64 0) ?_
    simp only [nf0, nf1, nf2, nf3, nf4]
    refine wpList_nil ?_
    show Code.wp _ _ _ _ _
    refine wp_ret ?_
    first | show bodyPost _ _ _ _ _ _ | (simp only [Exit.then, Exit.inBlock]; show bodyPost _ _ _ _ _ _)
    have hw : wend l i = i + 1 := by unfold wend; rw [if_neg hk1, if_neg hk2]
    have hx : (l.take (i + 1)).drop i = (l.take (wend l i)).drop i := by rw [hw]
    have hkk : tkind (kd (chr l i)) = 3 := by unfold tkind; rw [if_neg hk1, if_neg hk2]
    have hk5 : kd (chr l i) = 5 := kd_5.2 (by omega)
    have ht : terr l i = 0 := by unfold terr; rw [if_neg hk1, if_pos (.inr hk5)]
    exact bodyPost_ret (results_agg1t rfl (cs := #[.int .i64 3, .string (str ((l.take (i + 1)).drop i)), .int .i64 (i : Int), .int .i64 (((lnS l i).1 : Nat) : Int), .int .i64 (((i : Nat) : Int) - (((lnS l i).2 : Nat) : Int) + 1)]) aggTok (by rfl) B89) rfl ⟨_, rfl, (3, ((l.take (i + 1)).drop i), plc l i), by rw [ht]; rfl, rfl, (fun _ => by unfold tokI; rw [hkk, ← hx]), by have h_ := B79; rw [hw]; exact h_, bel⟩
  have hp29 := of_decide_eq_false hg28
  cases hg30 : decide ((chr l i) = 125)
  rotate_left
  · have hp60 := of_decide_eq_true hg30
    refine wp_region_lit ?_
    refine st_mv (.int .u8 (chr l i)) ?_
    simp only [nf0, nf1, nf2, nf3, nf4]
    refine st_value (v := (.bool false)) (by rfl) ((run_eql_int (.tmp 39) (.const (.int .u8 123)) rfl rfl rfl w24).trans (by rw [hg28])) ?_
    simp only [nf0, nf1, nf2, nf3, nf4]
    refine st_mv (.bool false) ?_
    simp only [nf0, nf1, nf2, nf3, nf4]
    refine st_mv (.int .u8 (chr l i)) ?_
    simp only [nf0, nf1, nf2, nf3, nf4]
    refine st_value (v := (.bool true)) (by rfl) ((run_eql_int (.tmp 42) (.const (.int .u8 125)) rfl rfl rfl w24).trans (by rw [hg30])) ?_
    simp only [nf0, nf1, nf2, nf3, nf4]
    refine st_mv (.bool true) ?_
    simp only [nf0, nf1, nf2, nf3, nf4]
    refine st_mv (.bool true) ?_
    simp only [nf0, nf1, nf2, nf3, nf4]
    refine st_nob (j := 6) (t := 45) (c := true) rfl rfl rfl rfl rfl ?_
    simp only [nf0, nf1, nf2, nf3, nf4]
    refine st_nob (j := 6) (t := 45) (c := true) rfl rfl rfl rfl rfl ?_
    simp only [nf0, nf1, nf2, nf3, nf4]
    refine st_mv (.bool true) ?_
    simp only [nf0, nf1, nf2, nf3, nf4]
    refine st_mv (.bool true) ?_
    simp only [nf0, nf1, nf2, nf3, nf4]
    refine wpList_nil ?_
    show Code.wp _ _ _ _ _
    refine wp_cond_true rfl ?_
    refine wp_region_lit ?_
    refine st_value (v := (.pointer (some ⟨g9, 0, none⟩))) (by rfl) (run_fieldA (.tmp 4) rfl d_fld_33_0 rfl rfl w24) ?_
    simp only [nf0, nf1, nf2, nf3, nf4]
    refine st_cell (v := (.int .i64 3)) (by rfl) (run_storeB (.tmp 49) (.const (.int .i64 3)) rfl d_one_3 B18 (show 0 < 5 by decide) rfl rfl rfl rfl) B18 ?_
    intro w61 B63 hg62
    simp only [nf0, nf1, nf2, nf3, nf4]
    replace hB := hB.kept hg62 n14
    replace B3 := B3.kept hg62 n15
    replace bel := fr_own bel hg62 lo13
    clear hg62
    clear B18
    replace B63 : Blk w61 g9 #[.int .i64 3, .string ⟨#[]⟩, .int .i64 (i : Int), .int .i64 (((lnS l i).1 : Nat) : Int), .int .i64 (((i : Nat) : Int) - (((lnS l i).2 : Nat) : Int) + 1)] 33 := B63
    refine wpList_nil ?_
    show Code.wp _ _ _ _ _
    refine wp_seq ?_
    refine wp_region_lit ?_
    refine st_mv (.pointer (some ⟨r, 0, none⟩)) ?_
    simp only [nf0, nf1, nf2, nf3, nf4]
    refine st_mv (.int .i64 1) ?_
    simp only [nf0, nf1, nf2, nf3, nf4]
    refine st_call (by rfl) (d_run_call_30_2 (.tmp 50) (.tmp 51) rfl rfl rfl _) (pass_calls 1 hB (by omega) hl) ?_
    rintro u65 w67 ⟨rfl, B64, hf68⟩
    simp only [nf0, nf1, nf2, nf3, nf4]
    replace B3 := B3.fr hf68 (ni1 n6.symm)
    replace B63 := B63.fr hf68 (ni1 n14.symm)
    replace bel := fr_call bel hf68 (by simp)
    clear hf68
    clear hB
    refine st_value (v := (.pointer (some ⟨g9, 1, none⟩))) (by rfl) (run_fieldA (.tmp 4) rfl d_fld_33_1 rfl rfl w67) ?_
    simp only [nf0, nf1, nf2, nf3, nf4]
    refine st_cell (v := (.string (str ((l.take (i + 1)).drop i)))) (by rfl) (run_storeB (.tmp 53) (.tmp 52) rfl d_one_9 B63 (show 1 < 5 by decide) rfl rfl rfl rfl) B63 ?_
    intro w69 B71 hg70
    simp only [nf0, nf1, nf2, nf3, nf4]
    replace B64 := B64.kept hg70 n14
    replace B3 := B3.kept hg70 n15
    replace bel := fr_own bel hg70 lo13
    clear hg70
    clear B63
    replace B71 : Blk w69 g9 #[.int .i64 3, .string (str ((l.take (i + 1)).drop i)), .int .i64 (i : Int), .int .i64 (((lnS l i).1 : Nat) : Int), .int .i64 (((i : Nat) : Int) - (((lnS l i).2 : Nat) : Int) + 1)] 33 := B71
    refine wpList_nil ?_
    show Code.wp _ _ _ _ _
    refine wp_seq ?_
    refine wp_region_lit ?_
    refine st_value (v := (.agg #[.int .i64 3, .string (str ((l.take (i + 1)).drop i)), .int .i64 (i : Int), .int .i64 (((lnS l i).1 : Nat) : Int), .int .i64 (((i : Nat) : Int) - (((lnS l i).2 : Nat) : Int) + 1)])) (by rfl) (run_loadW (.tmp 4) rfl (cs := #[.int .i64 3, .string (str ((l.take (i + 1)).drop i)), .int .i64 (i : Int), .int .i64 (((lnS l i).1 : Nat) : Int), .int .i64 (((i : Nat) : Int) - (((lnS l i).2 : Nat) : Int) + 1)]) aggTok rfl B71) ?_
    simp only [nf0, nf1, nf2, nf3, nf4]
    refine st_mv (.int .i64 0) ?_
    simp only [nf0, nf1, nf2, nf3, nf4]
    refine st_row (by rfl) (run_storeW (.tmp 2) (.tmp 54) rfl (cs := #[.int .i64 3, .string (str ((l.take (i + 1)).drop i)), .int .i64 (i : Int), .int .i64 (((lnS l i).1 : Nat) : Int), .int .i64 (((i : Nat) : Int) - (((lnS l i).2 : Nat) : Int) + 1)]) aggTok rfl rfl B3 rfl (by simp [Value.oneCell'])) B3 ?_
    intro w72 B74 hg73
    simp only [nf0, nf1, nf2, nf3, nf4]
    replace B64 := B64.kept hg73 n6
    replace B71 := B71.kept hg73 n15.symm
    replace bel := fr_own bel hg73 lo5
    clear hg73
    clear B3
    refine st_mv (.int .i64 0) ?_
    simp only [nf0, nf1, nf2, nf3, nf4]
    refine wpList_nil ?_
    show Code.wp _ _ _ _ _
    refine wp_ret ?_
    first | show bodyPost _ _ _ _ _ _ | (simp only [Exit.then, Exit.inBlock]; show bodyPost _ _ _ _ _ _)
    have hw : wend l i = i + 1 := by unfold wend; rw [if_neg hk1, if_neg hk2]
    have hx : (l.take (i + 1)).drop i = (l.take (wend l i)).drop i := by rw [hw]
    have hkk : tkind (kd (chr l i)) = 3 := by unfold tkind; rw [if_neg hk1, if_neg hk2]
    have hk5 : kd (chr l i) = 5 := kd_5.2 (by omega)
    have ht : terr l i = 0 := by unfold terr; rw [if_neg hk1, if_pos (.inr hk5)]
    exact bodyPost_ret (results_agg1t rfl (cs := #[.int .i64 3, .string (str ((l.take (i + 1)).drop i)), .int .i64 (i : Int), .int .i64 (((lnS l i).1 : Nat) : Int), .int .i64 (((i : Nat) : Int) - (((lnS l i).2 : Nat) : Int) + 1)]) aggTok (by rfl) B74) rfl ⟨_, rfl, (3, ((l.take (i + 1)).drop i), plc l i), by rw [ht]; rfl, rfl, (fun _ => by unfold tokI; rw [hkk, ← hx]), by have h_ := B64; rw [hw]; exact h_, bel⟩
  have hp31 := of_decide_eq_false hg30
  refine wp_region_lit ?_
  refine st_mv (.int .u8 (chr l i)) ?_
  simp only [nf0, nf1, nf2, nf3, nf4]
  refine st_value (v := (.bool false)) (by rfl) ((run_eql_int (.tmp 39) (.const (.int .u8 123)) rfl rfl rfl w24).trans (by rw [hg28])) ?_
  simp only [nf0, nf1, nf2, nf3, nf4]
  refine st_mv (.bool false) ?_
  simp only [nf0, nf1, nf2, nf3, nf4]
  refine st_mv (.int .u8 (chr l i)) ?_
  simp only [nf0, nf1, nf2, nf3, nf4]
  refine st_value (v := (.bool false)) (by rfl) ((run_eql_int (.tmp 42) (.const (.int .u8 125)) rfl rfl rfl w24).trans (by rw [hg30])) ?_
  simp only [nf0, nf1, nf2, nf3, nf4]
  refine st_mv (.bool false) ?_
  simp only [nf0, nf1, nf2, nf3, nf4]
  refine st_mv (.bool false) ?_
  simp only [nf0, nf1, nf2, nf3, nf4]
  refine st_mv (.int .u8 (chr l i)) ?_
  simp only [nf0, nf1, nf2, nf3, nf4]
  refine st_value (v := (.bool (decide ((chr l i) = 59)))) (by rfl) (run_eql_int (.tmp 46) (.const (.int .u8 59)) rfl rfl rfl w24) ?_
  simp only [nf0, nf1, nf2, nf3, nf4]
  refine st_mv (.bool (decide ((chr l i) = 59))) ?_
  simp only [nf0, nf1, nf2, nf3, nf4]
  refine st_mv (.bool (decide ((chr l i) = 59))) ?_
  simp only [nf0, nf1, nf2, nf3, nf4]
  refine wpList_nil ?_
  show Code.wp _ _ _ _ _
  cases hg32 : decide ((chr l i) = 59)
  · have hp33 := of_decide_eq_false hg32
    refine wp_cond_false rfl ?_
    refine wp_region_lit ?_
    refine st_mv (.int .i64 20) ?_
    simp only [nf0, nf1, nf2, nf3, nf4]
    refine wpList_nil ?_
    show Code.wp _ _ _ _ _
    refine wp_seq ?_
    refine wp_region_lit ?_
    refine st_mv (.pointer (some ⟨r, 0, none⟩)) ?_
    simp only [nf0, nf1, nf2, nf3, nf4]
    refine st_mv (.int .i64 1) ?_
    simp only [nf0, nf1, nf2, nf3, nf4]
    refine st_call (by rfl) (d_run_call_30_2 (.tmp 50) (.tmp 51) rfl rfl rfl _) (pass_calls 1 hB (by omega) hl) ?_
    rintro u35 w37 ⟨rfl, B34, hf38⟩
    simp only [nf0, nf1, nf2, nf3, nf4]
    replace B3 := B3.fr hf38 (ni1 n6.symm)
    replace B18 := B18.fr hf38 (ni1 n14.symm)
    replace bel := fr_call bel hf38 (by simp)
    clear hf38
    clear hB
    refine st_value (v := (.pointer (some ⟨g9, 1, none⟩))) (by rfl) (run_fieldA (.tmp 4) rfl d_fld_33_1 rfl rfl w37) ?_
    simp only [nf0, nf1, nf2, nf3, nf4]
    refine st_cell (v := (.string (str ((l.take (i + 1)).drop i)))) (by rfl) (run_storeB (.tmp 53) (.tmp 52) rfl d_one_9 B18 (show 1 < 5 by decide) rfl rfl rfl rfl) B18 ?_
    intro w39 B41 hg40
    simp only [nf0, nf1, nf2, nf3, nf4]
    replace B34 := B34.kept hg40 n14
    replace B3 := B3.kept hg40 n15
    replace bel := fr_own bel hg40 lo13
    clear hg40
    clear B18
    replace B41 : Blk w39 g9 #[.int .i64 0, .string (str ((l.take (i + 1)).drop i)), .int .i64 (i : Int), .int .i64 (((lnS l i).1 : Nat) : Int), .int .i64 (((i : Nat) : Int) - (((lnS l i).2 : Nat) : Int) + 1)] 33 := B41
    refine wpList_nil ?_
    show Code.wp _ _ _ _ _
    refine wp_seq ?_
    refine wp_region_lit ?_
    refine st_value (v := (.agg #[.int .i64 0, .string (str ((l.take (i + 1)).drop i)), .int .i64 (i : Int), .int .i64 (((lnS l i).1 : Nat) : Int), .int .i64 (((i : Nat) : Int) - (((lnS l i).2 : Nat) : Int) + 1)])) (by rfl) (run_loadW (.tmp 4) rfl (cs := #[.int .i64 0, .string (str ((l.take (i + 1)).drop i)), .int .i64 (i : Int), .int .i64 (((lnS l i).1 : Nat) : Int), .int .i64 (((i : Nat) : Int) - (((lnS l i).2 : Nat) : Int) + 1)]) aggTok rfl B41) ?_
    simp only [nf0, nf1, nf2, nf3, nf4]
    refine st_mv (.int .i64 20) ?_
    simp only [nf0, nf1, nf2, nf3, nf4]
    refine st_row (by rfl) (run_storeW (.tmp 2) (.tmp 54) rfl (cs := #[.int .i64 0, .string (str ((l.take (i + 1)).drop i)), .int .i64 (i : Int), .int .i64 (((lnS l i).1 : Nat) : Int), .int .i64 (((i : Nat) : Int) - (((lnS l i).2 : Nat) : Int) + 1)]) aggTok rfl rfl B3 rfl (by simp [Value.oneCell'])) B3 ?_
    intro w42 B44 hg43
    simp only [nf0, nf1, nf2, nf3, nf4]
    replace B34 := B34.kept hg43 n6
    replace B41 := B41.kept hg43 n15.symm
    replace bel := fr_own bel hg43 lo5
    clear hg43
    clear B3
    refine st_mv (.int .i64 20) ?_
    simp only [nf0, nf1, nf2, nf3, nf4]
    refine wpList_nil ?_
    show Code.wp _ _ _ _ _
    refine wp_ret ?_
    first | show bodyPost _ _ _ _ _ _ | (simp only [Exit.then, Exit.inBlock]; show bodyPost _ _ _ _ _ _)
    have hw : wend l i = i + 1 := by unfold wend; rw [if_neg hk1, if_neg hk2]
    have hx : (l.take (i + 1)).drop i = (l.take (wend l i)).drop i := by rw [hw]
    have hkk : tkind (kd (chr l i)) = 3 := by unfold tkind; rw [if_neg hk1, if_neg hk2]
    have hk5 : ¬ kd (chr l i) = 5 := fun h => by have := kd_5.1 h; omega
    have ht : terr l i = 20 := by unfold terr; rw [if_neg hk1, if_neg (by omega)]
    exact bodyPost_ret (results_agg1t rfl (cs := #[.int .i64 0, .string (str ((l.take (i + 1)).drop i)), .int .i64 (i : Int), .int .i64 (((lnS l i).1 : Nat) : Int), .int .i64 (((i : Nat) : Int) - (((lnS l i).2 : Nat) : Int) + 1)]) aggTok (by rfl) B44) rfl ⟨_, rfl, (0, ((l.take (i + 1)).drop i), plc l i), by rw [ht]; rfl, rfl, (fun h => by rw [ht] at h; omega), by have h_ := B34; rw [hw]; exact h_, bel⟩
  have hp45 := of_decide_eq_true hg32
  refine wp_cond_true rfl ?_
  refine wp_region_lit ?_
  refine st_value (v := (.pointer (some ⟨g9, 0, none⟩))) (by rfl) (run_fieldA (.tmp 4) rfl d_fld_33_0 rfl rfl w24) ?_
  simp only [nf0, nf1, nf2, nf3, nf4]
  refine st_cell (v := (.int .i64 3)) (by rfl) (run_storeB (.tmp 49) (.const (.int .i64 3)) rfl d_one_3 B18 (show 0 < 5 by decide) rfl rfl rfl rfl) B18 ?_
  intro w46 B48 hg47
  simp only [nf0, nf1, nf2, nf3, nf4]
  replace hB := hB.kept hg47 n14
  replace B3 := B3.kept hg47 n15
  replace bel := fr_own bel hg47 lo13
  clear hg47
  clear B18
  replace B48 : Blk w46 g9 #[.int .i64 3, .string ⟨#[]⟩, .int .i64 (i : Int), .int .i64 (((lnS l i).1 : Nat) : Int), .int .i64 (((i : Nat) : Int) - (((lnS l i).2 : Nat) : Int) + 1)] 33 := B48
  refine wpList_nil ?_
  show Code.wp _ _ _ _ _
  refine wp_seq ?_
  refine wp_region_lit ?_
  refine st_mv (.pointer (some ⟨r, 0, none⟩)) ?_
  simp only [nf0, nf1, nf2, nf3, nf4]
  refine st_mv (.int .i64 1) ?_
  simp only [nf0, nf1, nf2, nf3, nf4]
  refine st_call (by rfl) (d_run_call_30_2 (.tmp 50) (.tmp 51) rfl rfl rfl _) (pass_calls 1 hB (by omega) hl) ?_
  rintro u50 w52 ⟨rfl, B49, hf53⟩
  simp only [nf0, nf1, nf2, nf3, nf4]
  replace B3 := B3.fr hf53 (ni1 n6.symm)
  replace B48 := B48.fr hf53 (ni1 n14.symm)
  replace bel := fr_call bel hf53 (by simp)
  clear hf53
  clear hB
  refine st_value (v := (.pointer (some ⟨g9, 1, none⟩))) (by rfl) (run_fieldA (.tmp 4) rfl d_fld_33_1 rfl rfl w52) ?_
  simp only [nf0, nf1, nf2, nf3, nf4]
  refine st_cell (v := (.string (str ((l.take (i + 1)).drop i)))) (by rfl) (run_storeB (.tmp 53) (.tmp 52) rfl d_one_9 B48 (show 1 < 5 by decide) rfl rfl rfl rfl) B48 ?_
  intro w54 B56 hg55
  simp only [nf0, nf1, nf2, nf3, nf4]
  replace B49 := B49.kept hg55 n14
  replace B3 := B3.kept hg55 n15
  replace bel := fr_own bel hg55 lo13
  clear hg55
  clear B48
  replace B56 : Blk w54 g9 #[.int .i64 3, .string (str ((l.take (i + 1)).drop i)), .int .i64 (i : Int), .int .i64 (((lnS l i).1 : Nat) : Int), .int .i64 (((i : Nat) : Int) - (((lnS l i).2 : Nat) : Int) + 1)] 33 := B56
  refine wpList_nil ?_
  show Code.wp _ _ _ _ _
  refine wp_seq ?_
  refine wp_region_lit ?_
  refine st_value (v := (.agg #[.int .i64 3, .string (str ((l.take (i + 1)).drop i)), .int .i64 (i : Int), .int .i64 (((lnS l i).1 : Nat) : Int), .int .i64 (((i : Nat) : Int) - (((lnS l i).2 : Nat) : Int) + 1)])) (by rfl) (run_loadW (.tmp 4) rfl (cs := #[.int .i64 3, .string (str ((l.take (i + 1)).drop i)), .int .i64 (i : Int), .int .i64 (((lnS l i).1 : Nat) : Int), .int .i64 (((i : Nat) : Int) - (((lnS l i).2 : Nat) : Int) + 1)]) aggTok rfl B56) ?_
  simp only [nf0, nf1, nf2, nf3, nf4]
  refine st_mv (.int .i64 0) ?_
  simp only [nf0, nf1, nf2, nf3, nf4]
  refine st_row (by rfl) (run_storeW (.tmp 2) (.tmp 54) rfl (cs := #[.int .i64 3, .string (str ((l.take (i + 1)).drop i)), .int .i64 (i : Int), .int .i64 (((lnS l i).1 : Nat) : Int), .int .i64 (((i : Nat) : Int) - (((lnS l i).2 : Nat) : Int) + 1)]) aggTok rfl rfl B3 rfl (by simp [Value.oneCell'])) B3 ?_
  intro w57 B59 hg58
  simp only [nf0, nf1, nf2, nf3, nf4]
  replace B49 := B49.kept hg58 n6
  replace B56 := B56.kept hg58 n15.symm
  replace bel := fr_own bel hg58 lo5
  clear hg58
  clear B3
  refine st_mv (.int .i64 0) ?_
  simp only [nf0, nf1, nf2, nf3, nf4]
  refine wpList_nil ?_
  show Code.wp _ _ _ _ _
  refine wp_ret ?_
  first | show bodyPost _ _ _ _ _ _ | (simp only [Exit.then, Exit.inBlock]; show bodyPost _ _ _ _ _ _)
  have hw : wend l i = i + 1 := by unfold wend; rw [if_neg hk1, if_neg hk2]
  have hx : (l.take (i + 1)).drop i = (l.take (wend l i)).drop i := by rw [hw]
  have hkk : tkind (kd (chr l i)) = 3 := by unfold tkind; rw [if_neg hk1, if_neg hk2]
  have hk5 : kd (chr l i) = 5 := kd_5.2 (by omega)
  have ht : terr l i = 0 := by unfold terr; rw [if_neg hk1, if_pos (.inr hk5)]
  exact bodyPost_ret (results_agg1t rfl (cs := #[.int .i64 3, .string (str ((l.take (i + 1)).drop i)), .int .i64 (i : Int), .int .i64 (((lnS l i).1 : Nat) : Int), .int .i64 (((i : Nat) : Int) - (((lnS l i).2 : Nat) : Int) + 1)]) aggTok (by rfl) B59) rfl ⟨_, rfl, (3, ((l.take (i + 1)).drop i), plc l i), by rw [ht]; rfl, rfl, (fun _ => by unfold tokI; rw [hkk, ← hx]), by have h_ := B49; rw [hw]; exact h_, bel⟩
end Go.Proofs.Ytkebpmcgmmhifaa

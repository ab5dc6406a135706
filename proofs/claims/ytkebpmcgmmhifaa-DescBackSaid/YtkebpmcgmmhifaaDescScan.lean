/- desc's reader: a place told, the gap. -/
import Derived.Test.YtkebpmcgmmhifaaDescRuns
namespace Go.Proofs.Ytkebpmcgmmhifaa
open Go.RowKit Go.WideShapes Go.ChangeShapes
set_option linter.unusedSimpArgs false
set_option linter.unusedVariables false

theorem c_zero_26 : ZeroOf Try.prog 26 #[.int .i64 0, .int .i64 0, .int .i64 0] := zeroOf (z := .agg #[.int .i64 0, .int .i64 0, .int .i64 0]) (by kernel_rfl) rfl
theorem c_fld_43_0 : FieldAt Try.prog 43 0 0 := fieldAt_of (s := 0) Try.underlying43 (by kernel_rfl)
theorem c_one_3 : One Try.prog 3 := one_of Try.underlying3 rfl (by kernel_rfl)
theorem c_fld_43_1 : FieldAt Try.prog 43 1 1 := fieldAt_of (s := 0) Try.underlying43 (by kernel_rfl)
theorem c_fld_43_2 : FieldAt Try.prog 43 2 2 := fieldAt_of (s := 0) Try.underlying43 (by kernel_rfl)
theorem c_fld_45_0 : FieldAt Try.prog 45 0 0 := fieldAt_of (s := 2) Try.underlying45 (by kernel_rfl)
theorem c_fld_45_1 : FieldAt Try.prog 45 1 3 := fieldAt_of (s := 0) Try.underlying45 (by kernel_rfl)
theorem c_one_9 : One Try.prog 9 := one_of Try.underlying9 rfl (by kernel_rfl)
theorem c_run_call_30_2 {o : Oper} {a : Act} (x0 : Operand) (x1 : Operand) {ts : Array TypeId} (ho : o.op = .call { callee := .value (.func 30), args := #[x0, x1], argTypes := ts }) {v0 : Value} (h0 : a.eval x0 = v0) {v1 : Value} (h1 : a.eval x1 = v1) (W : World) : (execOp a.eval o).run Try.prog W = .ok (.enter 30 #[v0, v1]) W := by
  unfold execOp
  simp only [ho]
  subst h0 h1
  go_simp
theorem c_run_call_31_2 {o : Oper} {a : Act} (x0 : Operand) (x1 : Operand) {ts : Array TypeId} (ho : o.op = .call { callee := .value (.func 31), args := #[x0, x1], argTypes := ts }) {v0 : Value} (h0 : a.eval x0 = v0) {v1 : Value} (h1 : a.eval x1 = v1) (W : World) : (execOp a.eval o).run Try.prog W = .ok (.enter 31 #[v0, v1]) W := by
  unfold execOp
  simp only [ho]
  subst h0 h1
  go_simp
theorem tk_run {l : List UInt8} {f i : Nat} {xs : List TTok} (h : TK l f i xs) : TK l (f - (ext isB l i - i)) (ext isB l i) xs := by
  have hg := ext_ge isB l i
  have := tk_blanks (d := ext isB l i - i) h (by omega)
  rwa [show i + (ext isB l i - i) = ext isB l i by omega] at this
theorem gap_not6 {l : List UInt8} {i : Nat} (h : ext isB l i < l.length) : kd (chr l (ext isB l i)) ≠ 6 := by
  intro e
  have h1 := ext_out h
  have h2 : isB (chr l (ext isB l i)) = true := decide_eq_true e
  rw [h2] at h1; cases h1

attribute [local irreducible] Go.wpList Go.Code.wp
set_option maxRecDepth 100000 in
set_option maxHeartbeats 4000000 in
theorem at_calls {l : List UInt8} (i : Nat) (hi : i ≤ 1000000) (w : World) : Calls Try.prog 34 #[.agg #[.int .i64 (i : Int), .int .i64 (((lnS l i).1 : Nat) : Int), .int .i64 (((lnS l i).2 : Nat) : Int)]] w fun e w' => e = .returned (.agg (ePl.enc (plc l i)).toArray) ∧ Below w.heap.size w w' := by
  have bel : Below w.heap.size w w := Below.refl _ _
  have hll := lnS_le l i
  go_enter Try.func34, Try.ntmps34
  refine wp_seq ?_
  refine wp_region_lit ?_
  refine st_new (cs := #[.int .i64 (i : Int), .int .i64 (((lnS l i).1 : Nat) : Int), .int .i64 (((lnS l i).2 : Nat) : Int)]) (t := 43) (by rfl) (run_boxV (.tmp 0) rfl (v := (.agg #[.int .i64 (i : Int), .int .i64 (((lnS l i).1 : Nat) : Int), .int .i64 (((lnS l i).2 : Nat) : Int)])) rfl rfl _) ?_
  intro g1 w2 B3 hb4 lo5
  simp only [nf0, nf1, nf2, nf3, nf4]
  replace lo5 := low_le bel lo5
  replace bel := bl_step bel hb4
  clear hb4
  refine st_new (cs := #[.int .i64 0, .int .i64 0, .int .i64 0]) (t := 26) (by rfl) (run_allocV rfl c_zero_26 _) ?_
  intro g6 w7 B8 hb9 lo10
  simp only [nf0, nf1, nf2, nf3, nf4]
  have n11 := B3.ne lo10
  replace lo10 := low_le bel lo10
  replace B3 := B3.below hb9
  replace bel := bl_step bel hb9
  clear hb9
  refine wpList_nil ?_
  show Code.wp _ _ _ _ _
  refine wp_seq ?_
  refine wp_region_lit ?_
  refine st_value (v := (.pointer (some ⟨g1, 0, none⟩))) (by rfl) (run_fieldA (.tmp 1) rfl c_fld_43_0 rfl rfl w7) ?_
  simp only [nf0, nf1, nf2, nf3, nf4]
  refine st_value (v := (.int .i64 (i : Int))) (by rfl) (run_loadB (.tmp 3) rfl c_one_3 rfl B3 rfl) ?_
  simp only [nf0, nf1, nf2, nf3, nf4]
  refine st_value (v := (.pointer (some ⟨g1, 1, none⟩))) (by rfl) (run_fieldA (.tmp 1) rfl c_fld_43_1 rfl rfl w7) ?_
  simp only [nf0, nf1, nf2, nf3, nf4]
  refine st_value (v := (.int .i64 (((lnS l i).1 : Nat) : Int))) (by rfl) (run_loadB (.tmp 5) rfl c_one_3 rfl B3 rfl) ?_
  simp only [nf0, nf1, nf2, nf3, nf4]
  refine st_value (v := (.pointer (some ⟨g1, 0, none⟩))) (by rfl) (run_fieldA (.tmp 1) rfl c_fld_43_0 rfl rfl w7) ?_
  simp only [nf0, nf1, nf2, nf3, nf4]
  refine st_value (v := (.int .i64 (i : Int))) (by rfl) (run_loadB (.tmp 7) rfl c_one_3 rfl B3 rfl) ?_
  simp only [nf0, nf1, nf2, nf3, nf4]
  refine st_value (v := (.pointer (some ⟨g1, 2, none⟩))) (by rfl) (run_fieldA (.tmp 1) rfl c_fld_43_2 rfl rfl w7) ?_
  simp only [nf0, nf1, nf2, nf3, nf4]
  refine st_value (v := (.int .i64 (((lnS l i).2 : Nat) : Int))) (by rfl) (run_loadB (.tmp 9) rfl c_one_3 rfl B3 rfl) ?_
  simp only [nf0, nf1, nf2, nf3, nf4]
  refine st_value (v := (.int .i64 ((i : Int) - (((lnS l i).2 : Nat) : Int)))) (by rfl) (run_sub_in (.tmp 8) (.tmp 10) rfl rfl rfl (by omega) w7) ?_
  simp only [nf0, nf1, nf2, nf3, nf4]
  refine st_value (v := (.int .i64 (((i : Int) - (((lnS l i).2 : Nat) : Int)) + 1))) (by rfl) (run_add_in (.tmp 11) (.const (.int .i64 1)) rfl rfl rfl (by omega) w7) ?_
  simp only [nf0, nf1, nf2, nf3, nf4]
  refine st_value (v := (.agg #[.int .i64 (i : Int), .int .i64 (((lnS l i).1 : Nat) : Int), .int .i64 (((i : Int) - (((lnS l i).2 : Nat) : Int)) + 1)])) (by rfl) (run_buildV rfl (by kernel_rfl) w7) ?_
  simp only [nf0, nf1, nf2, nf3, nf4]
  refine st_row (by rfl) (run_storeW (.tmp 2) (.tmp 13) rfl (cs := #[.int .i64 (i : Int), .int .i64 (((lnS l i).1 : Nat) : Int), .int .i64 (((i : Int) - (((lnS l i).2 : Nat) : Int)) + 1)]) aggPl rfl rfl B8 rfl (by simp [Value.oneCell'])) B8 ?_
  intro w12 B14 hg13
  simp only [nf0, nf1, nf2, nf3, nf4]
  replace B3 := B3.kept hg13 n11
  replace bel := bl_kept0 bel hg13 lo10
  clear hg13
  clear B8
  refine wpList_nil ?_
  show Code.wp _ _ _ _ _
  refine wp_ret ?_
  first | show bodyPost _ _ _ _ _ _ | (simp only [Exit.then, Exit.inBlock]; show bodyPost _ _ _ _ _ _)
  exact bodyPost_ret (results_agg1 rfl (cs := #[.int .i64 (i : Int), .int .i64 (((lnS l i).1 : Nat) : Int), .int .i64 (((i : Int) - (((lnS l i).2 : Nat) : Int)) + 1)]) aggPl (by rfl) B14) rfl ⟨rfl, bel⟩
set_option maxRecDepth 100000 in
set_option maxHeartbeats 4000000 in
theorem gap_calls {w : World} {r i0 : Nat} {l : List UInt8} (hB : Blk w r #[.int .i64 (i0 : Int), .int .i64 (((lnS l i0).1 : Nat) : Int), .int .i64 (((lnS l i0).2 : Nat) : Int), .string (str l)] 45) (hil0 : i0 ≤ l.length) (hl : l.length ≤ 1000000) : Calls Try.prog 20 #[.pointer (some ⟨r, 0, none⟩)] w fun e w' => ∃ u, e = .returned u ∧ ∃ j : Nat, Blk w' r #[.int .i64 (j : Int), .int .i64 (((lnS l j).1 : Nat) : Int), .int .i64 (((lnS l j).2 : Nat) : Int), .string (str l)] 45 ∧ i0 ≤ j ∧ j ≤ l.length ∧ (∀ f xs, TK l f i0 xs → ∃ f', TK l f' j xs) ∧ (j < l.length → kd (chr l j) ≠ 6 ∧ kd (chr l j) ≠ 7) ∧ Fr [r] w w' := by
  have bel : Fr [r] w w := Fr.refl _ _
  go_enter Try.func20, Try.ntmps20
  refine wp_block ?_
  refine wp_loop_left (fun n_ a_ wr_ => (fun J1 => ∃ (i : Nat), n_ = l.length - i ∧ a_ = ⟨#[.pointer (some ⟨r, 0, none⟩), J1 1, J1 2, J1 3, J1 4, J1 5, J1 6, J1 7, J1 8, J1 9, J1 10, J1 11, J1 12, J1 13, J1 14, J1 15, J1 16, J1 17, J1 18, J1 19, J1 20, J1 21, J1 22, J1 23, J1 24, J1 25, J1 26, J1 27, J1 28, J1 29, J1 30, J1 31, J1 32, J1 33], []⟩ ∧ Blk wr_ r #[.int .i64 (i : Int), .int .i64 (((lnS l i).1 : Nat) : Int), .int .i64 (((lnS l i).2 : Nat) : Int), .string (str l)] 45 ∧ Fr [r] w wr_ ∧ (i ≤ l.length) ∧ (i0 ≤ i) ∧ (∀ f xs, TK l f i0 xs → ∃ f', TK l f' i xs)) (jk a_)) (l.length - i0) ⟨i0, rfl, rfl, hB, bel, hil0, (Nat.le_refl _), (fun f xs h => ⟨f, h⟩)⟩ ?_
  clear hB
  clear bel
  intro n_ a_ w2 h_
  revert h_
  generalize jk a_ = J1
  rintro ⟨i, hms, rfl, hB, bel, hil, hi0, hT⟩
  have hb1 := ext_ge isB l i
  have hb2 := ext_le isB l i hil
  have hn1 := ext_ge noNL l (ext isB l i)
  have hn2 := ext_le noNL l (ext isB l i) hb2
  refine wp_block ?_
  refine wp_seq ?_
  refine wp_region_lit ?_
  refine st_mv (.pointer (some ⟨r, 0, none⟩)) ?_
  simp only [nf0, nf1, nf2, nf3, nf4]
  refine st_mv (.pointer (some ⟨r, 0, none⟩)) ?_
  simp only [nf0, nf1, nf2, nf3, nf4]
  refine st_call1 (v := (.int .i64 ((ext isB l i - i : Nat) : Int))) (by rfl) (c_run_call_31_2 (.tmp 3) (.func 32) rfl rfl rfl _) (run_isBlank hB (by omega) hl) ?_
  intro w3 hb4
  simp only [nf0, nf1, nf2, nf3, nf4]
  replace hB := hB.below hb4
  replace bel := fr_step bel hb4
  clear hb4
  refine st_call (by rfl) (c_run_call_30_2 (.tmp 2) (.tmp 4) rfl rfl rfl _) (pass_calls (ext isB l i - i) hB (by omega) hl) ?_
  rintro u6 w8 ⟨rfl, B5, hf9⟩
  simp only [nf0, nf1, nf2, nf3, nf4]
  rw [show i + (ext isB l i - i) = (ext isB l i) from (by omega)] at B5
  replace bel := fr_call bel hf9 (by simp)
  clear hf9
  clear hB
  refine wpList_nil ?_
  show Code.wp _ _ _ _ _
  refine wp_seq ?_
  refine wp_seq ?_
  cases hg10 : decide (((ext isB l i : Nat) : Int) = (l.length : Int))
  rotate_left
  · have hp23 := of_decide_eq_true hg10
    refine wp_region_facts_lit (C := Abv w8) (G := G0) [.val (.pointer (some ⟨r, 0, none⟩)), .val (.pointer (some ⟨r, 0, none⟩)), .val (.pointer (some ⟨r, 0, none⟩)), .val (.pointer (some ⟨r, 0, none⟩)), .val (.int .i64 ((ext isB l i : Nat) : Int)), .val (.pointer (some ⟨r, 0, none⟩)), .val (.pointer (some ⟨r, 0, none⟩)), .val (.pointer (some ⟨r, 3, none⟩)), .val (.string (str l)), .val (.int .i64 (l.length : Int)), .val (.bool true), .val (.bool true), .val undef, .val undef, .val undef, .val undef, .val undef, .val undef, .val undef, .val undef, .val undef, .val undef, .val undef, .val (.bool true)] (by kernel_rfl) (by kernel_rfl) (Abv.start _) ?_
    refine fsteps_val (fun W hC hh => opok_value (v := (.pointer (some ⟨r, 0, none⟩))) (by rfl) (by rfl) rfl hC (G0.refl _)) ?_
    simp only [nf0, nf1, nf2, nf3, nf4]
    refine fsteps_val (fun W hC hh => opok_value (v := (.pointer (some ⟨r, 0, none⟩))) (by rfl) (run_check (.tmp 6) rfl rfl W) rfl hC (G0.refl _)) ?_
    simp only [nf0, nf1, nf2, nf3, nf4]
    refine fsteps_val (fun W hC hh => opok_value (v := (.pointer (some ⟨r, 0, none⟩))) (by rfl) (run_fieldA (.tmp 7) rfl c_fld_45_0 rfl rfl W) rfl hC (G0.refl _)) ?_
    simp only [nf0, nf1, nf2, nf3, nf4]
    refine fsteps_val (fun W hC hh => opok_value (v := (.pointer (some ⟨r, 0, none⟩))) (by rfl) (run_fieldA (.tmp 8) rfl c_fld_43_0 rfl rfl W) rfl hC (G0.refl _)) ?_
    simp only [nf0, nf1, nf2, nf3, nf4]
    refine fsteps_val (fun W hC hh => opok_value (v := (.int .i64 ((ext isB l i : Nat) : Int))) (by rfl) (run_loadB (.tmp 9) rfl c_one_3 rfl (B5.below hC) rfl) rfl hC (G0.refl _)) ?_
    simp only [nf0, nf1, nf2, nf3, nf4]
    refine fsteps_val (fun W hC hh => opok_value (v := (.pointer (some ⟨r, 0, none⟩))) (by rfl) (by rfl) rfl hC (G0.refl _)) ?_
    simp only [nf0, nf1, nf2, nf3, nf4]
    refine fsteps_val (fun W hC hh => opok_value (v := (.pointer (some ⟨r, 0, none⟩))) (by rfl) (run_check (.tmp 11) rfl rfl W) rfl hC (G0.refl _)) ?_
    simp only [nf0, nf1, nf2, nf3, nf4]
    refine fsteps_val (fun W hC hh => opok_value (v := (.pointer (some ⟨r, 3, none⟩))) (by rfl) (run_fieldA (.tmp 12) rfl c_fld_45_1 rfl rfl W) rfl hC (G0.refl _)) ?_
    simp only [nf0, nf1, nf2, nf3, nf4]
    refine fsteps_val (fun W hC hh => opok_value (v := (.string (str l))) (by rfl) (run_loadB (.tmp 13) rfl c_one_9 rfl (B5.below hC) rfl) rfl hC (G0.refl _)) ?_
    simp only [nf0, nf1, nf2, nf3, nf4]
    refine fsteps_val (fun W hC hh => opok_value (v := (.int .i64 (l.length : Int))) (by rfl) (run_len_text (.tmp 14) rfl Try.underlying9 (l := l) rfl W) rfl hC (G0.refl _)) ?_
    simp only [nf0, nf1, nf2, nf3, nf4]
    refine fsteps_val (fun W hC hh => opok_value (v := (.bool true)) (by rfl) ((run_eql_int (.tmp 10) (.tmp 15) rfl rfl rfl W).trans (by rw [hg10])) rfl hC (G0.refl _)) ?_
    simp only [nf0, nf1, nf2, nf3, nf4]
    refine fsteps_val (fun W hC hh => opok_value (v := (.bool true)) (by rfl) (by rfl) rfl hC (G0.refl _)) ?_
    simp only [nf0, nf1, nf2, nf3, nf4]
    refine fsteps_val (fun W hC hh => opok_not (by rfl) rfl (G0.refl _)) ?_
    simp only [nf0, nf1, nf2, nf3, nf4]
    refine fsteps_val (fun W hC hh => opok_not (by rfl) rfl (G0.refl _)) ?_
    simp only [nf0, nf1, nf2, nf3, nf4]
    refine fsteps_val (fun W hC hh => opok_not (by rfl) rfl (G0.refl _)) ?_
    simp only [nf0, nf1, nf2, nf3, nf4]
    refine fsteps_val (fun W hC hh => opok_not (by rfl) rfl (G0.refl _)) ?_
    simp only [nf0, nf1, nf2, nf3, nf4]
    refine fsteps_val (fun W hC hh => opok_not (by rfl) rfl (G0.refl _)) ?_
    simp only [nf0, nf1, nf2, nf3, nf4]
    refine fsteps_val (fun W hC hh => opok_not (by rfl) rfl (G0.refl _)) ?_
    simp only [nf0, nf1, nf2, nf3, nf4]
    refine fsteps_val (fun W hC hh => opok_not (by rfl) rfl (G0.refl _)) ?_
    simp only [nf0, nf1, nf2, nf3, nf4]
    refine fsteps_val (fun W hC hh => opok_not (by rfl) rfl (G0.refl _)) ?_
    simp only [nf0, nf1, nf2, nf3, nf4]
    refine fsteps_val (fun W hC hh => opok_not (by rfl) rfl (G0.refl _)) ?_
    simp only [nf0, nf1, nf2, nf3, nf4]
    refine fsteps_val (fun W hC hh => opok_not (by rfl) rfl (G0.refl _)) ?_
    simp only [nf0, nf1, nf2, nf3, nf4]
    refine fsteps_val (fun W hC hh => opok_not (by rfl) rfl (G0.refl _)) ?_
    simp only [nf0, nf1, nf2, nf3, nf4]
    refine fsteps_val (fun W hC hh => opok_value (v := (.bool true)) (by rfl) (by rfl) rfl hC (G0.refl _)) ?_
    simp only [nf0, nf1, nf2, nf3, nf4]
    refine fsteps_nil fun w24 hC _ => ?_
    replace hC : Below w8.heap.size w8 w24 := hC
    replace B5 := B5.below hC
    replace bel := fr_step bel hC
    clear hC
    show Code.wp _ _ _ _ _
    refine wp_cond_true rfl ?_
    refine wp_ret ?_
    first | show bodyPost _ _ _ _ _ _ | (simp only [Exit.then, Exit.inBlock]; show bodyPost _ _ _ _ _ _)
    exact bodyPost_ret (results_none rfl _ _ _) rfl ⟨_, rfl, ext isB l i, B5, (by omega), hb2, (fun f xs h => by obtain ⟨f', h'⟩ := hT f xs h; exact ⟨_, tk_run h'⟩), (fun h => absurd h (by omega)), bel⟩
  have hp11 := of_decide_eq_false hg10
  refine wp_region_facts_lit (C := Abv w8) (G := G0) [.val (.pointer (some ⟨r, 0, none⟩)), .val (.pointer (some ⟨r, 0, none⟩)), .val (.pointer (some ⟨r, 0, none⟩)), .val (.pointer (some ⟨r, 0, none⟩)), .val (.int .i64 ((ext isB l i : Nat) : Int)), .val (.pointer (some ⟨r, 0, none⟩)), .val (.pointer (some ⟨r, 0, none⟩)), .val (.pointer (some ⟨r, 3, none⟩)), .val (.string (str l)), .val (.int .i64 (l.length : Int)), .val (.bool false), .val (.bool false), .val (.pointer (some ⟨r, 0, none⟩)), .val (.pointer (some ⟨r, 0, none⟩)), .val (.pointer (some ⟨r, 3, none⟩)), .val (.string (str l)), .val (.pointer (some ⟨r, 0, none⟩)), .val (.pointer (some ⟨r, 0, none⟩)), .val (.pointer (some ⟨r, 0, none⟩)), .val (.pointer (some ⟨r, 0, none⟩)), .val (.int .i64 ((ext isB l i : Nat) : Int)), .val (.int .u8 (chr l (ext isB l i))), .val (.bool (!decide ((chr l (ext isB l i)) = 35))), .val (.bool (!decide ((chr l (ext isB l i)) = 35)))] (by kernel_rfl) (by kernel_rfl) (Abv.start _) ?_
  refine fsteps_val (fun W hC hh => opok_value (v := (.pointer (some ⟨r, 0, none⟩))) (by rfl) (by rfl) rfl hC (G0.refl _)) ?_
  simp only [nf0, nf1, nf2, nf3, nf4]
  refine fsteps_val (fun W hC hh => opok_value (v := (.pointer (some ⟨r, 0, none⟩))) (by rfl) (run_check (.tmp 6) rfl rfl W) rfl hC (G0.refl _)) ?_
  simp only [nf0, nf1, nf2, nf3, nf4]
  refine fsteps_val (fun W hC hh => opok_value (v := (.pointer (some ⟨r, 0, none⟩))) (by rfl) (run_fieldA (.tmp 7) rfl c_fld_45_0 rfl rfl W) rfl hC (G0.refl _)) ?_
  simp only [nf0, nf1, nf2, nf3, nf4]
  refine fsteps_val (fun W hC hh => opok_value (v := (.pointer (some ⟨r, 0, none⟩))) (by rfl) (run_fieldA (.tmp 8) rfl c_fld_43_0 rfl rfl W) rfl hC (G0.refl _)) ?_
  simp only [nf0, nf1, nf2, nf3, nf4]
  refine fsteps_val (fun W hC hh => opok_value (v := (.int .i64 ((ext isB l i : Nat) : Int))) (by rfl) (run_loadB (.tmp 9) rfl c_one_3 rfl (B5.below hC) rfl) rfl hC (G0.refl _)) ?_
  simp only [nf0, nf1, nf2, nf3, nf4]
  refine fsteps_val (fun W hC hh => opok_value (v := (.pointer (some ⟨r, 0, none⟩))) (by rfl) (by rfl) rfl hC (G0.refl _)) ?_
  simp only [nf0, nf1, nf2, nf3, nf4]
  refine fsteps_val (fun W hC hh => opok_value (v := (.pointer (some ⟨r, 0, none⟩))) (by rfl) (run_check (.tmp 11) rfl rfl W) rfl hC (G0.refl _)) ?_
  simp only [nf0, nf1, nf2, nf3, nf4]
  refine fsteps_val (fun W hC hh => opok_value (v := (.pointer (some ⟨r, 3, none⟩))) (by rfl) (run_fieldA (.tmp 12) rfl c_fld_45_1 rfl rfl W) rfl hC (G0.refl _)) ?_
  simp only [nf0, nf1, nf2, nf3, nf4]
  refine fsteps_val (fun W hC hh => opok_value (v := (.string (str l))) (by rfl) (run_loadB (.tmp 13) rfl c_one_9 rfl (B5.below hC) rfl) rfl hC (G0.refl _)) ?_
  simp only [nf0, nf1, nf2, nf3, nf4]
  refine fsteps_val (fun W hC hh => opok_value (v := (.int .i64 (l.length : Int))) (by rfl) (run_len_text (.tmp 14) rfl Try.underlying9 (l := l) rfl W) rfl hC (G0.refl _)) ?_
  simp only [nf0, nf1, nf2, nf3, nf4]
  refine fsteps_val (fun W hC hh => opok_value (v := (.bool false)) (by rfl) ((run_eql_int (.tmp 10) (.tmp 15) rfl rfl rfl W).trans (by rw [hg10])) rfl hC (G0.refl _)) ?_
  simp only [nf0, nf1, nf2, nf3, nf4]
  refine fsteps_val (fun W hC hh => opok_value (v := (.bool false)) (by rfl) (by rfl) rfl hC (G0.refl _)) ?_
  simp only [nf0, nf1, nf2, nf3, nf4]
  refine fsteps_val (fun W hC hh => opok_value (v := (.pointer (some ⟨r, 0, none⟩))) (by rfl) (by rfl) rfl hC (G0.refl _)) ?_
  simp only [nf0, nf1, nf2, nf3, nf4]
  refine fsteps_val (fun W hC hh => opok_value (v := (.pointer (some ⟨r, 0, none⟩))) (by rfl) (run_check (.tmp 18) rfl rfl W) rfl hC (G0.refl _)) ?_
  simp only [nf0, nf1, nf2, nf3, nf4]
  refine fsteps_val (fun W hC hh => opok_value (v := (.pointer (some ⟨r, 3, none⟩))) (by rfl) (run_fieldA (.tmp 19) rfl c_fld_45_1 rfl rfl W) rfl hC (G0.refl _)) ?_
  simp only [nf0, nf1, nf2, nf3, nf4]
  refine fsteps_val (fun W hC hh => opok_value (v := (.string (str l))) (by rfl) (run_loadB (.tmp 20) rfl c_one_9 rfl (B5.below hC) rfl) rfl hC (G0.refl _)) ?_
  simp only [nf0, nf1, nf2, nf3, nf4]
  refine fsteps_val (fun W hC hh => opok_value (v := (.pointer (some ⟨r, 0, none⟩))) (by rfl) (by rfl) rfl hC (G0.refl _)) ?_
  simp only [nf0, nf1, nf2, nf3, nf4]
  refine fsteps_val (fun W hC hh => opok_value (v := (.pointer (some ⟨r, 0, none⟩))) (by rfl) (run_check (.tmp 22) rfl rfl W) rfl hC (G0.refl _)) ?_
  simp only [nf0, nf1, nf2, nf3, nf4]
  refine fsteps_val (fun W hC hh => opok_value (v := (.pointer (some ⟨r, 0, none⟩))) (by rfl) (run_fieldA (.tmp 23) rfl c_fld_45_0 rfl rfl W) rfl hC (G0.refl _)) ?_
  simp only [nf0, nf1, nf2, nf3, nf4]
  refine fsteps_val (fun W hC hh => opok_value (v := (.pointer (some ⟨r, 0, none⟩))) (by rfl) (run_fieldA (.tmp 24) rfl c_fld_43_0 rfl rfl W) rfl hC (G0.refl _)) ?_
  simp only [nf0, nf1, nf2, nf3, nf4]
  refine fsteps_val (fun W hC hh => opok_value (v := (.int .i64 ((ext isB l i : Nat) : Int))) (by rfl) (run_loadB (.tmp 25) rfl c_one_3 rfl (B5.below hC) rfl) rfl hC (G0.refl _)) ?_
  simp only [nf0, nf1, nf2, nf3, nf4]
  refine fsteps_val (fun W hC hh => opok_value (v := (.int .u8 (chr l (ext isB l i)))) (by rfl) (run_index_text (.tmp 21) (.tmp 26) rfl Try.underlying9 (l := l) rfl rfl (ext isB l i) (by omega) (by omega) W) rfl hC (G0.refl _)) ?_
  simp only [nf0, nf1, nf2, nf3, nf4]
  refine fsteps_val (fun W hC hh => opok_value (v := (.bool (!decide ((chr l (ext isB l i)) = 35)))) (by rfl) (run_neq_int (.tmp 27) (.const (.int .u8 35)) rfl rfl rfl W) rfl hC (G0.refl _)) ?_
  simp only [nf0, nf1, nf2, nf3, nf4]
  refine fsteps_val (fun W hC hh => opok_value (v := (.bool (!decide ((chr l (ext isB l i)) = 35)))) (by rfl) (by rfl) rfl hC (G0.refl _)) ?_
  simp only [nf0, nf1, nf2, nf3, nf4]
  refine fsteps_nil fun w12 hC _ => ?_
  replace hC : Below w8.heap.size w8 w12 := hC
  replace B5 := B5.below hC
  replace bel := fr_step bel hC
  clear hC
  show Code.wp _ _ _ _ _
  cases hg13 : decide ((chr l (ext isB l i)) = 35)
  · have hp14 := of_decide_eq_false hg13
    refine wp_cond_true rfl ?_
    refine wp_ret ?_
    first | show bodyPost _ _ _ _ _ _ | (simp only [Exit.then, Exit.inBlock]; show bodyPost _ _ _ _ _ _)
    exact bodyPost_ret (results_none rfl _ _ _) rfl ⟨_, rfl, ext isB l i, B5, (by omega), hb2, (fun f xs h => by obtain ⟨f', h'⟩ := hT f xs h; exact ⟨_, tk_run h'⟩), (fun h => ⟨gap_not6 h, fun h7 => by have := kd_7.1 h7; contradiction⟩), bel⟩
  have hp15 := of_decide_eq_true hg13
  have hlt : ext isB l i < l.length := by omega
  have hk7 : kd (chr l (ext isB l i)) = 7 := kd_7.2 (by assumption)
  refine wp_cond_false rfl ?_
  refine wp_skip ?_
  show Code.wp _ _ _ _ _
  refine wp_region_lit ?_
  refine st_mv (.pointer (some ⟨r, 0, none⟩)) ?_
  simp only [nf0, nf1, nf2, nf3, nf4]
  refine st_mv (.pointer (some ⟨r, 0, none⟩)) ?_
  simp only [nf0, nf1, nf2, nf3, nf4]
  refine st_call1 (v := (.int .i64 ((ext noNL l (ext isB l i) - (ext isB l i) : Nat) : Int))) (by rfl) (c_run_call_31_2 (.tmp 31) (.func 33) rfl rfl rfl _) (run_gap1 B5 (by omega) hl) ?_
  intro w16 hb17
  simp only [nf0, nf1, nf2, nf3, nf4]
  replace B5 := B5.below hb17
  replace bel := fr_step bel hb17
  clear hb17
  refine st_call (by rfl) (c_run_call_30_2 (.tmp 30) (.tmp 32) rfl rfl rfl _) (pass_calls (ext noNL l (ext isB l i) - (ext isB l i)) B5 (by omega) hl) ?_
  rintro u19 w21 ⟨rfl, B18, hf22⟩
  simp only [nf0, nf1, nf2, nf3, nf4]
  rw [show (ext isB l i) + (ext noNL l (ext isB l i) - (ext isB l i)) = (ext noNL l (ext isB l i)) from (by omega)] at B18
  replace bel := fr_call bel hf22 (by simp)
  clear hf22
  clear B5
  refine wpList_nil ?_
  show ∃ m, m < _ ∧ _
  exact ⟨_, (by have := note_gt hlt hk7; omega), (ext noNL l (ext isB l i)), rfl, rfl, B18, bel, hn2, (by omega), (fun f xs h => by obtain ⟨f', h'⟩ := hT f xs h; exact ⟨_, tk_note (tk_run h') hlt hk7⟩)⟩
end Go.Proofs.Ytkebpmcgmmhifaa

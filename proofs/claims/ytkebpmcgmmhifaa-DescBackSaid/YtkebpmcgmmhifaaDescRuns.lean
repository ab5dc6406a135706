/- desc's reader: run and pass. -/
import Derived.Test.YtkebpmcgmmhifaaDescPreds
namespace Go.Proofs.Ytkebpmcgmmhifaa
open Go.RowKit Go.WideShapes Go.ChangeShapes
set_option linter.unusedSimpArgs false
set_option linter.unusedVariables false

theorem b_fld_45_0 : FieldAt Try.prog 45 0 0 := fieldAt_of (s := 2) Try.underlying45 (by kernel_rfl)
theorem b_fld_43_0 : FieldAt Try.prog 43 0 0 := fieldAt_of (s := 0) Try.underlying43 (by kernel_rfl)
theorem b_one_3 : One Try.prog 3 := one_of Try.underlying3 rfl (by kernel_rfl)
theorem b_fld_45_1 : FieldAt Try.prog 45 1 3 := fieldAt_of (s := 0) Try.underlying45 (by kernel_rfl)
theorem b_one_9 : One Try.prog 9 := one_of Try.underlying9 rfl (by kernel_rfl)
theorem b_run_callc_32_1_0 {o : Oper} {a : Act} (x : Operand) (x0 : Operand) {ts : Array TypeId} (ho : o.op = .call { callee := .value x, args := #[x0], argTypes := ts }) (hx : a.eval x = .func (.func 32) #[] #[]) {v0 : Value} (h0 : a.eval x0 = v0) (W : World) : (execOp a.eval o).run Try.prog W = .ok (.enter 32 #[v0]) W := by
  unfold execOp
  simp only [ho]
  subst h0
  generalize a.eval = ρ at *
  go_simp
theorem b_run_callc_23_1_0 {o : Oper} {a : Act} (x : Operand) (x0 : Operand) {ts : Array TypeId} (ho : o.op = .call { callee := .value x, args := #[x0], argTypes := ts }) (hx : a.eval x = .func (.func 23) #[] #[]) {v0 : Value} (h0 : a.eval x0 = v0) (W : World) : (execOp a.eval o).run Try.prog W = .ok (.enter 23 #[v0]) W := by
  unfold execOp
  simp only [ho]
  subst h0
  generalize a.eval = ρ at *
  go_simp
theorem b_run_callc_36_1_0 {o : Oper} {a : Act} (x : Operand) (x0 : Operand) {ts : Array TypeId} (ho : o.op = .call { callee := .value x, args := #[x0], argTypes := ts }) (hx : a.eval x = .func (.func 36) #[] #[]) {v0 : Value} (h0 : a.eval x0 = v0) (W : World) : (execOp a.eval o).run Try.prog W = .ok (.enter 36 #[v0]) W := by
  unfold execOp
  simp only [ho]
  subst h0
  generalize a.eval = ρ at *
  go_simp
theorem b_run_callc_33_1_0 {o : Oper} {a : Act} (x : Operand) (x0 : Operand) {ts : Array TypeId} (ho : o.op = .call { callee := .value x, args := #[x0], argTypes := ts }) (hx : a.eval x = .func (.func 33) #[] #[]) {v0 : Value} (h0 : a.eval x0 = v0) (W : World) : (execOp a.eval o).run Try.prog W = .ok (.enter 33 #[v0]) W := by
  unfold execOp
  simp only [ho]
  subst h0
  generalize a.eval = ρ at *
  go_simp
theorem b_fld_43_1 : FieldAt Try.prog 43 1 1 := fieldAt_of (s := 0) Try.underlying43 (by kernel_rfl)
theorem b_fld_43_2 : FieldAt Try.prog 43 2 2 := fieldAt_of (s := 0) Try.underlying43 (by kernel_rfl)
theorem ext_more {P : Int → Bool} {l : List UInt8} {i n : Nat} (h : i + n ≤ ext P l i) (hl : i + n < l.length) (hp : P (chr l (i + n)) = true) : i + (n + 1) ≤ ext P l i := by
  rw [← ext_mid (Nat.le_add_right i n) h, ext_go hl hp]
  exact ext_ge _ _ _
theorem ext_here {P : Int → Bool} {l : List UInt8} {i n : Nat} (h : i + n ≤ ext P l i) (hp : P (chr l (i + n)) = false) : ext P l i = i + n := by
  rw [← ext_mid (Nat.le_add_right i n) h, ext_stop hp]

attribute [local irreducible] Go.wpList Go.Code.wp
set_option maxRecDepth 100000 in
set_option maxHeartbeats 4000000 in
theorem run_isBlank {w : World} {r i : Nat} {l : List UInt8} (hB : Blk w r #[.int .i64 (i : Int), .int .i64 (((lnS l i).1 : Nat) : Int), .int .i64 (((lnS l i).2 : Nat) : Int), .string (str l)] 45) (hil : i ≤ l.length) (hl : l.length ≤ 1000000) : Calls Try.prog 31 #[.pointer (some ⟨r, 0, none⟩), .func (.func 32) #[] #[]] w fun e w' => e = .returned (.int .i64 ((ext isB l i - i : Nat) : Int)) ∧ Below w.heap.size w w' := by
  have bel : Below w.heap.size w w := Below.refl _ _
  have hle := ext_le isB l i hil
  go_enter Try.func31, Try.ntmps31
  refine wp_seq ?_
  refine wp_region_lit ?_
  refine st_mv (.int .i64 0) ?_
  simp only [nf0, nf1, nf2, nf3, nf4]
  refine wpList_nil ?_
  show Code.wp _ _ _ _ _
  refine wp_seq ?_
  refine wp_region_lit ?_
  refine st_mv (.int .i64 0) ?_
  simp only [nf0, nf1, nf2, nf3, nf4]
  refine wpList_nil ?_
  show Code.wp _ _ _ _ _
  refine wp_seq ?_
  refine wp_block ?_
  refine wp_loop_left (fun n_ a_ wr_ => (fun J1 => ∃ (m : Nat), n_ = l.length - m ∧ a_ = ⟨#[.pointer (some ⟨r, 0, none⟩), .func (.func 32) #[] #[], J1 2, J1 3, .int .i64 0, .int .i64 (m : Int), J1 6, J1 7, J1 8, J1 9, J1 10, J1 11, J1 12, J1 13, J1 14, J1 15, J1 16, J1 17, J1 18, J1 19, J1 20, J1 21, J1 22, J1 23, J1 24, J1 25, J1 26, J1 27, J1 28, J1 29, J1 30, J1 31, J1 32, J1 33, J1 34, J1 35, J1 36, J1 37], []⟩ ∧ Blk wr_ r #[.int .i64 (i : Int), .int .i64 (((lnS l i).1 : Nat) : Int), .int .i64 (((lnS l i).2 : Nat) : Int), .string (str l)] 45 ∧ Below w.heap.size w wr_ ∧ (i + m ≤ ext isB l i)) (jk a_)) (l.length - 0) ⟨0, rfl, rfl, hB, bel, (ext_ge _ _ _)⟩ ?_
  clear hB
  clear bel
  intro n_ a_ w2 h_
  revert h_
  generalize jk a_ = J1
  rintro ⟨m, hms, rfl, hB, bel, hn⟩
  refine wp_seq ?_
  refine wp_seq ?_
  cases hg3 : decide (((i : Int) + (m : Int)) < (l.length : Int))
  · have hp4 := of_decide_eq_false hg3
    refine wp_region_facts_lit (C := Abv w2) (G := G0) [.val (.pointer (some ⟨r, 0, none⟩)), .val (.pointer (some ⟨r, 0, none⟩)), .val (.pointer (some ⟨r, 0, none⟩)), .val (.pointer (some ⟨r, 0, none⟩)), .val (.int .i64 (i : Int)), .val (.int .i64 (m : Int)), .val (.int .i64 ((i : Int) + (m : Int))), .val (.pointer (some ⟨r, 0, none⟩)), .val (.pointer (some ⟨r, 0, none⟩)), .val (.pointer (some ⟨r, 3, none⟩)), .val (.string (str l)), .val (.int .i64 (l.length : Int)), .val (.bool false), .val (.bool false), .val undef, .val undef, .val undef, .val undef, .val undef, .val undef, .val undef, .val undef, .val undef, .val undef, .val undef, .val undef, .val undef, .val undef, .val (.bool false)] (by kernel_rfl) (by kernel_rfl) (Abv.start _) ?_
    refine fsteps_val (fun W hC hh => opok_value (v := (.pointer (some ⟨r, 0, none⟩))) (by rfl) (by rfl) rfl hC (G0.refl _)) ?_
    simp only [nf0, nf1, nf2, nf3, nf4]
    refine fsteps_val (fun W hC hh => opok_value (v := (.pointer (some ⟨r, 0, none⟩))) (by rfl) (run_check (.tmp 6) rfl rfl W) rfl hC (G0.refl _)) ?_
    simp only [nf0, nf1, nf2, nf3, nf4]
    refine fsteps_val (fun W hC hh => opok_value (v := (.pointer (some ⟨r, 0, none⟩))) (by rfl) (run_fieldA (.tmp 7) rfl b_fld_45_0 rfl rfl W) rfl hC (G0.refl _)) ?_
    simp only [nf0, nf1, nf2, nf3, nf4]
    refine fsteps_val (fun W hC hh => opok_value (v := (.pointer (some ⟨r, 0, none⟩))) (by rfl) (run_fieldA (.tmp 8) rfl b_fld_43_0 rfl rfl W) rfl hC (G0.refl _)) ?_
    simp only [nf0, nf1, nf2, nf3, nf4]
    refine fsteps_val (fun W hC hh => opok_value (v := (.int .i64 (i : Int))) (by rfl) (run_loadB (.tmp 9) rfl b_one_3 rfl (hB.below hC) rfl) rfl hC (G0.refl _)) ?_
    simp only [nf0, nf1, nf2, nf3, nf4]
    refine fsteps_val (fun W hC hh => opok_value (v := (.int .i64 (m : Int))) (by rfl) (by rfl) rfl hC (G0.refl _)) ?_
    simp only [nf0, nf1, nf2, nf3, nf4]
    refine fsteps_val (fun W hC hh => opok_value (v := (.int .i64 ((i : Int) + (m : Int)))) (by rfl) (run_add_in (.tmp 10) (.tmp 11) rfl rfl rfl (by omega) W) rfl hC (G0.refl _)) ?_
    simp only [nf0, nf1, nf2, nf3, nf4]
    refine fsteps_val (fun W hC hh => opok_value (v := (.pointer (some ⟨r, 0, none⟩))) (by rfl) (by rfl) rfl hC (G0.refl _)) ?_
    simp only [nf0, nf1, nf2, nf3, nf4]
    refine fsteps_val (fun W hC hh => opok_value (v := (.pointer (some ⟨r, 0, none⟩))) (by rfl) (run_check (.tmp 13) rfl rfl W) rfl hC (G0.refl _)) ?_
    simp only [nf0, nf1, nf2, nf3, nf4]
    refine fsteps_val (fun W hC hh => opok_value (v := (.pointer (some ⟨r, 3, none⟩))) (by rfl) (run_fieldA (.tmp 14) rfl b_fld_45_1 rfl rfl W) rfl hC (G0.refl _)) ?_
    simp only [nf0, nf1, nf2, nf3, nf4]
    refine fsteps_val (fun W hC hh => opok_value (v := (.string (str l))) (by rfl) (run_loadB (.tmp 15) rfl b_one_9 rfl (hB.below hC) rfl) rfl hC (G0.refl _)) ?_
    simp only [nf0, nf1, nf2, nf3, nf4]
    refine fsteps_val (fun W hC hh => opok_value (v := (.int .i64 (l.length : Int))) (by rfl) (run_len_text (.tmp 16) rfl Try.underlying9 (l := l) rfl W) rfl hC (G0.refl _)) ?_
    simp only [nf0, nf1, nf2, nf3, nf4]
    refine fsteps_val (fun W hC hh => opok_value (v := (.bool false)) (by rfl) ((run_lss (.tmp 12) (.tmp 17) rfl rfl rfl W).trans (by rw [hg3])) rfl hC (G0.refl _)) ?_
    simp only [nf0, nf1, nf2, nf3, nf4]
    refine fsteps_val (fun W hC hh => opok_value (v := (.bool false)) (by rfl) (by rfl) rfl hC (G0.refl _)) ?_
    simp only [nf0, nf1, nf2, nf3, nf4]
    refine fsteps_val (fun W hC hh => opok_not (by rfl) rfl (G0.refl _)) ?_
    simp only [nf0, nf1, nf2, nf3, nf4]
    refine fsteps_val (fun W hC hh => opok_not (by rfl) rfl (G0.refl _)) ?_
    simp only [nf0, nf1, nf2, nf3, nf4]
    refine fsteps_val (fun W hC hh => opok_not (by rfl) rfl (G0.refl _)) ?_
    simp only [nf0, nf1, nf2, nf3, nf4]
    refine fsteps_val (fun W hC hh => opok_not (by rfl) rfl (G0.refl _)) ?_
    simp only [nf0, nf1, nf2, nf3, nf4]
    refine fsteps_val (fun W hC hh => opok_not (by rfl) rfl (G0.refl _)) ?_
    simp only [nf0, nf1, nf2, nf3, nf4]
    refine fsteps_val (fun W hC hh => opok_not (by rfl) rfl (G0.refl _)) ?_
    simp only [nf0, nf1, nf2, nf3, nf4]
    refine fsteps_val (fun W hC hh => opok_not (by rfl) rfl (G0.refl _)) ?_
    simp only [nf0, nf1, nf2, nf3, nf4]
    refine fsteps_val (fun W hC hh => opok_not (by rfl) rfl (G0.refl _)) ?_
    simp only [nf0, nf1, nf2, nf3, nf4]
    refine fsteps_val (fun W hC hh => opok_not (by rfl) rfl (G0.refl _)) ?_
    simp only [nf0, nf1, nf2, nf3, nf4]
    refine fsteps_val (fun W hC hh => opok_not (by rfl) rfl (G0.refl _)) ?_
    simp only [nf0, nf1, nf2, nf3, nf4]
    refine fsteps_val (fun W hC hh => opok_not (by rfl) rfl (G0.refl _)) ?_
    simp only [nf0, nf1, nf2, nf3, nf4]
    refine fsteps_val (fun W hC hh => opok_not (by rfl) rfl (G0.refl _)) ?_
    simp only [nf0, nf1, nf2, nf3, nf4]
    refine fsteps_val (fun W hC hh => opok_not (by rfl) rfl (G0.refl _)) ?_
    simp only [nf0, nf1, nf2, nf3, nf4]
    refine fsteps_val (fun W hC hh => opok_not (by rfl) rfl (G0.refl _)) ?_
    simp only [nf0, nf1, nf2, nf3, nf4]
    refine fsteps_val (fun W hC hh => opok_value (v := (.bool false)) (by rfl) (by rfl) rfl hC (G0.refl _)) ?_
    simp only [nf0, nf1, nf2, nf3, nf4]
    refine fsteps_nil fun w5 hC _ => ?_
    replace hC : Below w2.heap.size w2 w5 := hC
    replace hB := hB.below hC
    replace bel := bl_step bel hC
    clear hC
    show Code.wp _ _ _ _ _
    refine wp_cond_false rfl ?_
    refine wp_exit ?_
    show Code.wp _ _ _ _ _
    refine wp_seq ?_
    refine wp_region_lit ?_
    refine st_mv (.int .i64 (m : Int)) ?_
    simp only [nf0, nf1, nf2, nf3, nf4]
    refine st_mv (.int .i64 (m : Int)) ?_
    simp only [nf0, nf1, nf2, nf3, nf4]
    refine wpList_nil ?_
    show Code.wp _ _ _ _ _
    refine wp_ret ?_
    first | show bodyPost _ _ _ _ _ _ | (simp only [Exit.then, Exit.inBlock]; show bodyPost _ _ _ _ _ _)
    have hE : ext isB l i = i + m := (by omega)
    exact bodyPost_ret (results_tmp rfl _ _ _) rfl ⟨by rw [hE, Nat.add_sub_cancel_left]; rfl, bel⟩
  have hp6 := of_decide_eq_true hg3
  refine wp_region_facts_lit (C := Abv w2) (G := G0) [.val (.pointer (some ⟨r, 0, none⟩)), .val (.pointer (some ⟨r, 0, none⟩)), .val (.pointer (some ⟨r, 0, none⟩)), .val (.pointer (some ⟨r, 0, none⟩)), .val (.int .i64 (i : Int)), .val (.int .i64 (m : Int)), .val (.int .i64 ((i : Int) + (m : Int))), .val (.pointer (some ⟨r, 0, none⟩)), .val (.pointer (some ⟨r, 0, none⟩)), .val (.pointer (some ⟨r, 3, none⟩)), .val (.string (str l)), .val (.int .i64 (l.length : Int)), .val (.bool true), .val (.bool true), .val (.func (.func 32) #[] #[]), .val (.pointer (some ⟨r, 0, none⟩)), .val (.pointer (some ⟨r, 0, none⟩)), .val (.pointer (some ⟨r, 3, none⟩)), .val (.string (str l)), .val (.pointer (some ⟨r, 0, none⟩)), .val (.pointer (some ⟨r, 0, none⟩)), .val (.pointer (some ⟨r, 0, none⟩)), .val (.pointer (some ⟨r, 0, none⟩)), .val (.int .i64 (i : Int)), .val (.int .i64 (m : Int)), .val (.int .i64 ((i : Int) + (m : Int))), .val (.int .u8 (chr l (i + m))), .val (.bool (isB (chr l (i + m)))), .val (.bool (isB (chr l (i + m))))] (by kernel_rfl) (by kernel_rfl) (Abv.start _) ?_
  refine fsteps_val (fun W hC hh => opok_value (v := (.pointer (some ⟨r, 0, none⟩))) (by rfl) (by rfl) rfl hC (G0.refl _)) ?_
  simp only [nf0, nf1, nf2, nf3, nf4]
  refine fsteps_val (fun W hC hh => opok_value (v := (.pointer (some ⟨r, 0, none⟩))) (by rfl) (run_check (.tmp 6) rfl rfl W) rfl hC (G0.refl _)) ?_
  simp only [nf0, nf1, nf2, nf3, nf4]
  refine fsteps_val (fun W hC hh => opok_value (v := (.pointer (some ⟨r, 0, none⟩))) (by rfl) (run_fieldA (.tmp 7) rfl b_fld_45_0 rfl rfl W) rfl hC (G0.refl _)) ?_
  simp only [nf0, nf1, nf2, nf3, nf4]
  refine fsteps_val (fun W hC hh => opok_value (v := (.pointer (some ⟨r, 0, none⟩))) (by rfl) (run_fieldA (.tmp 8) rfl b_fld_43_0 rfl rfl W) rfl hC (G0.refl _)) ?_
  simp only [nf0, nf1, nf2, nf3, nf4]
  refine fsteps_val (fun W hC hh => opok_value (v := (.int .i64 (i : Int))) (by rfl) (run_loadB (.tmp 9) rfl b_one_3 rfl (hB.below hC) rfl) rfl hC (G0.refl _)) ?_
  simp only [nf0, nf1, nf2, nf3, nf4]
  refine fsteps_val (fun W hC hh => opok_value (v := (.int .i64 (m : Int))) (by rfl) (by rfl) rfl hC (G0.refl _)) ?_
  simp only [nf0, nf1, nf2, nf3, nf4]
  refine fsteps_val (fun W hC hh => opok_value (v := (.int .i64 ((i : Int) + (m : Int)))) (by rfl) (run_add_in (.tmp 10) (.tmp 11) rfl rfl rfl (by omega) W) rfl hC (G0.refl _)) ?_
  simp only [nf0, nf1, nf2, nf3, nf4]
  refine fsteps_val (fun W hC hh => opok_value (v := (.pointer (some ⟨r, 0, none⟩))) (by rfl) (by rfl) rfl hC (G0.refl _)) ?_
  simp only [nf0, nf1, nf2, nf3, nf4]
  refine fsteps_val (fun W hC hh => opok_value (v := (.pointer (some ⟨r, 0, none⟩))) (by rfl) (run_check (.tmp 13) rfl rfl W) rfl hC (G0.refl _)) ?_
  simp only [nf0, nf1, nf2, nf3, nf4]
  refine fsteps_val (fun W hC hh => opok_value (v := (.pointer (some ⟨r, 3, none⟩))) (by rfl) (run_fieldA (.tmp 14) rfl b_fld_45_1 rfl rfl W) rfl hC (G0.refl _)) ?_
  simp only [nf0, nf1, nf2, nf3, nf4]
  refine fsteps_val (fun W hC hh => opok_value (v := (.string (str l))) (by rfl) (run_loadB (.tmp 15) rfl b_one_9 rfl (hB.below hC) rfl) rfl hC (G0.refl _)) ?_
  simp only [nf0, nf1, nf2, nf3, nf4]
  refine fsteps_val (fun W hC hh => opok_value (v := (.int .i64 (l.length : Int))) (by rfl) (run_len_text (.tmp 16) rfl Try.underlying9 (l := l) rfl W) rfl hC (G0.refl _)) ?_
  simp only [nf0, nf1, nf2, nf3, nf4]
  refine fsteps_val (fun W hC hh => opok_value (v := (.bool true)) (by rfl) ((run_lss (.tmp 12) (.tmp 17) rfl rfl rfl W).trans (by rw [hg3])) rfl hC (G0.refl _)) ?_
  simp only [nf0, nf1, nf2, nf3, nf4]
  refine fsteps_val (fun W hC hh => opok_value (v := (.bool true)) (by rfl) (by rfl) rfl hC (G0.refl _)) ?_
  simp only [nf0, nf1, nf2, nf3, nf4]
  refine fsteps_val (fun W hC hh => opok_value (v := (.func (.func 32) #[] #[])) (by rfl) (by rfl) rfl hC (G0.refl _)) ?_
  simp only [nf0, nf1, nf2, nf3, nf4]
  refine fsteps_val (fun W hC hh => opok_value (v := (.pointer (some ⟨r, 0, none⟩))) (by rfl) (by rfl) rfl hC (G0.refl _)) ?_
  simp only [nf0, nf1, nf2, nf3, nf4]
  refine fsteps_val (fun W hC hh => opok_value (v := (.pointer (some ⟨r, 0, none⟩))) (by rfl) (run_check (.tmp 21) rfl rfl W) rfl hC (G0.refl _)) ?_
  simp only [nf0, nf1, nf2, nf3, nf4]
  refine fsteps_val (fun W hC hh => opok_value (v := (.pointer (some ⟨r, 3, none⟩))) (by rfl) (run_fieldA (.tmp 22) rfl b_fld_45_1 rfl rfl W) rfl hC (G0.refl _)) ?_
  simp only [nf0, nf1, nf2, nf3, nf4]
  refine fsteps_val (fun W hC hh => opok_value (v := (.string (str l))) (by rfl) (run_loadB (.tmp 23) rfl b_one_9 rfl (hB.below hC) rfl) rfl hC (G0.refl _)) ?_
  simp only [nf0, nf1, nf2, nf3, nf4]
  refine fsteps_val (fun W hC hh => opok_value (v := (.pointer (some ⟨r, 0, none⟩))) (by rfl) (by rfl) rfl hC (G0.refl _)) ?_
  simp only [nf0, nf1, nf2, nf3, nf4]
  refine fsteps_val (fun W hC hh => opok_value (v := (.pointer (some ⟨r, 0, none⟩))) (by rfl) (run_check (.tmp 25) rfl rfl W) rfl hC (G0.refl _)) ?_
  simp only [nf0, nf1, nf2, nf3, nf4]
  refine fsteps_val (fun W hC hh => opok_value (v := (.pointer (some ⟨r, 0, none⟩))) (by rfl) (run_fieldA (.tmp 26) rfl b_fld_45_0 rfl rfl W) rfl hC (G0.refl _)) ?_
  simp only [nf0, nf1, nf2, nf3, nf4]
  refine fsteps_val (fun W hC hh => opok_value (v := (.pointer (some ⟨r, 0, none⟩))) (by rfl) (run_fieldA (.tmp 27) rfl b_fld_43_0 rfl rfl W) rfl hC (G0.refl _)) ?_
  simp only [nf0, nf1, nf2, nf3, nf4]
  refine fsteps_val (fun W hC hh => opok_value (v := (.int .i64 (i : Int))) (by rfl) (run_loadB (.tmp 28) rfl b_one_3 rfl (hB.below hC) rfl) rfl hC (G0.refl _)) ?_
  simp only [nf0, nf1, nf2, nf3, nf4]
  refine fsteps_val (fun W hC hh => opok_value (v := (.int .i64 (m : Int))) (by rfl) (by rfl) rfl hC (G0.refl _)) ?_
  simp only [nf0, nf1, nf2, nf3, nf4]
  refine fsteps_val (fun W hC hh => opok_value (v := (.int .i64 ((i : Int) + (m : Int)))) (by rfl) (run_add_in (.tmp 29) (.tmp 30) rfl rfl rfl (by omega) W) rfl hC (G0.refl _)) ?_
  simp only [nf0, nf1, nf2, nf3, nf4]
  refine fsteps_val (fun W hC hh => opok_value (v := (.int .u8 (chr l (i + m)))) (by rfl) (run_index_text (.tmp 24) (.tmp 31) rfl Try.underlying9 (l := l) rfl rfl (i + m) (by omega) (by omega) W) rfl hC (G0.refl _)) ?_
  simp only [nf0, nf1, nf2, nf3, nf4]
  refine fsteps_val (fun W hC hh => opok_call (by rfl) (b_run_callc_32_1_0 (.tmp 20) (.tmp 32) rfl rfl rfl W) ((isBlank_calls (chr l (i + m)) W).mono fun e W' ⟨h1, h2⟩ => ⟨_, h1, rfl, hC.step h2, h2⟩)) ?_
  simp only [nf0, nf1, nf2, nf3, nf4]
  refine fsteps_val (fun W hC hh => opok_value (v := (.bool (isB (chr l (i + m))))) (by rfl) (by rfl) rfl hC (G0.refl _)) ?_
  simp only [nf0, nf1, nf2, nf3, nf4]
  refine fsteps_nil fun w7 hC _ => ?_
  replace hC : Below w2.heap.size w2 w7 := hC
  replace hB := hB.below hC
  replace bel := bl_step bel hC
  clear hC
  show Code.wp _ _ _ _ _
  cases hg8 : isB (chr l (i + m))
  rotate_left
  · have hp10 := trivial
    refine wp_cond_true rfl ?_
    refine wp_skip ?_
    show Code.wp _ _ _ _ _
    refine wp_block ?_
    refine wp_region_lit ?_
    refine st_mv (.int .i64 (m : Int)) ?_
    simp only [nf0, nf1, nf2, nf3, nf4]
    refine st_value (v := (.int .i64 ((m : Int) + 1))) (by rfl) (run_add_in (.tmp 35) (.const (.int .i64 1)) rfl rfl rfl (by omega) w7) ?_
    simp only [nf0, nf1, nf2, nf3, nf4]
    refine st_mv (.int .i64 ((m : Int) + 1)) ?_
    simp only [nf0, nf1, nf2, nf3, nf4]
    refine wpList_nil ?_
    show ∃ m, m < _ ∧ _
    exact ⟨_, (by omega), (m + 1), rfl, rfl, hB, bel, (ext_more hn (by omega) hg8)⟩
  have hp9 := trivial
  refine wp_cond_false rfl ?_
  refine wp_exit ?_
  show Code.wp _ _ _ _ _
  refine wp_seq ?_
  refine wp_region_lit ?_
  refine st_mv (.int .i64 (m : Int)) ?_
  simp only [nf0, nf1, nf2, nf3, nf4]
  refine st_mv (.int .i64 (m : Int)) ?_
  simp only [nf0, nf1, nf2, nf3, nf4]
  refine wpList_nil ?_
  show Code.wp _ _ _ _ _
  refine wp_ret ?_
  first | show bodyPost _ _ _ _ _ _ | (simp only [Exit.then, Exit.inBlock]; show bodyPost _ _ _ _ _ _)
  have hE : ext isB l i = i + m := (ext_here hn hg8)
  exact bodyPost_ret (results_tmp rfl _ _ _) rfl ⟨by rw [hE, Nat.add_sub_cancel_left]; rfl, bel⟩
set_option maxRecDepth 100000 in
set_option maxHeartbeats 4000000 in
theorem run_inWord {w : World} {r i : Nat} {l : List UInt8} (hB : Blk w r #[.int .i64 (i : Int), .int .i64 (((lnS l i).1 : Nat) : Int), .int .i64 (((lnS l i).2 : Nat) : Int), .string (str l)] 45) (hil : i ≤ l.length) (hl : l.length ≤ 1000000) : Calls Try.prog 31 #[.pointer (some ⟨r, 0, none⟩), .func (.func 23) #[] #[]] w fun e w' => e = .returned (.int .i64 ((ext inW l i - i : Nat) : Int)) ∧ Below w.heap.size w w' := by
  have bel : Below w.heap.size w w := Below.refl _ _
  have hle := ext_le inW l i hil
  go_enter Try.func31, Try.ntmps31
  refine wp_seq ?_
  refine wp_region_lit ?_
  refine st_mv (.int .i64 0) ?_
  simp only [nf0, nf1, nf2, nf3, nf4]
  refine wpList_nil ?_
  show Code.wp _ _ _ _ _
  refine wp_seq ?_
  refine wp_region_lit ?_
  refine st_mv (.int .i64 0) ?_
  simp only [nf0, nf1, nf2, nf3, nf4]
  refine wpList_nil ?_
  show Code.wp _ _ _ _ _
  refine wp_seq ?_
  refine wp_block ?_
  refine wp_loop_left (fun n_ a_ wr_ => (fun J1 => ∃ (m : Nat), n_ = l.length - m ∧ a_ = ⟨#[.pointer (some ⟨r, 0, none⟩), .func (.func 23) #[] #[], J1 2, J1 3, .int .i64 0, .int .i64 (m : Int), J1 6, J1 7, J1 8, J1 9, J1 10, J1 11, J1 12, J1 13, J1 14, J1 15, J1 16, J1 17, J1 18, J1 19, J1 20, J1 21, J1 22, J1 23, J1 24, J1 25, J1 26, J1 27, J1 28, J1 29, J1 30, J1 31, J1 32, J1 33, J1 34, J1 35, J1 36, J1 37], []⟩ ∧ Blk wr_ r #[.int .i64 (i : Int), .int .i64 (((lnS l i).1 : Nat) : Int), .int .i64 (((lnS l i).2 : Nat) : Int), .string (str l)] 45 ∧ Below w.heap.size w wr_ ∧ (i + m ≤ ext inW l i)) (jk a_)) (l.length - 0) ⟨0, rfl, rfl, hB, bel, (ext_ge _ _ _)⟩ ?_
  clear hB
  clear bel
  intro n_ a_ w2 h_
  revert h_
  generalize jk a_ = J1
  rintro ⟨m, hms, rfl, hB, bel, hn⟩
  refine wp_seq ?_
  refine wp_seq ?_
  cases hg3 : decide (((i : Int) + (m : Int)) < (l.length : Int))
  · have hp4 := of_decide_eq_false hg3
    refine wp_region_facts_lit (C := Abv w2) (G := G0) [.val (.pointer (some ⟨r, 0, none⟩)), .val (.pointer (some ⟨r, 0, none⟩)), .val (.pointer (some ⟨r, 0, none⟩)), .val (.pointer (some ⟨r, 0, none⟩)), .val (.int .i64 (i : Int)), .val (.int .i64 (m : Int)), .val (.int .i64 ((i : Int) + (m : Int))), .val (.pointer (some ⟨r, 0, none⟩)), .val (.pointer (some ⟨r, 0, none⟩)), .val (.pointer (some ⟨r, 3, none⟩)), .val (.string (str l)), .val (.int .i64 (l.length : Int)), .val (.bool false), .val (.bool false), .val undef, .val undef, .val undef, .val undef, .val undef, .val undef, .val undef, .val undef, .val undef, .val undef, .val undef, .val undef, .val undef, .val undef, .val (.bool false)] (by kernel_rfl) (by kernel_rfl) (Abv.start _) ?_
    refine fsteps_val (fun W hC hh => opok_value (v := (.pointer (some ⟨r, 0, none⟩))) (by rfl) (by rfl) rfl hC (G0.refl _)) ?_
    simp only [nf0, nf1, nf2, nf3, nf4]
    refine fsteps_val (fun W hC hh => opok_value (v := (.pointer (some ⟨r, 0, none⟩))) (by rfl) (run_check (.tmp 6) rfl rfl W) rfl hC (G0.refl _)) ?_
    simp only [nf0, nf1, nf2, nf3, nf4]
    refine fsteps_val (fun W hC hh => opok_value (v := (.pointer (some ⟨r, 0, none⟩))) (by rfl) (run_fieldA (.tmp 7) rfl b_fld_45_0 rfl rfl W) rfl hC (G0.refl _)) ?_
    simp only [nf0, nf1, nf2, nf3, nf4]
    refine fsteps_val (fun W hC hh => opok_value (v := (.pointer (some ⟨r, 0, none⟩))) (by rfl) (run_fieldA (.tmp 8) rfl b_fld_43_0 rfl rfl W) rfl hC (G0.refl _)) ?_
    simp only [nf0, nf1, nf2, nf3, nf4]
    refine fsteps_val (fun W hC hh => opok_value (v := (.int .i64 (i : Int))) (by rfl) (run_loadB (.tmp 9) rfl b_one_3 rfl (hB.below hC) rfl) rfl hC (G0.refl _)) ?_
    simp only [nf0, nf1, nf2, nf3, nf4]
    refine fsteps_val (fun W hC hh => opok_value (v := (.int .i64 (m : Int))) (by rfl) (by rfl) rfl hC (G0.refl _)) ?_
    simp only [nf0, nf1, nf2, nf3, nf4]
    refine fsteps_val (fun W hC hh => opok_value (v := (.int .i64 ((i : Int) + (m : Int)))) (by rfl) (run_add_in (.tmp 10) (.tmp 11) rfl rfl rfl (by omega) W) rfl hC (G0.refl _)) ?_
    simp only [nf0, nf1, nf2, nf3, nf4]
    refine fsteps_val (fun W hC hh => opok_value (v := (.pointer (some ⟨r, 0, none⟩))) (by rfl) (by rfl) rfl hC (G0.refl _)) ?_
    simp only [nf0, nf1, nf2, nf3, nf4]
    refine fsteps_val (fun W hC hh => opok_value (v := (.pointer (some ⟨r, 0, none⟩))) (by rfl) (run_check (.tmp 13) rfl rfl W) rfl hC (G0.refl _)) ?_
    simp only [nf0, nf1, nf2, nf3, nf4]
    refine fsteps_val (fun W hC hh => opok_value (v := (.pointer (some ⟨r, 3, none⟩))) (by rfl) (run_fieldA (.tmp 14) rfl b_fld_45_1 rfl rfl W) rfl hC (G0.refl _)) ?_
    simp only [nf0, nf1, nf2, nf3, nf4]
    refine fsteps_val (fun W hC hh => opok_value (v := (.string (str l))) (by rfl) (run_loadB (.tmp 15) rfl b_one_9 rfl (hB.below hC) rfl) rfl hC (G0.refl _)) ?_
    simp only [nf0, nf1, nf2, nf3, nf4]
    refine fsteps_val (fun W hC hh => opok_value (v := (.int .i64 (l.length : Int))) (by rfl) (run_len_text (.tmp 16) rfl Try.underlying9 (l := l) rfl W) rfl hC (G0.refl _)) ?_
    simp only [nf0, nf1, nf2, nf3, nf4]
    refine fsteps_val (fun W hC hh => opok_value (v := (.bool false)) (by rfl) ((run_lss (.tmp 12) (.tmp 17) rfl rfl rfl W).trans (by rw [hg3])) rfl hC (G0.refl _)) ?_
    simp only [nf0, nf1, nf2, nf3, nf4]
    refine fsteps_val (fun W hC hh => opok_value (v := (.bool false)) (by rfl) (by rfl) rfl hC (G0.refl _)) ?_
    simp only [nf0, nf1, nf2, nf3, nf4]
    refine fsteps_val (fun W hC hh => opok_not (by rfl) rfl (G0.refl _)) ?_
    simp only [nf0, nf1, nf2, nf3, nf4]
    refine fsteps_val (fun W hC hh => opok_not (by rfl) rfl (G0.refl _)) ?_
    simp only [nf0, nf1, nf2, nf3, nf4]
    refine fsteps_val (fun W hC hh => opok_not (by rfl) rfl (G0.refl _)) ?_
    simp only [nf0, nf1, nf2, nf3, nf4]
    refine fsteps_val (fun W hC hh => opok_not (by rfl) rfl (G0.refl _)) ?_
    simp only [nf0, nf1, nf2, nf3, nf4]
    refine fsteps_val (fun W hC hh => opok_not (by rfl) rfl (G0.refl _)) ?_
    simp only [nf0, nf1, nf2, nf3, nf4]
    refine fsteps_val (fun W hC hh => opok_not (by rfl) rfl (G0.refl _)) ?_
    simp only [nf0, nf1, nf2, nf3, nf4]
    refine fsteps_val (fun W hC hh => opok_not (by rfl) rfl (G0.refl _)) ?_
    simp only [nf0, nf1, nf2, nf3, nf4]
    refine fsteps_val (fun W hC hh => opok_not (by rfl) rfl (G0.refl _)) ?_
    simp only [nf0, nf1, nf2, nf3, nf4]
    refine fsteps_val (fun W hC hh => opok_not (by rfl) rfl (G0.refl _)) ?_
    simp only [nf0, nf1, nf2, nf3, nf4]
    refine fsteps_val (fun W hC hh => opok_not (by rfl) rfl (G0.refl _)) ?_
    simp only [nf0, nf1, nf2, nf3, nf4]
    refine fsteps_val (fun W hC hh => opok_not (by rfl) rfl (G0.refl _)) ?_
    simp only [nf0, nf1, nf2, nf3, nf4]
    refine fsteps_val (fun W hC hh => opok_not (by rfl) rfl (G0.refl _)) ?_
    simp only [nf0, nf1, nf2, nf3, nf4]
    refine fsteps_val (fun W hC hh => opok_not (by rfl) rfl (G0.refl _)) ?_
    simp only [nf0, nf1, nf2, nf3, nf4]
    refine fsteps_val (fun W hC hh => opok_not (by rfl) rfl (G0.refl _)) ?_
    simp only [nf0, nf1, nf2, nf3, nf4]
    refine fsteps_val (fun W hC hh => opok_value (v := (.bool false)) (by rfl) (by rfl) rfl hC (G0.refl _)) ?_
    simp only [nf0, nf1, nf2, nf3, nf4]
    refine fsteps_nil fun w5 hC _ => ?_
    replace hC : Below w2.heap.size w2 w5 := hC
    replace hB := hB.below hC
    replace bel := bl_step bel hC
    clear hC
    show Code.wp _ _ _ _ _
    refine wp_cond_false rfl ?_
    refine wp_exit ?_
    show Code.wp _ _ _ _ _
    refine wp_seq ?_
    refine wp_region_lit ?_
    refine st_mv (.int .i64 (m : Int)) ?_
    simp only [nf0, nf1, nf2, nf3, nf4]
    refine st_mv (.int .i64 (m : Int)) ?_
    simp only [nf0, nf1, nf2, nf3, nf4]
    refine wpList_nil ?_
    show Code.wp _ _ _ _ _
    refine wp_ret ?_
    first | show bodyPost _ _ _ _ _ _ | (simp only [Exit.then, Exit.inBlock]; show bodyPost _ _ _ _ _ _)
    have hE : ext inW l i = i + m := (by omega)
    exact bodyPost_ret (results_tmp rfl _ _ _) rfl ⟨by rw [hE, Nat.add_sub_cancel_left]; rfl, bel⟩
  have hp6 := of_decide_eq_true hg3
  refine wp_region_facts_lit (C := Abv w2) (G := G0) [.val (.pointer (some ⟨r, 0, none⟩)), .val (.pointer (some ⟨r, 0, none⟩)), .val (.pointer (some ⟨r, 0, none⟩)), .val (.pointer (some ⟨r, 0, none⟩)), .val (.int .i64 (i : Int)), .val (.int .i64 (m : Int)), .val (.int .i64 ((i : Int) + (m : Int))), .val (.pointer (some ⟨r, 0, none⟩)), .val (.pointer (some ⟨r, 0, none⟩)), .val (.pointer (some ⟨r, 3, none⟩)), .val (.string (str l)), .val (.int .i64 (l.length : Int)), .val (.bool true), .val (.bool true), .val (.func (.func 23) #[] #[]), .val (.pointer (some ⟨r, 0, none⟩)), .val (.pointer (some ⟨r, 0, none⟩)), .val (.pointer (some ⟨r, 3, none⟩)), .val (.string (str l)), .val (.pointer (some ⟨r, 0, none⟩)), .val (.pointer (some ⟨r, 0, none⟩)), .val (.pointer (some ⟨r, 0, none⟩)), .val (.pointer (some ⟨r, 0, none⟩)), .val (.int .i64 (i : Int)), .val (.int .i64 (m : Int)), .val (.int .i64 ((i : Int) + (m : Int))), .val (.int .u8 (chr l (i + m))), .val (.bool (inW (chr l (i + m)))), .val (.bool (inW (chr l (i + m))))] (by kernel_rfl) (by kernel_rfl) (Abv.start _) ?_
  refine fsteps_val (fun W hC hh => opok_value (v := (.pointer (some ⟨r, 0, none⟩))) (by rfl) (by rfl) rfl hC (G0.refl _)) ?_
  simp only [nf0, nf1, nf2, nf3, nf4]
  refine fsteps_val (fun W hC hh => opok_value (v := (.pointer (some ⟨r, 0, none⟩))) (by rfl) (run_check (.tmp 6) rfl rfl W) rfl hC (G0.refl _)) ?_
  simp only [nf0, nf1, nf2, nf3, nf4]
  refine fsteps_val (fun W hC hh => opok_value (v := (.pointer (some ⟨r, 0, none⟩))) (by rfl) (run_fieldA (.tmp 7) rfl b_fld_45_0 rfl rfl W) rfl hC (G0.refl _)) ?_
  simp only [nf0, nf1, nf2, nf3, nf4]
  refine fsteps_val (fun W hC hh => opok_value (v := (.pointer (some ⟨r, 0, none⟩))) (by rfl) (run_fieldA (.tmp 8) rfl b_fld_43_0 rfl rfl W) rfl hC (G0.refl _)) ?_
  simp only [nf0, nf1, nf2, nf3, nf4]
  refine fsteps_val (fun W hC hh => opok_value (v := (.int .i64 (i : Int))) (by rfl) (run_loadB (.tmp 9) rfl b_one_3 rfl (hB.below hC) rfl) rfl hC (G0.refl _)) ?_
  simp only [nf0, nf1, nf2, nf3, nf4]
  refine fsteps_val (fun W hC hh => opok_value (v := (.int .i64 (m : Int))) (by rfl) (by rfl) rfl hC (G0.refl _)) ?_
  simp only [nf0, nf1, nf2, nf3, nf4]
  refine fsteps_val (fun W hC hh => opok_value (v := (.int .i64 ((i : Int) + (m : Int)))) (by rfl) (run_add_in (.tmp 10) (.tmp 11) rfl rfl rfl (by omega) W) rfl hC (G0.refl _)) ?_
  simp only [nf0, nf1, nf2, nf3, nf4]
  refine fsteps_val (fun W hC hh => opok_value (v := (.pointer (some ⟨r, 0, none⟩))) (by rfl) (by rfl) rfl hC (G0.refl _)) ?_
  simp only [nf0, nf1, nf2, nf3, nf4]
  refine fsteps_val (fun W hC hh => opok_value (v := (.pointer (some ⟨r, 0, none⟩))) (by rfl) (run_check (.tmp 13) rfl rfl W) rfl hC (G0.refl _)) ?_
  simp only [nf0, nf1, nf2, nf3, nf4]
  refine fsteps_val (fun W hC hh => opok_value (v := (.pointer (some ⟨r, 3, none⟩))) (by rfl) (run_fieldA (.tmp 14) rfl b_fld_45_1 rfl rfl W) rfl hC (G0.refl _)) ?_
  simp only [nf0, nf1, nf2, nf3, nf4]
  refine fsteps_val (fun W hC hh => opok_value (v := (.string (str l))) (by rfl) (run_loadB (.tmp 15) rfl b_one_9 rfl (hB.below hC) rfl) rfl hC (G0.refl _)) ?_
  simp only [nf0, nf1, nf2, nf3, nf4]
  refine fsteps_val (fun W hC hh => opok_value (v := (.int .i64 (l.length : Int))) (by rfl) (run_len_text (.tmp 16) rfl Try.underlying9 (l := l) rfl W) rfl hC (G0.refl _)) ?_
  simp only [nf0, nf1, nf2, nf3, nf4]
  refine fsteps_val (fun W hC hh => opok_value (v := (.bool true)) (by rfl) ((run_lss (.tmp 12) (.tmp 17) rfl rfl rfl W).trans (by rw [hg3])) rfl hC (G0.refl _)) ?_
  simp only [nf0, nf1, nf2, nf3, nf4]
  refine fsteps_val (fun W hC hh => opok_value (v := (.bool true)) (by rfl) (by rfl) rfl hC (G0.refl _)) ?_
  simp only [nf0, nf1, nf2, nf3, nf4]
  refine fsteps_val (fun W hC hh => opok_value (v := (.func (.func 23) #[] #[])) (by rfl) (by rfl) rfl hC (G0.refl _)) ?_
  simp only [nf0, nf1, nf2, nf3, nf4]
  refine fsteps_val (fun W hC hh => opok_value (v := (.pointer (some ⟨r, 0, none⟩))) (by rfl) (by rfl) rfl hC (G0.refl _)) ?_
  simp only [nf0, nf1, nf2, nf3, nf4]
  refine fsteps_val (fun W hC hh => opok_value (v := (.pointer (some ⟨r, 0, none⟩))) (by rfl) (run_check (.tmp 21) rfl rfl W) rfl hC (G0.refl _)) ?_
  simp only [nf0, nf1, nf2, nf3, nf4]
  refine fsteps_val (fun W hC hh => opok_value (v := (.pointer (some ⟨r, 3, none⟩))) (by rfl) (run_fieldA (.tmp 22) rfl b_fld_45_1 rfl rfl W) rfl hC (G0.refl _)) ?_
  simp only [nf0, nf1, nf2, nf3, nf4]
  refine fsteps_val (fun W hC hh => opok_value (v := (.string (str l))) (by rfl) (run_loadB (.tmp 23) rfl b_one_9 rfl (hB.below hC) rfl) rfl hC (G0.refl _)) ?_
  simp only [nf0, nf1, nf2, nf3, nf4]
  refine fsteps_val (fun W hC hh => opok_value (v := (.pointer (some ⟨r, 0, none⟩))) (by rfl) (by rfl) rfl hC (G0.refl _)) ?_
  simp only [nf0, nf1, nf2, nf3, nf4]
  refine fsteps_val (fun W hC hh => opok_value (v := (.pointer (some ⟨r, 0, none⟩))) (by rfl) (run_check (.tmp 25) rfl rfl W) rfl hC (G0.refl _)) ?_
  simp only [nf0, nf1, nf2, nf3, nf4]
  refine fsteps_val (fun W hC hh => opok_value (v := (.pointer (some ⟨r, 0, none⟩))) (by rfl) (run_fieldA (.tmp 26) rfl b_fld_45_0 rfl rfl W) rfl hC (G0.refl _)) ?_
  simp only [nf0, nf1, nf2, nf3, nf4]
  refine fsteps_val (fun W hC hh => opok_value (v := (.pointer (some ⟨r, 0, none⟩))) (by rfl) (run_fieldA (.tmp 27) rfl b_fld_43_0 rfl rfl W) rfl hC (G0.refl _)) ?_
  simp only [nf0, nf1, nf2, nf3, nf4]
  refine fsteps_val (fun W hC hh => opok_value (v := (.int .i64 (i : Int))) (by rfl) (run_loadB (.tmp 28) rfl b_one_3 rfl (hB.below hC) rfl) rfl hC (G0.refl _)) ?_
  simp only [nf0, nf1, nf2, nf3, nf4]
  refine fsteps_val (fun W hC hh => opok_value (v := (.int .i64 (m : Int))) (by rfl) (by rfl) rfl hC (G0.refl _)) ?_
  simp only [nf0, nf1, nf2, nf3, nf4]
  refine fsteps_val (fun W hC hh => opok_value (v := (.int .i64 ((i : Int) + (m : Int)))) (by rfl) (run_add_in (.tmp 29) (.tmp 30) rfl rfl rfl (by omega) W) rfl hC (G0.refl _)) ?_
  simp only [nf0, nf1, nf2, nf3, nf4]
  refine fsteps_val (fun W hC hh => opok_value (v := (.int .u8 (chr l (i + m)))) (by rfl) (run_index_text (.tmp 24) (.tmp 31) rfl Try.underlying9 (l := l) rfl rfl (i + m) (by omega) (by omega) W) rfl hC (G0.refl _)) ?_
  simp only [nf0, nf1, nf2, nf3, nf4]
  refine fsteps_val (fun W hC hh => opok_call (by rfl) (b_run_callc_23_1_0 (.tmp 20) (.tmp 32) rfl rfl rfl W) ((inWord_calls (chr l (i + m)) W).mono fun e W' ⟨h1, h2⟩ => ⟨_, h1, rfl, hC.step h2, h2⟩)) ?_
  simp only [nf0, nf1, nf2, nf3, nf4]
  refine fsteps_val (fun W hC hh => opok_value (v := (.bool (inW (chr l (i + m))))) (by rfl) (by rfl) rfl hC (G0.refl _)) ?_
  simp only [nf0, nf1, nf2, nf3, nf4]
  refine fsteps_nil fun w7 hC _ => ?_
  replace hC : Below w2.heap.size w2 w7 := hC
  replace hB := hB.below hC
  replace bel := bl_step bel hC
  clear hC
  show Code.wp _ _ _ _ _
  cases hg8 : inW (chr l (i + m))
  rotate_left
  · have hp10 := trivial
    refine wp_cond_true rfl ?_
    refine wp_skip ?_
    show Code.wp _ _ _ _ _
    refine wp_block ?_
    refine wp_region_lit ?_
    refine st_mv (.int .i64 (m : Int)) ?_
    simp only [nf0, nf1, nf2, nf3, nf4]
    refine st_value (v := (.int .i64 ((m : Int) + 1))) (by rfl) (run_add_in (.tmp 35) (.const (.int .i64 1)) rfl rfl rfl (by omega) w7) ?_
    simp only [nf0, nf1, nf2, nf3, nf4]
    refine st_mv (.int .i64 ((m : Int) + 1)) ?_
    simp only [nf0, nf1, nf2, nf3, nf4]
    refine wpList_nil ?_
    show ∃ m, m < _ ∧ _
    exact ⟨_, (by omega), (m + 1), rfl, rfl, hB, bel, (ext_more hn (by omega) hg8)⟩
  have hp9 := trivial
  refine wp_cond_false rfl ?_
  refine wp_exit ?_
  show Code.wp _ _ _ _ _
  refine wp_seq ?_
  refine wp_region_lit ?_
  refine st_mv (.int .i64 (m : Int)) ?_
  simp only [nf0, nf1, nf2, nf3, nf4]
  refine st_mv (.int .i64 (m : Int)) ?_
  simp only [nf0, nf1, nf2, nf3, nf4]
  refine wpList_nil ?_
  show Code.wp _ _ _ _ _
  refine wp_ret ?_
  first | show bodyPost _ _ _ _ _ _ | (simp only [Exit.then, Exit.inBlock]; show bodyPost _ _ _ _ _ _)
  have hE : ext inW l i = i + m := (ext_here hn hg8)
  exact bodyPost_ret (results_tmp rfl _ _ _) rfl ⟨by rw [hE, Nat.add_sub_cancel_left]; rfl, bel⟩
set_option maxRecDepth 100000 in
set_option maxHeartbeats 4000000 in
theorem run_inList {w : World} {r i : Nat} {l : List UInt8} (hB : Blk w r #[.int .i64 (i : Int), .int .i64 (((lnS l i).1 : Nat) : Int), .int .i64 (((lnS l i).2 : Nat) : Int), .string (str l)] 45) (hil : i ≤ l.length) (hl : l.length ≤ 1000000) : Calls Try.prog 31 #[.pointer (some ⟨r, 0, none⟩), .func (.func 36) #[] #[]] w fun e w' => e = .returned (.int .i64 ((ext inL l i - i : Nat) : Int)) ∧ Below w.heap.size w w' := by
  have bel : Below w.heap.size w w := Below.refl _ _
  have hle := ext_le inL l i hil
  go_enter Try.func31, Try.ntmps31
  refine wp_seq ?_
  refine wp_region_lit ?_
  refine st_mv (.int .i64 0) ?_
  simp only [nf0, nf1, nf2, nf3, nf4]
  refine wpList_nil ?_
  show Code.wp _ _ _ _ _
  refine wp_seq ?_
  refine wp_region_lit ?_
  refine st_mv (.int .i64 0) ?_
  simp only [nf0, nf1, nf2, nf3, nf4]
  refine wpList_nil ?_
  show Code.wp _ _ _ _ _
  refine wp_seq ?_
  refine wp_block ?_
  refine wp_loop_left (fun n_ a_ wr_ => (fun J1 => ∃ (m : Nat), n_ = l.length - m ∧ a_ = ⟨#[.pointer (some ⟨r, 0, none⟩), .func (.func 36) #[] #[], J1 2, J1 3, .int .i64 0, .int .i64 (m : Int), J1 6, J1 7, J1 8, J1 9, J1 10, J1 11, J1 12, J1 13, J1 14, J1 15, J1 16, J1 17, J1 18, J1 19, J1 20, J1 21, J1 22, J1 23, J1 24, J1 25, J1 26, J1 27, J1 28, J1 29, J1 30, J1 31, J1 32, J1 33, J1 34, J1 35, J1 36, J1 37], []⟩ ∧ Blk wr_ r #[.int .i64 (i : Int), .int .i64 (((lnS l i).1 : Nat) : Int), .int .i64 (((lnS l i).2 : Nat) : Int), .string (str l)] 45 ∧ Below w.heap.size w wr_ ∧ (i + m ≤ ext inL l i)) (jk a_)) (l.length - 0) ⟨0, rfl, rfl, hB, bel, (ext_ge _ _ _)⟩ ?_
  clear hB
  clear bel
  intro n_ a_ w2 h_
  revert h_
  generalize jk a_ = J1
  rintro ⟨m, hms, rfl, hB, bel, hn⟩
  refine wp_seq ?_
  refine wp_seq ?_
  cases hg3 : decide (((i : Int) + (m : Int)) < (l.length : Int))
  · have hp4 := of_decide_eq_false hg3
    refine wp_region_facts_lit (C := Abv w2) (G := G0) [.val (.pointer (some ⟨r, 0, none⟩)), .val (.pointer (some ⟨r, 0, none⟩)), .val (.pointer (some ⟨r, 0, none⟩)), .val (.pointer (some ⟨r, 0, none⟩)), .val (.int .i64 (i : Int)), .val (.int .i64 (m : Int)), .val (.int .i64 ((i : Int) + (m : Int))), .val (.pointer (some ⟨r, 0, none⟩)), .val (.pointer (some ⟨r, 0, none⟩)), .val (.pointer (some ⟨r, 3, none⟩)), .val (.string (str l)), .val (.int .i64 (l.length : Int)), .val (.bool false), .val (.bool false), .val undef, .val undef, .val undef, .val undef, .val undef, .val undef, .val undef, .val undef, .val undef, .val undef, .val undef, .val undef, .val undef, .val undef, .val (.bool false)] (by kernel_rfl) (by kernel_rfl) (Abv.start _) ?_
    refine fsteps_val (fun W hC hh => opok_value (v := (.pointer (some ⟨r, 0, none⟩))) (by rfl) (by rfl) rfl hC (G0.refl _)) ?_
    simp only [nf0, nf1, nf2, nf3, nf4]
    refine fsteps_val (fun W hC hh => opok_value (v := (.pointer (some ⟨r, 0, none⟩))) (by rfl) (run_check (.tmp 6) rfl rfl W) rfl hC (G0.refl _)) ?_
    simp only [nf0, nf1, nf2, nf3, nf4]
    refine fsteps_val (fun W hC hh => opok_value (v := (.pointer (some ⟨r, 0, none⟩))) (by rfl) (run_fieldA (.tmp 7) rfl b_fld_45_0 rfl rfl W) rfl hC (G0.refl _)) ?_
    simp only [nf0, nf1, nf2, nf3, nf4]
    refine fsteps_val (fun W hC hh => opok_value (v := (.pointer (some ⟨r, 0, none⟩))) (by rfl) (run_fieldA (.tmp 8) rfl b_fld_43_0 rfl rfl W) rfl hC (G0.refl _)) ?_
    simp only [nf0, nf1, nf2, nf3, nf4]
    refine fsteps_val (fun W hC hh => opok_value (v := (.int .i64 (i : Int))) (by rfl) (run_loadB (.tmp 9) rfl b_one_3 rfl (hB.below hC) rfl) rfl hC (G0.refl _)) ?_
    simp only [nf0, nf1, nf2, nf3, nf4]
    refine fsteps_val (fun W hC hh => opok_value (v := (.int .i64 (m : Int))) (by rfl) (by rfl) rfl hC (G0.refl _)) ?_
    simp only [nf0, nf1, nf2, nf3, nf4]
    refine fsteps_val (fun W hC hh => opok_value (v := (.int .i64 ((i : Int) + (m : Int)))) (by rfl) (run_add_in (.tmp 10) (.tmp 11) rfl rfl rfl (by omega) W) rfl hC (G0.refl _)) ?_
    simp only [nf0, nf1, nf2, nf3, nf4]
    refine fsteps_val (fun W hC hh => opok_value (v := (.pointer (some ⟨r, 0, none⟩))) (by rfl) (by rfl) rfl hC (G0.refl _)) ?_
    simp only [nf0, nf1, nf2, nf3, nf4]
    refine fsteps_val (fun W hC hh => opok_value (v := (.pointer (some ⟨r, 0, none⟩))) (by rfl) (run_check (.tmp 13) rfl rfl W) rfl hC (G0.refl _)) ?_
    simp only [nf0, nf1, nf2, nf3, nf4]
    refine fsteps_val (fun W hC hh => opok_value (v := (.pointer (some ⟨r, 3, none⟩))) (by rfl) (run_fieldA (.tmp 14) rfl b_fld_45_1 rfl rfl W) rfl hC (G0.refl _)) ?_
    simp only [nf0, nf1, nf2, nf3, nf4]
    refine fsteps_val (fun W hC hh => opok_value (v := (.string (str l))) (by rfl) (run_loadB (.tmp 15) rfl b_one_9 rfl (hB.below hC) rfl) rfl hC (G0.refl _)) ?_
    simp only [nf0, nf1, nf2, nf3, nf4]
    refine fsteps_val (fun W hC hh => opok_value (v := (.int .i64 (l.length : Int))) (by rfl) (run_len_text (.tmp 16) rfl Try.underlying9 (l := l) rfl W) rfl hC (G0.refl _)) ?_
    simp only [nf0, nf1, nf2, nf3, nf4]
    refine fsteps_val (fun W hC hh => opok_value (v := (.bool false)) (by rfl) ((run_lss (.tmp 12) (.tmp 17) rfl rfl rfl W).trans (by rw [hg3])) rfl hC (G0.refl _)) ?_
    simp only [nf0, nf1, nf2, nf3, nf4]
    refine fsteps_val (fun W hC hh => opok_value (v := (.bool false)) (by rfl) (by rfl) rfl hC (G0.refl _)) ?_
    simp only [nf0, nf1, nf2, nf3, nf4]
    refine fsteps_val (fun W hC hh => opok_not (by rfl) rfl (G0.refl _)) ?_
    simp only [nf0, nf1, nf2, nf3, nf4]
    refine fsteps_val (fun W hC hh => opok_not (by rfl) rfl (G0.refl _)) ?_
    simp only [nf0, nf1, nf2, nf3, nf4]
    refine fsteps_val (fun W hC hh => opok_not (by rfl) rfl (G0.refl _)) ?_
    simp only [nf0, nf1, nf2, nf3, nf4]
    refine fsteps_val (fun W hC hh => opok_not (by rfl) rfl (G0.refl _)) ?_
    simp only [nf0, nf1, nf2, nf3, nf4]
    refine fsteps_val (fun W hC hh => opok_not (by rfl) rfl (G0.refl _)) ?_
    simp only [nf0, nf1, nf2, nf3, nf4]
    refine fsteps_val (fun W hC hh => opok_not (by rfl) rfl (G0.refl _)) ?_
    simp only [nf0, nf1, nf2, nf3, nf4]
    refine fsteps_val (fun W hC hh => opok_not (by rfl) rfl (G0.refl _)) ?_
    simp only [nf0, nf1, nf2, nf3, nf4]
    refine fsteps_val (fun W hC hh => opok_not (by rfl) rfl (G0.refl _)) ?_
    simp only [nf0, nf1, nf2, nf3, nf4]
    refine fsteps_val (fun W hC hh => opok_not (by rfl) rfl (G0.refl _)) ?_
    simp only [nf0, nf1, nf2, nf3, nf4]
    refine fsteps_val (fun W hC hh => opok_not (by rfl) rfl (G0.refl _)) ?_
    simp only [nf0, nf1, nf2, nf3, nf4]
    refine fsteps_val (fun W hC hh => opok_not (by rfl) rfl (G0.refl _)) ?_
    simp only [nf0, nf1, nf2, nf3, nf4]
    refine fsteps_val (fun W hC hh => opok_not (by rfl) rfl (G0.refl _)) ?_
    simp only [nf0, nf1, nf2, nf3, nf4]
    refine fsteps_val (fun W hC hh => opok_not (by rfl) rfl (G0.refl _)) ?_
    simp only [nf0, nf1, nf2, nf3, nf4]
    refine fsteps_val (fun W hC hh => opok_not (by rfl) rfl (G0.refl _)) ?_
    simp only [nf0, nf1, nf2, nf3, nf4]
    refine fsteps_val (fun W hC hh => opok_value (v := (.bool false)) (by rfl) (by rfl) rfl hC (G0.refl _)) ?_
    simp only [nf0, nf1, nf2, nf3, nf4]
    refine fsteps_nil fun w5 hC _ => ?_
    replace hC : Below w2.heap.size w2 w5 := hC
    replace hB := hB.below hC
    replace bel := bl_step bel hC
    clear hC
    show Code.wp _ _ _ _ _
    refine wp_cond_false rfl ?_
    refine wp_exit ?_
    show Code.wp _ _ _ _ _
    refine wp_seq ?_
    refine wp_region_lit ?_
    refine st_mv (.int .i64 (m : Int)) ?_
    simp only [nf0, nf1, nf2, nf3, nf4]
    refine st_mv (.int .i64 (m : Int)) ?_
    simp only [nf0, nf1, nf2, nf3, nf4]
    refine wpList_nil ?_
    show Code.wp _ _ _ _ _
    refine wp_ret ?_
    first | show bodyPost _ _ _ _ _ _ | (simp only [Exit.then, Exit.inBlock]; show bodyPost _ _ _ _ _ _)
    have hE : ext inL l i = i + m := (by omega)
    exact bodyPost_ret (results_tmp rfl _ _ _) rfl ⟨by rw [hE, Nat.add_sub_cancel_left]; rfl, bel⟩
  have hp6 := of_decide_eq_true hg3
  refine wp_region_facts_lit (C := Abv w2) (G := G0) [.val (.pointer (some ⟨r, 0, none⟩)), .val (.pointer (some ⟨r, 0, none⟩)), .val (.pointer (some ⟨r, 0, none⟩)), .val (.pointer (some ⟨r, 0, none⟩)), .val (.int .i64 (i : Int)), .val (.int .i64 (m : Int)), .val (.int .i64 ((i : Int) + (m : Int))), .val (.pointer (some ⟨r, 0, none⟩)), .val (.pointer (some ⟨r, 0, none⟩)), .val (.pointer (some ⟨r, 3, none⟩)), .val (.string (str l)), .val (.int .i64 (l.length : Int)), .val (.bool true), .val (.bool true), .val (.func (.func 36) #[] #[]), .val (.pointer (some ⟨r, 0, none⟩)), .val (.pointer (some ⟨r, 0, none⟩)), .val (.pointer (some ⟨r, 3, none⟩)), .val (.string (str l)), .val (.pointer (some ⟨r, 0, none⟩)), .val (.pointer (some ⟨r, 0, none⟩)), .val (.pointer (some ⟨r, 0, none⟩)), .val (.pointer (some ⟨r, 0, none⟩)), .val (.int .i64 (i : Int)), .val (.int .i64 (m : Int)), .val (.int .i64 ((i : Int) + (m : Int))), .val (.int .u8 (chr l (i + m))), .val (.bool (inL (chr l (i + m)))), .val (.bool (inL (chr l (i + m))))] (by kernel_rfl) (by kernel_rfl) (Abv.start _) ?_
  refine fsteps_val (fun W hC hh => opok_value (v := (.pointer (some ⟨r, 0, none⟩))) (by rfl) (by rfl) rfl hC (G0.refl _)) ?_
  simp only [nf0, nf1, nf2, nf3, nf4]
  refine fsteps_val (fun W hC hh => opok_value (v := (.pointer (some ⟨r, 0, none⟩))) (by rfl) (run_check (.tmp 6) rfl rfl W) rfl hC (G0.refl _)) ?_
  simp only [nf0, nf1, nf2, nf3, nf4]
  refine fsteps_val (fun W hC hh => opok_value (v := (.pointer (some ⟨r, 0, none⟩))) (by rfl) (run_fieldA (.tmp 7) rfl b_fld_45_0 rfl rfl W) rfl hC (G0.refl _)) ?_
  simp only [nf0, nf1, nf2, nf3, nf4]
  refine fsteps_val (fun W hC hh => opok_value (v := (.pointer (some ⟨r, 0, none⟩))) (by rfl) (run_fieldA (.tmp 8) rfl b_fld_43_0 rfl rfl W) rfl hC (G0.refl _)) ?_
  simp only [nf0, nf1, nf2, nf3, nf4]
  refine fsteps_val (fun W hC hh => opok_value (v := (.int .i64 (i : Int))) (by rfl) (run_loadB (.tmp 9) rfl b_one_3 rfl (hB.below hC) rfl) rfl hC (G0.refl _)) ?_
  simp only [nf0, nf1, nf2, nf3, nf4]
  refine fsteps_val (fun W hC hh => opok_value (v := (.int .i64 (m : Int))) (by rfl) (by rfl) rfl hC (G0.refl _)) ?_
  simp only [nf0, nf1, nf2, nf3, nf4]
  refine fsteps_val (fun W hC hh => opok_value (v := (.int .i64 ((i : Int) + (m : Int)))) (by rfl) (run_add_in (.tmp 10) (.tmp 11) rfl rfl rfl (by omega) W) rfl hC (G0.refl _)) ?_
  simp only [nf0, nf1, nf2, nf3, nf4]
  refine fsteps_val (fun W hC hh => opok_value (v := (.pointer (some ⟨r, 0, none⟩))) (by rfl) (by rfl) rfl hC (G0.refl _)) ?_
  simp only [nf0, nf1, nf2, nf3, nf4]
  refine fsteps_val (fun W hC hh => opok_value (v := (.pointer (some ⟨r, 0, none⟩))) (by rfl) (run_check (.tmp 13) rfl rfl W) rfl hC (G0.refl _)) ?_
  simp only [nf0, nf1, nf2, nf3, nf4]
  refine fsteps_val (fun W hC hh => opok_value (v := (.pointer (some ⟨r, 3, none⟩))) (by rfl) (run_fieldA (.tmp 14) rfl b_fld_45_1 rfl rfl W) rfl hC (G0.refl _)) ?_
  simp only [nf0, nf1, nf2, nf3, nf4]
  refine fsteps_val (fun W hC hh => opok_value (v := (.string (str l))) (by rfl) (run_loadB (.tmp 15) rfl b_one_9 rfl (hB.below hC) rfl) rfl hC (G0.refl _)) ?_
  simp only [nf0, nf1, nf2, nf3, nf4]
  refine fsteps_val (fun W hC hh => opok_value (v := (.int .i64 (l.length : Int))) (by rfl) (run_len_text (.tmp 16) rfl Try.underlying9 (l := l) rfl W) rfl hC (G0.refl _)) ?_
  simp only [nf0, nf1, nf2, nf3, nf4]
  refine fsteps_val (fun W hC hh => opok_value (v := (.bool true)) (by rfl) ((run_lss (.tmp 12) (.tmp 17) rfl rfl rfl W).trans (by rw [hg3])) rfl hC (G0.refl _)) ?_
  simp only [nf0, nf1, nf2, nf3, nf4]
  refine fsteps_val (fun W hC hh => opok_value (v := (.bool true)) (by rfl) (by rfl) rfl hC (G0.refl _)) ?_
  simp only [nf0, nf1, nf2, nf3, nf4]
  refine fsteps_val (fun W hC hh => opok_value (v := (.func (.func 36) #[] #[])) (by rfl) (by rfl) rfl hC (G0.refl _)) ?_
  simp only [nf0, nf1, nf2, nf3, nf4]
  refine fsteps_val (fun W hC hh => opok_value (v := (.pointer (some ⟨r, 0, none⟩))) (by rfl) (by rfl) rfl hC (G0.refl _)) ?_
  simp only [nf0, nf1, nf2, nf3, nf4]
  refine fsteps_val (fun W hC hh => opok_value (v := (.pointer (some ⟨r, 0, none⟩))) (by rfl) (run_check (.tmp 21) rfl rfl W) rfl hC (G0.refl _)) ?_
  simp only [nf0, nf1, nf2, nf3, nf4]
  refine fsteps_val (fun W hC hh => opok_value (v := (.pointer (some ⟨r, 3, none⟩))) (by rfl) (run_fieldA (.tmp 22) rfl b_fld_45_1 rfl rfl W) rfl hC (G0.refl _)) ?_
  simp only [nf0, nf1, nf2, nf3, nf4]
  refine fsteps_val (fun W hC hh => opok_value (v := (.string (str l))) (by rfl) (run_loadB (.tmp 23) rfl b_one_9 rfl (hB.below hC) rfl) rfl hC (G0.refl _)) ?_
  simp only [nf0, nf1, nf2, nf3, nf4]
  refine fsteps_val (fun W hC hh => opok_value (v := (.pointer (some ⟨r, 0, none⟩))) (by rfl) (by rfl) rfl hC (G0.refl _)) ?_
  simp only [nf0, nf1, nf2, nf3, nf4]
  refine fsteps_val (fun W hC hh => opok_value (v := (.pointer (some ⟨r, 0, none⟩))) (by rfl) (run_check (.tmp 25) rfl rfl W) rfl hC (G0.refl _)) ?_
  simp only [nf0, nf1, nf2, nf3, nf4]
  refine fsteps_val (fun W hC hh => opok_value (v := (.pointer (some ⟨r, 0, none⟩))) (by rfl) (run_fieldA (.tmp 26) rfl b_fld_45_0 rfl rfl W) rfl hC (G0.refl _)) ?_
  simp only [nf0, nf1, nf2, nf3, nf4]
  refine fsteps_val (fun W hC hh => opok_value (v := (.pointer (some ⟨r, 0, none⟩))) (by rfl) (run_fieldA (.tmp 27) rfl b_fld_43_0 rfl rfl W) rfl hC (G0.refl _)) ?_
  simp only [nf0, nf1, nf2, nf3, nf4]
  refine fsteps_val (fun W hC hh => opok_value (v := (.int .i64 (i : Int))) (by rfl) (run_loadB (.tmp 28) rfl b_one_3 rfl (hB.below hC) rfl) rfl hC (G0.refl _)) ?_
  simp only [nf0, nf1, nf2, nf3, nf4]
  refine fsteps_val (fun W hC hh => opok_value (v := (.int .i64 (m : Int))) (by rfl) (by rfl) rfl hC (G0.refl _)) ?_
  simp only [nf0, nf1, nf2, nf3, nf4]
  refine fsteps_val (fun W hC hh => opok_value (v := (.int .i64 ((i : Int) + (m : Int)))) (by rfl) (run_add_in (.tmp 29) (.tmp 30) rfl rfl rfl (by omega) W) rfl hC (G0.refl _)) ?_
  simp only [nf0, nf1, nf2, nf3, nf4]
  refine fsteps_val (fun W hC hh => opok_value (v := (.int .u8 (chr l (i + m)))) (by rfl) (run_index_text (.tmp 24) (.tmp 31) rfl Try.underlying9 (l := l) rfl rfl (i + m) (by omega) (by omega) W) rfl hC (G0.refl _)) ?_
  simp only [nf0, nf1, nf2, nf3, nf4]
  refine fsteps_val (fun W hC hh => opok_call (by rfl) (b_run_callc_36_1_0 (.tmp 20) (.tmp 32) rfl rfl rfl W) ((inList_calls (chr l (i + m)) W).mono fun e W' ⟨h1, h2⟩ => ⟨_, h1, rfl, hC.step h2, h2⟩)) ?_
  simp only [nf0, nf1, nf2, nf3, nf4]
  refine fsteps_val (fun W hC hh => opok_value (v := (.bool (inL (chr l (i + m))))) (by rfl) (by rfl) rfl hC (G0.refl _)) ?_
  simp only [nf0, nf1, nf2, nf3, nf4]
  refine fsteps_nil fun w7 hC _ => ?_
  replace hC : Below w2.heap.size w2 w7 := hC
  replace hB := hB.below hC
  replace bel := bl_step bel hC
  clear hC
  show Code.wp _ _ _ _ _
  cases hg8 : inL (chr l (i + m))
  rotate_left
  · have hp10 := trivial
    refine wp_cond_true rfl ?_
    refine wp_skip ?_
    show Code.wp _ _ _ _ _
    refine wp_block ?_
    refine wp_region_lit ?_
    refine st_mv (.int .i64 (m : Int)) ?_
    simp only [nf0, nf1, nf2, nf3, nf4]
    refine st_value (v := (.int .i64 ((m : Int) + 1))) (by rfl) (run_add_in (.tmp 35) (.const (.int .i64 1)) rfl rfl rfl (by omega) w7) ?_
    simp only [nf0, nf1, nf2, nf3, nf4]
    refine st_mv (.int .i64 ((m : Int) + 1)) ?_
    simp only [nf0, nf1, nf2, nf3, nf4]
    refine wpList_nil ?_
    show ∃ m, m < _ ∧ _
    exact ⟨_, (by omega), (m + 1), rfl, rfl, hB, bel, (ext_more hn (by omega) hg8)⟩
  have hp9 := trivial
  refine wp_cond_false rfl ?_
  refine wp_exit ?_
  show Code.wp _ _ _ _ _
  refine wp_seq ?_
  refine wp_region_lit ?_
  refine st_mv (.int .i64 (m : Int)) ?_
  simp only [nf0, nf1, nf2, nf3, nf4]
  refine st_mv (.int .i64 (m : Int)) ?_
  simp only [nf0, nf1, nf2, nf3, nf4]
  refine wpList_nil ?_
  show Code.wp _ _ _ _ _
  refine wp_ret ?_
  first | show bodyPost _ _ _ _ _ _ | (simp only [Exit.then, Exit.inBlock]; show bodyPost _ _ _ _ _ _)
  have hE : ext inL l i = i + m := (ext_here hn hg8)
  exact bodyPost_ret (results_tmp rfl _ _ _) rfl ⟨by rw [hE, Nat.add_sub_cancel_left]; rfl, bel⟩
set_option maxRecDepth 100000 in
set_option maxHeartbeats 4000000 in
theorem run_gap1 {w : World} {r i : Nat} {l : List UInt8} (hB : Blk w r #[.int .i64 (i : Int), .int .i64 (((lnS l i).1 : Nat) : Int), .int .i64 (((lnS l i).2 : Nat) : Int), .string (str l)] 45) (hil : i ≤ l.length) (hl : l.length ≤ 1000000) : Calls Try.prog 31 #[.pointer (some ⟨r, 0, none⟩), .func (.func 33) #[] #[]] w fun e w' => e = .returned (.int .i64 ((ext noNL l i - i : Nat) : Int)) ∧ Below w.heap.size w w' := by
  have bel : Below w.heap.size w w := Below.refl _ _
  have hle := ext_le noNL l i hil
  go_enter Try.func31, Try.ntmps31
  refine wp_seq ?_
  refine wp_region_lit ?_
  refine st_mv (.int .i64 0) ?_
  simp only [nf0, nf1, nf2, nf3, nf4]
  refine wpList_nil ?_
  show Code.wp _ _ _ _ _
  refine wp_seq ?_
  refine wp_region_lit ?_
  refine st_mv (.int .i64 0) ?_
  simp only [nf0, nf1, nf2, nf3, nf4]
  refine wpList_nil ?_
  show Code.wp _ _ _ _ _
  refine wp_seq ?_
  refine wp_block ?_
  refine wp_loop_left (fun n_ a_ wr_ => (fun J1 => ∃ (m : Nat), n_ = l.length - m ∧ a_ = ⟨#[.pointer (some ⟨r, 0, none⟩), .func (.func 33) #[] #[], J1 2, J1 3, .int .i64 0, .int .i64 (m : Int), J1 6, J1 7, J1 8, J1 9, J1 10, J1 11, J1 12, J1 13, J1 14, J1 15, J1 16, J1 17, J1 18, J1 19, J1 20, J1 21, J1 22, J1 23, J1 24, J1 25, J1 26, J1 27, J1 28, J1 29, J1 30, J1 31, J1 32, J1 33, J1 34, J1 35, J1 36, J1 37], []⟩ ∧ Blk wr_ r #[.int .i64 (i : Int), .int .i64 (((lnS l i).1 : Nat) : Int), .int .i64 (((lnS l i).2 : Nat) : Int), .string (str l)] 45 ∧ Below w.heap.size w wr_ ∧ (i + m ≤ ext noNL l i)) (jk a_)) (l.length - 0) ⟨0, rfl, rfl, hB, bel, (ext_ge _ _ _)⟩ ?_
  clear hB
  clear bel
  intro n_ a_ w2 h_
  revert h_
  generalize jk a_ = J1
  rintro ⟨m, hms, rfl, hB, bel, hn⟩
  refine wp_seq ?_
  refine wp_seq ?_
  cases hg3 : decide (((i : Int) + (m : Int)) < (l.length : Int))
  · have hp4 := of_decide_eq_false hg3
    refine wp_region_facts_lit (C := Abv w2) (G := G0) [.val (.pointer (some ⟨r, 0, none⟩)), .val (.pointer (some ⟨r, 0, none⟩)), .val (.pointer (some ⟨r, 0, none⟩)), .val (.pointer (some ⟨r, 0, none⟩)), .val (.int .i64 (i : Int)), .val (.int .i64 (m : Int)), .val (.int .i64 ((i : Int) + (m : Int))), .val (.pointer (some ⟨r, 0, none⟩)), .val (.pointer (some ⟨r, 0, none⟩)), .val (.pointer (some ⟨r, 3, none⟩)), .val (.string (str l)), .val (.int .i64 (l.length : Int)), .val (.bool false), .val (.bool false), .val undef, .val undef, .val undef, .val undef, .val undef, .val undef, .val undef, .val undef, .val undef, .val undef, .val undef, .val undef, .val undef, .val undef, .val (.bool false)] (by kernel_rfl) (by kernel_rfl) (Abv.start _) ?_
    refine fsteps_val (fun W hC hh => opok_value (v := (.pointer (some ⟨r, 0, none⟩))) (by rfl) (by rfl) rfl hC (G0.refl _)) ?_
    simp only [nf0, nf1, nf2, nf3, nf4]
    refine fsteps_val (fun W hC hh => opok_value (v := (.pointer (some ⟨r, 0, none⟩))) (by rfl) (run_check (.tmp 6) rfl rfl W) rfl hC (G0.refl _)) ?_
    simp only [nf0, nf1, nf2, nf3, nf4]
    refine fsteps_val (fun W hC hh => opok_value (v := (.pointer (some ⟨r, 0, none⟩))) (by rfl) (run_fieldA (.tmp 7) rfl b_fld_45_0 rfl rfl W) rfl hC (G0.refl _)) ?_
    simp only [nf0, nf1, nf2, nf3, nf4]
    refine fsteps_val (fun W hC hh => opok_value (v := (.pointer (some ⟨r, 0, none⟩))) (by rfl) (run_fieldA (.tmp 8) rfl b_fld_43_0 rfl rfl W) rfl hC (G0.refl _)) ?_
    simp only [nf0, nf1, nf2, nf3, nf4]
    refine fsteps_val (fun W hC hh => opok_value (v := (.int .i64 (i : Int))) (by rfl) (run_loadB (.tmp 9) rfl b_one_3 rfl (hB.below hC) rfl) rfl hC (G0.refl _)) ?_
    simp only [nf0, nf1, nf2, nf3, nf4]
    refine fsteps_val (fun W hC hh => opok_value (v := (.int .i64 (m : Int))) (by rfl) (by rfl) rfl hC (G0.refl _)) ?_
    simp only [nf0, nf1, nf2, nf3, nf4]
    refine fsteps_val (fun W hC hh => opok_value (v := (.int .i64 ((i : Int) + (m : Int)))) (by rfl) (run_add_in (.tmp 10) (.tmp 11) rfl rfl rfl (by omega) W) rfl hC (G0.refl _)) ?_
    simp only [nf0, nf1, nf2, nf3, nf4]
    refine fsteps_val (fun W hC hh => opok_value (v := (.pointer (some ⟨r, 0, none⟩))) (by rfl) (by rfl) rfl hC (G0.refl _)) ?_
    simp only [nf0, nf1, nf2, nf3, nf4]
    refine fsteps_val (fun W hC hh => opok_value (v := (.pointer (some ⟨r, 0, none⟩))) (by rfl) (run_check (.tmp 13) rfl rfl W) rfl hC (G0.refl _)) ?_
    simp only [nf0, nf1, nf2, nf3, nf4]
    refine fsteps_val (fun W hC hh => opok_value (v := (.pointer (some ⟨r, 3, none⟩))) (by rfl) (run_fieldA (.tmp 14) rfl b_fld_45_1 rfl rfl W) rfl hC (G0.refl _)) ?_
    simp only [nf0, nf1, nf2, nf3, nf4]
    refine fsteps_val (fun W hC hh => opok_value (v := (.string (str l))) (by rfl) (run_loadB (.tmp 15) rfl b_one_9 rfl (hB.below hC) rfl) rfl hC (G0.refl _)) ?_
    simp only [nf0, nf1, nf2, nf3, nf4]
    refine fsteps_val (fun W hC hh => opok_value (v := (.int .i64 (l.length : Int))) (by rfl) (run_len_text (.tmp 16) rfl Try.underlying9 (l := l) rfl W) rfl hC (G0.refl _)) ?_
    simp only [nf0, nf1, nf2, nf3, nf4]
    refine fsteps_val (fun W hC hh => opok_value (v := (.bool false)) (by rfl) ((run_lss (.tmp 12) (.tmp 17) rfl rfl rfl W).trans (by rw [hg3])) rfl hC (G0.refl _)) ?_
    simp only [nf0, nf1, nf2, nf3, nf4]
    refine fsteps_val (fun W hC hh => opok_value (v := (.bool false)) (by rfl) (by rfl) rfl hC (G0.refl _)) ?_
    simp only [nf0, nf1, nf2, nf3, nf4]
    refine fsteps_val (fun W hC hh => opok_not (by rfl) rfl (G0.refl _)) ?_
    simp only [nf0, nf1, nf2, nf3, nf4]
    refine fsteps_val (fun W hC hh => opok_not (by rfl) rfl (G0.refl _)) ?_
    simp only [nf0, nf1, nf2, nf3, nf4]
    refine fsteps_val (fun W hC hh => opok_not (by rfl) rfl (G0.refl _)) ?_
    simp only [nf0, nf1, nf2, nf3, nf4]
    refine fsteps_val (fun W hC hh => opok_not (by rfl) rfl (G0.refl _)) ?_
    simp only [nf0, nf1, nf2, nf3, nf4]
    refine fsteps_val (fun W hC hh => opok_not (by rfl) rfl (G0.refl _)) ?_
    simp only [nf0, nf1, nf2, nf3, nf4]
    refine fsteps_val (fun W hC hh => opok_not (by rfl) rfl (G0.refl _)) ?_
    simp only [nf0, nf1, nf2, nf3, nf4]
    refine fsteps_val (fun W hC hh => opok_not (by rfl) rfl (G0.refl _)) ?_
    simp only [nf0, nf1, nf2, nf3, nf4]
    refine fsteps_val (fun W hC hh => opok_not (by rfl) rfl (G0.refl _)) ?_
    simp only [nf0, nf1, nf2, nf3, nf4]
    refine fsteps_val (fun W hC hh => opok_not (by rfl) rfl (G0.refl _)) ?_
    simp only [nf0, nf1, nf2, nf3, nf4]
    refine fsteps_val (fun W hC hh => opok_not (by rfl) rfl (G0.refl _)) ?_
    simp only [nf0, nf1, nf2, nf3, nf4]
    refine fsteps_val (fun W hC hh => opok_not (by rfl) rfl (G0.refl _)) ?_
    simp only [nf0, nf1, nf2, nf3, nf4]
    refine fsteps_val (fun W hC hh => opok_not (by rfl) rfl (G0.refl _)) ?_
    simp only [nf0, nf1, nf2, nf3, nf4]
    refine fsteps_val (fun W hC hh => opok_not (by rfl) rfl (G0.refl _)) ?_
    simp only [nf0, nf1, nf2, nf3, nf4]
    refine fsteps_val (fun W hC hh => opok_not (by rfl) rfl (G0.refl _)) ?_
    simp only [nf0, nf1, nf2, nf3, nf4]
    refine fsteps_val (fun W hC hh => opok_value (v := (.bool false)) (by rfl) (by rfl) rfl hC (G0.refl _)) ?_
    simp only [nf0, nf1, nf2, nf3, nf4]
    refine fsteps_nil fun w5 hC _ => ?_
    replace hC : Below w2.heap.size w2 w5 := hC
    replace hB := hB.below hC
    replace bel := bl_step bel hC
    clear hC
    show Code.wp _ _ _ _ _
    refine wp_cond_false rfl ?_
    refine wp_exit ?_
    show Code.wp _ _ _ _ _
    refine wp_seq ?_
    refine wp_region_lit ?_
    refine st_mv (.int .i64 (m : Int)) ?_
    simp only [nf0, nf1, nf2, nf3, nf4]
    refine st_mv (.int .i64 (m : Int)) ?_
    simp only [nf0, nf1, nf2, nf3, nf4]
    refine wpList_nil ?_
    show Code.wp _ _ _ _ _
    refine wp_ret ?_
    first | show bodyPost _ _ _ _ _ _ | (simp only [Exit.then, Exit.inBlock]; show bodyPost _ _ _ _ _ _)
    have hE : ext noNL l i = i + m := (by omega)
    exact bodyPost_ret (results_tmp rfl _ _ _) rfl ⟨by rw [hE, Nat.add_sub_cancel_left]; rfl, bel⟩
  have hp6 := of_decide_eq_true hg3
  refine wp_region_facts_lit (C := Abv w2) (G := G0) [.val (.pointer (some ⟨r, 0, none⟩)), .val (.pointer (some ⟨r, 0, none⟩)), .val (.pointer (some ⟨r, 0, none⟩)), .val (.pointer (some ⟨r, 0, none⟩)), .val (.int .i64 (i : Int)), .val (.int .i64 (m : Int)), .val (.int .i64 ((i : Int) + (m : Int))), .val (.pointer (some ⟨r, 0, none⟩)), .val (.pointer (some ⟨r, 0, none⟩)), .val (.pointer (some ⟨r, 3, none⟩)), .val (.string (str l)), .val (.int .i64 (l.length : Int)), .val (.bool true), .val (.bool true), .val (.func (.func 33) #[] #[]), .val (.pointer (some ⟨r, 0, none⟩)), .val (.pointer (some ⟨r, 0, none⟩)), .val (.pointer (some ⟨r, 3, none⟩)), .val (.string (str l)), .val (.pointer (some ⟨r, 0, none⟩)), .val (.pointer (some ⟨r, 0, none⟩)), .val (.pointer (some ⟨r, 0, none⟩)), .val (.pointer (some ⟨r, 0, none⟩)), .val (.int .i64 (i : Int)), .val (.int .i64 (m : Int)), .val (.int .i64 ((i : Int) + (m : Int))), .val (.int .u8 (chr l (i + m))), .val (.bool (noNL (chr l (i + m)))), .val (.bool (noNL (chr l (i + m))))] (by kernel_rfl) (by kernel_rfl) (Abv.start _) ?_
  refine fsteps_val (fun W hC hh => opok_value (v := (.pointer (some ⟨r, 0, none⟩))) (by rfl) (by rfl) rfl hC (G0.refl _)) ?_
  simp only [nf0, nf1, nf2, nf3, nf4]
  refine fsteps_val (fun W hC hh => opok_value (v := (.pointer (some ⟨r, 0, none⟩))) (by rfl) (run_check (.tmp 6) rfl rfl W) rfl hC (G0.refl _)) ?_
  simp only [nf0, nf1, nf2, nf3, nf4]
  refine fsteps_val (fun W hC hh => opok_value (v := (.pointer (some ⟨r, 0, none⟩))) (by rfl) (run_fieldA (.tmp 7) rfl b_fld_45_0 rfl rfl W) rfl hC (G0.refl _)) ?_
  simp only [nf0, nf1, nf2, nf3, nf4]
  refine fsteps_val (fun W hC hh => opok_value (v := (.pointer (some ⟨r, 0, none⟩))) (by rfl) (run_fieldA (.tmp 8) rfl b_fld_43_0 rfl rfl W) rfl hC (G0.refl _)) ?_
  simp only [nf0, nf1, nf2, nf3, nf4]
  refine fsteps_val (fun W hC hh => opok_value (v := (.int .i64 (i : Int))) (by rfl) (run_loadB (.tmp 9) rfl b_one_3 rfl (hB.below hC) rfl) rfl hC (G0.refl _)) ?_
  simp only [nf0, nf1, nf2, nf3, nf4]
  refine fsteps_val (fun W hC hh => opok_value (v := (.int .i64 (m : Int))) (by rfl) (by rfl) rfl hC (G0.refl _)) ?_
  simp only [nf0, nf1, nf2, nf3, nf4]
  refine fsteps_val (fun W hC hh => opok_value (v := (.int .i64 ((i : Int) + (m : Int)))) (by rfl) (run_add_in (.tmp 10) (.tmp 11) rfl rfl rfl (by omega) W) rfl hC (G0.refl _)) ?_
  simp only [nf0, nf1, nf2, nf3, nf4]
  refine fsteps_val (fun W hC hh => opok_value (v := (.pointer (some ⟨r, 0, none⟩))) (by rfl) (by rfl) rfl hC (G0.refl _)) ?_
  simp only [nf0, nf1, nf2, nf3, nf4]
  refine fsteps_val (fun W hC hh => opok_value (v := (.pointer (some ⟨r, 0, none⟩))) (by rfl) (run_check (.tmp 13) rfl rfl W) rfl hC (G0.refl _)) ?_
  simp only [nf0, nf1, nf2, nf3, nf4]
  refine fsteps_val (fun W hC hh => opok_value (v := (.pointer (some ⟨r, 3, none⟩))) (by rfl) (run_fieldA (.tmp 14) rfl b_fld_45_1 rfl rfl W) rfl hC (G0.refl _)) ?_
  simp only [nf0, nf1, nf2, nf3, nf4]
  refine fsteps_val (fun W hC hh => opok_value (v := (.string (str l))) (by rfl) (run_loadB (.tmp 15) rfl b_one_9 rfl (hB.below hC) rfl) rfl hC (G0.refl _)) ?_
  simp only [nf0, nf1, nf2, nf3, nf4]
  refine fsteps_val (fun W hC hh => opok_value (v := (.int .i64 (l.length : Int))) (by rfl) (run_len_text (.tmp 16) rfl Try.underlying9 (l := l) rfl W) rfl hC (G0.refl _)) ?_
  simp only [nf0, nf1, nf2, nf3, nf4]
  refine fsteps_val (fun W hC hh => opok_value (v := (.bool true)) (by rfl) ((run_lss (.tmp 12) (.tmp 17) rfl rfl rfl W).trans (by rw [hg3])) rfl hC (G0.refl _)) ?_
  simp only [nf0, nf1, nf2, nf3, nf4]
  refine fsteps_val (fun W hC hh => opok_value (v := (.bool true)) (by rfl) (by rfl) rfl hC (G0.refl _)) ?_
  simp only [nf0, nf1, nf2, nf3, nf4]
  refine fsteps_val (fun W hC hh => opok_value (v := (.func (.func 33) #[] #[])) (by rfl) (by rfl) rfl hC (G0.refl _)) ?_
  simp only [nf0, nf1, nf2, nf3, nf4]
  refine fsteps_val (fun W hC hh => opok_value (v := (.pointer (some ⟨r, 0, none⟩))) (by rfl) (by rfl) rfl hC (G0.refl _)) ?_
  simp only [nf0, nf1, nf2, nf3, nf4]
  refine fsteps_val (fun W hC hh => opok_value (v := (.pointer (some ⟨r, 0, none⟩))) (by rfl) (run_check (.tmp 21) rfl rfl W) rfl hC (G0.refl _)) ?_
  simp only [nf0, nf1, nf2, nf3, nf4]
  refine fsteps_val (fun W hC hh => opok_value (v := (.pointer (some ⟨r, 3, none⟩))) (by rfl) (run_fieldA (.tmp 22) rfl b_fld_45_1 rfl rfl W) rfl hC (G0.refl _)) ?_
  simp only [nf0, nf1, nf2, nf3, nf4]
  refine fsteps_val (fun W hC hh => opok_value (v := (.string (str l))) (by rfl) (run_loadB (.tmp 23) rfl b_one_9 rfl (hB.below hC) rfl) rfl hC (G0.refl _)) ?_
  simp only [nf0, nf1, nf2, nf3, nf4]
  refine fsteps_val (fun W hC hh => opok_value (v := (.pointer (some ⟨r, 0, none⟩))) (by rfl) (by rfl) rfl hC (G0.refl _)) ?_
  simp only [nf0, nf1, nf2, nf3, nf4]
  refine fsteps_val (fun W hC hh => opok_value (v := (.pointer (some ⟨r, 0, none⟩))) (by rfl) (run_check (.tmp 25) rfl rfl W) rfl hC (G0.refl _)) ?_
  simp only [nf0, nf1, nf2, nf3, nf4]
  refine fsteps_val (fun W hC hh => opok_value (v := (.pointer (some ⟨r, 0, none⟩))) (by rfl) (run_fieldA (.tmp 26) rfl b_fld_45_0 rfl rfl W) rfl hC (G0.refl _)) ?_
  simp only [nf0, nf1, nf2, nf3, nf4]
  refine fsteps_val (fun W hC hh => opok_value (v := (.pointer (some ⟨r, 0, none⟩))) (by rfl) (run_fieldA (.tmp 27) rfl b_fld_43_0 rfl rfl W) rfl hC (G0.refl _)) ?_
  simp only [nf0, nf1, nf2, nf3, nf4]
  refine fsteps_val (fun W hC hh => opok_value (v := (.int .i64 (i : Int))) (by rfl) (run_loadB (.tmp 28) rfl b_one_3 rfl (hB.below hC) rfl) rfl hC (G0.refl _)) ?_
  simp only [nf0, nf1, nf2, nf3, nf4]
  refine fsteps_val (fun W hC hh => opok_value (v := (.int .i64 (m : Int))) (by rfl) (by rfl) rfl hC (G0.refl _)) ?_
  simp only [nf0, nf1, nf2, nf3, nf4]
  refine fsteps_val (fun W hC hh => opok_value (v := (.int .i64 ((i : Int) + (m : Int)))) (by rfl) (run_add_in (.tmp 29) (.tmp 30) rfl rfl rfl (by omega) W) rfl hC (G0.refl _)) ?_
  simp only [nf0, nf1, nf2, nf3, nf4]
  refine fsteps_val (fun W hC hh => opok_value (v := (.int .u8 (chr l (i + m)))) (by rfl) (run_index_text (.tmp 24) (.tmp 31) rfl Try.underlying9 (l := l) rfl rfl (i + m) (by omega) (by omega) W) rfl hC (G0.refl _)) ?_
  simp only [nf0, nf1, nf2, nf3, nf4]
  refine fsteps_val (fun W hC hh => opok_call (by rfl) (b_run_callc_33_1_0 (.tmp 20) (.tmp 32) rfl rfl rfl W) ((gap1_calls (chr l (i + m)) W).mono fun e W' ⟨h1, h2⟩ => ⟨_, h1, rfl, hC.step h2, h2⟩)) ?_
  simp only [nf0, nf1, nf2, nf3, nf4]
  refine fsteps_val (fun W hC hh => opok_value (v := (.bool (noNL (chr l (i + m))))) (by rfl) (by rfl) rfl hC (G0.refl _)) ?_
  simp only [nf0, nf1, nf2, nf3, nf4]
  refine fsteps_nil fun w7 hC _ => ?_
  replace hC : Below w2.heap.size w2 w7 := hC
  replace hB := hB.below hC
  replace bel := bl_step bel hC
  clear hC
  show Code.wp _ _ _ _ _
  cases hg8 : noNL (chr l (i + m))
  rotate_left
  · have hp10 := trivial
    refine wp_cond_true rfl ?_
    refine wp_skip ?_
    show Code.wp _ _ _ _ _
    refine wp_block ?_
    refine wp_region_lit ?_
    refine st_mv (.int .i64 (m : Int)) ?_
    simp only [nf0, nf1, nf2, nf3, nf4]
    refine st_value (v := (.int .i64 ((m : Int) + 1))) (by rfl) (run_add_in (.tmp 35) (.const (.int .i64 1)) rfl rfl rfl (by omega) w7) ?_
    simp only [nf0, nf1, nf2, nf3, nf4]
    refine st_mv (.int .i64 ((m : Int) + 1)) ?_
    simp only [nf0, nf1, nf2, nf3, nf4]
    refine wpList_nil ?_
    show ∃ m, m < _ ∧ _
    exact ⟨_, (by omega), (m + 1), rfl, rfl, hB, bel, (ext_more hn (by omega) hg8)⟩
  have hp9 := trivial
  refine wp_cond_false rfl ?_
  refine wp_exit ?_
  show Code.wp _ _ _ _ _
  refine wp_seq ?_
  refine wp_region_lit ?_
  refine st_mv (.int .i64 (m : Int)) ?_
  simp only [nf0, nf1, nf2, nf3, nf4]
  refine st_mv (.int .i64 (m : Int)) ?_
  simp only [nf0, nf1, nf2, nf3, nf4]
  refine wpList_nil ?_
  show Code.wp _ _ _ _ _
  refine wp_ret ?_
  first | show bodyPost _ _ _ _ _ _ | (simp only [Exit.then, Exit.inBlock]; show bodyPost _ _ _ _ _ _)
  have hE : ext noNL l i = i + m := (ext_here hn hg8)
  exact bodyPost_ret (results_tmp rfl _ _ _) rfl ⟨by rw [hE, Nat.add_sub_cancel_left]; rfl, bel⟩
set_option maxRecDepth 100000 in
set_option maxHeartbeats 4000000 in
theorem pass_calls {w : World} {r i : Nat} {l : List UInt8} (n : Nat) (hB : Blk w r #[.int .i64 (i : Int), .int .i64 (((lnS l i).1 : Nat) : Int), .int .i64 (((lnS l i).2 : Nat) : Int), .string (str l)] 45) (hin : i + n ≤ l.length) (hl : l.length ≤ 1000000) : Calls Try.prog 30 #[.pointer (some ⟨r, 0, none⟩), .int .i64 (n : Int)] w fun e w' => ∃ u, e = .returned u ∧ u = .string (str ((l.take (i + n)).drop i)) ∧ Blk w' r #[.int .i64 ((i + n : Nat) : Int), .int .i64 (((lnS l (i + n)).1 : Nat) : Int), .int .i64 (((lnS l (i + n)).2 : Nat) : Int), .string (str l)] 45 ∧ Fr [r] w w' := by
  have bel : Fr [r] w w := Fr.refl _ _
  have hs : ((l.take (i + n)).drop i).length = n := by rw [sub_len hin]; omega
  go_enter Try.func30, Try.ntmps30
  refine wp_seq ?_
  refine wp_region_lit ?_
  refine st_mv (.string (str [])) ?_
  simp only [nf0, nf1, nf2, nf3, nf4]
  refine wpList_nil ?_
  show Code.wp _ _ _ _ _
  refine wp_seq ?_
  refine wp_region_facts_lit (C := Abv w) (G := G0) [.val (.pointer (some ⟨r, 0, none⟩)), .val (.pointer (some ⟨r, 0, none⟩)), .val (.pointer (some ⟨r, 3, none⟩)), .val (.string (str l)), .val (.pointer (some ⟨r, 0, none⟩)), .val (.pointer (some ⟨r, 0, none⟩)), .val (.pointer (some ⟨r, 0, none⟩)), .val (.pointer (some ⟨r, 0, none⟩)), .val (.int .i64 (i : Int)), .val (.pointer (some ⟨r, 0, none⟩)), .val (.pointer (some ⟨r, 0, none⟩)), .val (.pointer (some ⟨r, 0, none⟩)), .val (.pointer (some ⟨r, 0, none⟩)), .val (.int .i64 (i : Int)), .val (.int .i64 (n : Int)), .val (.int .i64 ((i : Int) + (n : Int))), .val (.string (str ((l.take (i + n)).drop i))), .val (.string (str ((l.take (i + n)).drop i)))] (by kernel_rfl) (by kernel_rfl) (Abv.start _) ?_
  refine fsteps_val (fun W hC hh => opok_value (v := (.pointer (some ⟨r, 0, none⟩))) (by rfl) (by rfl) rfl hC (G0.refl _)) ?_
  simp only [nf0, nf1, nf2, nf3, nf4]
  refine fsteps_val (fun W hC hh => opok_value (v := (.pointer (some ⟨r, 0, none⟩))) (by rfl) (run_check (.tmp 7) rfl rfl W) rfl hC (G0.refl _)) ?_
  simp only [nf0, nf1, nf2, nf3, nf4]
  refine fsteps_val (fun W hC hh => opok_value (v := (.pointer (some ⟨r, 3, none⟩))) (by rfl) (run_fieldA (.tmp 8) rfl b_fld_45_1 rfl rfl W) rfl hC (G0.refl _)) ?_
  simp only [nf0, nf1, nf2, nf3, nf4]
  refine fsteps_val (fun W hC hh => opok_value (v := (.string (str l))) (by rfl) (run_loadB (.tmp 9) rfl b_one_9 rfl (hB.below hC) rfl) rfl hC (G0.refl _)) ?_
  simp only [nf0, nf1, nf2, nf3, nf4]
  refine fsteps_val (fun W hC hh => opok_value (v := (.pointer (some ⟨r, 0, none⟩))) (by rfl) (by rfl) rfl hC (G0.refl _)) ?_
  simp only [nf0, nf1, nf2, nf3, nf4]
  refine fsteps_val (fun W hC hh => opok_value (v := (.pointer (some ⟨r, 0, none⟩))) (by rfl) (run_check (.tmp 11) rfl rfl W) rfl hC (G0.refl _)) ?_
  simp only [nf0, nf1, nf2, nf3, nf4]
  refine fsteps_val (fun W hC hh => opok_value (v := (.pointer (some ⟨r, 0, none⟩))) (by rfl) (run_fieldA (.tmp 12) rfl b_fld_45_0 rfl rfl W) rfl hC (G0.refl _)) ?_
  simp only [nf0, nf1, nf2, nf3, nf4]
  refine fsteps_val (fun W hC hh => opok_value (v := (.pointer (some ⟨r, 0, none⟩))) (by rfl) (run_fieldA (.tmp 13) rfl b_fld_43_0 rfl rfl W) rfl hC (G0.refl _)) ?_
  simp only [nf0, nf1, nf2, nf3, nf4]
  refine fsteps_val (fun W hC hh => opok_value (v := (.int .i64 (i : Int))) (by rfl) (run_loadB (.tmp 14) rfl b_one_3 rfl (hB.below hC) rfl) rfl hC (G0.refl _)) ?_
  simp only [nf0, nf1, nf2, nf3, nf4]
  refine fsteps_val (fun W hC hh => opok_value (v := (.pointer (some ⟨r, 0, none⟩))) (by rfl) (by rfl) rfl hC (G0.refl _)) ?_
  simp only [nf0, nf1, nf2, nf3, nf4]
  refine fsteps_val (fun W hC hh => opok_value (v := (.pointer (some ⟨r, 0, none⟩))) (by rfl) (run_check (.tmp 16) rfl rfl W) rfl hC (G0.refl _)) ?_
  simp only [nf0, nf1, nf2, nf3, nf4]
  refine fsteps_val (fun W hC hh => opok_value (v := (.pointer (some ⟨r, 0, none⟩))) (by rfl) (run_fieldA (.tmp 17) rfl b_fld_45_0 rfl rfl W) rfl hC (G0.refl _)) ?_
  simp only [nf0, nf1, nf2, nf3, nf4]
  refine fsteps_val (fun W hC hh => opok_value (v := (.pointer (some ⟨r, 0, none⟩))) (by rfl) (run_fieldA (.tmp 18) rfl b_fld_43_0 rfl rfl W) rfl hC (G0.refl _)) ?_
  simp only [nf0, nf1, nf2, nf3, nf4]
  refine fsteps_val (fun W hC hh => opok_value (v := (.int .i64 (i : Int))) (by rfl) (run_loadB (.tmp 19) rfl b_one_3 rfl (hB.below hC) rfl) rfl hC (G0.refl _)) ?_
  simp only [nf0, nf1, nf2, nf3, nf4]
  refine fsteps_val (fun W hC hh => opok_value (v := (.int .i64 (n : Int))) (by rfl) (by rfl) rfl hC (G0.refl _)) ?_
  simp only [nf0, nf1, nf2, nf3, nf4]
  refine fsteps_val (fun W hC hh => opok_value (v := (.int .i64 ((i : Int) + (n : Int)))) (by rfl) (run_add_in (.tmp 20) (.tmp 21) rfl rfl rfl (by omega) W) rfl hC (G0.refl _)) ?_
  simp only [nf0, nf1, nf2, nf3, nf4]
  refine fsteps_val (fun W hC hh => opok_value (v := (.string (str ((l.take (i + n)).drop i)))) (by rfl) (run_sub_text (.tmp 10) (.tmp 15) (.tmp 22) rfl Try.underlying9 (l := l) (p := i) (q := (i + n)) rfl rfl rfl (by omega) (by omega) (by omega) (by omega) W) rfl hC (G0.refl _)) ?_
  simp only [nf0, nf1, nf2, nf3, nf4]
  refine fsteps_val (fun W hC hh => opok_value (v := (.string (str ((l.take (i + n)).drop i)))) (by rfl) (by rfl) rfl hC (G0.refl _)) ?_
  simp only [nf0, nf1, nf2, nf3, nf4]
  refine fsteps_nil fun w1 hC _ => ?_
  replace hC : Below w.heap.size w w1 := hC
  replace hB := hB.below hC
  replace bel := fr_step bel hC
  clear hC
  show Code.wp _ _ _ _ _
  refine wp_seq ?_
  refine wp_seq ?_
  refine wp_region_lit ?_
  refine st_mv (.int .i64 (n : Int)) ?_
  simp only [nf0, nf1, nf2, nf3, nf4]
  refine st_mv (.int .i64 0) ?_
  simp only [nf0, nf1, nf2, nf3, nf4]
  refine wpList_nil ?_
  show Code.wp _ _ _ _ _
  refine wp_block ?_
  refine wp_loop_left (fun n_ a_ wr_ => (fun J2 => ∃ (k : Nat), n_ = n - k ∧ a_ = ⟨#[.pointer (some ⟨r, 0, none⟩), .int .i64 (n : Int), J2 2, J2 3, .string (str []), .string (str ((l.take (i + n)).drop i)), J2 6, J2 7, J2 8, J2 9, J2 10, J2 11, J2 12, J2 13, J2 14, J2 15, J2 16, J2 17, J2 18, J2 19, J2 20, J2 21, J2 22, J2 23, .int .i64 (n : Int), .int .i64 (k : Int), J2 26, J2 27, J2 28, J2 29, J2 30, J2 31, J2 32, J2 33, J2 34, J2 35, J2 36, J2 37, J2 38, J2 39, J2 40, J2 41, J2 42, J2 43, J2 44, J2 45, J2 46, J2 47, J2 48, J2 49, J2 50, J2 51, J2 52, J2 53, J2 54, J2 55, J2 56, J2 57, J2 58, J2 59, J2 60, J2 61, J2 62, J2 63, J2 64], []⟩ ∧ Blk wr_ r #[.int .i64 (i : Int), .int .i64 (((lnS l (i + k)).1 : Nat) : Int), .int .i64 (((lnS l (i + k)).2 : Nat) : Int), .string (str l)] 45 ∧ Fr [r] w wr_ ∧ (k ≤ n)) (jk a_)) (n - 0) ⟨0, rfl, rfl, hB, bel, (Nat.zero_le _)⟩ ?_
  clear hB
  clear bel
  intro n_ a_ w3 h_
  revert h_
  generalize jk a_ = J2
  rintro ⟨k, hms, rfl, hB, bel, hk⟩
  refine wp_seq ?_
  refine wp_region_lit ?_
  refine st_value (v := (.bool (decide ((k : Int) < (n : Int))))) (by rfl) (run_lss (.tmp 25) (.tmp 24) rfl rfl rfl w3) ?_
  simp only [nf0, nf1, nf2, nf3, nf4]
  refine wpList_nil ?_
  show Code.wp _ _ _ _ _
  refine wp_seq ?_
  cases hg4 : decide ((k : Int) < (n : Int))
  · have hp5 := of_decide_eq_false hg4
    refine wp_cond_false rfl ?_
    refine wp_exit ?_
    show Code.wp _ _ _ _ _
    refine wp_seq ?_
    have hkn : k = n := by omega
    refine wp_region_lit ?_
    refine st_mv (.pointer (some ⟨r, 0, none⟩)) ?_
    simp only [nf0, nf1, nf2, nf3, nf4]
    refine st_value (v := (.pointer (some ⟨r, 0, none⟩))) (by rfl) (run_check (.tmp 54) rfl rfl w3) ?_
    simp only [nf0, nf1, nf2, nf3, nf4]
    refine st_value (v := (.pointer (some ⟨r, 0, none⟩))) (by rfl) (run_fieldA (.tmp 55) rfl b_fld_45_0 rfl rfl w3) ?_
    simp only [nf0, nf1, nf2, nf3, nf4]
    refine st_value (v := (.pointer (some ⟨r, 0, none⟩))) (by rfl) (run_fieldA (.tmp 56) rfl b_fld_43_0 rfl rfl w3) ?_
    simp only [nf0, nf1, nf2, nf3, nf4]
    refine st_value (v := (.int .i64 (i : Int))) (by rfl) (run_loadB (.tmp 57) rfl b_one_3 rfl hB rfl) ?_
    simp only [nf0, nf1, nf2, nf3, nf4]
    refine st_mv (.int .i64 (n : Int)) ?_
    simp only [nf0, nf1, nf2, nf3, nf4]
    refine st_value (v := (.int .i64 ((i : Int) + (n : Int)))) (by rfl) (run_add_in (.tmp 58) (.tmp 59) rfl rfl rfl (by omega) w3) ?_
    simp only [nf0, nf1, nf2, nf3, nf4]
    refine st_value (v := (.pointer (some ⟨r, 0, none⟩))) (by rfl) (run_check (.tmp 54) rfl rfl w3) ?_
    simp only [nf0, nf1, nf2, nf3, nf4]
    refine st_value (v := (.pointer (some ⟨r, 0, none⟩))) (by rfl) (run_fieldA (.tmp 61) rfl b_fld_45_0 rfl rfl w3) ?_
    simp only [nf0, nf1, nf2, nf3, nf4]
    refine st_value (v := (.pointer (some ⟨r, 0, none⟩))) (by rfl) (run_fieldA (.tmp 62) rfl b_fld_43_0 rfl rfl w3) ?_
    simp only [nf0, nf1, nf2, nf3, nf4]
    refine st_cell (v := (.int .i64 ((i : Int) + (n : Int)))) (by rfl) (run_storeB (.tmp 63) (.tmp 60) rfl b_one_3 hB (show 0 < 4 by decide) rfl rfl rfl rfl) hB ?_
    intro w6 B8 hg7
    simp only [nf0, nf1, nf2, nf3, nf4]
    replace bel := fr_in bel hg7 (by simp)
    clear hg7
    clear hB
    replace B8 : Blk w6 r #[.int .i64 ((i : Int) + (n : Int)), .int .i64 (((lnS l (i + k)).1 : Nat) : Int), .int .i64 (((lnS l (i + k)).2 : Nat) : Int), .string (str l)] 45 := B8
    refine wpList_nil ?_
    show Code.wp _ _ _ _ _
    refine wp_seq ?_
    refine wp_region_lit ?_
    refine st_mv (.string (str ((l.take (i + n)).drop i))) ?_
    simp only [nf0, nf1, nf2, nf3, nf4]
    refine st_mv (.string (str ((l.take (i + n)).drop i))) ?_
    simp only [nf0, nf1, nf2, nf3, nf4]
    refine wpList_nil ?_
    show Code.wp _ _ _ _ _
    refine wp_ret ?_
    first | show bodyPost _ _ _ _ _ _ | (simp only [Exit.then, Exit.inBlock]; show bodyPost _ _ _ _ _ _)
    exact bodyPost_ret (results_tmp rfl _ _ _) rfl ⟨_, rfl, rfl, by have h_ := B8; rw [hkn] at h_; exact h_, bel⟩
  have hp9 := of_decide_eq_true hg4
  refine wp_cond_true rfl ?_
  refine wp_skip ?_
  show Code.wp _ _ _ _ _
  refine wp_seq ?_
  refine wp_block ?_
  refine wp_seq ?_
  refine wp_region_lit ?_
  refine st_mv (.int .i64 (k : Int)) ?_
  simp only [nf0, nf1, nf2, nf3, nf4]
  refine st_mv (.int .i64 (k : Int)) ?_
  simp only [nf0, nf1, nf2, nf3, nf4]
  refine wpList_nil ?_
  show Code.wp _ _ _ _ _
  refine wp_seq ?_
  have hck : chr ((l.take (i + n)).drop i) k = chr l (i + k) := by have := chr_sub (l := l) (e := i) (n := i + n) (i := i + k) (by omega) (by omega); rwa [Nat.add_sub_cancel_left] at this
  refine wp_region_lit ?_
  refine st_mv (.string (str ((l.take (i + n)).drop i))) ?_
  simp only [nf0, nf1, nf2, nf3, nf4]
  refine st_mv (.int .i64 (k : Int)) ?_
  simp only [nf0, nf1, nf2, nf3, nf4]
  refine st_value (v := (.int .u8 (chr ((l.take (i + n)).drop i) k))) (by rfl) (run_index_text (.tmp 28) (.tmp 29) rfl Try.underlying9 (l := ((l.take (i + n)).drop i)) rfl rfl k (by omega) (by omega) w3) ?_
  simp only [nf0, nf1, nf2, nf3, nf4]
  refine st_value (v := (.bool (decide ((chr ((l.take (i + n)).drop i) k) = 10)))) (by rfl) (run_eql_int (.tmp 30) (.const (.int .u8 10)) rfl rfl rfl w3) ?_
  simp only [nf0, nf1, nf2, nf3, nf4]
  refine wpList_nil ?_
  show Code.wp _ _ _ _ _
  cases hg10 : decide ((chr ((l.take (i + n)).drop i) k) = 10)
  · have hp11 := of_decide_eq_false hg10
    have hc : chr l (i + k) ≠ 10 := by rw [← hck]; assumption
    refine wp_cond_false rfl ?_
    refine wp_skip ?_
    show Code.wp _ _ _ _ _
    refine wp_region_lit ?_
    refine st_value (v := (.int .i64 ((k : Int) + 1))) (by rfl) (run_add_in (.tmp 25) (.const (.int .i64 1)) rfl rfl rfl (by omega) w3) ?_
    simp only [nf0, nf1, nf2, nf3, nf4]
    refine st_mv (.int .i64 ((k : Int) + 1)) ?_
    simp only [nf0, nf1, nf2, nf3, nf4]
    refine wpList_nil ?_
    show ∃ m, m < _ ∧ _
    exact ⟨_, (by omega), (k + 1), rfl, rfl, (by have h_ := hB; rw [show i + (k + 1) = i + k + 1 from rfl, lnS_no hc]; exact h_), bel, (by omega)⟩
  have hp12 := of_decide_eq_true hg10
  have hc : chr l (i + k) = 10 := by rw [← hck]; assumption
  refine wp_cond_true rfl ?_
  refine wp_seq ?_
  have hll := lnS_le l (i + k)
  refine wp_region_lit ?_
  refine st_mv (.pointer (some ⟨r, 0, none⟩)) ?_
  simp only [nf0, nf1, nf2, nf3, nf4]
  refine st_value (v := (.pointer (some ⟨r, 0, none⟩))) (by rfl) (run_check (.tmp 32) rfl rfl w3) ?_
  simp only [nf0, nf1, nf2, nf3, nf4]
  refine st_value (v := (.pointer (some ⟨r, 0, none⟩))) (by rfl) (run_fieldA (.tmp 33) rfl b_fld_45_0 rfl rfl w3) ?_
  simp only [nf0, nf1, nf2, nf3, nf4]
  refine st_value (v := (.pointer (some ⟨r, 1, none⟩))) (by rfl) (run_fieldA (.tmp 34) rfl b_fld_43_1 rfl rfl w3) ?_
  simp only [nf0, nf1, nf2, nf3, nf4]
  refine st_value (v := (.int .i64 (((lnS l (i + k)).1 : Nat) : Int))) (by rfl) (run_loadB (.tmp 35) rfl b_one_3 rfl hB rfl) ?_
  simp only [nf0, nf1, nf2, nf3, nf4]
  refine st_value (v := (.int .i64 ((((lnS l (i + k)).1 : Nat) : Int) + 1))) (by rfl) (run_add_in (.tmp 36) (.const (.int .i64 1)) rfl rfl rfl (by omega) w3) ?_
  simp only [nf0, nf1, nf2, nf3, nf4]
  refine st_value (v := (.pointer (some ⟨r, 0, none⟩))) (by rfl) (run_check (.tmp 32) rfl rfl w3) ?_
  simp only [nf0, nf1, nf2, nf3, nf4]
  refine st_value (v := (.pointer (some ⟨r, 0, none⟩))) (by rfl) (run_fieldA (.tmp 38) rfl b_fld_45_0 rfl rfl w3) ?_
  simp only [nf0, nf1, nf2, nf3, nf4]
  refine st_value (v := (.pointer (some ⟨r, 1, none⟩))) (by rfl) (run_fieldA (.tmp 39) rfl b_fld_43_1 rfl rfl w3) ?_
  simp only [nf0, nf1, nf2, nf3, nf4]
  refine st_cell (v := (.int .i64 ((((lnS l (i + k)).1 : Nat) : Int) + 1))) (by rfl) (run_storeB (.tmp 40) (.tmp 37) rfl b_one_3 hB (show 1 < 4 by decide) rfl rfl rfl rfl) hB ?_
  intro w13 B15 hg14
  simp only [nf0, nf1, nf2, nf3, nf4]
  replace bel := fr_in bel hg14 (by simp)
  clear hg14
  clear hB
  replace B15 : Blk w13 r #[.int .i64 (i : Int), .int .i64 ((((lnS l (i + k)).1 : Nat) : Int) + 1), .int .i64 (((lnS l (i + k)).2 : Nat) : Int), .string (str l)] 45 := B15
  refine wpList_nil ?_
  show Code.wp _ _ _ _ _
  refine wp_region_lit ?_
  refine st_mv (.pointer (some ⟨r, 0, none⟩)) ?_
  simp only [nf0, nf1, nf2, nf3, nf4]
  refine st_mv (.pointer (some ⟨r, 0, none⟩)) ?_
  simp only [nf0, nf1, nf2, nf3, nf4]
  refine st_value (v := (.pointer (some ⟨r, 0, none⟩))) (by rfl) (run_check (.tmp 42) rfl rfl w13) ?_
  simp only [nf0, nf1, nf2, nf3, nf4]
  refine st_value (v := (.pointer (some ⟨r, 0, none⟩))) (by rfl) (run_fieldA (.tmp 43) rfl b_fld_45_0 rfl rfl w13) ?_
  simp only [nf0, nf1, nf2, nf3, nf4]
  refine st_value (v := (.pointer (some ⟨r, 0, none⟩))) (by rfl) (run_fieldA (.tmp 44) rfl b_fld_43_0 rfl rfl w13) ?_
  simp only [nf0, nf1, nf2, nf3, nf4]
  refine st_value (v := (.int .i64 (i : Int))) (by rfl) (run_loadB (.tmp 45) rfl b_one_3 rfl B15 rfl) ?_
  simp only [nf0, nf1, nf2, nf3, nf4]
  refine st_mv (.int .i64 (k : Int)) ?_
  simp only [nf0, nf1, nf2, nf3, nf4]
  refine st_value (v := (.int .i64 ((i : Int) + (k : Int)))) (by rfl) (run_add_in (.tmp 46) (.tmp 47) rfl rfl rfl (by omega) w13) ?_
  simp only [nf0, nf1, nf2, nf3, nf4]
  refine st_value (v := (.int .i64 (((i : Int) + (k : Int)) + 1))) (by rfl) (run_add_in (.tmp 48) (.const (.int .i64 1)) rfl rfl rfl (by omega) w13) ?_
  simp only [nf0, nf1, nf2, nf3, nf4]
  refine st_value (v := (.pointer (some ⟨r, 0, none⟩))) (by rfl) (run_check (.tmp 41) rfl rfl w13) ?_
  simp only [nf0, nf1, nf2, nf3, nf4]
  refine st_value (v := (.pointer (some ⟨r, 0, none⟩))) (by rfl) (run_fieldA (.tmp 50) rfl b_fld_45_0 rfl rfl w13) ?_
  simp only [nf0, nf1, nf2, nf3, nf4]
  refine st_value (v := (.pointer (some ⟨r, 2, none⟩))) (by rfl) (run_fieldA (.tmp 51) rfl b_fld_43_2 rfl rfl w13) ?_
  simp only [nf0, nf1, nf2, nf3, nf4]
  refine st_cell (v := (.int .i64 (((i : Int) + (k : Int)) + 1))) (by rfl) (run_storeB (.tmp 52) (.tmp 49) rfl b_one_3 B15 (show 2 < 4 by decide) rfl rfl rfl rfl) B15 ?_
  intro w16 B18 hg17
  simp only [nf0, nf1, nf2, nf3, nf4]
  replace bel := fr_in bel hg17 (by simp)
  clear hg17
  clear B15
  replace B18 : Blk w16 r #[.int .i64 (i : Int), .int .i64 ((((lnS l (i + k)).1 : Nat) : Int) + 1), .int .i64 (((i : Int) + (k : Int)) + 1), .string (str l)] 45 := B18
  refine wpList_nil ?_
  show Code.wp _ _ _ _ _
  refine wp_region_lit ?_
  refine st_value (v := (.int .i64 ((k : Int) + 1))) (by rfl) (run_add_in (.tmp 25) (.const (.int .i64 1)) rfl rfl rfl (by omega) w16) ?_
  simp only [nf0, nf1, nf2, nf3, nf4]
  refine st_mv (.int .i64 ((k : Int) + 1)) ?_
  simp only [nf0, nf1, nf2, nf3, nf4]
  refine wpList_nil ?_
  show ∃ m, m < _ ∧ _
  exact ⟨_, (by omega), (k + 1), rfl, rfl, (by have h_ := B18; rw [show i + (k + 1) = i + k + 1 from rfl, lnS_yes hc]; exact h_), bel, (by omega)⟩
end Go.Proofs.Ytkebpmcgmmhifaa

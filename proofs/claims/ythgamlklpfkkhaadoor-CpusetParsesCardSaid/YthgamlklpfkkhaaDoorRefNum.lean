/- What the reference's number does. -/
import Derived.Test.YthgamlklpfkkhaaDoorNum
import Derived.Test.YthgamlklpfkkhaaDoorCut
import Derived.Test.YthgamlklpfkkhaaDoorMore
namespace Go.Proofs.YthgamlklpfkkhaaDoor
open Go.RowKit Go.WideShapes Go.ChangeShapes
set_option linter.unusedSimpArgs false
set_option linter.unusedVariables false



attribute [local irreducible] Go.wpList Go.Code.wp
set_option maxRecDepth 100000 in
set_option maxHeartbeats 4000000 in
theorem refNum_calls (l : List UInt8) (hl : l.length ≤ 1000000) (i : Nat) (hi : i ≤ l.length) (w : World) : Calls Tryd.prog 34 #[.string (str l), .int .i64 (i : Int)] w fun e w' => e = .returned (.tuple #[.int .i64 (rsc (l.drop i) 0), .int .i64 ((dcnt (l.drop i) : Nat) : Int)]) ∧ Below w.heap.size w w' := by
  have bel : Below w.heap.size w w := Below.refl _ _
  go_enter Tryd.func34, Tryd.ntmps34
  refine wp_seq ?_
  refine wp_region_lit ?_
  refine st_mv (.int .i64 0) ?_
  simp only [nf0, nf1, nf2, nf3, nf4]
  refine st_mv (.int .i64 0) ?_
  simp only [nf0, nf1, nf2, nf3, nf4]
  refine wpList_nil ?_
  show Code.wp _ _ _ _ _
  refine wp_seq ?_
  refine wp_region_lit ?_
  refine st_mv (.int .i64 0) ?_
  simp only [nf0, nf1, nf2, nf3, nf4]
  refine st_mv (.int .i64 0) ?_
  simp only [nf0, nf1, nf2, nf3, nf4]
  refine wpList_nil ?_
  show Code.wp _ _ _ _ _
  refine wp_seq ?_
  refine wp_block ?_
  refine wp_loop_left (fun n_ a_ wr_ => (fun J1 => ∃ (k : Nat) (u : Int), n_ = l.length - k ∧ a_ = ⟨#[.string (str l), .int .i64 (i : Int), undef, undef, .int .i64 0, .int .i64 0, .int .i64 u, .int .i64 (k : Int), J1 8, J1 9, J1 10, J1 11, J1 12, J1 13, J1 14, J1 15, J1 16, J1 17, J1 18, J1 19, J1 20, J1 21, J1 22, J1 23, J1 24, J1 25, J1 26, J1 27, J1 28, J1 29, J1 30, J1 31, J1 32, J1 33, J1 34, J1 35, J1 36, J1 37, J1 38, J1 39, J1 40, J1 41, J1 42, J1 43, undef, undef], []⟩ ∧ Below w.heap.size w wr_ ∧ i + k ≤ l.length ∧ 0 ≤ u ∧ u ≤ 50009 ∧ rsc (l.drop i) 0 = rsc (l.drop (i + k)) u ∧ dcnt (l.drop i) = k + dcnt (l.drop (i + k))) (jk a_)) (l.length - 0) ⟨0, 0, rfl, rfl, bel, (by omega), (by omega), (by omega), rfl, (by simp)⟩ ?_
  clear bel
  intro n_ a_ w2 h_
  revert h_
  generalize jk a_ = J1
  rintro ⟨k, u, hn, rfl, bel, hik, hn0, hn1, hsc, hdc⟩
  have hcr := chr_range l (i + k)
  refine wp_seq ?_
  refine wp_seq ?_
  cases hg3 : decide (((i : Int) + (k : Int)) < (l.length : Int))
  · have hp4 := of_decide_eq_false hg3
    refine wp_region_lit ?_
    refine st_mv (.int .i64 (i : Int)) ?_
    simp only [nf0, nf1, nf2, nf3, nf4]
    refine st_mv (.int .i64 (k : Int)) ?_
    simp only [nf0, nf1, nf2, nf3, nf4]
    refine st_value (v := (.int .i64 ((i : Int) + (k : Int)))) (by rfl) (run_add_in (.tmp 8) (.tmp 9) rfl rfl rfl (by omega) w2) ?_
    simp only [nf0, nf1, nf2, nf3, nf4]
    refine st_mv (.string (str l)) ?_
    simp only [nf0, nf1, nf2, nf3, nf4]
    refine st_value (v := (.int .i64 (l.length : Int))) (by rfl) (run_len_text (.tmp 11) rfl Tryd.underlying9 (l := l) rfl w2) ?_
    simp only [nf0, nf1, nf2, nf3, nf4]
    refine st_value (v := (.bool false)) (by rfl) ((run_lss (.tmp 10) (.tmp 12) rfl rfl rfl w2).trans (by rw [hg3])) ?_
    simp only [nf0, nf1, nf2, nf3, nf4]
    refine st_mv (.bool false) ?_
    simp only [nf0, nf1, nf2, nf3, nf4]
    refine st_nob (j := 6) (t := 14) (c := false) rfl rfl rfl rfl rfl ?_
    simp only [nf0, nf1, nf2, nf3, nf4]
    refine st_nob (j := 6) (t := 14) (c := false) rfl rfl rfl rfl rfl ?_
    simp only [nf0, nf1, nf2, nf3, nf4]
    refine st_nob (j := 6) (t := 14) (c := false) rfl rfl rfl rfl rfl ?_
    simp only [nf0, nf1, nf2, nf3, nf4]
    refine st_nob (j := 6) (t := 14) (c := false) rfl rfl rfl rfl rfl ?_
    simp only [nf0, nf1, nf2, nf3, nf4]
    refine st_nob (j := 6) (t := 14) (c := false) rfl rfl rfl rfl rfl ?_
    simp only [nf0, nf1, nf2, nf3, nf4]
    refine st_nob (j := 6) (t := 14) (c := false) rfl rfl rfl rfl rfl ?_
    simp only [nf0, nf1, nf2, nf3, nf4]
    refine st_mv (.bool false) ?_
    simp only [nf0, nf1, nf2, nf3, nf4]
    refine st_mv (.bool false) ?_
    simp only [nf0, nf1, nf2, nf3, nf4]
    refine st_nob (j := 14) (t := 22) (c := false) rfl rfl rfl rfl rfl ?_
    simp only [nf0, nf1, nf2, nf3, nf4]
    refine st_nob (j := 14) (t := 22) (c := false) rfl rfl rfl rfl rfl ?_
    simp only [nf0, nf1, nf2, nf3, nf4]
    refine st_nob (j := 14) (t := 22) (c := false) rfl rfl rfl rfl rfl ?_
    simp only [nf0, nf1, nf2, nf3, nf4]
    refine st_nob (j := 14) (t := 22) (c := false) rfl rfl rfl rfl rfl ?_
    simp only [nf0, nf1, nf2, nf3, nf4]
    refine st_nob (j := 14) (t := 22) (c := false) rfl rfl rfl rfl rfl ?_
    simp only [nf0, nf1, nf2, nf3, nf4]
    refine st_nob (j := 14) (t := 22) (c := false) rfl rfl rfl rfl rfl ?_
    simp only [nf0, nf1, nf2, nf3, nf4]
    refine st_mv (.bool false) ?_
    simp only [nf0, nf1, nf2, nf3, nf4]
    refine wpList_nil ?_
    show Code.wp _ _ _ _ _
    refine wp_cond_false rfl ?_
    refine wp_exit ?_
    show Code.wp _ _ _ _ _
    refine wp_seq ?_
    refine wp_region_lit ?_
    refine st_mv (.int .i64 u) ?_
    simp only [nf0, nf1, nf2, nf3, nf4]
    refine st_mv (.int .i64 (k : Int)) ?_
    simp only [nf0, nf1, nf2, nf3, nf4]
    refine st_mv (.int .i64 u) ?_
    simp only [nf0, nf1, nf2, nf3, nf4]
    refine st_mv (.int .i64 (k : Int)) ?_
    simp only [nf0, nf1, nf2, nf3, nf4]
    refine wpList_nil ?_
    show Code.wp _ _ _ _ _
    refine wp_ret ?_
    first | show bodyPost _ _ _ _ _ _ | (simp only [Exit.then, Exit.inBlock]; show bodyPost _ _ _ _ _ _)
    obtain ⟨e1, e2⟩ := num_end (l := l) (j := i + k) u (by omega)
    exact bodyPost_ret (results_tmp2 rfl _ _ _) rfl ⟨by rw [hsc, e1, hdc, e2]; rfl, bel⟩
  have hp5 := of_decide_eq_true hg3
  cases hg6 : decide (48 ≤ (chr l (i + k)))
  · have hp7 := of_decide_eq_false hg6
    refine wp_region_lit ?_
    refine st_mv (.int .i64 (i : Int)) ?_
    simp only [nf0, nf1, nf2, nf3, nf4]
    refine st_mv (.int .i64 (k : Int)) ?_
    simp only [nf0, nf1, nf2, nf3, nf4]
    refine st_value (v := (.int .i64 ((i : Int) + (k : Int)))) (by rfl) (run_add_in (.tmp 8) (.tmp 9) rfl rfl rfl (by omega) w2) ?_
    simp only [nf0, nf1, nf2, nf3, nf4]
    refine st_mv (.string (str l)) ?_
    simp only [nf0, nf1, nf2, nf3, nf4]
    refine st_value (v := (.int .i64 (l.length : Int))) (by rfl) (run_len_text (.tmp 11) rfl Tryd.underlying9 (l := l) rfl w2) ?_
    simp only [nf0, nf1, nf2, nf3, nf4]
    refine st_value (v := (.bool true)) (by rfl) ((run_lss (.tmp 10) (.tmp 12) rfl rfl rfl w2).trans (by rw [hg3])) ?_
    simp only [nf0, nf1, nf2, nf3, nf4]
    refine st_mv (.bool true) ?_
    simp only [nf0, nf1, nf2, nf3, nf4]
    refine st_mv (.string (str l)) ?_
    simp only [nf0, nf1, nf2, nf3, nf4]
    refine st_mv (.int .i64 (i : Int)) ?_
    simp only [nf0, nf1, nf2, nf3, nf4]
    refine st_mv (.int .i64 (k : Int)) ?_
    simp only [nf0, nf1, nf2, nf3, nf4]
    refine st_value (v := (.int .i64 ((i : Int) + (k : Int)))) (by rfl) (run_add_in (.tmp 16) (.tmp 17) rfl rfl rfl (by omega) w2) ?_
    simp only [nf0, nf1, nf2, nf3, nf4]
    refine st_value (v := (.int .u8 (chr l (i + k)))) (by rfl) (run_index_text (.tmp 15) (.tmp 18) rfl Tryd.underlying9 (l := l) rfl rfl (i + k) (by omega) (by omega) w2) ?_
    simp only [nf0, nf1, nf2, nf3, nf4]
    refine st_value (v := (.bool false)) (by rfl) ((run_geq (.tmp 19) (.const (.int .u8 48)) rfl rfl rfl w2).trans (by rw [hg6])) ?_
    simp only [nf0, nf1, nf2, nf3, nf4]
    refine st_mv (.bool false) ?_
    simp only [nf0, nf1, nf2, nf3, nf4]
    refine st_mv (.bool false) ?_
    simp only [nf0, nf1, nf2, nf3, nf4]
    refine st_nob (j := 14) (t := 22) (c := false) rfl rfl rfl rfl rfl ?_
    simp only [nf0, nf1, nf2, nf3, nf4]
    refine st_nob (j := 14) (t := 22) (c := false) rfl rfl rfl rfl rfl ?_
    simp only [nf0, nf1, nf2, nf3, nf4]
    refine st_nob (j := 14) (t := 22) (c := false) rfl rfl rfl rfl rfl ?_
    simp only [nf0, nf1, nf2, nf3, nf4]
    refine st_nob (j := 14) (t := 22) (c := false) rfl rfl rfl rfl rfl ?_
    simp only [nf0, nf1, nf2, nf3, nf4]
    refine st_nob (j := 14) (t := 22) (c := false) rfl rfl rfl rfl rfl ?_
    simp only [nf0, nf1, nf2, nf3, nf4]
    refine st_nob (j := 14) (t := 22) (c := false) rfl rfl rfl rfl rfl ?_
    simp only [nf0, nf1, nf2, nf3, nf4]
    refine st_mv (.bool false) ?_
    simp only [nf0, nf1, nf2, nf3, nf4]
    refine wpList_nil ?_
    show Code.wp _ _ _ _ _
    refine wp_cond_false rfl ?_
    refine wp_exit ?_
    show Code.wp _ _ _ _ _
    refine wp_seq ?_
    refine wp_region_lit ?_
    refine st_mv (.int .i64 u) ?_
    simp only [nf0, nf1, nf2, nf3, nf4]
    refine st_mv (.int .i64 (k : Int)) ?_
    simp only [nf0, nf1, nf2, nf3, nf4]
    refine st_mv (.int .i64 u) ?_
    simp only [nf0, nf1, nf2, nf3, nf4]
    refine st_mv (.int .i64 (k : Int)) ?_
    simp only [nf0, nf1, nf2, nf3, nf4]
    refine wpList_nil ?_
    show Code.wp _ _ _ _ _
    refine wp_ret ?_
    first | show bodyPost _ _ _ _ _ _ | (simp only [Exit.then, Exit.inBlock]; show bodyPost _ _ _ _ _ _)
    obtain ⟨e1, e2⟩ := num_end (l := l) (j := i + k) u (by omega)
    exact bodyPost_ret (results_tmp2 rfl _ _ _) rfl ⟨by rw [hsc, e1, hdc, e2]; rfl, bel⟩
  have hp8 := of_decide_eq_true hg6
  refine wp_region_lit ?_
  refine st_mv (.int .i64 (i : Int)) ?_
  simp only [nf0, nf1, nf2, nf3, nf4]
  refine st_mv (.int .i64 (k : Int)) ?_
  simp only [nf0, nf1, nf2, nf3, nf4]
  refine st_value (v := (.int .i64 ((i : Int) + (k : Int)))) (by rfl) (run_add_in (.tmp 8) (.tmp 9) rfl rfl rfl (by omega) w2) ?_
  simp only [nf0, nf1, nf2, nf3, nf4]
  refine st_mv (.string (str l)) ?_
  simp only [nf0, nf1, nf2, nf3, nf4]
  refine st_value (v := (.int .i64 (l.length : Int))) (by rfl) (run_len_text (.tmp 11) rfl Tryd.underlying9 (l := l) rfl w2) ?_
  simp only [nf0, nf1, nf2, nf3, nf4]
  refine st_value (v := (.bool true)) (by rfl) ((run_lss (.tmp 10) (.tmp 12) rfl rfl rfl w2).trans (by rw [hg3])) ?_
  simp only [nf0, nf1, nf2, nf3, nf4]
  refine st_mv (.bool true) ?_
  simp only [nf0, nf1, nf2, nf3, nf4]
  refine st_mv (.string (str l)) ?_
  simp only [nf0, nf1, nf2, nf3, nf4]
  refine st_mv (.int .i64 (i : Int)) ?_
  simp only [nf0, nf1, nf2, nf3, nf4]
  refine st_mv (.int .i64 (k : Int)) ?_
  simp only [nf0, nf1, nf2, nf3, nf4]
  refine st_value (v := (.int .i64 ((i : Int) + (k : Int)))) (by rfl) (run_add_in (.tmp 16) (.tmp 17) rfl rfl rfl (by omega) w2) ?_
  simp only [nf0, nf1, nf2, nf3, nf4]
  refine st_value (v := (.int .u8 (chr l (i + k)))) (by rfl) (run_index_text (.tmp 15) (.tmp 18) rfl Tryd.underlying9 (l := l) rfl rfl (i + k) (by omega) (by omega) w2) ?_
  simp only [nf0, nf1, nf2, nf3, nf4]
  refine st_value (v := (.bool true)) (by rfl) ((run_geq (.tmp 19) (.const (.int .u8 48)) rfl rfl rfl w2).trans (by rw [hg6])) ?_
  simp only [nf0, nf1, nf2, nf3, nf4]
  refine st_mv (.bool true) ?_
  simp only [nf0, nf1, nf2, nf3, nf4]
  refine st_mv (.bool true) ?_
  simp only [nf0, nf1, nf2, nf3, nf4]
  refine st_mv (.string (str l)) ?_
  simp only [nf0, nf1, nf2, nf3, nf4]
  refine st_mv (.int .i64 (i : Int)) ?_
  simp only [nf0, nf1, nf2, nf3, nf4]
  refine st_mv (.int .i64 (k : Int)) ?_
  simp only [nf0, nf1, nf2, nf3, nf4]
  refine st_value (v := (.int .i64 ((i : Int) + (k : Int)))) (by rfl) (run_add_in (.tmp 24) (.tmp 25) rfl rfl rfl (by omega) w2) ?_
  simp only [nf0, nf1, nf2, nf3, nf4]
  refine st_value (v := (.int .u8 (chr l (i + k)))) (by rfl) (run_index_text (.tmp 23) (.tmp 26) rfl Tryd.underlying9 (l := l) rfl rfl (i + k) (by omega) (by omega) w2) ?_
  simp only [nf0, nf1, nf2, nf3, nf4]
  refine st_value (v := (.bool (decide ((chr l (i + k)) ≤ 57)))) (by rfl) (run_leq (.tmp 27) (.const (.int .u8 57)) rfl rfl rfl w2) ?_
  simp only [nf0, nf1, nf2, nf3, nf4]
  refine st_mv (.bool (decide ((chr l (i + k)) ≤ 57))) ?_
  simp only [nf0, nf1, nf2, nf3, nf4]
  refine wpList_nil ?_
  show Code.wp _ _ _ _ _
  cases hg9 : decide ((chr l (i + k)) ≤ 57)
  · have hp10 := of_decide_eq_false hg9
    refine wp_cond_false rfl ?_
    refine wp_exit ?_
    show Code.wp _ _ _ _ _
    refine wp_seq ?_
    refine wp_region_lit ?_
    refine st_mv (.int .i64 u) ?_
    simp only [nf0, nf1, nf2, nf3, nf4]
    refine st_mv (.int .i64 (k : Int)) ?_
    simp only [nf0, nf1, nf2, nf3, nf4]
    refine st_mv (.int .i64 u) ?_
    simp only [nf0, nf1, nf2, nf3, nf4]
    refine st_mv (.int .i64 (k : Int)) ?_
    simp only [nf0, nf1, nf2, nf3, nf4]
    refine wpList_nil ?_
    show Code.wp _ _ _ _ _
    refine wp_ret ?_
    first | show bodyPost _ _ _ _ _ _ | (simp only [Exit.then, Exit.inBlock]; show bodyPost _ _ _ _ _ _)
    obtain ⟨e1, e2⟩ := num_end (l := l) (j := i + k) u (by omega)
    exact bodyPost_ret (results_tmp2 rfl _ _ _) rfl ⟨by rw [hsc, e1, hdc, e2]; rfl, bel⟩
  have hp11 := of_decide_eq_true hg9
  refine wp_cond_true rfl ?_
  refine wp_skip ?_
  show Code.wp _ _ _ _ _
  refine wp_block ?_
  refine wp_seq ?_
  refine wp_seq ?_
  refine wp_region_lit ?_
  refine st_mv (.int .i64 u) ?_
  simp only [nf0, nf1, nf2, nf3, nf4]
  refine st_value (v := (.bool (decide (u < 5000)))) (by rfl) (run_lss (.tmp 30) (.const (.int .i64 5000)) rfl rfl rfl w2) ?_
  simp only [nf0, nf1, nf2, nf3, nf4]
  refine wpList_nil ?_
  show Code.wp _ _ _ _ _
  cases hg12 : decide (u < 5000)
  · have hp13 := of_decide_eq_false hg12
    refine wp_cond_false rfl ?_
    refine wp_skip ?_
    show Code.wp _ _ _ _ _
    refine wp_region_lit ?_
    refine st_mv (.int .i64 (k : Int)) ?_
    simp only [nf0, nf1, nf2, nf3, nf4]
    refine st_value (v := (.int .i64 ((k : Int) + 1))) (by rfl) (run_add_in (.tmp 42) (.const (.int .i64 1)) rfl rfl rfl (by omega) w2) ?_
    simp only [nf0, nf1, nf2, nf3, nf4]
    refine st_mv (.int .i64 ((k : Int) + 1)) ?_
    simp only [nf0, nf1, nf2, nf3, nf4]
    refine wpList_nil ?_
    show ∃ m, m < _ ∧ _
    exact ⟨_, (by omega), (k + 1), u, rfl, rfl, bel, (by omega), (by omega), (by omega), (hsc.trans (rsc_yes (by omega) hp8 hp11 (by rw [if_neg hp13]))), (hdc.trans (by rw [dcnt_yes (j := i + k) (by omega) hp8 hp11, show i + (k + 1) = i + k + 1 from rfl]; omega))⟩
  have hp14 := of_decide_eq_true hg12
  refine wp_cond_true rfl ?_
  refine wp_region_lit ?_
  refine st_mv (.int .i64 u) ?_
  simp only [nf0, nf1, nf2, nf3, nf4]
  refine st_value (v := (.int .i64 (u * 10))) (by rfl) (run_mul_in (.tmp 32) (.const (.int .i64 10)) rfl rfl rfl (by omega) w2) ?_
  simp only [nf0, nf1, nf2, nf3, nf4]
  refine st_mv (.string (str l)) ?_
  simp only [nf0, nf1, nf2, nf3, nf4]
  refine st_mv (.int .i64 (i : Int)) ?_
  simp only [nf0, nf1, nf2, nf3, nf4]
  refine st_mv (.int .i64 (k : Int)) ?_
  simp only [nf0, nf1, nf2, nf3, nf4]
  refine st_value (v := (.int .i64 ((i : Int) + (k : Int)))) (by rfl) (run_add_in (.tmp 35) (.tmp 36) rfl rfl rfl (by omega) w2) ?_
  simp only [nf0, nf1, nf2, nf3, nf4]
  refine st_value (v := (.int .u8 (chr l (i + k)))) (by rfl) (run_index_text (.tmp 34) (.tmp 37) rfl Tryd.underlying9 (l := l) rfl rfl (i + k) (by omega) (by omega) w2) ?_
  simp only [nf0, nf1, nf2, nf3, nf4]
  refine st_value (v := (.int .i64 (chr l (i + k)))) (by rfl) (run_conv_u8 (.tmp 38) rfl Tryd.underlying5 Tryd.underlying3 (m := (chr l (i + k))) rfl (chr_range _ _) w2) ?_
  simp only [nf0, nf1, nf2, nf3, nf4]
  refine st_value (v := (.int .i64 ((u * 10) + (chr l (i + k))))) (by rfl) (run_add_in (.tmp 33) (.tmp 39) rfl rfl rfl (by omega) w2) ?_
  simp only [nf0, nf1, nf2, nf3, nf4]
  refine st_value (v := (.int .i64 (((u * 10) + (chr l (i + k))) - 48))) (by rfl) (run_sub_in (.tmp 40) (.const (.int .i64 48)) rfl rfl rfl (by omega) w2) ?_
  simp only [nf0, nf1, nf2, nf3, nf4]
  refine st_mv (.int .i64 (((u * 10) + (chr l (i + k))) - 48)) ?_
  simp only [nf0, nf1, nf2, nf3, nf4]
  refine wpList_nil ?_
  show Code.wp _ _ _ _ _
  refine wp_region_lit ?_
  refine st_mv (.int .i64 (k : Int)) ?_
  simp only [nf0, nf1, nf2, nf3, nf4]
  refine st_value (v := (.int .i64 ((k : Int) + 1))) (by rfl) (run_add_in (.tmp 42) (.const (.int .i64 1)) rfl rfl rfl (by omega) w2) ?_
  simp only [nf0, nf1, nf2, nf3, nf4]
  refine st_mv (.int .i64 ((k : Int) + 1)) ?_
  simp only [nf0, nf1, nf2, nf3, nf4]
  refine wpList_nil ?_
  show ∃ m, m < _ ∧ _
  exact ⟨_, (by omega), (k + 1), ((u * 10 + (chr l (i + k))) - 48), rfl, rfl, bel, (by omega), (by omega), (by omega), (hsc.trans (rsc_yes (by omega) hp8 hp11 (by rw [if_pos hp14]))), (hdc.trans (by rw [dcnt_yes (j := i + k) (by omega) hp8 hp11, show i + (k + 1) = i + k + 1 from rfl]; omega))⟩
end Go.Proofs.YthgamlklpfkkhaaDoor

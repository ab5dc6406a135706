/- What the reference's Parse answers. -/
import Derived.Test.YthgamlklpfkkhaaDoorParseLaw
import Derived.Test.YthgamlklpfkkhaaDoorRefNum
import Derived.Test.YthgamlklpfkkhaaDoorCut
namespace Go.Proofs.YthgamlklpfkkhaaDoor
open Go.RowKit Go.WideShapes Go.ChangeShapes
set_option linter.unusedSimpArgs false
set_option linter.unusedVariables false

theorem run_call_22_1 {o : Oper} {a : Act} (x0 : Operand) {ts : Array TypeId} (ho : o.op = .call { callee := .value (.func 22), args := #[x0], argTypes := ts }) {v0 : Value} (h0 : a.eval x0 = v0) (W : World) : (execOp a.eval o).run Tryd.prog W = .ok (.enter 22 #[v0]) W := by
  unfold execOp
  simp only [ho]
  subst h0
  go_simp
theorem run_call_26_2 {o : Oper} {a : Act} (x0 : Operand) (x1 : Operand) {ts : Array TypeId} (ho : o.op = .call { callee := .value (.func 26), args := #[x0, x1], argTypes := ts }) {v0 : Value} (h0 : a.eval x0 = v0) {v1 : Value} (h1 : a.eval x1 = v1) (W : World) : (execOp a.eval o).run Tryd.prog W = .ok (.enter 26 #[v0, v1]) W := by
  unfold execOp
  simp only [ho]
  subst h0 h1
  go_simp
theorem run_call_34_2 {o : Oper} {a : Act} (x0 : Operand) (x1 : Operand) {ts : Array TypeId} (ho : o.op = .call { callee := .value (.func 34), args := #[x0, x1], argTypes := ts }) {v0 : Value} (h0 : a.eval x0 = v0) {v1 : Value} (h1 : a.eval x1 = v1) (W : World) : (execOp a.eval o).run Tryd.prog W = .ok (.enter 34 #[v0, v1]) W := by
  unfold execOp
  simp only [ho]
  subst h0 h1
  go_simp
theorem run_lit_36_1 {o : Oper} {a : Act} (x0 : Operand) (ho : o.op = .buildSlice 36 1 #[(0, x0)]) {m0 : Int} (h0 : a.eval x0 = (.int .i64 m0)) (W : World) : (execOp a.eval o).run Tryd.prog W = .ok (.value (.slice (some ⟨W.heap.size, 0, none⟩) 1 1)) (W.alloc (.cells #[(.int .i64 m0)] 3)) := by
  unfold execOp
  simp only [ho, List.map_toArray, List.map_cons, List.map_nil, h0]
  go_simp

def NumN (l : List UInt8) (i n d : Nat) : Prop :=
  i + d ≤ l.length ∧ n ≤ 50000 ∧ (d = 0 → l.length ≤ i → numE l i = (0, 22, i)) ∧ (d = 0 → i < l.length → numE l i = (0, 20, i)) ∧
  (d ≠ 0 → (1023 < n ∨ (1 < d ∧ chr l i = 48)) → ∃ q k, numE l i = (q, 26, k)) ∧ (d ≠ 0 → ¬ (1023 < n ∨ (1 < d ∧ chr l i = 48)) → numE l i = (n, 0, i + d)) ∧ (d ≠ 0 → i < l.length)
theorem refNum_at (l : List UInt8) (hl : l.length ≤ 1000000) (i : Nat) (hi : i ≤ l.length) {I : Int} (hI : I = (i : Int)) (w : World) :
    Calls Tryd.prog 34 #[.string (str l), .int .i64 I] w fun e w' => ∃ v, e = .returned v ∧ ∃ n d : Nat, v = .tuple #[.int .i64 (n : Int), .int .i64 (d : Int)] ∧ NumN l i n d ∧ Below w.heap.size w w' := by
  subst hI
  refine (refNum_calls l hl i hi w).mono ?_
  rintro e w' ⟨rfl, hb⟩
  obtain ⟨h1, h2, h3, h4, h5, h6, h7, h8⟩ := num_here l i hi
  obtain ⟨n, hn⟩ : ∃ n : Nat, rsc (l.drop i) 0 = (n : Int) := ⟨(rsc (l.drop i) 0).toNat, by omega⟩
  rw [hn] at h3 h6 h7 ⊢
  refine ⟨_, rfl, n, _, rfl, ⟨h1, by omega, h4, h5, fun a b => h6 a (by omega), fun a b => ?_, h8⟩, hb⟩
  have := h7 a (by omega)
  rwa [Int.toNat_natCast] at this
theorem hno_step {S : Nat} {n x : Int} (hno : ∀ j : Int, n ≤ j → j < x → has S j = false) (h : has S x = false) : ∀ j : Int, n ≤ j → j < x + 1 → has S j = false := by
  intro j a b
  rcases Int.lt_or_le j x with c | c
  · exact hno j a c
  · rw [show j = x from by omega]; exact h
attribute [local irreducible] Go.wpList Go.Code.wp
set_option maxRecDepth 100000 in
set_option maxHeartbeats 8000000 in
theorem refParse_calls (l : List UInt8) (hl : l.length ≤ 1000000) (w : World) : Calls Tryd.prog 11 #[.string (str l)] w fun e w' => e = .returned (.tuple #[.agg (setA (parse l).1), .int .i64 (((parse l).2.1 : Nat) : Int), .int .i64 (((parse l).2.2 : Nat) : Int)]) ∧ Below w.heap.size w w' := by
  have bel : Below w.heap.size w w := Below.refl _ _
  go_enter Tryd.func11, Tryd.ntmps11
  refine wp_seq ?_
  refine wp_region_lit ?_
  refine st_new (by rfl) (run_alloc_set rfl _) ?_
  intro g1 w2 B3 hb4 lo5
  simp only [nf0, nf1, nf2, nf3, nf4]
  replace lo5 := low_le bel lo5
  replace bel := bl_step bel hb4
  clear hb4
  refine st_mv (.int .i64 0) ?_
  simp only [nf0, nf1, nf2, nf3, nf4]
  refine st_mv (.int .i64 0) ?_
  simp only [nf0, nf1, nf2, nf3, nf4]
  refine wpList_nil ?_
  show Code.wp _ _ _ _ _
  refine wp_seq ?_
  refine wp_region_lit ?_
  have O6 : OwnR w2 w.heap.size 3 (eInt .i64) (.slice none 0 0) [] := OwnR.nil _ _ _ _
  have n8 := Off.nil g1
  refine st_value (v := .slice none 0 0) (by rfl) (by rfl) ?_
  simp only [nf0, nf1, nf2, nf3, nf4]
  refine wpList_nil ?_
  show Code.wp _ _ _ _ _
  refine wp_seq ?_
  refine wp_region_lit ?_
  refine st_mv (.int .i64 0) ?_
  simp only [nf0, nf1, nf2, nf3, nf4]
  refine wpList_nil ?_
  show Code.wp _ _ _ _ _
  refine wp_seq ?_
  refine wp_block ?_
  refine wp_loop_left (fun n_ a_ wr_ => (fun J9 => ∃ (i : Nat) (f : Nat) (xs : List Int) (vl : Value), n_ = l.length + 1 - i ∧ a_ = ⟨#[.string (str l), J9 1, .pointer (some ⟨g1, 0, none⟩), J9 3, J9 4, vl, .int .i64 (i : Int), J9 7, J9 8, J9 9, J9 10, J9 11, J9 12, J9 13, J9 14, J9 15, J9 16, J9 17, J9 18, J9 19, J9 20, J9 21, J9 22, J9 23, J9 24, J9 25, J9 26, J9 27, J9 28, J9 29, J9 30, J9 31, J9 32, J9 33, J9 34, J9 35, J9 36, J9 37, J9 38, J9 39, J9 40, J9 41, J9 42, J9 43, J9 44, J9 45, J9 46, J9 47, J9 48, J9 49, J9 50, J9 51, J9 52, J9 53, J9 54, J9 55, J9 56, J9 57, J9 58, J9 59, J9 60, J9 61, J9 62, J9 63, J9 64, J9 65, J9 66, J9 67, J9 68, J9 69, J9 70, J9 71, J9 72, J9 73, J9 74, J9 75, J9 76, J9 77, J9 78, J9 79, J9 80, J9 81, J9 82, J9 83, J9 84, J9 85, J9 86, J9 87, J9 88, J9 89, J9 90, J9 91, J9 92, J9 93, J9 94, J9 95, J9 96, J9 97, J9 98, J9 99, J9 100, J9 101, J9 102, J9 103, J9 104, J9 105, J9 106, J9 107, J9 108, J9 109, J9 110, J9 111, J9 112, J9 113, J9 114, J9 115, J9 116, J9 117, J9 118, J9 119, J9 120, J9 121, J9 122, J9 123, J9 124, J9 125, J9 126, J9 127, J9 128, J9 129, J9 130, J9 131, J9 132, J9 133, J9 134, J9 135, J9 136, J9 137, J9 138, J9 139, J9 140, J9 141, J9 142, J9 143, J9 144, J9 145, J9 146, J9 147, J9 148, J9 149, J9 150, J9 151, J9 152, J9 153, J9 154, J9 155], []⟩ ∧ Blk wr_ g1 (setA 0) 24 ∧ OwnR wr_ w.heap.size 3 (eInt .i64) vl xs ∧ Off vl g1 ∧ Below w.heap.size w wr_ ∧ PAt l i f xs) (jk a_)) (l.length + 1 - 0) ⟨0, (l.length + 1), [], (.slice none 0 0), rfl, rfl, B3, O6, n8, bel, (PAt.start l)⟩ ?_
  clear B3
  clear O6
  clear n8
  clear bel
  intro n_ a_ w11 h_
  revert h_
  generalize jk a_ = J9
  rintro ⟨i, f, xs, vl, hn, rfl, B3, O6, n10, bel, hP⟩
  have hpi := hP.1
  refine wp_seq ?_
  refine wp_seq ?_
  cases hg12 : decide ((i : Int) < (l.length : Int))
  · have hp13 := of_decide_eq_false hg12
    cases hg14 : decide (0 < (l.length : Int))
    · have hp15 := of_decide_eq_false hg14
      refine wp_region_lit ?_
      refine st_mv (.int .i64 (i : Int)) ?_
      simp only [nf0, nf1, nf2, nf3, nf4]
      refine st_mv (.string (str l)) ?_
      simp only [nf0, nf1, nf2, nf3, nf4]
      refine st_value (v := (.int .i64 (l.length : Int))) (by rfl) (run_len_text (.tmp 14) rfl Tryd.underlying9 (l := l) rfl w11) ?_
      simp only [nf0, nf1, nf2, nf3, nf4]
      refine st_value (v := (.bool false)) (by rfl) ((run_lss (.tmp 13) (.tmp 15) rfl rfl rfl w11).trans (by rw [hg12])) ?_
      simp only [nf0, nf1, nf2, nf3, nf4]
      refine st_mv (.bool false) ?_
      simp only [nf0, nf1, nf2, nf3, nf4]
      refine st_mv (.string (str l)) ?_
      simp only [nf0, nf1, nf2, nf3, nf4]
      refine st_value (v := (.int .i64 (l.length : Int))) (by rfl) (run_len_text (.tmp 18) rfl Tryd.underlying9 (l := l) rfl w11) ?_
      simp only [nf0, nf1, nf2, nf3, nf4]
      refine st_value (v := (.bool false)) (by rfl) ((run_gtr (.tmp 19) (.const (.int .i64 0)) rfl rfl rfl w11).trans (by rw [hg14])) ?_
      simp only [nf0, nf1, nf2, nf3, nf4]
      refine st_mv (.bool false) ?_
      simp only [nf0, nf1, nf2, nf3, nf4]
      refine st_nob (j := 8) (t := 21) (c := false) rfl rfl rfl rfl rfl ?_
      simp only [nf0, nf1, nf2, nf3, nf4]
      refine st_nob (j := 8) (t := 21) (c := false) rfl rfl rfl rfl rfl ?_
      simp only [nf0, nf1, nf2, nf3, nf4]
      refine st_nob (j := 8) (t := 21) (c := false) rfl rfl rfl rfl rfl ?_
      simp only [nf0, nf1, nf2, nf3, nf4]
      refine st_nob (j := 8) (t := 21) (c := false) rfl rfl rfl rfl rfl ?_
      simp only [nf0, nf1, nf2, nf3, nf4]
      refine st_mv (.bool false) ?_
      simp only [nf0, nf1, nf2, nf3, nf4]
      refine st_mv (.bool false) ?_
      simp only [nf0, nf1, nf2, nf3, nf4]
      refine wpList_nil ?_
      show Code.wp _ _ _ _ _
      refine wp_cond_false rfl ?_
      refine wp_exit ?_
      show Code.wp _ _ _ _ _
      refine wp_seq ?_
      refine wp_region_lit ?_
      refine st_mv vl ?_
      simp only [nf0, nf1, nf2, nf3, nf4]
      obtain ⟨A16, c17, hv18, h19, h20, h21, R22⟩ := O6.reads
      rw [eInt_all] at R22
      refine st_call1 (v := (.agg (setA (mk xs)))) (by rfl) (run_call_22_1 (.tmp 154) rfl rfl _) (by rw [hv18]; exact make_calls A16 xs c17 w11 R22 (by have := hP.2.2.2.2; have := hP.1; first | omega | (rw [ext_len]; omega))) ?_
      intro w23 hb24
      simp only [nf0, nf1, nf2, nf3, nf4]
      replace B3 := B3.below hb24
      replace O6 := O6.same hb24
      replace bel := bl_step bel hb24
      clear hb24
      refine st_row (by rfl) (run_store_set (.tmp 2) (.tmp 155) rfl rfl (S := (mk xs)) rfl B3) B3 ?_
      intro w25 B27 hg26
      simp only [nf0, nf1, nf2, nf3, nf4]
      replace O6 := O6.keptB hg26 n10
      clear B3
      replace bel := bl_kept0 bel hg26 lo5
      clear hg26
      refine st_mv (.int .i64 0) ?_
      simp only [nf0, nf1, nf2, nf3, nf4]
      refine st_mv (.int .i64 0) ?_
      simp only [nf0, nf1, nf2, nf3, nf4]
      refine wpList_nil ?_
      show Code.wp _ _ _ _ _
      refine wp_ret ?_
      first | show bodyPost _ _ _ _ _ _ | (simp only [Exit.then, Exit.inBlock]; show bodyPost _ _ _ _ _ _)
      have hpr := hP.none (by omega)
      exact bodyPost_ret (results_set2 (p := 2) (u := 3) (v := 4) rfl _ _ _ (mk xs) rfl B27) rfl ⟨fin_ret (E := 0) (A := 0) hpr (by rfl) (by omega), bel⟩
    have hp28 := of_decide_eq_true hg14
    refine wp_region_lit ?_
    refine st_mv (.int .i64 (i : Int)) ?_
    simp only [nf0, nf1, nf2, nf3, nf4]
    refine st_mv (.string (str l)) ?_
    simp only [nf0, nf1, nf2, nf3, nf4]
    refine st_value (v := (.int .i64 (l.length : Int))) (by rfl) (run_len_text (.tmp 14) rfl Tryd.underlying9 (l := l) rfl w11) ?_
    simp only [nf0, nf1, nf2, nf3, nf4]
    refine st_value (v := (.bool false)) (by rfl) ((run_lss (.tmp 13) (.tmp 15) rfl rfl rfl w11).trans (by rw [hg12])) ?_
    simp only [nf0, nf1, nf2, nf3, nf4]
    refine st_mv (.bool false) ?_
    simp only [nf0, nf1, nf2, nf3, nf4]
    refine st_mv (.string (str l)) ?_
    simp only [nf0, nf1, nf2, nf3, nf4]
    refine st_value (v := (.int .i64 (l.length : Int))) (by rfl) (run_len_text (.tmp 18) rfl Tryd.underlying9 (l := l) rfl w11) ?_
    simp only [nf0, nf1, nf2, nf3, nf4]
    refine st_value (v := (.bool true)) (by rfl) ((run_gtr (.tmp 19) (.const (.int .i64 0)) rfl rfl rfl w11).trans (by rw [hg14])) ?_
    simp only [nf0, nf1, nf2, nf3, nf4]
    refine st_mv (.bool true) ?_
    simp only [nf0, nf1, nf2, nf3, nf4]
    refine st_mv (.int .i64 (i : Int)) ?_
    simp only [nf0, nf1, nf2, nf3, nf4]
    refine st_mv (.string (str l)) ?_
    simp only [nf0, nf1, nf2, nf3, nf4]
    refine st_value (v := (.int .i64 (l.length : Int))) (by rfl) (run_len_text (.tmp 23) rfl Tryd.underlying9 (l := l) rfl w11) ?_
    simp only [nf0, nf1, nf2, nf3, nf4]
    refine st_value (v := (.bool (decide ((i : Int) = (l.length : Int))))) (by rfl) (run_eql_int (.tmp 22) (.tmp 24) rfl rfl rfl w11) ?_
    simp only [nf0, nf1, nf2, nf3, nf4]
    refine st_mv (.bool (decide ((i : Int) = (l.length : Int)))) ?_
    simp only [nf0, nf1, nf2, nf3, nf4]
    refine st_mv (.bool (decide ((i : Int) = (l.length : Int)))) ?_
    simp only [nf0, nf1, nf2, nf3, nf4]
    refine wpList_nil ?_
    show Code.wp _ _ _ _ _
    cases hg29 : decide ((i : Int) = (l.length : Int))
    · have hp30 := of_decide_eq_false hg29
      exfalso
      omega
    have hp31 := of_decide_eq_true hg29
    refine wp_cond_true rfl ?_
    refine wp_skip ?_
    show Code.wp _ _ _ _ _
    refine wp_block ?_
    refine wp_seq ?_
    have h0 : 0 < l.length := by omega
    refine wp_region_lit ?_
    refine st_mv (.int .i64 (i : Int)) ?_
    simp only [nf0, nf1, nf2, nf3, nf4]
    refine st_mv (.int .i64 (i : Int)) ?_
    simp only [nf0, nf1, nf2, nf3, nf4]
    refine wpList_nil ?_
    show Code.wp _ _ _ _ _
    refine wp_seq ?_
    refine wp_region_lit ?_
    have O32 : OwnR w11 w.heap.size 3 (eInt .i64) (.slice none 0 0) [] := OwnR.nil _ _ _ _
    have n34 := Off.nil g1
    have n35 : Off2 (.slice none 0 0) vl := Off2.nil _
    refine st_value (v := .slice none 0 0) (by rfl) (by rfl) ?_
    simp only [nf0, nf1, nf2, nf3, nf4]
    refine wpList_nil ?_
    show Code.wp _ _ _ _ _
    refine wp_seq ?_
    refine wp_block ?_
    refine wp_loop_two ?_
    refine wp_block ?_
    refine wp_seq ?_
    refine wp_region_lit ?_
    refine st_mv (.string (str l)) ?_
    simp only [nf0, nf1, nf2, nf3, nf4]
    refine st_mv (.int .i64 (i : Int)) ?_
    simp only [nf0, nf1, nf2, nf3, nf4]
    refine st_call (by rfl) (run_call_34_2 (.tmp 30) (.tmp 31) rfl rfl rfl _) (refNum_at l hl i (by omega) (by omega) w11) ?_
    rintro _ w39 ⟨n36, d37, rfl, hN38, hb40⟩
    simp only [nf0, nf1, nf2, nf3, nf4]
    replace B3 := B3.below hb40
    replace O6 := O6.same hb40
    replace O32 := O32.same hb40
    replace bel := bl_step bel hb40
    have hN38a := hN38.1
    have hN38b := hN38.2.1
    clear hb40
    refine st_mv (.tuple #[.int .i64 (n36 : Int), .int .i64 (d37 : Int)]) ?_
    simp only [nf0, nf1, nf2, nf3, nf4]
    refine st_mv (.int .i64 (n36 : Int)) ?_
    simp only [nf0, nf1, nf2, nf3, nf4]
    refine st_mv (.int .i64 (d37 : Int)) ?_
    simp only [nf0, nf1, nf2, nf3, nf4]
    refine st_mv (.int .i64 (n36 : Int)) ?_
    simp only [nf0, nf1, nf2, nf3, nf4]
    refine st_mv (.int .i64 (d37 : Int)) ?_
    simp only [nf0, nf1, nf2, nf3, nf4]
    refine wpList_nil ?_
    show Code.wp _ _ _ _ _
    refine wp_seq ?_
    refine wp_seq ?_
    cases hg41 : decide ((d37 : Int) = 0)
    · have hp42 := of_decide_eq_false hg41
      exfalso
      omega
    have hp43 := of_decide_eq_true hg41
    refine wp_region_lit ?_
    refine st_mv (.int .i64 (d37 : Int)) ?_
    simp only [nf0, nf1, nf2, nf3, nf4]
    refine st_value (v := (.bool true)) (by rfl) ((run_eql_int (.tmp 35) (.const (.int .i64 0)) rfl rfl rfl w39).trans (by rw [hg41])) ?_
    simp only [nf0, nf1, nf2, nf3, nf4]
    refine st_mv (.bool true) ?_
    simp only [nf0, nf1, nf2, nf3, nf4]
    refine st_mv (.int .i64 (i : Int)) ?_
    simp only [nf0, nf1, nf2, nf3, nf4]
    refine st_mv (.string (str l)) ?_
    simp only [nf0, nf1, nf2, nf3, nf4]
    refine st_value (v := (.int .i64 (l.length : Int))) (by rfl) (run_len_text (.tmp 39) rfl Tryd.underlying9 (l := l) rfl w39) ?_
    simp only [nf0, nf1, nf2, nf3, nf4]
    refine st_value (v := (.bool (decide ((l.length : Int) ≤ (i : Int))))) (by rfl) (run_geq (.tmp 38) (.tmp 40) rfl rfl rfl w39) ?_
    simp only [nf0, nf1, nf2, nf3, nf4]
    refine st_mv (.bool (decide ((l.length : Int) ≤ (i : Int)))) ?_
    simp only [nf0, nf1, nf2, nf3, nf4]
    refine wpList_nil ?_
    show Code.wp _ _ _ _ _
    cases hg44 : decide ((l.length : Int) ≤ (i : Int))
    · have hp45 := of_decide_eq_false hg44
      exfalso
      omega
    have hp46 := of_decide_eq_true hg44
    refine wp_cond_true rfl ?_
    refine wp_seq ?_
    refine wp_region_lit ?_
    refine st_value (v := (.agg (setA 0))) (by rfl) (run_build_set rfl w39) ?_
    simp only [nf0, nf1, nf2, nf3, nf4]
    refine st_mv (.string (str l)) ?_
    simp only [nf0, nf1, nf2, nf3, nf4]
    refine st_value (v := (.int .i64 (l.length : Int))) (by rfl) (run_len_text (.tmp 44) rfl Tryd.underlying9 (l := l) rfl w39) ?_
    simp only [nf0, nf1, nf2, nf3, nf4]
    refine st_row (by rfl) (run_store_set (.tmp 2) (.tmp 43) rfl rfl (S := 0) rfl B3) B3 ?_
    intro w47 B49 hg48
    simp only [nf0, nf1, nf2, nf3, nf4]
    replace O6 := O6.keptB hg48 n10
    replace O32 := O32.keptB hg48 n34
    clear B3
    replace bel := bl_kept0 bel hg48 lo5
    clear hg48
    refine st_mv (.int .i64 22) ?_
    simp only [nf0, nf1, nf2, nf3, nf4]
    refine st_mv (.int .i64 (l.length : Int)) ?_
    simp only [nf0, nf1, nf2, nf3, nf4]
    refine wpList_nil ?_
    show Code.wp _ _ _ _ _
    refine wp_ret ?_
    first | show bodyPost _ _ _ _ _ _ | (simp only [Exit.then, Exit.inBlock]; show bodyPost _ _ _ _ _ _)
    have hpr := hP.err h0 (it_err1 (hN38.2.2.1 (by omega) (by omega)) (by decide)) (by decide)
    exact bodyPost_ret (results_set2 (p := 2) (u := 3) (v := 4) rfl _ _ _ 0 rfl B49) rfl ⟨fin_ret (E := 22) (A := (l.length : Int)) hpr (by rfl) (by omega), bel⟩
  have hp50 := of_decide_eq_true hg12
  refine wp_region_lit ?_
  refine st_mv (.int .i64 (i : Int)) ?_
  simp only [nf0, nf1, nf2, nf3, nf4]
  refine st_mv (.string (str l)) ?_
  simp only [nf0, nf1, nf2, nf3, nf4]
  refine st_value (v := (.int .i64 (l.length : Int))) (by rfl) (run_len_text (.tmp 14) rfl Tryd.underlying9 (l := l) rfl w11) ?_
  simp only [nf0, nf1, nf2, nf3, nf4]
  refine st_value (v := (.bool true)) (by rfl) ((run_lss (.tmp 13) (.tmp 15) rfl rfl rfl w11).trans (by rw [hg12])) ?_
  simp only [nf0, nf1, nf2, nf3, nf4]
  refine st_mv (.bool true) ?_
  simp only [nf0, nf1, nf2, nf3, nf4]
  refine st_nob (j := 4) (t := 17) (c := true) rfl rfl rfl rfl rfl ?_
  simp only [nf0, nf1, nf2, nf3, nf4]
  refine st_nob (j := 4) (t := 17) (c := true) rfl rfl rfl rfl rfl ?_
  simp only [nf0, nf1, nf2, nf3, nf4]
  refine st_nob (j := 4) (t := 17) (c := true) rfl rfl rfl rfl rfl ?_
  simp only [nf0, nf1, nf2, nf3, nf4]
  refine st_nob (j := 4) (t := 17) (c := true) rfl rfl rfl rfl rfl ?_
  simp only [nf0, nf1, nf2, nf3, nf4]
  refine st_nou (j := 8) (t := 21) rfl rfl rfl rfl ?_
  simp only [nf0, nf1, nf2, nf3, nf4]
  refine st_nou (j := 8) (t := 21) rfl rfl rfl rfl ?_
  simp only [nf0, nf1, nf2, nf3, nf4]
  refine st_nou (j := 8) (t := 21) rfl rfl rfl rfl ?_
  simp only [nf0, nf1, nf2, nf3, nf4]
  refine st_nou (j := 8) (t := 21) rfl rfl rfl rfl ?_
  simp only [nf0, nf1, nf2, nf3, nf4]
  refine st_nob (j := 4) (t := 17) (c := true) rfl rfl rfl rfl rfl ?_
  simp only [nf0, nf1, nf2, nf3, nf4]
  refine st_mv (.bool true) ?_
  simp only [nf0, nf1, nf2, nf3, nf4]
  refine wpList_nil ?_
  show Code.wp _ _ _ _ _
  refine wp_cond_true rfl ?_
  refine wp_skip ?_
  show Code.wp _ _ _ _ _
  refine wp_block ?_
  refine wp_seq ?_
  have h0 : 0 < l.length := by omega
  refine wp_region_lit ?_
  refine st_mv (.int .i64 (i : Int)) ?_
  simp only [nf0, nf1, nf2, nf3, nf4]
  refine st_mv (.int .i64 (i : Int)) ?_
  simp only [nf0, nf1, nf2, nf3, nf4]
  refine wpList_nil ?_
  show Code.wp _ _ _ _ _
  refine wp_seq ?_
  refine wp_region_lit ?_
  have O51 : OwnR w11 w.heap.size 3 (eInt .i64) (.slice none 0 0) [] := OwnR.nil _ _ _ _
  have n53 := Off.nil g1
  have n54 : Off2 (.slice none 0 0) vl := Off2.nil _
  refine st_value (v := .slice none 0 0) (by rfl) (by rfl) ?_
  simp only [nf0, nf1, nf2, nf3, nf4]
  refine wpList_nil ?_
  show Code.wp _ _ _ _ _
  refine wp_seq ?_
  refine wp_block ?_
  refine wp_loop_two ?_
  refine wp_block ?_
  refine wp_seq ?_
  refine wp_region_lit ?_
  refine st_mv (.string (str l)) ?_
  simp only [nf0, nf1, nf2, nf3, nf4]
  refine st_mv (.int .i64 (i : Int)) ?_
  simp only [nf0, nf1, nf2, nf3, nf4]
  refine st_call (by rfl) (run_call_34_2 (.tmp 30) (.tmp 31) rfl rfl rfl _) (refNum_at l hl i (by omega) (by omega) w11) ?_
  rintro _ w58 ⟨n55, d56, rfl, hN57, hb59⟩
  simp only [nf0, nf1, nf2, nf3, nf4]
  replace B3 := B3.below hb59
  replace O6 := O6.same hb59
  replace O51 := O51.same hb59
  replace bel := bl_step bel hb59
  have hN57a := hN57.1
  have hN57b := hN57.2.1
  clear hb59
  refine st_mv (.tuple #[.int .i64 (n55 : Int), .int .i64 (d56 : Int)]) ?_
  simp only [nf0, nf1, nf2, nf3, nf4]
  refine st_mv (.int .i64 (n55 : Int)) ?_
  simp only [nf0, nf1, nf2, nf3, nf4]
  refine st_mv (.int .i64 (d56 : Int)) ?_
  simp only [nf0, nf1, nf2, nf3, nf4]
  refine st_mv (.int .i64 (n55 : Int)) ?_
  simp only [nf0, nf1, nf2, nf3, nf4]
  refine st_mv (.int .i64 (d56 : Int)) ?_
  simp only [nf0, nf1, nf2, nf3, nf4]
  refine wpList_nil ?_
  show Code.wp _ _ _ _ _
  refine wp_seq ?_
  refine wp_seq ?_
  cases hg60 : decide ((d56 : Int) = 0)
  rotate_left
  · have hp674 := of_decide_eq_true hg60
    refine wp_region_lit ?_
    refine st_mv (.int .i64 (d56 : Int)) ?_
    simp only [nf0, nf1, nf2, nf3, nf4]
    refine st_value (v := (.bool true)) (by rfl) ((run_eql_int (.tmp 35) (.const (.int .i64 0)) rfl rfl rfl w58).trans (by rw [hg60])) ?_
    simp only [nf0, nf1, nf2, nf3, nf4]
    refine st_mv (.bool true) ?_
    simp only [nf0, nf1, nf2, nf3, nf4]
    refine st_mv (.int .i64 (i : Int)) ?_
    simp only [nf0, nf1, nf2, nf3, nf4]
    refine st_mv (.string (str l)) ?_
    simp only [nf0, nf1, nf2, nf3, nf4]
    refine st_value (v := (.int .i64 (l.length : Int))) (by rfl) (run_len_text (.tmp 39) rfl Tryd.underlying9 (l := l) rfl w58) ?_
    simp only [nf0, nf1, nf2, nf3, nf4]
    refine st_value (v := (.bool (decide ((l.length : Int) ≤ (i : Int))))) (by rfl) (run_geq (.tmp 38) (.tmp 40) rfl rfl rfl w58) ?_
    simp only [nf0, nf1, nf2, nf3, nf4]
    refine st_mv (.bool (decide ((l.length : Int) ≤ (i : Int)))) ?_
    simp only [nf0, nf1, nf2, nf3, nf4]
    refine wpList_nil ?_
    show Code.wp _ _ _ _ _
    cases hg675 : decide ((l.length : Int) ≤ (i : Int))
    rotate_left
    · have hp680 := of_decide_eq_true hg675
      exfalso
      omega
    have hp676 := of_decide_eq_false hg675
    refine wp_cond_false rfl ?_
    refine wp_skip ?_
    show Code.wp _ _ _ _ _
    refine wp_seq ?_
    refine wp_seq ?_
    refine wp_region_lit ?_
    refine st_mv (.int .i64 (d56 : Int)) ?_
    simp only [nf0, nf1, nf2, nf3, nf4]
    refine st_value (v := (.bool true)) (by rfl) ((run_eql_int (.tmp 46) (.const (.int .i64 0)) rfl rfl rfl w58).trans (by rw [hg60])) ?_
    simp only [nf0, nf1, nf2, nf3, nf4]
    refine wpList_nil ?_
    show Code.wp _ _ _ _ _
    refine wp_cond_true rfl ?_
    refine wp_seq ?_
    refine wp_region_lit ?_
    refine st_value (v := (.agg (setA 0))) (by rfl) (run_build_set rfl w58) ?_
    simp only [nf0, nf1, nf2, nf3, nf4]
    refine st_mv (.int .i64 (i : Int)) ?_
    simp only [nf0, nf1, nf2, nf3, nf4]
    refine st_row (by rfl) (run_store_set (.tmp 2) (.tmp 48) rfl rfl (S := 0) rfl B3) B3 ?_
    intro w677 B679 hg678
    simp only [nf0, nf1, nf2, nf3, nf4]
    replace O6 := O6.keptB hg678 n10
    replace O51 := O51.keptB hg678 n53
    clear B3
    replace bel := bl_kept0 bel hg678 lo5
    clear hg678
    refine st_mv (.int .i64 20) ?_
    simp only [nf0, nf1, nf2, nf3, nf4]
    refine st_mv (.int .i64 (i : Int)) ?_
    simp only [nf0, nf1, nf2, nf3, nf4]
    refine wpList_nil ?_
    show Code.wp _ _ _ _ _
    refine wp_ret ?_
    first | show bodyPost _ _ _ _ _ _ | (simp only [Exit.then, Exit.inBlock]; show bodyPost _ _ _ _ _ _)
    have hpr := hP.err h0 (it_err1 (hN57.2.2.2.1 (by omega) (by omega)) (by decide)) (by decide)
    exact bodyPost_ret (results_set2 (p := 2) (u := 3) (v := 4) rfl _ _ _ 0 rfl B679) rfl ⟨fin_ret (E := 20) (A := (i : Int)) hpr (by rfl) (by omega), bel⟩
  have hp61 := of_decide_eq_false hg60
  refine wp_region_lit ?_
  refine st_mv (.int .i64 (d56 : Int)) ?_
  simp only [nf0, nf1, nf2, nf3, nf4]
  refine st_value (v := (.bool false)) (by rfl) ((run_eql_int (.tmp 35) (.const (.int .i64 0)) rfl rfl rfl w58).trans (by rw [hg60])) ?_
  simp only [nf0, nf1, nf2, nf3, nf4]
  refine st_mv (.bool false) ?_
  simp only [nf0, nf1, nf2, nf3, nf4]
  refine st_nob (j := 2) (t := 37) (c := false) rfl rfl rfl rfl rfl ?_
  simp only [nf0, nf1, nf2, nf3, nf4]
  refine st_nob (j := 2) (t := 37) (c := false) rfl rfl rfl rfl rfl ?_
  simp only [nf0, nf1, nf2, nf3, nf4]
  refine st_nob (j := 2) (t := 37) (c := false) rfl rfl rfl rfl rfl ?_
  simp only [nf0, nf1, nf2, nf3, nf4]
  refine st_nob (j := 2) (t := 37) (c := false) rfl rfl rfl rfl rfl ?_
  simp only [nf0, nf1, nf2, nf3, nf4]
  refine st_mv (.bool false) ?_
  simp only [nf0, nf1, nf2, nf3, nf4]
  refine wpList_nil ?_
  show Code.wp _ _ _ _ _
  refine wp_cond_false rfl ?_
  refine wp_skip ?_
  show Code.wp _ _ _ _ _
  refine wp_seq ?_
  refine wp_seq ?_
  refine wp_region_lit ?_
  refine st_mv (.int .i64 (d56 : Int)) ?_
  simp only [nf0, nf1, nf2, nf3, nf4]
  refine st_value (v := (.bool false)) (by rfl) ((run_eql_int (.tmp 46) (.const (.int .i64 0)) rfl rfl rfl w58).trans (by rw [hg60])) ?_
  simp only [nf0, nf1, nf2, nf3, nf4]
  refine wpList_nil ?_
  show Code.wp _ _ _ _ _
  refine wp_cond_false rfl ?_
  refine wp_skip ?_
  show Code.wp _ _ _ _ _
  refine wp_seq ?_
  refine wp_seq_join (fun a_ wr_ => (fun J63 => ∃ (b62 : Bool), a_ = ⟨#[.string (str l), J63 1, .pointer (some ⟨g1, 0, none⟩), J9 3, J9 4, vl, .int .i64 (i : Int), .int .i64 (i : Int), .slice none 0 0, .int .i64 (n55 : Int), .int .i64 (d56 : Int), J9 11, J9 12, J63 13, J63 14, J63 15, J63 16, J63 17, J63 18, J63 19, J63 20, J63 21, J63 22, J63 23, J63 24, J63 25, J63 26, J63 27, J63 28, J63 29, J63 30, J63 31, J63 32, J63 33, J63 34, J63 35, J63 36, J63 37, J63 38, J63 39, J63 40, J63 41, J63 42, J63 43, J63 44, J63 45, J63 46, J63 47, J63 48, J63 49, J63 50, J63 51, J63 52, J63 53, J63 54, J63 55, J63 56, J63 57, J63 58, J63 59, J63 60, J63 61, J63 62, J63 63, J63 64, J63 65, J63 66, J63 67, J63 68, J63 69, J63 70, J63 71, J63 72, .bool b62, J63 74, J63 75, J63 76, J63 77, J63 78, J63 79, J63 80, J63 81, J63 82, J63 83, J63 84, J63 85, J63 86, J63 87, J63 88, J63 89, J63 90, J63 91, J63 92, J63 93, J63 94, J63 95, J63 96, J63 97, J63 98, J63 99, J63 100, J63 101, J63 102, J63 103, J63 104, J63 105, J63 106, J63 107, J63 108, J63 109, J63 110, J63 111, J63 112, J63 113, J63 114, J63 115, J63 116, J63 117, J63 118, J63 119, J63 120, J63 121, J63 122, J63 123, J63 124, J63 125, J63 126, J63 127, J63 128, J63 129, J63 130, J63 131, J63 132, J63 133, J63 134, J63 135, J63 136, J63 137, J63 138, J63 139, J63 140, J63 141, J63 142, J63 143, J63 144, J63 145, J63 146, J63 147, J63 148, J63 149, J63 150, J63 151, J63 152, J63 153, J63 154, J63 155], []⟩ ∧ w58 = wr_ ∧ (b62 = true → ((1023 < n55 ∨ (1 < d56 ∧ chr l i = 48)))) ∧ (b62 = false → ¬ ((1023 < n55 ∨ (1 < d56 ∧ chr l i = 48))))) (jk a_)) ?_ ?_
  · cases hg64 : decide (1023 < (n55 : Int))
    rotate_left
    · have hp86 := of_decide_eq_true hg64
      refine wp_region_lit ?_
      refine st_mv (.int .i64 (n55 : Int)) ?_
      simp only [nf0, nf1, nf2, nf3, nf4]
      refine st_value (v := (.bool true)) (by rfl) ((run_gtr (.tmp 50) (.const (.int .i64 1023)) rfl rfl rfl w58).trans (by rw [hg64])) ?_
      simp only [nf0, nf1, nf2, nf3, nf4]
      refine st_mv (.bool true) ?_
      simp only [nf0, nf1, nf2, nf3, nf4]
      refine st_nob (j := 2) (t := 52) (c := true) rfl rfl rfl rfl rfl ?_
      simp only [nf0, nf1, nf2, nf3, nf4]
      refine st_nob (j := 2) (t := 52) (c := true) rfl rfl rfl rfl rfl ?_
      simp only [nf0, nf1, nf2, nf3, nf4]
      refine st_nob (j := 2) (t := 52) (c := true) rfl rfl rfl rfl rfl ?_
      simp only [nf0, nf1, nf2, nf3, nf4]
      refine st_nou (j := 5) (t := 55) rfl rfl rfl rfl ?_
      simp only [nf0, nf1, nf2, nf3, nf4]
      refine st_nou (j := 5) (t := 55) rfl rfl rfl rfl ?_
      simp only [nf0, nf1, nf2, nf3, nf4]
      refine st_nou (j := 5) (t := 55) rfl rfl rfl rfl ?_
      simp only [nf0, nf1, nf2, nf3, nf4]
      refine st_nou (j := 5) (t := 55) rfl rfl rfl rfl ?_
      simp only [nf0, nf1, nf2, nf3, nf4]
      refine st_nob (j := 2) (t := 52) (c := true) rfl rfl rfl rfl rfl ?_
      simp only [nf0, nf1, nf2, nf3, nf4]
      refine st_mv (.bool true) ?_
      simp only [nf0, nf1, nf2, nf3, nf4]
      refine st_mv (.bool true) ?_
      simp only [nf0, nf1, nf2, nf3, nf4]
      refine st_nob (j := 12) (t := 62) (c := true) rfl rfl rfl rfl rfl ?_
      simp only [nf0, nf1, nf2, nf3, nf4]
      refine st_nob (j := 12) (t := 62) (c := true) rfl rfl rfl rfl rfl ?_
      simp only [nf0, nf1, nf2, nf3, nf4]
      refine st_nob (j := 12) (t := 62) (c := true) rfl rfl rfl rfl rfl ?_
      simp only [nf0, nf1, nf2, nf3, nf4]
      refine st_nob (j := 12) (t := 62) (c := true) rfl rfl rfl rfl rfl ?_
      simp only [nf0, nf1, nf2, nf3, nf4]
      refine st_nou (j := 16) (t := 66) rfl rfl rfl rfl ?_
      simp only [nf0, nf1, nf2, nf3, nf4]
      refine st_nou (j := 16) (t := 66) rfl rfl rfl rfl ?_
      simp only [nf0, nf1, nf2, nf3, nf4]
      refine st_nou (j := 16) (t := 66) rfl rfl rfl rfl ?_
      simp only [nf0, nf1, nf2, nf3, nf4]
      refine st_nou (j := 16) (t := 66) rfl rfl rfl rfl ?_
      simp only [nf0, nf1, nf2, nf3, nf4]
      refine st_nou (j := 16) (t := 66) rfl rfl rfl rfl ?_
      simp only [nf0, nf1, nf2, nf3, nf4]
      refine st_nob (j := 12) (t := 62) (c := true) rfl rfl rfl rfl rfl ?_
      simp only [nf0, nf1, nf2, nf3, nf4]
      refine st_mv (.bool true) ?_
      simp only [nf0, nf1, nf2, nf3, nf4]
      refine wpList_nil ?_
      exact ⟨rfl, true, rfl, rfl, (fun h => by first | omega | (exact absurd h (by decide)) | (have h2 := of_decide_eq_true h; omega) | (have h2 := of_decide_eq_false h; omega)), (fun h => by first | omega | (exact absurd h (by decide)) | (have h2 := of_decide_eq_true h; omega) | (have h2 := of_decide_eq_false h; omega))⟩
    have hp65 := of_decide_eq_false hg64
    cases hg66 : decide (1 < (d56 : Int))
    · have hp67 := of_decide_eq_false hg66
      refine wp_region_lit ?_
      refine st_mv (.int .i64 (n55 : Int)) ?_
      simp only [nf0, nf1, nf2, nf3, nf4]
      refine st_value (v := (.bool false)) (by rfl) ((run_gtr (.tmp 50) (.const (.int .i64 1023)) rfl rfl rfl w58).trans (by rw [hg64])) ?_
      simp only [nf0, nf1, nf2, nf3, nf4]
      refine st_mv (.bool false) ?_
      simp only [nf0, nf1, nf2, nf3, nf4]
      refine st_mv (.int .i64 (d56 : Int)) ?_
      simp only [nf0, nf1, nf2, nf3, nf4]
      refine st_value (v := (.bool false)) (by rfl) ((run_gtr (.tmp 53) (.const (.int .i64 1)) rfl rfl rfl w58).trans (by rw [hg66])) ?_
      simp only [nf0, nf1, nf2, nf3, nf4]
      refine st_mv (.bool false) ?_
      simp only [nf0, nf1, nf2, nf3, nf4]
      refine st_nob (j := 5) (t := 55) (c := false) rfl rfl rfl rfl rfl ?_
      simp only [nf0, nf1, nf2, nf3, nf4]
      refine st_nob (j := 5) (t := 55) (c := false) rfl rfl rfl rfl rfl ?_
      simp only [nf0, nf1, nf2, nf3, nf4]
      refine st_nob (j := 5) (t := 55) (c := false) rfl rfl rfl rfl rfl ?_
      simp only [nf0, nf1, nf2, nf3, nf4]
      refine st_nob (j := 5) (t := 55) (c := false) rfl rfl rfl rfl rfl ?_
      simp only [nf0, nf1, nf2, nf3, nf4]
      refine st_mv (.bool false) ?_
      simp only [nf0, nf1, nf2, nf3, nf4]
      refine st_mv (.bool false) ?_
      simp only [nf0, nf1, nf2, nf3, nf4]
      refine st_mv (.bool false) ?_
      simp only [nf0, nf1, nf2, nf3, nf4]
      refine st_mv (.slice none 0 0) ?_
      simp only [nf0, nf1, nf2, nf3, nf4]
      obtain ⟨A68, c69, hv70, h71, h72, h73, R74⟩ := O51.reads
      rw [eInt_all] at R74
      refine st_value (v := (.int .i64 0)) (by rfl) (run_len (.tmp 63) rfl ⟨_, Tryd.underlying36⟩ (by exact hv70) w58) ?_
      simp only [nf0, nf1, nf2, nf3, nf4]
      refine st_value (v := (.bool false)) (by rfl) ((run_gtr (.tmp 64) (.const (.int .i64 0)) rfl rfl rfl w58).trans (by rw [decide_eq_false (by omega)])) ?_
      simp only [nf0, nf1, nf2, nf3, nf4]
      refine st_mv (.bool false) ?_
      simp only [nf0, nf1, nf2, nf3, nf4]
      refine st_nob (j := 16) (t := 66) (c := false) rfl rfl rfl rfl rfl ?_
      simp only [nf0, nf1, nf2, nf3, nf4]
      refine st_nob (j := 16) (t := 66) (c := false) rfl rfl rfl rfl rfl ?_
      simp only [nf0, nf1, nf2, nf3, nf4]
      refine st_nob (j := 16) (t := 66) (c := false) rfl rfl rfl rfl rfl ?_
      simp only [nf0, nf1, nf2, nf3, nf4]
      refine st_nob (j := 16) (t := 66) (c := false) rfl rfl rfl rfl rfl ?_
      simp only [nf0, nf1, nf2, nf3, nf4]
      refine st_nob (j := 16) (t := 66) (c := false) rfl rfl rfl rfl rfl ?_
      simp only [nf0, nf1, nf2, nf3, nf4]
      refine st_mv (.bool false) ?_
      simp only [nf0, nf1, nf2, nf3, nf4]
      refine st_mv (.bool false) ?_
      simp only [nf0, nf1, nf2, nf3, nf4]
      refine wpList_nil ?_
      exact ⟨rfl, false, rfl, rfl, (fun h => by first | omega | (exact absurd h (by decide)) | (have h2 := of_decide_eq_true h; omega) | (have h2 := of_decide_eq_false h; omega)), (fun h => by first | omega | (exact absurd h (by decide)) | (have h2 := of_decide_eq_true h; omega) | (have h2 := of_decide_eq_false h; omega))⟩
    have hp75 := of_decide_eq_true hg66
    cases hg76 : decide ((chr l i) = 48)
    rotate_left
    · have hp85 := of_decide_eq_true hg76
      refine wp_region_lit ?_
      refine st_mv (.int .i64 (n55 : Int)) ?_
      simp only [nf0, nf1, nf2, nf3, nf4]
      refine st_value (v := (.bool false)) (by rfl) ((run_gtr (.tmp 50) (.const (.int .i64 1023)) rfl rfl rfl w58).trans (by rw [hg64])) ?_
      simp only [nf0, nf1, nf2, nf3, nf4]
      refine st_mv (.bool false) ?_
      simp only [nf0, nf1, nf2, nf3, nf4]
      refine st_mv (.int .i64 (d56 : Int)) ?_
      simp only [nf0, nf1, nf2, nf3, nf4]
      refine st_value (v := (.bool true)) (by rfl) ((run_gtr (.tmp 53) (.const (.int .i64 1)) rfl rfl rfl w58).trans (by rw [hg66])) ?_
      simp only [nf0, nf1, nf2, nf3, nf4]
      refine st_mv (.bool true) ?_
      simp only [nf0, nf1, nf2, nf3, nf4]
      refine st_mv (.string (str l)) ?_
      simp only [nf0, nf1, nf2, nf3, nf4]
      refine st_mv (.int .i64 (i : Int)) ?_
      simp only [nf0, nf1, nf2, nf3, nf4]
      refine st_value (v := (.int .u8 (chr l i))) (by rfl) (run_index_text (.tmp 56) (.tmp 57) rfl Tryd.underlying9 (l := l) rfl rfl i (by omega) (by omega) w58) ?_
      simp only [nf0, nf1, nf2, nf3, nf4]
      refine st_value (v := (.bool true)) (by rfl) ((run_eql_int (.tmp 58) (.const (.int .u8 48)) rfl rfl rfl w58).trans (by rw [hg76])) ?_
      simp only [nf0, nf1, nf2, nf3, nf4]
      refine st_mv (.bool true) ?_
      simp only [nf0, nf1, nf2, nf3, nf4]
      refine st_mv (.bool true) ?_
      simp only [nf0, nf1, nf2, nf3, nf4]
      refine st_mv (.bool true) ?_
      simp only [nf0, nf1, nf2, nf3, nf4]
      refine st_nob (j := 12) (t := 62) (c := true) rfl rfl rfl rfl rfl ?_
      simp only [nf0, nf1, nf2, nf3, nf4]
      refine st_nob (j := 12) (t := 62) (c := true) rfl rfl rfl rfl rfl ?_
      simp only [nf0, nf1, nf2, nf3, nf4]
      refine st_nob (j := 12) (t := 62) (c := true) rfl rfl rfl rfl rfl ?_
      simp only [nf0, nf1, nf2, nf3, nf4]
      refine st_nob (j := 12) (t := 62) (c := true) rfl rfl rfl rfl rfl ?_
      simp only [nf0, nf1, nf2, nf3, nf4]
      refine st_nou (j := 16) (t := 66) rfl rfl rfl rfl ?_
      simp only [nf0, nf1, nf2, nf3, nf4]
      refine st_nou (j := 16) (t := 66) rfl rfl rfl rfl ?_
      simp only [nf0, nf1, nf2, nf3, nf4]
      refine st_nou (j := 16) (t := 66) rfl rfl rfl rfl ?_
      simp only [nf0, nf1, nf2, nf3, nf4]
      refine st_nou (j := 16) (t := 66) rfl rfl rfl rfl ?_
      simp only [nf0, nf1, nf2, nf3, nf4]
      refine st_nou (j := 16) (t := 66) rfl rfl rfl rfl ?_
      simp only [nf0, nf1, nf2, nf3, nf4]
      refine st_nob (j := 12) (t := 62) (c := true) rfl rfl rfl rfl rfl ?_
      simp only [nf0, nf1, nf2, nf3, nf4]
      refine st_mv (.bool true) ?_
      simp only [nf0, nf1, nf2, nf3, nf4]
      refine wpList_nil ?_
      exact ⟨rfl, true, rfl, rfl, (fun h => by first | omega | (exact absurd h (by decide)) | (have h2 := of_decide_eq_true h; omega) | (have h2 := of_decide_eq_false h; omega)), (fun h => by first | omega | (exact absurd h (by decide)) | (have h2 := of_decide_eq_true h; omega) | (have h2 := of_decide_eq_false h; omega))⟩
    have hp77 := of_decide_eq_false hg76
    refine wp_region_lit ?_
    refine st_mv (.int .i64 (n55 : Int)) ?_
    simp only [nf0, nf1, nf2, nf3, nf4]
    refine st_value (v := (.bool false)) (by rfl) ((run_gtr (.tmp 50) (.const (.int .i64 1023)) rfl rfl rfl w58).trans (by rw [hg64])) ?_
    simp only [nf0, nf1, nf2, nf3, nf4]
    refine st_mv (.bool false) ?_
    simp only [nf0, nf1, nf2, nf3, nf4]
    refine st_mv (.int .i64 (d56 : Int)) ?_
    simp only [nf0, nf1, nf2, nf3, nf4]
    refine st_value (v := (.bool true)) (by rfl) ((run_gtr (.tmp 53) (.const (.int .i64 1)) rfl rfl rfl w58).trans (by rw [hg66])) ?_
    simp only [nf0, nf1, nf2, nf3, nf4]
    refine st_mv (.bool true) ?_
    simp only [nf0, nf1, nf2, nf3, nf4]
    refine st_mv (.string (str l)) ?_
    simp only [nf0, nf1, nf2, nf3, nf4]
    refine st_mv (.int .i64 (i : Int)) ?_
    simp only [nf0, nf1, nf2, nf3, nf4]
    refine st_value (v := (.int .u8 (chr l i))) (by rfl) (run_index_text (.tmp 56) (.tmp 57) rfl Tryd.underlying9 (l := l) rfl rfl i (by omega) (by omega) w58) ?_
    simp only [nf0, nf1, nf2, nf3, nf4]
    refine st_value (v := (.bool false)) (by rfl) ((run_eql_int (.tmp 58) (.const (.int .u8 48)) rfl rfl rfl w58).trans (by rw [hg76])) ?_
    simp only [nf0, nf1, nf2, nf3, nf4]
    refine st_mv (.bool false) ?_
    simp only [nf0, nf1, nf2, nf3, nf4]
    refine st_mv (.bool false) ?_
    simp only [nf0, nf1, nf2, nf3, nf4]
    refine st_mv (.bool false) ?_
    simp only [nf0, nf1, nf2, nf3, nf4]
    refine st_mv (.slice none 0 0) ?_
    simp only [nf0, nf1, nf2, nf3, nf4]
    obtain ⟨A78, c79, hv80, h81, h82, h83, R84⟩ := O51.reads
    rw [eInt_all] at R84
    refine st_value (v := (.int .i64 0)) (by rfl) (run_len (.tmp 63) rfl ⟨_, Tryd.underlying36⟩ (by exact hv80) w58) ?_
    simp only [nf0, nf1, nf2, nf3, nf4]
    refine st_value (v := (.bool false)) (by rfl) ((run_gtr (.tmp 64) (.const (.int .i64 0)) rfl rfl rfl w58).trans (by rw [decide_eq_false (by omega)])) ?_
    simp only [nf0, nf1, nf2, nf3, nf4]
    refine st_mv (.bool false) ?_
    simp only [nf0, nf1, nf2, nf3, nf4]
    refine st_nob (j := 16) (t := 66) (c := false) rfl rfl rfl rfl rfl ?_
    simp only [nf0, nf1, nf2, nf3, nf4]
    refine st_nob (j := 16) (t := 66) (c := false) rfl rfl rfl rfl rfl ?_
    simp only [nf0, nf1, nf2, nf3, nf4]
    refine st_nob (j := 16) (t := 66) (c := false) rfl rfl rfl rfl rfl ?_
    simp only [nf0, nf1, nf2, nf3, nf4]
    refine st_nob (j := 16) (t := 66) (c := false) rfl rfl rfl rfl rfl ?_
    simp only [nf0, nf1, nf2, nf3, nf4]
    refine st_nob (j := 16) (t := 66) (c := false) rfl rfl rfl rfl rfl ?_
    simp only [nf0, nf1, nf2, nf3, nf4]
    refine st_mv (.bool false) ?_
    simp only [nf0, nf1, nf2, nf3, nf4]
    refine st_mv (.bool false) ?_
    simp only [nf0, nf1, nf2, nf3, nf4]
    refine wpList_nil ?_
    exact ⟨rfl, false, rfl, rfl, (fun h => by first | omega | (exact absurd h (by decide)) | (have h2 := of_decide_eq_true h; omega) | (have h2 := of_decide_eq_false h; omega)), (fun h => by first | omega | (exact absurd h (by decide)) | (have h2 := of_decide_eq_true h; omega) | (have h2 := of_decide_eq_false h; omega))⟩
  intro a_ w87 h_
  revert h_
  generalize jk a_ = J63
  rintro ⟨b62, rfl, rfl, hb1b62, hb0b62⟩
  cases hg88 : b62
  rotate_left
  · have hp670 := trivial
    refine wp_cond_true rfl ?_
    refine wp_seq ?_
    refine wp_region_lit ?_
    refine st_value (v := (.agg (setA 0))) (by rfl) (run_build_set rfl w58) ?_
    simp only [nf0, nf1, nf2, nf3, nf4]
    refine st_mv (.int .i64 (i : Int)) ?_
    simp only [nf0, nf1, nf2, nf3, nf4]
    refine st_row (by rfl) (run_store_set (.tmp 2) (.tmp 74) rfl rfl (S := 0) rfl B3) B3 ?_
    intro w671 B673 hg672
    simp only [nf0, nf1, nf2, nf3, nf4]
    replace O6 := O6.keptB hg672 n10
    replace O51 := O51.keptB hg672 n53
    clear B3
    replace bel := bl_kept0 bel hg672 lo5
    clear hg672
    refine st_mv (.int .i64 26) ?_
    simp only [nf0, nf1, nf2, nf3, nf4]
    refine st_mv (.int .i64 (i : Int)) ?_
    simp only [nf0, nf1, nf2, nf3, nf4]
    refine wpList_nil ?_
    show Code.wp _ _ _ _ _
    refine wp_ret ?_
    first | show bodyPost _ _ _ _ _ _ | (simp only [Exit.then, Exit.inBlock]; show bodyPost _ _ _ _ _ _)
    have hbb := hb1b62 hg88
    obtain ⟨q, k, hq⟩ := hN57.2.2.2.2.1 (by omega) (by omega)
    have hpr := hP.err h0 (it_err1 hq (by decide)) (by decide)
    exact bodyPost_ret (results_set2 (p := 2) (u := 3) (v := 4) rfl _ _ _ 0 rfl B673) rfl ⟨fin_ret (E := 26) (A := (i : Int)) hpr (by rfl) (by omega), bel⟩
  have hp89 := trivial
  refine wp_cond_false rfl ?_
  refine wp_skip ?_
  show Code.wp _ _ _ _ _
  refine wp_seq ?_
  have hb1 := hb0b62 hg88
  have hv1 : numE l i = (n55, 0, i + d56) := hN57.2.2.2.2.2.1 (by omega) (by omega)
  refine wp_region_lit ?_
  refine st_mv (.slice none 0 0) ?_
  simp only [nf0, nf1, nf2, nf3, nf4]
  refine st_mv (.int .i64 (n55 : Int)) ?_
  simp only [nf0, nf1, nf2, nf3, nf4]
  refine st_lit (by rfl) (run_lit_36_1 (.tmp 77) rfl rfl _) ?_
  intro g90 w91 B92 hb93 lo94
  simp only [nf0, nf1, nf2, nf3, nf4]
  have n95 := B3.ne lo94
  have n96 := O6.off lo94
  have n97 := O51.off lo94
  replace lo94 := low_le bel lo94
  replace B3 := B3.below hb93
  replace O6 := O6.same hb93
  replace O51 := O51.same hb93
  replace bel := bl_step bel hb93
  clear hb93
  refine st_append slInt rfl (.tmp 76) (.tmp 78) rfl rfl O51 ([(n55 : Int)] : List Int) rfl rfl B92 (by simp [Enc.all, eInt]) (by simp only [List.length_append, List.length_cons, List.length_nil]; omega) bel.size ?_
  intro v98 w99 O100 hg101 hat102
  simp only [nf0, nf1, nf2, nf3, nf4]
  have n103 := (n53 : Off _ _).app B3 hat102
  replace B3 := B3.keptR hg101 n53
  have n104 := Off2.app n54 O6 hat102
  replace O6 := O6.keptR hg101 n54.symm
  replace bel := bl_app bel O51 hg101
  clear O51 hg101 hat102
  replace O100 : OwnR w99 w.heap.size 3 (eInt .i64) v98 ([(n55 : Int)] : List Int) := by rw [List.nil_append] at O100; exact O100
  refine st_mv v98 ?_
  simp only [nf0, nf1, nf2, nf3, nf4]
  refine wpList_nil ?_
  show Code.wp _ _ _ _ _
  refine wp_seq ?_
  refine wp_region_lit ?_
  refine st_mv (.int .i64 (i : Int)) ?_
  simp only [nf0, nf1, nf2, nf3, nf4]
  refine st_mv (.int .i64 (d56 : Int)) ?_
  simp only [nf0, nf1, nf2, nf3, nf4]
  refine st_value (v := (.int .i64 ((i : Int) + (d56 : Int)))) (by rfl) (run_add_in (.tmp 80) (.tmp 81) rfl rfl rfl (by omega) w99) ?_
  simp only [nf0, nf1, nf2, nf3, nf4]
  refine st_mv (.int .i64 ((i : Int) + (d56 : Int))) ?_
  simp only [nf0, nf1, nf2, nf3, nf4]
  refine wpList_nil ?_
  show Code.wp _ _ _ _ _
  refine wp_seq ?_
  refine wp_seq ?_
  cases hg112 : decide ((l.length : Int) ≤ ((i : Int) + (d56 : Int)))
  rotate_left
  · have hp546 := of_decide_eq_true hg112
    refine wp_region_lit ?_
    refine st_mv v98 ?_
    simp only [nf0, nf1, nf2, nf3, nf4]
    obtain ⟨A547, c548, hv549, h550, h551, h552, R553⟩ := O100.reads
    rw [eInt_all] at R553
    refine st_value (v := (.int .i64 1)) (by rfl) (run_len (.tmp 83) rfl ⟨_, Tryd.underlying36⟩ (by exact hv549) w99) ?_
    simp only [nf0, nf1, nf2, nf3, nf4]
    refine st_value (v := (.bool false)) (by rfl) (run_eql_int_f (.tmp 84) (.const (.int .i64 2)) rfl rfl rfl (by decide) w99) ?_
    simp only [nf0, nf1, nf2, nf3, nf4]
    refine st_mv (.bool false) ?_
    simp only [nf0, nf1, nf2, nf3, nf4]
    refine st_mv (.int .i64 ((i : Int) + (d56 : Int))) ?_
    simp only [nf0, nf1, nf2, nf3, nf4]
    refine st_mv (.string (str l)) ?_
    simp only [nf0, nf1, nf2, nf3, nf4]
    refine st_value (v := (.int .i64 (l.length : Int))) (by rfl) (run_len_text (.tmp 88) rfl Tryd.underlying9 (l := l) rfl w99) ?_
    simp only [nf0, nf1, nf2, nf3, nf4]
    refine st_value (v := (.bool true)) (by rfl) ((run_geq (.tmp 87) (.tmp 89) rfl rfl rfl w99).trans (by rw [hg112])) ?_
    simp only [nf0, nf1, nf2, nf3, nf4]
    refine st_mv (.bool true) ?_
    simp only [nf0, nf1, nf2, nf3, nf4]
    refine st_mv (.bool true) ?_
    simp only [nf0, nf1, nf2, nf3, nf4]
    refine st_nob (j := 9) (t := 92) (c := true) rfl rfl rfl rfl rfl ?_
    simp only [nf0, nf1, nf2, nf3, nf4]
    refine st_nob (j := 9) (t := 92) (c := true) rfl rfl rfl rfl rfl ?_
    simp only [nf0, nf1, nf2, nf3, nf4]
    refine st_nob (j := 9) (t := 92) (c := true) rfl rfl rfl rfl rfl ?_
    simp only [nf0, nf1, nf2, nf3, nf4]
    refine st_nob (j := 9) (t := 92) (c := true) rfl rfl rfl rfl rfl ?_
    simp only [nf0, nf1, nf2, nf3, nf4]
    refine st_mv (.bool true) ?_
    simp only [nf0, nf1, nf2, nf3, nf4]
    refine wpList_nil ?_
    show Code.wp _ _ _ _ _
    refine wp_cond_true rfl ?_
    refine wp_exit ?_
    show Code.wp _ _ _ _ _
    refine wp_seq ?_
    refine wp_seq ?_
    cases hg554 : decide (((i : Int) + (d56 : Int)) < (l.length : Int))
    rotate_left
    · have hp669 := of_decide_eq_true hg554
      exfalso
      omega
    have hp555 := of_decide_eq_false hg554
    have hT := it_one hv1 (by omega)
    refine wp_region_lit ?_
    refine st_mv (.int .i64 ((i : Int) + (d56 : Int))) ?_
    simp only [nf0, nf1, nf2, nf3, nf4]
    refine st_mv (.string (str l)) ?_
    simp only [nf0, nf1, nf2, nf3, nf4]
    refine st_value (v := (.int .i64 (l.length : Int))) (by rfl) (run_len_text (.tmp 101) rfl Tryd.underlying9 (l := l) rfl w99) ?_
    simp only [nf0, nf1, nf2, nf3, nf4]
    refine st_value (v := (.bool false)) (by rfl) ((run_lss (.tmp 100) (.tmp 102) rfl rfl rfl w99).trans (by rw [hg554])) ?_
    simp only [nf0, nf1, nf2, nf3, nf4]
    refine st_mv (.bool false) ?_
    simp only [nf0, nf1, nf2, nf3, nf4]
    refine st_nob (j := 4) (t := 104) (c := false) rfl rfl rfl rfl rfl ?_
    simp only [nf0, nf1, nf2, nf3, nf4]
    refine st_nob (j := 4) (t := 104) (c := false) rfl rfl rfl rfl rfl ?_
    simp only [nf0, nf1, nf2, nf3, nf4]
    refine st_nob (j := 4) (t := 104) (c := false) rfl rfl rfl rfl rfl ?_
    simp only [nf0, nf1, nf2, nf3, nf4]
    refine st_nob (j := 4) (t := 104) (c := false) rfl rfl rfl rfl rfl ?_
    simp only [nf0, nf1, nf2, nf3, nf4]
    refine st_mv (.bool false) ?_
    simp only [nf0, nf1, nf2, nf3, nf4]
    refine wpList_nil ?_
    show Code.wp _ _ _ _ _
    refine wp_cond_false rfl ?_
    refine wp_skip ?_
    show Code.wp _ _ _ _ _
    refine wp_seq ?_
    refine wp_seq ?_
    have hI : itemE l i = (n55, n55, 0, 0, (i + d56)) := hT.trans (tail_ok _ _ (by omega))
    refine wp_region_lit ?_
    refine st_mv v98 ?_
    simp only [nf0, nf1, nf2, nf3, nf4]
    obtain ⟨A556, c557, hv558, h559, h560, h561, R562⟩ := O100.reads
    rw [eInt_all] at R562
    obtain ⟨b563, o564, rfl, _⟩ := R562.at_ (by simp)
    refine st_value (v := (.pointer (some ⟨b563, o564 + 0 * 1, none⟩))) (by rfl) (run_indexAddrN (.tmp 112) (.const (.int .i64 0)) rfl Tryd.underlying36 slInt.sz (i := 0) (by exact hv558) rfl (by simp) w99) ?_
    simp only [nf0, nf1, nf2, nf3, nf4]
    refine st_value (v := (.int .i64 (n55 : Int))) (by rfl) (run_load1 (.tmp 113) rfl Tryd.underlying3 rfl slInt.sz rfl (Reads.intAt R562 0 (by simp))) ?_
    simp only [nf0, nf1, nf2, nf3, nf4]
    refine st_mv (.int .i64 (n55 : Int)) ?_
    simp only [nf0, nf1, nf2, nf3, nf4]
    refine wpList_nil ?_
    show Code.wp _ _ _ _ _
    refine wp_block ?_
    refine wp_loop_left (fun n_ a_ wr_ => (fun J565 => ∃ (x : Int), n_ = ((n55 : Int) + 1 - x).toNat ∧ a_ = ⟨#[.string (str l), J565 1, .pointer (some ⟨g1, 0, none⟩), J565 3, J565 4, vl, .int .i64 ((i : Int) + (d56 : Int)), .int .i64 (i : Int), v98, .int .i64 (n55 : Int), .int .i64 (d56 : Int), .int .i64 x, J9 12, J565 13, J565 14, J565 15, J565 16, J565 17, J565 18, J565 19, J565 20, J565 21, J565 22, J565 23, J565 24, J565 25, J565 26, J565 27, J565 28, J565 29, J565 30, J565 31, J565 32, J565 33, J565 34, J565 35, J565 36, J565 37, J565 38, J565 39, J565 40, J565 41, J565 42, J565 43, J565 44, J565 45, J565 46, J565 47, J565 48, J565 49, J565 50, J565 51, J565 52, J565 53, J565 54, J565 55, J565 56, J565 57, J565 58, J565 59, J565 60, J565 61, J565 62, J565 63, J565 64, J565 65, J565 66, J565 67, J565 68, J565 69, J565 70, J565 71, J565 72, J565 73, J565 74, J565 75, J565 76, J565 77, J565 78, J565 79, J565 80, J565 81, J565 82, J565 83, J565 84, J565 85, J565 86, J565 87, J565 88, J565 89, J565 90, J565 91, J565 92, J565 93, J565 94, J565 95, J565 96, J565 97, J565 98, J565 99, J565 100, J565 101, J565 102, J565 103, J565 104, J565 105, J565 106, J565 107, J565 108, J565 109, J565 110, J565 111, J565 112, J565 113, J565 114, J565 115, J565 116, J565 117, J565 118, J565 119, J565 120, J565 121, J565 122, J565 123, J565 124, J565 125, J565 126, J565 127, J565 128, J565 129, J565 130, J565 131, J565 132, J565 133, J565 134, J565 135, J565 136, J565 137, J565 138, J565 139, J565 140, J565 141, J565 142, J565 143, J565 144, J565 145, J565 146, J565 147, J565 148, J565 149, J565 150, J565 151, J565 152, J565 153, J565 154, J565 155], []⟩ ∧ Blk wr_ g1 (setA 0) 24 ∧ OwnR wr_ w.heap.size 3 (eInt .i64) vl xs ∧ OwnR wr_ w.heap.size 3 (eInt .i64) v98 ([(n55 : Int)] : List Int) ∧ Off vl g1 ∧ Off v98 g1 ∧ Off2 vl v98 ∧ Below w.heap.size w wr_ ∧ (n55 : Int) ≤ x ∧ x ≤ (n55 : Int) + 1 ∧ ∀ j : Int, (n55 : Int) ≤ j → j < x → has (mk xs) j = false) (jk a_)) (((n55 : Int) + 1 - (n55 : Int)).toNat) ⟨(n55 : Int), rfl, rfl, B3, O6, O100, n10, n103, n104.symm, bel, (by omega), (by omega), (fun j a b => absurd a (by omega))⟩ ?_
    clear B3
    clear O6
    clear O100
    clear n10 n103 n104
    clear bel
    intro n_ a_ w569 h_
    revert h_
    generalize jk a_ = J565
    rintro ⟨x, hn, rfl, B3, O6, O100, n566, n567, n568, bel, hx1, hx2, hno⟩
    refine wp_seq ?_
    refine wp_seq ?_
    refine wp_region_lit ?_
    refine st_mv (.int .i64 x) ?_
    simp only [nf0, nf1, nf2, nf3, nf4]
    refine st_mv v98 ?_
    simp only [nf0, nf1, nf2, nf3, nf4]
    refine st_mv v98 ?_
    simp only [nf0, nf1, nf2, nf3, nf4]
    obtain ⟨A570, c571, hv572, h573, h574, h575, R576⟩ := O100.reads
    rw [eInt_all] at R576
    refine st_value (v := (.int .i64 1)) (by rfl) (run_len (.tmp 117) rfl ⟨_, Tryd.underlying36⟩ (by exact hv572) w569) ?_
    simp only [nf0, nf1, nf2, nf3, nf4]
    refine st_value (v := (.int .i64 0)) (by rfl) (run_sub_in (m := 1) (n := 1) (.tmp 118) (.const (.int .i64 1)) rfl rfl rfl (by omega) w569) ?_
    simp only [nf0, nf1, nf2, nf3, nf4]
    obtain ⟨A577, c578, hv579, h580, h581, h582, R583⟩ := O100.reads
    rw [eInt_all] at R583
    obtain ⟨b584, o585, rfl, _⟩ := R583.at_ (by simp)
    refine st_value (v := (.pointer (some ⟨b584, o585 + 0 * 1, none⟩))) (by rfl) (run_indexAddrN (.tmp 116) (.tmp 119) rfl Tryd.underlying36 slInt.sz (i := 0) (by exact hv579) rfl (by simp) w569) ?_
    simp only [nf0, nf1, nf2, nf3, nf4]
    refine st_value (v := (.int .i64 (n55 : Int))) (by rfl) (run_load1 (.tmp 120) rfl Tryd.underlying3 rfl slInt.sz rfl (Reads.intAt R583 0 (by simp))) ?_
    simp only [nf0, nf1, nf2, nf3, nf4]
    refine st_value (v := (.bool (decide (x ≤ (n55 : Int))))) (by rfl) (run_leq (.tmp 115) (.tmp 121) rfl rfl rfl w569) ?_
    simp only [nf0, nf1, nf2, nf3, nf4]
    refine wpList_nil ?_
    show Code.wp _ _ _ _ _
    cases hg586 : decide (x ≤ (n55 : Int))
    rotate_left
    · have hp651 := of_decide_eq_true hg586
      refine wp_cond_true rfl ?_
      refine wp_skip ?_
      show Code.wp _ _ _ _ _
      refine wp_seq ?_
      refine wp_block ?_
      refine wp_seq ?_
      refine wp_region_lit ?_
      refine st_mv vl ?_
      simp only [nf0, nf1, nf2, nf3, nf4]
      obtain ⟨A652, c653, hv654, h655, h656, h657, R658⟩ := O6.reads
      rw [eInt_all] at R658
      refine st_call1 (v := (.agg (setA (mk xs)))) (by rfl) (run_call_22_1 (.tmp 125) rfl rfl _) (by rw [hv654]; exact make_calls A652 xs c653 w569 R658 (by have := hP.2.2.2.2; have := hP.1; first | omega | (rw [ext_len]; omega))) ?_
      intro w659 hb660
      simp only [nf0, nf1, nf2, nf3, nf4]
      replace B3 := B3.below hb660
      replace O6 := O6.same hb660
      replace O100 := O100.same hb660
      replace bel := bl_step bel hb660
      clear hb660
      refine st_mv (.int .i64 x) ?_
      simp only [nf0, nf1, nf2, nf3, nf4]
      refine st_call1 (v := (.bool (has (mk xs) x))) (by rfl) (run_call_26_2 (.tmp 126) (.tmp 127) rfl rfl rfl _) (refHas_below (mk xs) (mk_sm _) x w659) ?_
      intro w661 hb662
      simp only [nf0, nf1, nf2, nf3, nf4]
      replace B3 := B3.below hb662
      replace O6 := O6.same hb662
      replace O100 := O100.same hb662
      replace bel := bl_step bel hb662
      clear hb662
      refine wpList_nil ?_
      show Code.wp _ _ _ _ _
      cases hg663 : has (mk xs) x
      · have hp664 := trivial
        refine wp_cond_false rfl ?_
        refine wp_skip ?_
        show Code.wp _ _ _ _ _
        refine wp_region_lit ?_
        refine st_mv (.int .i64 x) ?_
        simp only [nf0, nf1, nf2, nf3, nf4]
        refine st_value (v := (.int .i64 (x + 1))) (by rfl) (run_add_in (.tmp 123) (.const (.int .i64 1)) rfl rfl rfl (by omega) w661) ?_
        simp only [nf0, nf1, nf2, nf3, nf4]
        refine st_mv (.int .i64 (x + 1)) ?_
        simp only [nf0, nf1, nf2, nf3, nf4]
        refine wpList_nil ?_
        show ∃ m, m < _ ∧ _
        exact ⟨_, (by omega), (x + 1), rfl, rfl, B3, O6, O100, n566, n567, n568, bel, (by omega), (by omega), (hno_step hno hg663)⟩
      have hp665 := trivial
      refine wp_cond_true rfl ?_
      refine wp_seq ?_
      refine wp_region_lit ?_
      refine st_value (v := (.agg (setA 0))) (by rfl) (run_build_set rfl w661) ?_
      simp only [nf0, nf1, nf2, nf3, nf4]
      refine st_mv (.int .i64 (i : Int)) ?_
      simp only [nf0, nf1, nf2, nf3, nf4]
      refine st_row (by rfl) (run_store_set (.tmp 2) (.tmp 129) rfl rfl (S := 0) rfl B3) B3 ?_
      intro w666 B668 hg667
      simp only [nf0, nf1, nf2, nf3, nf4]
      replace O6 := O6.keptB hg667 n566
      replace O100 := O100.keptB hg667 n567
      clear B3
      replace bel := bl_kept0 bel hg667 lo5
      clear hg667
      refine st_mv (.int .i64 9) ?_
      simp only [nf0, nf1, nf2, nf3, nf4]
      refine st_mv (.int .i64 (i : Int)) ?_
      simp only [nf0, nf1, nf2, nf3, nf4]
      refine wpList_nil ?_
      show Code.wp _ _ _ _ _
      refine wp_ret ?_
      first | show bodyPost _ _ _ _ _ _ | (simp only [Exit.then, Exit.inBlock]; show bodyPost _ _ _ _ _ _)
      have hpr := hP.lap h0 hI hx1 (by omega) (by omega) hg663
      exact bodyPost_ret (results_set2 (p := 2) (u := 3) (v := 4) rfl _ _ _ 0 rfl B668) rfl ⟨fin_ret (E := 9) (A := (i : Int)) hpr (by rfl) (by omega), bel⟩
    have hp587 := of_decide_eq_false hg586
    refine wp_cond_false rfl ?_
    refine wp_exit ?_
    show Code.wp _ _ _ _ _
    refine wp_seq ?_
    refine wp_seq ?_
    obtain rfl : x = ((n55 : Int) + 1) := by omega
    refine wp_region_lit ?_
    refine st_mv v98 ?_
    simp only [nf0, nf1, nf2, nf3, nf4]
    obtain ⟨A588, c589, hv590, h591, h592, h593, R594⟩ := O100.reads
    rw [eInt_all] at R594
    obtain ⟨b595, o596, rfl, _⟩ := R594.at_ (by simp)
    refine st_value (v := (.pointer (some ⟨b595, o596 + 0 * 1, none⟩))) (by rfl) (run_indexAddrN (.tmp 131) (.const (.int .i64 0)) rfl Tryd.underlying36 slInt.sz (i := 0) (by exact hv590) rfl (by simp) w569) ?_
    simp only [nf0, nf1, nf2, nf3, nf4]
    refine st_value (v := (.int .i64 (n55 : Int))) (by rfl) (run_load1 (.tmp 132) rfl Tryd.underlying3 rfl slInt.sz rfl (Reads.intAt R594 0 (by simp))) ?_
    simp only [nf0, nf1, nf2, nf3, nf4]
    refine st_mv (.int .i64 (n55 : Int)) ?_
    simp only [nf0, nf1, nf2, nf3, nf4]
    refine wpList_nil ?_
    show Code.wp _ _ _ _ _
    refine wp_block ?_
    refine wp_loop_left (fun n_ a_ wr_ => (fun J597 => ∃ (y : Int) (vy : Value), n_ = ((n55 : Int) + 1 - y).toNat ∧ a_ = ⟨#[.string (str l), J597 1, .pointer (some ⟨g1, 0, none⟩), J565 3, J565 4, vy, .int .i64 ((i : Int) + (d56 : Int)), .int .i64 (i : Int), v98, .int .i64 (n55 : Int), .int .i64 (d56 : Int), .int .i64 ((n55 : Int) + 1), .int .i64 y, J597 13, J597 14, J597 15, J597 16, J597 17, J597 18, J597 19, J597 20, J597 21, J597 22, J597 23, J597 24, J597 25, J597 26, J597 27, J597 28, J597 29, J597 30, J597 31, J597 32, J597 33, J597 34, J597 35, J597 36, J597 37, J597 38, J597 39, J597 40, J597 41, J597 42, J597 43, J597 44, J597 45, J597 46, J597 47, J597 48, J597 49, J597 50, J597 51, J597 52, J597 53, J597 54, J597 55, J597 56, J597 57, J597 58, J597 59, J597 60, J597 61, J597 62, J597 63, J597 64, J597 65, J597 66, J597 67, J597 68, J597 69, J597 70, J597 71, J597 72, J597 73, J597 74, J597 75, J597 76, J597 77, J597 78, J597 79, J597 80, J597 81, J597 82, J597 83, J597 84, J597 85, J597 86, J597 87, J597 88, J597 89, J597 90, J597 91, J597 92, J597 93, J597 94, J597 95, J597 96, J597 97, J597 98, J597 99, J597 100, J597 101, J597 102, J597 103, J597 104, J597 105, J597 106, J597 107, J597 108, J597 109, J597 110, J597 111, J597 112, J597 113, J597 114, J597 115, J597 116, J597 117, J597 118, J597 119, J597 120, J597 121, J597 122, J597 123, J597 124, J597 125, J597 126, J597 127, J597 128, J597 129, J597 130, J597 131, J597 132, J597 133, J597 134, J597 135, J597 136, J597 137, J597 138, J597 139, J597 140, J597 141, J597 142, J597 143, J597 144, J597 145, J597 146, J597 147, J597 148, J597 149, J597 150, J597 151, J597 152, J597 153, J597 154, J597 155], []⟩ ∧ Blk wr_ g1 (setA 0) 24 ∧ OwnR wr_ w.heap.size 3 (eInt .i64) vy (ext xs (n55 : Int) y) ∧ OwnR wr_ w.heap.size 3 (eInt .i64) v98 ([(n55 : Int)] : List Int) ∧ Off vy g1 ∧ Off v98 g1 ∧ Off2 vy v98 ∧ Below w.heap.size w wr_ ∧ (n55 : Int) ≤ y ∧ y ≤ (n55 : Int) + 1) (jk a_)) (((n55 : Int) + 1 - (n55 : Int)).toNat) ⟨(n55 : Int), vl, rfl, rfl, B3, (by rw [ext_same]; exact O6), O100, n566, n567, n568, bel, (by omega), (by omega)⟩ ?_
    clear B3
    clear O6
    clear O100
    clear n566 n567 n568
    clear bel
    intro n_ a_ w601 h_
    revert h_
    generalize jk a_ = J597
    rintro ⟨y, vy, hn, rfl, B3, O6, O100, n598, n599, n600, bel, hy1, hy2⟩
    refine wp_seq ?_
    refine wp_seq ?_
    refine wp_region_lit ?_
    refine st_mv (.int .i64 y) ?_
    simp only [nf0, nf1, nf2, nf3, nf4]
    refine st_mv v98 ?_
    simp only [nf0, nf1, nf2, nf3, nf4]
    refine st_mv v98 ?_
    simp only [nf0, nf1, nf2, nf3, nf4]
    obtain ⟨A602, c603, hv604, h605, h606, h607, R608⟩ := O100.reads
    rw [eInt_all] at R608
    refine st_value (v := (.int .i64 1)) (by rfl) (run_len (.tmp 136) rfl ⟨_, Tryd.underlying36⟩ (by exact hv604) w601) ?_
    simp only [nf0, nf1, nf2, nf3, nf4]
    refine st_value (v := (.int .i64 0)) (by rfl) (run_sub_in (m := 1) (n := 1) (.tmp 137) (.const (.int .i64 1)) rfl rfl rfl (by omega) w601) ?_
    simp only [nf0, nf1, nf2, nf3, nf4]
    obtain ⟨A609, c610, hv611, h612, h613, h614, R615⟩ := O100.reads
    rw [eInt_all] at R615
    obtain ⟨b616, o617, rfl, _⟩ := R615.at_ (by simp)
    refine st_value (v := (.pointer (some ⟨b616, o617 + 0 * 1, none⟩))) (by rfl) (run_indexAddrN (.tmp 135) (.tmp 138) rfl Tryd.underlying36 slInt.sz (i := 0) (by exact hv611) rfl (by simp) w601) ?_
    simp only [nf0, nf1, nf2, nf3, nf4]
    refine st_value (v := (.int .i64 (n55 : Int))) (by rfl) (run_load1 (.tmp 139) rfl Tryd.underlying3 rfl slInt.sz rfl (Reads.intAt R615 0 (by simp))) ?_
    simp only [nf0, nf1, nf2, nf3, nf4]
    refine st_value (v := (.bool (decide (y ≤ (n55 : Int))))) (by rfl) (run_leq (.tmp 134) (.tmp 140) rfl rfl rfl w601) ?_
    simp only [nf0, nf1, nf2, nf3, nf4]
    refine wpList_nil ?_
    show Code.wp _ _ _ _ _
    cases hg618 : decide (y ≤ (n55 : Int))
    rotate_left
    · have hp635 := of_decide_eq_true hg618
      refine wp_cond_true rfl ?_
      refine wp_skip ?_
      show Code.wp _ _ _ _ _
      refine wp_seq ?_
      refine wp_block ?_
      refine wp_region_lit ?_
      refine st_mv vy ?_
      simp only [nf0, nf1, nf2, nf3, nf4]
      refine st_mv (.int .i64 y) ?_
      simp only [nf0, nf1, nf2, nf3, nf4]
      refine st_lit (by rfl) (run_lit_36_1 (.tmp 145) rfl rfl _) ?_
      intro g636 w637 B638 hb639 lo640
      simp only [nf0, nf1, nf2, nf3, nf4]
      have n641 := B3.ne lo640
      have n642 := O6.off lo640
      have n643 := O100.off lo640
      replace lo640 := low_le bel lo640
      replace B3 := B3.below hb639
      replace O6 := O6.same hb639
      replace O100 := O100.same hb639
      replace bel := bl_step bel hb639
      clear hb639
      refine st_append slInt rfl (.tmp 144) (.tmp 146) rfl rfl O6 ([y] : List Int) rfl rfl B638 (by simp [Enc.all, eInt]) (by have := hP.2.2.2.2; have := hP.1; simp only [ext_len, List.length_cons, List.length_nil]; omega) bel.size ?_
      intro v644 w645 O646 hg647 hat648
      simp only [nf0, nf1, nf2, nf3, nf4]
      have n649 := (n598 : Off _ _).app B3 hat648
      replace B3 := B3.keptR hg647 n598
      have n650 := Off2.app n600 O100 hat648
      replace O100 := O100.keptR hg647 n600.symm
      replace bel := bl_app bel O6 hg647
      clear O6 hg647 hat648
      refine st_mv v644 ?_
      simp only [nf0, nf1, nf2, nf3, nf4]
      refine wpList_nil ?_
      show Code.wp _ _ _ _ _
      refine wp_region_lit ?_
      refine st_mv (.int .i64 y) ?_
      simp only [nf0, nf1, nf2, nf3, nf4]
      refine st_value (v := (.int .i64 (y + 1))) (by rfl) (run_add_in (.tmp 142) (.const (.int .i64 1)) rfl rfl rfl (by omega) w645) ?_
      simp only [nf0, nf1, nf2, nf3, nf4]
      refine st_mv (.int .i64 (y + 1)) ?_
      simp only [nf0, nf1, nf2, nf3, nf4]
      refine wpList_nil ?_
      show ∃ m, m < _ ∧ _
      exact ⟨_, (by omega), (y + 1), v644, rfl, rfl, B3, (by rw [ext_succ _ hy1]; exact O646), O100, n649, n599, n650, bel, (by omega), (by omega)⟩
    have hp619 := of_decide_eq_false hg618
    refine wp_cond_false rfl ?_
    refine wp_exit ?_
    show Code.wp _ _ _ _ _
    refine wp_seq ?_
    refine wp_seq ?_
    obtain rfl : y = ((n55 : Int) + 1) := by omega
    refine wp_region_lit ?_
    refine st_mv (.int .i64 ((i : Int) + (d56 : Int))) ?_
    simp only [nf0, nf1, nf2, nf3, nf4]
    refine st_mv (.string (str l)) ?_
    simp only [nf0, nf1, nf2, nf3, nf4]
    refine st_value (v := (.int .i64 (l.length : Int))) (by rfl) (run_len_text (.tmp 149) rfl Tryd.underlying9 (l := l) rfl w601) ?_
    simp only [nf0, nf1, nf2, nf3, nf4]
    refine st_value (v := (.bool (decide (((i : Int) + (d56 : Int)) = (l.length : Int))))) (by rfl) (run_eql_int (.tmp 148) (.tmp 150) rfl rfl rfl w601) ?_
    simp only [nf0, nf1, nf2, nf3, nf4]
    refine wpList_nil ?_
    show Code.wp _ _ _ _ _
    cases hg620 : decide (((i : Int) + (d56 : Int)) = (l.length : Int))
    · have hp621 := of_decide_eq_false hg620
      exfalso
      omega
    have hp622 := of_decide_eq_true hg620
    refine wp_cond_true rfl ?_
    refine wp_exit ?_
    show Code.wp _ _ _ _ _
    refine wp_seq ?_
    refine wp_region_lit ?_
    refine st_mv vy ?_
    simp only [nf0, nf1, nf2, nf3, nf4]
    obtain ⟨A623, c624, hv625, h626, h627, h628, R629⟩ := O6.reads
    rw [eInt_all] at R629
    refine st_call1 (v := (.agg (setA (mk (ext xs (n55 : Int) ((n55 : Int) + 1)))))) (by rfl) (run_call_22_1 (.tmp 154) rfl rfl _) (by rw [hv625]; exact make_calls A623 (ext xs (n55 : Int) ((n55 : Int) + 1)) c624 w601 R629 (by have := hP.2.2.2.2; have := hP.1; first | omega | (rw [ext_len]; omega))) ?_
    intro w630 hb631
    simp only [nf0, nf1, nf2, nf3, nf4]
    replace B3 := B3.below hb631
    replace O6 := O6.same hb631
    replace O100 := O100.same hb631
    replace bel := bl_step bel hb631
    clear hb631
    refine st_row (by rfl) (run_store_set (.tmp 2) (.tmp 155) rfl rfl (S := (mk (ext xs (n55 : Int) ((n55 : Int) + 1)))) rfl B3) B3 ?_
    intro w632 B634 hg633
    simp only [nf0, nf1, nf2, nf3, nf4]
    replace O6 := O6.keptB hg633 n598
    replace O100 := O100.keptB hg633 n599
    clear B3
    replace bel := bl_kept0 bel hg633 lo5
    clear hg633
    refine st_mv (.int .i64 0) ?_
    simp only [nf0, nf1, nf2, nf3, nf4]
    refine st_mv (.int .i64 0) ?_
    simp only [nf0, nf1, nf2, nf3, nf4]
    refine wpList_nil ?_
    show Code.wp _ _ _ _ _
    refine wp_ret ?_
    first | show bodyPost _ _ _ _ _ _ | (simp only [Exit.then, Exit.inBlock]; show bodyPost _ _ _ _ _ _)
    have hpr := hP.last h0 hI (by omega) hno (by omega)
    exact bodyPost_ret (results_set2 (p := 2) (u := 3) (v := 4) rfl _ _ _ (mk (ext xs (n55 : Int) ((n55 : Int) + 1))) rfl B634) rfl ⟨fin_ret (E := 0) (A := 0) hpr (by rfl) (by omega), bel⟩
  have hp113 := of_decide_eq_false hg112
  refine wp_region_lit ?_
  refine st_mv v98 ?_
  simp only [nf0, nf1, nf2, nf3, nf4]
  obtain ⟨A114, c115, hv116, h117, h118, h119, R120⟩ := O100.reads
  rw [eInt_all] at R120
  refine st_value (v := (.int .i64 1)) (by rfl) (run_len (.tmp 83) rfl ⟨_, Tryd.underlying36⟩ (by exact hv116) w99) ?_
  simp only [nf0, nf1, nf2, nf3, nf4]
  refine st_value (v := (.bool false)) (by rfl) (run_eql_int_f (.tmp 84) (.const (.int .i64 2)) rfl rfl rfl (by decide) w99) ?_
  simp only [nf0, nf1, nf2, nf3, nf4]
  refine st_mv (.bool false) ?_
  simp only [nf0, nf1, nf2, nf3, nf4]
  refine st_mv (.int .i64 ((i : Int) + (d56 : Int))) ?_
  simp only [nf0, nf1, nf2, nf3, nf4]
  refine st_mv (.string (str l)) ?_
  simp only [nf0, nf1, nf2, nf3, nf4]
  refine st_value (v := (.int .i64 (l.length : Int))) (by rfl) (run_len_text (.tmp 88) rfl Tryd.underlying9 (l := l) rfl w99) ?_
  simp only [nf0, nf1, nf2, nf3, nf4]
  refine st_value (v := (.bool false)) (by rfl) ((run_geq (.tmp 87) (.tmp 89) rfl rfl rfl w99).trans (by rw [hg112])) ?_
  simp only [nf0, nf1, nf2, nf3, nf4]
  refine st_mv (.bool false) ?_
  simp only [nf0, nf1, nf2, nf3, nf4]
  refine st_mv (.bool false) ?_
  simp only [nf0, nf1, nf2, nf3, nf4]
  refine st_mv (.string (str l)) ?_
  simp only [nf0, nf1, nf2, nf3, nf4]
  refine st_mv (.int .i64 ((i : Int) + (d56 : Int))) ?_
  simp only [nf0, nf1, nf2, nf3, nf4]
  refine st_value (v := (.int .u8 (chr l (i + d56)))) (by rfl) (run_index_text (.tmp 93) (.tmp 94) rfl Tryd.underlying9 (l := l) rfl rfl (i + d56) (by omega) (by omega) w99) ?_
  simp only [nf0, nf1, nf2, nf3, nf4]
  refine st_value (v := (.bool (!decide ((chr l (i + d56)) = 45)))) (by rfl) (run_neq_int (.tmp 95) (.const (.int .u8 45)) rfl rfl rfl w99) ?_
  simp only [nf0, nf1, nf2, nf3, nf4]
  refine st_mv (.bool (!decide ((chr l (i + d56)) = 45))) ?_
  simp only [nf0, nf1, nf2, nf3, nf4]
  refine wpList_nil ?_
  show Code.wp _ _ _ _ _
  cases hg121 : decide ((chr l (i + d56)) = 45)
  · have hp122 := of_decide_eq_false hg121
    refine wp_cond_true rfl ?_
    refine wp_exit ?_
    show Code.wp _ _ _ _ _
    refine wp_seq ?_
    refine wp_seq ?_
    cases hg123 : decide (((i : Int) + (d56 : Int)) < (l.length : Int))
    · have hp124 := of_decide_eq_false hg123
      exfalso
      omega
    have hp125 := of_decide_eq_true hg123
    have hT := it_one hv1 (by omega)
    refine wp_region_lit ?_
    refine st_mv (.int .i64 ((i : Int) + (d56 : Int))) ?_
    simp only [nf0, nf1, nf2, nf3, nf4]
    refine st_mv (.string (str l)) ?_
    simp only [nf0, nf1, nf2, nf3, nf4]
    refine st_value (v := (.int .i64 (l.length : Int))) (by rfl) (run_len_text (.tmp 101) rfl Tryd.underlying9 (l := l) rfl w99) ?_
    simp only [nf0, nf1, nf2, nf3, nf4]
    refine st_value (v := (.bool true)) (by rfl) ((run_lss (.tmp 100) (.tmp 102) rfl rfl rfl w99).trans (by rw [hg123])) ?_
    simp only [nf0, nf1, nf2, nf3, nf4]
    refine st_mv (.bool true) ?_
    simp only [nf0, nf1, nf2, nf3, nf4]
    refine st_mv (.string (str l)) ?_
    simp only [nf0, nf1, nf2, nf3, nf4]
    refine st_mv (.int .i64 ((i : Int) + (d56 : Int))) ?_
    simp only [nf0, nf1, nf2, nf3, nf4]
    refine st_value (v := (.int .u8 (chr l (i + d56)))) (by rfl) (run_index_text (.tmp 105) (.tmp 106) rfl Tryd.underlying9 (l := l) rfl rfl (i + d56) (by omega) (by omega) w99) ?_
    simp only [nf0, nf1, nf2, nf3, nf4]
    refine st_value (v := (.bool (!decide ((chr l (i + d56)) = 44)))) (by rfl) (run_neq_int (.tmp 107) (.const (.int .u8 44)) rfl rfl rfl w99) ?_
    simp only [nf0, nf1, nf2, nf3, nf4]
    refine st_mv (.bool (!decide ((chr l (i + d56)) = 44))) ?_
    simp only [nf0, nf1, nf2, nf3, nf4]
    refine wpList_nil ?_
    show Code.wp _ _ _ _ _
    cases hg126 : decide ((chr l (i + d56)) = 44)
    · have hp127 := of_decide_eq_false hg126
      refine wp_cond_true rfl ?_
      refine wp_seq ?_
      refine wp_region_lit ?_
      refine st_value (v := (.agg (setA 0))) (by rfl) (run_build_set rfl w99) ?_
      simp only [nf0, nf1, nf2, nf3, nf4]
      refine st_mv (.int .i64 ((i : Int) + (d56 : Int))) ?_
      simp only [nf0, nf1, nf2, nf3, nf4]
      refine st_row (by rfl) (run_store_set (.tmp 2) (.tmp 110) rfl rfl (S := 0) rfl B3) B3 ?_
      intro w128 B130 hg129
      simp only [nf0, nf1, nf2, nf3, nf4]
      replace O6 := O6.keptB hg129 n10
      replace O100 := O100.keptB hg129 n103
      clear B3
      replace bel := bl_kept0 bel hg129 lo5
      clear hg129
      refine st_mv (.int .i64 20) ?_
      simp only [nf0, nf1, nf2, nf3, nf4]
      refine st_mv (.int .i64 ((i : Int) + (d56 : Int))) ?_
      simp only [nf0, nf1, nf2, nf3, nf4]
      refine wpList_nil ?_
      show Code.wp _ _ _ _ _
      refine wp_ret ?_
      first | show bodyPost _ _ _ _ _ _ | (simp only [Exit.then, Exit.inBlock]; show bodyPost _ _ _ _ _ _)
      have hpr := hP.err h0 (hT.trans (tail_bad _ _ (by omega) (by omega))) (by decide)
      exact bodyPost_ret (results_set2 (p := 2) (u := 3) (v := 4) rfl _ _ _ 0 rfl B130) rfl ⟨fin_ret (E := 20) (A := ((i : Int) + (d56 : Int))) hpr (by rfl) (by omega), bel⟩
    have hp131 := of_decide_eq_true hg126
    refine wp_cond_false rfl ?_
    refine wp_skip ?_
    show Code.wp _ _ _ _ _
    refine wp_seq ?_
    refine wp_seq ?_
    have hI : itemE l i = (n55, n55, 0, 0, (i + d56)) := hT.trans (tail_ok _ _ (by omega))
    refine wp_region_lit ?_
    refine st_mv v98 ?_
    simp only [nf0, nf1, nf2, nf3, nf4]
    obtain ⟨A132, c133, hv134, h135, h136, h137, R138⟩ := O100.reads
    rw [eInt_all] at R138
    obtain ⟨b139, o140, rfl, _⟩ := R138.at_ (by simp)
    refine st_value (v := (.pointer (some ⟨b139, o140 + 0 * 1, none⟩))) (by rfl) (run_indexAddrN (.tmp 112) (.const (.int .i64 0)) rfl Tryd.underlying36 slInt.sz (i := 0) (by exact hv134) rfl (by simp) w99) ?_
    simp only [nf0, nf1, nf2, nf3, nf4]
    refine st_value (v := (.int .i64 (n55 : Int))) (by rfl) (run_load1 (.tmp 113) rfl Tryd.underlying3 rfl slInt.sz rfl (Reads.intAt R138 0 (by simp))) ?_
    simp only [nf0, nf1, nf2, nf3, nf4]
    refine st_mv (.int .i64 (n55 : Int)) ?_
    simp only [nf0, nf1, nf2, nf3, nf4]
    refine wpList_nil ?_
    show Code.wp _ _ _ _ _
    refine wp_block ?_
    refine wp_loop_left (fun n_ a_ wr_ => (fun J141 => ∃ (x : Int), n_ = ((n55 : Int) + 1 - x).toNat ∧ a_ = ⟨#[.string (str l), J141 1, .pointer (some ⟨g1, 0, none⟩), J141 3, J141 4, vl, .int .i64 ((i : Int) + (d56 : Int)), .int .i64 (i : Int), v98, .int .i64 (n55 : Int), .int .i64 (d56 : Int), .int .i64 x, J9 12, J141 13, J141 14, J141 15, J141 16, J141 17, J141 18, J141 19, J141 20, J141 21, J141 22, J141 23, J141 24, J141 25, J141 26, J141 27, J141 28, J141 29, J141 30, J141 31, J141 32, J141 33, J141 34, J141 35, J141 36, J141 37, J141 38, J141 39, J141 40, J141 41, J141 42, J141 43, J141 44, J141 45, J141 46, J141 47, J141 48, J141 49, J141 50, J141 51, J141 52, J141 53, J141 54, J141 55, J141 56, J141 57, J141 58, J141 59, J141 60, J141 61, J141 62, J141 63, J141 64, J141 65, J141 66, J141 67, J141 68, J141 69, J141 70, J141 71, J141 72, J141 73, J141 74, J141 75, J141 76, J141 77, J141 78, J141 79, J141 80, J141 81, J141 82, J141 83, J141 84, J141 85, J141 86, J141 87, J141 88, J141 89, J141 90, J141 91, J141 92, J141 93, J141 94, J141 95, J141 96, J141 97, J141 98, J141 99, J141 100, J141 101, J141 102, J141 103, J141 104, J141 105, J141 106, J141 107, J141 108, J141 109, J141 110, J141 111, J141 112, J141 113, J141 114, J141 115, J141 116, J141 117, J141 118, J141 119, J141 120, J141 121, J141 122, J141 123, J141 124, J141 125, J141 126, J141 127, J141 128, J141 129, J141 130, J141 131, J141 132, J141 133, J141 134, J141 135, J141 136, J141 137, J141 138, J141 139, J141 140, J141 141, J141 142, J141 143, J141 144, J141 145, J141 146, J141 147, J141 148, J141 149, J141 150, J141 151, J141 152, J141 153, J141 154, J141 155], []⟩ ∧ Blk wr_ g1 (setA 0) 24 ∧ OwnR wr_ w.heap.size 3 (eInt .i64) vl xs ∧ OwnR wr_ w.heap.size 3 (eInt .i64) v98 ([(n55 : Int)] : List Int) ∧ Off vl g1 ∧ Off v98 g1 ∧ Off2 vl v98 ∧ Below w.heap.size w wr_ ∧ (n55 : Int) ≤ x ∧ x ≤ (n55 : Int) + 1 ∧ ∀ j : Int, (n55 : Int) ≤ j → j < x → has (mk xs) j = false) (jk a_)) (((n55 : Int) + 1 - (n55 : Int)).toNat) ⟨(n55 : Int), rfl, rfl, B3, O6, O100, n10, n103, n104.symm, bel, (by omega), (by omega), (fun j a b => absurd a (by omega))⟩ ?_
    clear B3
    clear O6
    clear O100
    clear n10 n103 n104
    clear bel
    intro n_ a_ w145 h_
    revert h_
    generalize jk a_ = J141
    rintro ⟨x, hn, rfl, B3, O6, O100, n142, n143, n144, bel, hx1, hx2, hno⟩
    refine wp_seq ?_
    refine wp_seq ?_
    refine wp_region_lit ?_
    refine st_mv (.int .i64 x) ?_
    simp only [nf0, nf1, nf2, nf3, nf4]
    refine st_mv v98 ?_
    simp only [nf0, nf1, nf2, nf3, nf4]
    refine st_mv v98 ?_
    simp only [nf0, nf1, nf2, nf3, nf4]
    obtain ⟨A146, c147, hv148, h149, h150, h151, R152⟩ := O100.reads
    rw [eInt_all] at R152
    refine st_value (v := (.int .i64 1)) (by rfl) (run_len (.tmp 117) rfl ⟨_, Tryd.underlying36⟩ (by exact hv148) w145) ?_
    simp only [nf0, nf1, nf2, nf3, nf4]
    refine st_value (v := (.int .i64 0)) (by rfl) (run_sub_in (m := 1) (n := 1) (.tmp 118) (.const (.int .i64 1)) rfl rfl rfl (by omega) w145) ?_
    simp only [nf0, nf1, nf2, nf3, nf4]
    obtain ⟨A153, c154, hv155, h156, h157, h158, R159⟩ := O100.reads
    rw [eInt_all] at R159
    obtain ⟨b160, o161, rfl, _⟩ := R159.at_ (by simp)
    refine st_value (v := (.pointer (some ⟨b160, o161 + 0 * 1, none⟩))) (by rfl) (run_indexAddrN (.tmp 116) (.tmp 119) rfl Tryd.underlying36 slInt.sz (i := 0) (by exact hv155) rfl (by simp) w145) ?_
    simp only [nf0, nf1, nf2, nf3, nf4]
    refine st_value (v := (.int .i64 (n55 : Int))) (by rfl) (run_load1 (.tmp 120) rfl Tryd.underlying3 rfl slInt.sz rfl (Reads.intAt R159 0 (by simp))) ?_
    simp only [nf0, nf1, nf2, nf3, nf4]
    refine st_value (v := (.bool (decide (x ≤ (n55 : Int))))) (by rfl) (run_leq (.tmp 115) (.tmp 121) rfl rfl rfl w145) ?_
    simp only [nf0, nf1, nf2, nf3, nf4]
    refine wpList_nil ?_
    show Code.wp _ _ _ _ _
    cases hg162 : decide (x ≤ (n55 : Int))
    rotate_left
    · have hp215 := of_decide_eq_true hg162
      refine wp_cond_true rfl ?_
      refine wp_skip ?_
      show Code.wp _ _ _ _ _
      refine wp_seq ?_
      refine wp_block ?_
      refine wp_seq ?_
      refine wp_region_lit ?_
      refine st_mv vl ?_
      simp only [nf0, nf1, nf2, nf3, nf4]
      obtain ⟨A216, c217, hv218, h219, h220, h221, R222⟩ := O6.reads
      rw [eInt_all] at R222
      refine st_call1 (v := (.agg (setA (mk xs)))) (by rfl) (run_call_22_1 (.tmp 125) rfl rfl _) (by rw [hv218]; exact make_calls A216 xs c217 w145 R222 (by have := hP.2.2.2.2; have := hP.1; first | omega | (rw [ext_len]; omega))) ?_
      intro w223 hb224
      simp only [nf0, nf1, nf2, nf3, nf4]
      replace B3 := B3.below hb224
      replace O6 := O6.same hb224
      replace O100 := O100.same hb224
      replace bel := bl_step bel hb224
      clear hb224
      refine st_mv (.int .i64 x) ?_
      simp only [nf0, nf1, nf2, nf3, nf4]
      refine st_call1 (v := (.bool (has (mk xs) x))) (by rfl) (run_call_26_2 (.tmp 126) (.tmp 127) rfl rfl rfl _) (refHas_below (mk xs) (mk_sm _) x w223) ?_
      intro w225 hb226
      simp only [nf0, nf1, nf2, nf3, nf4]
      replace B3 := B3.below hb226
      replace O6 := O6.same hb226
      replace O100 := O100.same hb226
      replace bel := bl_step bel hb226
      clear hb226
      refine wpList_nil ?_
      show Code.wp _ _ _ _ _
      cases hg227 : has (mk xs) x
      · have hp228 := trivial
        refine wp_cond_false rfl ?_
        refine wp_skip ?_
        show Code.wp _ _ _ _ _
        refine wp_region_lit ?_
        refine st_mv (.int .i64 x) ?_
        simp only [nf0, nf1, nf2, nf3, nf4]
        refine st_value (v := (.int .i64 (x + 1))) (by rfl) (run_add_in (.tmp 123) (.const (.int .i64 1)) rfl rfl rfl (by omega) w225) ?_
        simp only [nf0, nf1, nf2, nf3, nf4]
        refine st_mv (.int .i64 (x + 1)) ?_
        simp only [nf0, nf1, nf2, nf3, nf4]
        refine wpList_nil ?_
        show ∃ m, m < _ ∧ _
        exact ⟨_, (by omega), (x + 1), rfl, rfl, B3, O6, O100, n142, n143, n144, bel, (by omega), (by omega), (hno_step hno hg227)⟩
      have hp229 := trivial
      refine wp_cond_true rfl ?_
      refine wp_seq ?_
      refine wp_region_lit ?_
      refine st_value (v := (.agg (setA 0))) (by rfl) (run_build_set rfl w225) ?_
      simp only [nf0, nf1, nf2, nf3, nf4]
      refine st_mv (.int .i64 (i : Int)) ?_
      simp only [nf0, nf1, nf2, nf3, nf4]
      refine st_row (by rfl) (run_store_set (.tmp 2) (.tmp 129) rfl rfl (S := 0) rfl B3) B3 ?_
      intro w230 B232 hg231
      simp only [nf0, nf1, nf2, nf3, nf4]
      replace O6 := O6.keptB hg231 n142
      replace O100 := O100.keptB hg231 n143
      clear B3
      replace bel := bl_kept0 bel hg231 lo5
      clear hg231
      refine st_mv (.int .i64 9) ?_
      simp only [nf0, nf1, nf2, nf3, nf4]
      refine st_mv (.int .i64 (i : Int)) ?_
      simp only [nf0, nf1, nf2, nf3, nf4]
      refine wpList_nil ?_
      show Code.wp _ _ _ _ _
      refine wp_ret ?_
      first | show bodyPost _ _ _ _ _ _ | (simp only [Exit.then, Exit.inBlock]; show bodyPost _ _ _ _ _ _)
      have hpr := hP.lap h0 hI hx1 (by omega) (by omega) hg227
      exact bodyPost_ret (results_set2 (p := 2) (u := 3) (v := 4) rfl _ _ _ 0 rfl B232) rfl ⟨fin_ret (E := 9) (A := (i : Int)) hpr (by rfl) (by omega), bel⟩
    have hp163 := of_decide_eq_false hg162
    refine wp_cond_false rfl ?_
    refine wp_exit ?_
    show Code.wp _ _ _ _ _
    refine wp_seq ?_
    refine wp_seq ?_
    obtain rfl : x = ((n55 : Int) + 1) := by omega
    refine wp_region_lit ?_
    refine st_mv v98 ?_
    simp only [nf0, nf1, nf2, nf3, nf4]
    obtain ⟨A164, c165, hv166, h167, h168, h169, R170⟩ := O100.reads
    rw [eInt_all] at R170
    obtain ⟨b171, o172, rfl, _⟩ := R170.at_ (by simp)
    refine st_value (v := (.pointer (some ⟨b171, o172 + 0 * 1, none⟩))) (by rfl) (run_indexAddrN (.tmp 131) (.const (.int .i64 0)) rfl Tryd.underlying36 slInt.sz (i := 0) (by exact hv166) rfl (by simp) w145) ?_
    simp only [nf0, nf1, nf2, nf3, nf4]
    refine st_value (v := (.int .i64 (n55 : Int))) (by rfl) (run_load1 (.tmp 132) rfl Tryd.underlying3 rfl slInt.sz rfl (Reads.intAt R170 0 (by simp))) ?_
    simp only [nf0, nf1, nf2, nf3, nf4]
    refine st_mv (.int .i64 (n55 : Int)) ?_
    simp only [nf0, nf1, nf2, nf3, nf4]
    refine wpList_nil ?_
    show Code.wp _ _ _ _ _
    refine wp_block ?_
    refine wp_loop_left (fun n_ a_ wr_ => (fun J173 => ∃ (y : Int) (vy : Value), n_ = ((n55 : Int) + 1 - y).toNat ∧ a_ = ⟨#[.string (str l), J173 1, .pointer (some ⟨g1, 0, none⟩), J141 3, J141 4, vy, .int .i64 ((i : Int) + (d56 : Int)), .int .i64 (i : Int), v98, .int .i64 (n55 : Int), .int .i64 (d56 : Int), .int .i64 ((n55 : Int) + 1), .int .i64 y, J173 13, J173 14, J173 15, J173 16, J173 17, J173 18, J173 19, J173 20, J173 21, J173 22, J173 23, J173 24, J173 25, J173 26, J173 27, J173 28, J173 29, J173 30, J173 31, J173 32, J173 33, J173 34, J173 35, J173 36, J173 37, J173 38, J173 39, J173 40, J173 41, J173 42, J173 43, J173 44, J173 45, J173 46, J173 47, J173 48, J173 49, J173 50, J173 51, J173 52, J173 53, J173 54, J173 55, J173 56, J173 57, J173 58, J173 59, J173 60, J173 61, J173 62, J173 63, J173 64, J173 65, J173 66, J173 67, J173 68, J173 69, J173 70, J173 71, J173 72, J173 73, J173 74, J173 75, J173 76, J173 77, J173 78, J173 79, J173 80, J173 81, J173 82, J173 83, J173 84, J173 85, J173 86, J173 87, J173 88, J173 89, J173 90, J173 91, J173 92, J173 93, J173 94, J173 95, J173 96, J173 97, J173 98, J173 99, J173 100, J173 101, J173 102, J173 103, J173 104, J173 105, J173 106, J173 107, J173 108, J173 109, J173 110, J173 111, J173 112, J173 113, J173 114, J173 115, J173 116, J173 117, J173 118, J173 119, J173 120, J173 121, J173 122, J173 123, J173 124, J173 125, J173 126, J173 127, J173 128, J173 129, J173 130, J173 131, J173 132, J173 133, J173 134, J173 135, J173 136, J173 137, J173 138, J173 139, J173 140, J173 141, J173 142, J173 143, J173 144, J173 145, J173 146, J173 147, J173 148, J173 149, J173 150, J173 151, J173 152, J173 153, J173 154, J173 155], []⟩ ∧ Blk wr_ g1 (setA 0) 24 ∧ OwnR wr_ w.heap.size 3 (eInt .i64) vy (ext xs (n55 : Int) y) ∧ OwnR wr_ w.heap.size 3 (eInt .i64) v98 ([(n55 : Int)] : List Int) ∧ Off vy g1 ∧ Off v98 g1 ∧ Off2 vy v98 ∧ Below w.heap.size w wr_ ∧ (n55 : Int) ≤ y ∧ y ≤ (n55 : Int) + 1) (jk a_)) (((n55 : Int) + 1 - (n55 : Int)).toNat) ⟨(n55 : Int), vl, rfl, rfl, B3, (by rw [ext_same]; exact O6), O100, n142, n143, n144, bel, (by omega), (by omega)⟩ ?_
    clear B3
    clear O6
    clear O100
    clear n142 n143 n144
    clear bel
    intro n_ a_ w177 h_
    revert h_
    generalize jk a_ = J173
    rintro ⟨y, vy, hn, rfl, B3, O6, O100, n174, n175, n176, bel, hy1, hy2⟩
    refine wp_seq ?_
    refine wp_seq ?_
    refine wp_region_lit ?_
    refine st_mv (.int .i64 y) ?_
    simp only [nf0, nf1, nf2, nf3, nf4]
    refine st_mv v98 ?_
    simp only [nf0, nf1, nf2, nf3, nf4]
    refine st_mv v98 ?_
    simp only [nf0, nf1, nf2, nf3, nf4]
    obtain ⟨A178, c179, hv180, h181, h182, h183, R184⟩ := O100.reads
    rw [eInt_all] at R184
    refine st_value (v := (.int .i64 1)) (by rfl) (run_len (.tmp 136) rfl ⟨_, Tryd.underlying36⟩ (by exact hv180) w177) ?_
    simp only [nf0, nf1, nf2, nf3, nf4]
    refine st_value (v := (.int .i64 0)) (by rfl) (run_sub_in (m := 1) (n := 1) (.tmp 137) (.const (.int .i64 1)) rfl rfl rfl (by omega) w177) ?_
    simp only [nf0, nf1, nf2, nf3, nf4]
    obtain ⟨A185, c186, hv187, h188, h189, h190, R191⟩ := O100.reads
    rw [eInt_all] at R191
    obtain ⟨b192, o193, rfl, _⟩ := R191.at_ (by simp)
    refine st_value (v := (.pointer (some ⟨b192, o193 + 0 * 1, none⟩))) (by rfl) (run_indexAddrN (.tmp 135) (.tmp 138) rfl Tryd.underlying36 slInt.sz (i := 0) (by exact hv187) rfl (by simp) w177) ?_
    simp only [nf0, nf1, nf2, nf3, nf4]
    refine st_value (v := (.int .i64 (n55 : Int))) (by rfl) (run_load1 (.tmp 139) rfl Tryd.underlying3 rfl slInt.sz rfl (Reads.intAt R191 0 (by simp))) ?_
    simp only [nf0, nf1, nf2, nf3, nf4]
    refine st_value (v := (.bool (decide (y ≤ (n55 : Int))))) (by rfl) (run_leq (.tmp 134) (.tmp 140) rfl rfl rfl w177) ?_
    simp only [nf0, nf1, nf2, nf3, nf4]
    refine wpList_nil ?_
    show Code.wp _ _ _ _ _
    cases hg194 : decide (y ≤ (n55 : Int))
    · have hp195 := of_decide_eq_false hg194
      refine wp_cond_false rfl ?_
      refine wp_exit ?_
      show Code.wp _ _ _ _ _
      refine wp_seq ?_
      refine wp_seq ?_
      obtain rfl : y = ((n55 : Int) + 1) := by omega
      refine wp_region_lit ?_
      refine st_mv (.int .i64 ((i : Int) + (d56 : Int))) ?_
      simp only [nf0, nf1, nf2, nf3, nf4]
      refine st_mv (.string (str l)) ?_
      simp only [nf0, nf1, nf2, nf3, nf4]
      refine st_value (v := (.int .i64 (l.length : Int))) (by rfl) (run_len_text (.tmp 149) rfl Tryd.underlying9 (l := l) rfl w177) ?_
      simp only [nf0, nf1, nf2, nf3, nf4]
      refine st_value (v := (.bool (decide (((i : Int) + (d56 : Int)) = (l.length : Int))))) (by rfl) (run_eql_int (.tmp 148) (.tmp 150) rfl rfl rfl w177) ?_
      simp only [nf0, nf1, nf2, nf3, nf4]
      refine wpList_nil ?_
      show Code.wp _ _ _ _ _
      cases hg196 : decide (((i : Int) + (d56 : Int)) = (l.length : Int))
      rotate_left
      · have hp198 := of_decide_eq_true hg196
        exfalso
        omega
      have hp197 := of_decide_eq_false hg196
      refine wp_cond_false rfl ?_
      refine wp_skip ?_
      show Code.wp _ _ _ _ _
      refine wp_region_lit ?_
      refine st_mv (.int .i64 ((i : Int) + (d56 : Int))) ?_
      simp only [nf0, nf1, nf2, nf3, nf4]
      refine st_value (v := (.int .i64 (((i : Int) + (d56 : Int)) + 1))) (by rfl) (run_add_in (.tmp 152) (.const (.int .i64 1)) rfl rfl rfl (by omega) w177) ?_
      simp only [nf0, nf1, nf2, nf3, nf4]
      refine st_mv (.int .i64 (((i : Int) + (d56 : Int)) + 1)) ?_
      simp only [nf0, nf1, nf2, nf3, nf4]
      refine wpList_nil ?_
      show ∃ m, m < _ ∧ _
      exact ⟨_, (by omega), ((i + d56) + 1), (f - 1), (ext xs (n55 : Int) ((n55 : Int) + 1)), vy, rfl, (by rw [show ((((i + d56) + 1) : Nat) : Int) = (((i : Int) + (d56 : Int)) + 1) from by omega]; rfl), B3, O6, n174, bel, (hP.more h0 hI (by omega) hno (by omega) (by omega))⟩
    have hp199 := of_decide_eq_true hg194
    refine wp_cond_true rfl ?_
    refine wp_skip ?_
    show Code.wp _ _ _ _ _
    refine wp_seq ?_
    refine wp_block ?_
    refine wp_region_lit ?_
    refine st_mv vy ?_
    simp only [nf0, nf1, nf2, nf3, nf4]
    refine st_mv (.int .i64 y) ?_
    simp only [nf0, nf1, nf2, nf3, nf4]
    refine st_lit (by rfl) (run_lit_36_1 (.tmp 145) rfl rfl _) ?_
    intro g200 w201 B202 hb203 lo204
    simp only [nf0, nf1, nf2, nf3, nf4]
    have n205 := B3.ne lo204
    have n206 := O6.off lo204
    have n207 := O100.off lo204
    replace lo204 := low_le bel lo204
    replace B3 := B3.below hb203
    replace O6 := O6.same hb203
    replace O100 := O100.same hb203
    replace bel := bl_step bel hb203
    clear hb203
    refine st_append slInt rfl (.tmp 144) (.tmp 146) rfl rfl O6 ([y] : List Int) rfl rfl B202 (by simp [Enc.all, eInt]) (by have := hP.2.2.2.2; have := hP.1; simp only [ext_len, List.length_cons, List.length_nil]; omega) bel.size ?_
    intro v208 w209 O210 hg211 hat212
    simp only [nf0, nf1, nf2, nf3, nf4]
    have n213 := (n174 : Off _ _).app B3 hat212
    replace B3 := B3.keptR hg211 n174
    have n214 := Off2.app n176 O100 hat212
    replace O100 := O100.keptR hg211 n176.symm
    replace bel := bl_app bel O6 hg211
    clear O6 hg211 hat212
    refine st_mv v208 ?_
    simp only [nf0, nf1, nf2, nf3, nf4]
    refine wpList_nil ?_
    show Code.wp _ _ _ _ _
    refine wp_region_lit ?_
    refine st_mv (.int .i64 y) ?_
    simp only [nf0, nf1, nf2, nf3, nf4]
    refine st_value (v := (.int .i64 (y + 1))) (by rfl) (run_add_in (.tmp 142) (.const (.int .i64 1)) rfl rfl rfl (by omega) w209) ?_
    simp only [nf0, nf1, nf2, nf3, nf4]
    refine st_mv (.int .i64 (y + 1)) ?_
    simp only [nf0, nf1, nf2, nf3, nf4]
    refine wpList_nil ?_
    show ∃ m, m < _ ∧ _
    exact ⟨_, (by omega), (y + 1), v208, rfl, rfl, B3, (by rw [ext_succ _ hy1]; exact O210), O100, n213, n175, n214, bel, (by omega), (by omega)⟩
  have hp233 := of_decide_eq_true hg121
  refine wp_cond_false rfl ?_
  refine wp_skip ?_
  show Code.wp _ _ _ _ _
  refine wp_region_lit ?_
  refine st_mv (.int .i64 ((i : Int) + (d56 : Int))) ?_
  simp only [nf0, nf1, nf2, nf3, nf4]
  refine st_value (v := (.int .i64 (((i : Int) + (d56 : Int)) + 1))) (by rfl) (run_add_in (.tmp 98) (.const (.int .i64 1)) rfl rfl rfl (by omega) w99) ?_
  simp only [nf0, nf1, nf2, nf3, nf4]
  refine st_mv (.int .i64 (((i : Int) + (d56 : Int)) + 1)) ?_
  simp only [nf0, nf1, nf2, nf3, nf4]
  refine wpList_nil ?_
  show Code.wp _ _ _ _ _
  refine wp_block ?_
  refine wp_seq ?_
  refine wp_region_lit ?_
  refine st_mv (.string (str l)) ?_
  simp only [nf0, nf1, nf2, nf3, nf4]
  refine st_mv (.int .i64 (((i : Int) + (d56 : Int)) + 1)) ?_
  simp only [nf0, nf1, nf2, nf3, nf4]
  refine st_call (by rfl) (run_call_34_2 (.tmp 30) (.tmp 31) rfl rfl rfl _) (refNum_at l hl ((i + d56) + 1) (by omega) (by omega) w99) ?_
  rintro _ w237 ⟨n234, d235, rfl, hN236, hb238⟩
  simp only [nf0, nf1, nf2, nf3, nf4]
  replace B3 := B3.below hb238
  replace O6 := O6.same hb238
  replace O100 := O100.same hb238
  replace bel := bl_step bel hb238
  have hN236a := hN236.1
  have hN236b := hN236.2.1
  clear hb238
  refine st_mv (.tuple #[.int .i64 (n234 : Int), .int .i64 (d235 : Int)]) ?_
  simp only [nf0, nf1, nf2, nf3, nf4]
  refine st_mv (.int .i64 (n234 : Int)) ?_
  simp only [nf0, nf1, nf2, nf3, nf4]
  refine st_mv (.int .i64 (d235 : Int)) ?_
  simp only [nf0, nf1, nf2, nf3, nf4]
  refine st_mv (.int .i64 (n234 : Int)) ?_
  simp only [nf0, nf1, nf2, nf3, nf4]
  refine st_mv (.int .i64 (d235 : Int)) ?_
  simp only [nf0, nf1, nf2, nf3, nf4]
  refine wpList_nil ?_
  show Code.wp _ _ _ _ _
  refine wp_seq ?_
  refine wp_seq ?_
  cases hg239 : decide ((d235 : Int) = 0)
  rotate_left
  · have hp536 := of_decide_eq_true hg239
    refine wp_region_lit ?_
    refine st_mv (.int .i64 (d235 : Int)) ?_
    simp only [nf0, nf1, nf2, nf3, nf4]
    refine st_value (v := (.bool true)) (by rfl) ((run_eql_int (.tmp 35) (.const (.int .i64 0)) rfl rfl rfl w237).trans (by rw [hg239])) ?_
    simp only [nf0, nf1, nf2, nf3, nf4]
    refine st_mv (.bool true) ?_
    simp only [nf0, nf1, nf2, nf3, nf4]
    refine st_mv (.int .i64 (((i : Int) + (d56 : Int)) + 1)) ?_
    simp only [nf0, nf1, nf2, nf3, nf4]
    refine st_mv (.string (str l)) ?_
    simp only [nf0, nf1, nf2, nf3, nf4]
    refine st_value (v := (.int .i64 (l.length : Int))) (by rfl) (run_len_text (.tmp 39) rfl Tryd.underlying9 (l := l) rfl w237) ?_
    simp only [nf0, nf1, nf2, nf3, nf4]
    refine st_value (v := (.bool (decide ((l.length : Int) ≤ (((i : Int) + (d56 : Int)) + 1))))) (by rfl) (run_geq (.tmp 38) (.tmp 40) rfl rfl rfl w237) ?_
    simp only [nf0, nf1, nf2, nf3, nf4]
    refine st_mv (.bool (decide ((l.length : Int) ≤ (((i : Int) + (d56 : Int)) + 1)))) ?_
    simp only [nf0, nf1, nf2, nf3, nf4]
    refine wpList_nil ?_
    show Code.wp _ _ _ _ _
    cases hg537 : decide ((l.length : Int) ≤ (((i : Int) + (d56 : Int)) + 1))
    rotate_left
    · have hp542 := of_decide_eq_true hg537
      refine wp_cond_true rfl ?_
      refine wp_seq ?_
      refine wp_region_lit ?_
      refine st_value (v := (.agg (setA 0))) (by rfl) (run_build_set rfl w237) ?_
      simp only [nf0, nf1, nf2, nf3, nf4]
      refine st_mv (.string (str l)) ?_
      simp only [nf0, nf1, nf2, nf3, nf4]
      refine st_value (v := (.int .i64 (l.length : Int))) (by rfl) (run_len_text (.tmp 44) rfl Tryd.underlying9 (l := l) rfl w237) ?_
      simp only [nf0, nf1, nf2, nf3, nf4]
      refine st_row (by rfl) (run_store_set (.tmp 2) (.tmp 43) rfl rfl (S := 0) rfl B3) B3 ?_
      intro w543 B545 hg544
      simp only [nf0, nf1, nf2, nf3, nf4]
      replace O6 := O6.keptB hg544 n10
      replace O100 := O100.keptB hg544 n103
      clear B3
      replace bel := bl_kept0 bel hg544 lo5
      clear hg544
      refine st_mv (.int .i64 22) ?_
      simp only [nf0, nf1, nf2, nf3, nf4]
      refine st_mv (.int .i64 (l.length : Int)) ?_
      simp only [nf0, nf1, nf2, nf3, nf4]
      refine wpList_nil ?_
      show Code.wp _ _ _ _ _
      refine wp_ret ?_
      first | show bodyPost _ _ _ _ _ _ | (simp only [Exit.then, Exit.inBlock]; show bodyPost _ _ _ _ _ _)
      have hpr := hP.err h0 (it_err2 hv1 (by omega) (by omega) (hN236.2.2.1 (by omega) (by omega)) (by decide)) (by decide)
      exact bodyPost_ret (results_set2 (p := 2) (u := 3) (v := 4) rfl _ _ _ 0 rfl B545) rfl ⟨fin_ret (E := 22) (A := (l.length : Int)) hpr (by rfl) (by omega), bel⟩
    have hp538 := of_decide_eq_false hg537
    refine wp_cond_false rfl ?_
    refine wp_skip ?_
    show Code.wp _ _ _ _ _
    refine wp_seq ?_
    refine wp_seq ?_
    refine wp_region_lit ?_
    refine st_mv (.int .i64 (d235 : Int)) ?_
    simp only [nf0, nf1, nf2, nf3, nf4]
    refine st_value (v := (.bool true)) (by rfl) ((run_eql_int (.tmp 46) (.const (.int .i64 0)) rfl rfl rfl w237).trans (by rw [hg239])) ?_
    simp only [nf0, nf1, nf2, nf3, nf4]
    refine wpList_nil ?_
    show Code.wp _ _ _ _ _
    refine wp_cond_true rfl ?_
    refine wp_seq ?_
    refine wp_region_lit ?_
    refine st_value (v := (.agg (setA 0))) (by rfl) (run_build_set rfl w237) ?_
    simp only [nf0, nf1, nf2, nf3, nf4]
    refine st_mv (.int .i64 (((i : Int) + (d56 : Int)) + 1)) ?_
    simp only [nf0, nf1, nf2, nf3, nf4]
    refine st_row (by rfl) (run_store_set (.tmp 2) (.tmp 48) rfl rfl (S := 0) rfl B3) B3 ?_
    intro w539 B541 hg540
    simp only [nf0, nf1, nf2, nf3, nf4]
    replace O6 := O6.keptB hg540 n10
    replace O100 := O100.keptB hg540 n103
    clear B3
    replace bel := bl_kept0 bel hg540 lo5
    clear hg540
    refine st_mv (.int .i64 20) ?_
    simp only [nf0, nf1, nf2, nf3, nf4]
    refine st_mv (.int .i64 (((i : Int) + (d56 : Int)) + 1)) ?_
    simp only [nf0, nf1, nf2, nf3, nf4]
    refine wpList_nil ?_
    show Code.wp _ _ _ _ _
    refine wp_ret ?_
    first | show bodyPost _ _ _ _ _ _ | (simp only [Exit.then, Exit.inBlock]; show bodyPost _ _ _ _ _ _)
    have hpr := hP.err h0 (it_err2 hv1 (by omega) (by omega) (hN236.2.2.2.1 (by omega) (by omega)) (by decide)) (by decide)
    exact bodyPost_ret (results_set2 (p := 2) (u := 3) (v := 4) rfl _ _ _ 0 rfl B541) rfl ⟨fin_ret (E := 20) (A := (((i : Int) + (d56 : Int)) + 1)) hpr (by rfl) (by omega), bel⟩
  have hp240 := of_decide_eq_false hg239
  refine wp_region_lit ?_
  refine st_mv (.int .i64 (d235 : Int)) ?_
  simp only [nf0, nf1, nf2, nf3, nf4]
  refine st_value (v := (.bool false)) (by rfl) ((run_eql_int (.tmp 35) (.const (.int .i64 0)) rfl rfl rfl w237).trans (by rw [hg239])) ?_
  simp only [nf0, nf1, nf2, nf3, nf4]
  refine st_mv (.bool false) ?_
  simp only [nf0, nf1, nf2, nf3, nf4]
  refine st_nob (j := 2) (t := 37) (c := false) rfl rfl rfl rfl rfl ?_
  simp only [nf0, nf1, nf2, nf3, nf4]
  refine st_nob (j := 2) (t := 37) (c := false) rfl rfl rfl rfl rfl ?_
  simp only [nf0, nf1, nf2, nf3, nf4]
  refine st_nob (j := 2) (t := 37) (c := false) rfl rfl rfl rfl rfl ?_
  simp only [nf0, nf1, nf2, nf3, nf4]
  refine st_nob (j := 2) (t := 37) (c := false) rfl rfl rfl rfl rfl ?_
  simp only [nf0, nf1, nf2, nf3, nf4]
  refine st_mv (.bool false) ?_
  simp only [nf0, nf1, nf2, nf3, nf4]
  refine wpList_nil ?_
  show Code.wp _ _ _ _ _
  refine wp_cond_false rfl ?_
  refine wp_skip ?_
  show Code.wp _ _ _ _ _
  refine wp_seq ?_
  refine wp_seq ?_
  refine wp_region_lit ?_
  refine st_mv (.int .i64 (d235 : Int)) ?_
  simp only [nf0, nf1, nf2, nf3, nf4]
  refine st_value (v := (.bool false)) (by rfl) ((run_eql_int (.tmp 46) (.const (.int .i64 0)) rfl rfl rfl w237).trans (by rw [hg239])) ?_
  simp only [nf0, nf1, nf2, nf3, nf4]
  refine wpList_nil ?_
  show Code.wp _ _ _ _ _
  refine wp_cond_false rfl ?_
  refine wp_skip ?_
  show Code.wp _ _ _ _ _
  refine wp_seq ?_
  refine wp_seq_join (fun a_ wr_ => (fun J242 => ∃ (b241 : Bool), a_ = ⟨#[.string (str l), J242 1, .pointer (some ⟨g1, 0, none⟩), J9 3, J9 4, vl, .int .i64 (((i : Int) + (d56 : Int)) + 1), .int .i64 (i : Int), v98, .int .i64 (n234 : Int), .int .i64 (d235 : Int), J9 11, J9 12, J242 13, J242 14, J242 15, J242 16, J242 17, J242 18, J242 19, J242 20, J242 21, J242 22, J242 23, J242 24, J242 25, J242 26, J242 27, J242 28, J242 29, J242 30, J242 31, J242 32, J242 33, J242 34, J242 35, J242 36, J242 37, J242 38, J242 39, J242 40, J242 41, J242 42, J242 43, J242 44, J242 45, J242 46, J242 47, J242 48, J242 49, J242 50, J242 51, J242 52, J242 53, J242 54, J242 55, J242 56, J242 57, J242 58, J242 59, J242 60, J242 61, J242 62, J242 63, J242 64, J242 65, J242 66, J242 67, J242 68, J242 69, J242 70, J242 71, J242 72, .bool b241, J242 74, J242 75, J242 76, J242 77, J242 78, J242 79, J242 80, J242 81, J242 82, J242 83, J242 84, J242 85, J242 86, J242 87, J242 88, J242 89, J242 90, J242 91, J242 92, J242 93, J242 94, J242 95, J242 96, J242 97, J242 98, J242 99, J242 100, J242 101, J242 102, J242 103, J242 104, J242 105, J242 106, J242 107, J242 108, J242 109, J242 110, J242 111, J242 112, J242 113, J242 114, J242 115, J242 116, J242 117, J242 118, J242 119, J242 120, J242 121, J242 122, J242 123, J242 124, J242 125, J242 126, J242 127, J242 128, J242 129, J242 130, J242 131, J242 132, J242 133, J242 134, J242 135, J242 136, J242 137, J242 138, J242 139, J242 140, J242 141, J242 142, J242 143, J242 144, J242 145, J242 146, J242 147, J242 148, J242 149, J242 150, J242 151, J242 152, J242 153, J242 154, J242 155], []⟩ ∧ w237 = wr_ ∧ (b241 = true → ((1023 < n234 ∨ (1 < d235 ∧ chr l ((i + d56) + 1) = 48)) ∨ n234 < n55)) ∧ (b241 = false → ¬ ((1023 < n234 ∨ (1 < d235 ∧ chr l ((i + d56) + 1) = 48)) ∨ n234 < n55))) (jk a_)) ?_ ?_
  · cases hg243 : decide (1023 < (n234 : Int))
    rotate_left
    · have hp283 := of_decide_eq_true hg243
      refine wp_region_lit ?_
      refine st_mv (.int .i64 (n234 : Int)) ?_
      simp only [nf0, nf1, nf2, nf3, nf4]
      refine st_value (v := (.bool true)) (by rfl) ((run_gtr (.tmp 50) (.const (.int .i64 1023)) rfl rfl rfl w237).trans (by rw [hg243])) ?_
      simp only [nf0, nf1, nf2, nf3, nf4]
      refine st_mv (.bool true) ?_
      simp only [nf0, nf1, nf2, nf3, nf4]
      refine st_nob (j := 2) (t := 52) (c := true) rfl rfl rfl rfl rfl ?_
      simp only [nf0, nf1, nf2, nf3, nf4]
      refine st_nob (j := 2) (t := 52) (c := true) rfl rfl rfl rfl rfl ?_
      simp only [nf0, nf1, nf2, nf3, nf4]
      refine st_nob (j := 2) (t := 52) (c := true) rfl rfl rfl rfl rfl ?_
      simp only [nf0, nf1, nf2, nf3, nf4]
      refine st_nou (j := 5) (t := 55) rfl rfl rfl rfl ?_
      simp only [nf0, nf1, nf2, nf3, nf4]
      refine st_nou (j := 5) (t := 55) rfl rfl rfl rfl ?_
      simp only [nf0, nf1, nf2, nf3, nf4]
      refine st_nou (j := 5) (t := 55) rfl rfl rfl rfl ?_
      simp only [nf0, nf1, nf2, nf3, nf4]
      refine st_nou (j := 5) (t := 55) rfl rfl rfl rfl ?_
      simp only [nf0, nf1, nf2, nf3, nf4]
      refine st_nob (j := 2) (t := 52) (c := true) rfl rfl rfl rfl rfl ?_
      simp only [nf0, nf1, nf2, nf3, nf4]
      refine st_mv (.bool true) ?_
      simp only [nf0, nf1, nf2, nf3, nf4]
      refine st_mv (.bool true) ?_
      simp only [nf0, nf1, nf2, nf3, nf4]
      refine st_nob (j := 12) (t := 62) (c := true) rfl rfl rfl rfl rfl ?_
      simp only [nf0, nf1, nf2, nf3, nf4]
      refine st_nob (j := 12) (t := 62) (c := true) rfl rfl rfl rfl rfl ?_
      simp only [nf0, nf1, nf2, nf3, nf4]
      refine st_nob (j := 12) (t := 62) (c := true) rfl rfl rfl rfl rfl ?_
      simp only [nf0, nf1, nf2, nf3, nf4]
      refine st_nob (j := 12) (t := 62) (c := true) rfl rfl rfl rfl rfl ?_
      simp only [nf0, nf1, nf2, nf3, nf4]
      refine st_nou (j := 16) (t := 66) rfl rfl rfl rfl ?_
      simp only [nf0, nf1, nf2, nf3, nf4]
      refine st_nou (j := 16) (t := 66) rfl rfl rfl rfl ?_
      simp only [nf0, nf1, nf2, nf3, nf4]
      refine st_nou (j := 16) (t := 66) rfl rfl rfl rfl ?_
      simp only [nf0, nf1, nf2, nf3, nf4]
      refine st_nou (j := 16) (t := 66) rfl rfl rfl rfl ?_
      simp only [nf0, nf1, nf2, nf3, nf4]
      refine st_nou (j := 16) (t := 66) rfl rfl rfl rfl ?_
      simp only [nf0, nf1, nf2, nf3, nf4]
      refine st_nob (j := 12) (t := 62) (c := true) rfl rfl rfl rfl rfl ?_
      simp only [nf0, nf1, nf2, nf3, nf4]
      refine st_mv (.bool true) ?_
      simp only [nf0, nf1, nf2, nf3, nf4]
      refine wpList_nil ?_
      exact ⟨rfl, true, rfl, rfl, (fun h => by first | omega | (exact absurd h (by decide)) | (have h2 := of_decide_eq_true h; omega) | (have h2 := of_decide_eq_false h; omega)), (fun h => by first | omega | (exact absurd h (by decide)) | (have h2 := of_decide_eq_true h; omega) | (have h2 := of_decide_eq_false h; omega))⟩
    have hp244 := of_decide_eq_false hg243
    cases hg245 : decide (1 < (d235 : Int))
    · have hp246 := of_decide_eq_false hg245
      refine wp_region_lit ?_
      refine st_mv (.int .i64 (n234 : Int)) ?_
      simp only [nf0, nf1, nf2, nf3, nf4]
      refine st_value (v := (.bool false)) (by rfl) ((run_gtr (.tmp 50) (.const (.int .i64 1023)) rfl rfl rfl w237).trans (by rw [hg243])) ?_
      simp only [nf0, nf1, nf2, nf3, nf4]
      refine st_mv (.bool false) ?_
      simp only [nf0, nf1, nf2, nf3, nf4]
      refine st_mv (.int .i64 (d235 : Int)) ?_
      simp only [nf0, nf1, nf2, nf3, nf4]
      refine st_value (v := (.bool false)) (by rfl) ((run_gtr (.tmp 53) (.const (.int .i64 1)) rfl rfl rfl w237).trans (by rw [hg245])) ?_
      simp only [nf0, nf1, nf2, nf3, nf4]
      refine st_mv (.bool false) ?_
      simp only [nf0, nf1, nf2, nf3, nf4]
      refine st_nob (j := 5) (t := 55) (c := false) rfl rfl rfl rfl rfl ?_
      simp only [nf0, nf1, nf2, nf3, nf4]
      refine st_nob (j := 5) (t := 55) (c := false) rfl rfl rfl rfl rfl ?_
      simp only [nf0, nf1, nf2, nf3, nf4]
      refine st_nob (j := 5) (t := 55) (c := false) rfl rfl rfl rfl rfl ?_
      simp only [nf0, nf1, nf2, nf3, nf4]
      refine st_nob (j := 5) (t := 55) (c := false) rfl rfl rfl rfl rfl ?_
      simp only [nf0, nf1, nf2, nf3, nf4]
      refine st_mv (.bool false) ?_
      simp only [nf0, nf1, nf2, nf3, nf4]
      refine st_mv (.bool false) ?_
      simp only [nf0, nf1, nf2, nf3, nf4]
      refine st_mv (.bool false) ?_
      simp only [nf0, nf1, nf2, nf3, nf4]
      refine st_mv v98 ?_
      simp only [nf0, nf1, nf2, nf3, nf4]
      obtain ⟨A247, c248, hv249, h250, h251, h252, R253⟩ := O100.reads
      rw [eInt_all] at R253
      refine st_value (v := (.int .i64 1)) (by rfl) (run_len (.tmp 63) rfl ⟨_, Tryd.underlying36⟩ (by exact hv249) w237) ?_
      simp only [nf0, nf1, nf2, nf3, nf4]
      refine st_value (v := (.bool true)) (by rfl) ((run_gtr (.tmp 64) (.const (.int .i64 0)) rfl rfl rfl w237).trans (by rw [decide_eq_true (by omega)])) ?_
      simp only [nf0, nf1, nf2, nf3, nf4]
      refine st_mv (.bool true) ?_
      simp only [nf0, nf1, nf2, nf3, nf4]
      refine st_mv (.int .i64 (n234 : Int)) ?_
      simp only [nf0, nf1, nf2, nf3, nf4]
      refine st_mv v98 ?_
      simp only [nf0, nf1, nf2, nf3, nf4]
      obtain ⟨A254, c255, hv256, h257, h258, h259, R260⟩ := O100.reads
      rw [eInt_all] at R260
      obtain ⟨b261, o262, rfl, _⟩ := R260.at_ (by simp)
      refine st_value (v := (.pointer (some ⟨b261, o262 + 0 * 1, none⟩))) (by rfl) (run_indexAddrN (.tmp 68) (.const (.int .i64 0)) rfl Tryd.underlying36 slInt.sz (i := 0) (by exact hv256) rfl (by simp) w237) ?_
      simp only [nf0, nf1, nf2, nf3, nf4]
      refine st_value (v := (.int .i64 (n55 : Int))) (by rfl) (run_load1 (.tmp 69) rfl Tryd.underlying3 rfl slInt.sz rfl (Reads.intAt R260 0 (by simp))) ?_
      simp only [nf0, nf1, nf2, nf3, nf4]
      refine st_value (v := (.bool (decide ((n234 : Int) < (n55 : Int))))) (by rfl) (run_lss (.tmp 67) (.tmp 70) rfl rfl rfl w237) ?_
      simp only [nf0, nf1, nf2, nf3, nf4]
      refine st_mv (.bool (decide ((n234 : Int) < (n55 : Int)))) ?_
      simp only [nf0, nf1, nf2, nf3, nf4]
      refine st_mv (.bool (decide ((n234 : Int) < (n55 : Int)))) ?_
      simp only [nf0, nf1, nf2, nf3, nf4]
      refine wpList_nil ?_
      exact ⟨rfl, decide ((n234 : Int) < (n55 : Int)), rfl, rfl, (fun h => by first | omega | (exact absurd h (by decide)) | (have h2 := of_decide_eq_true h; omega) | (have h2 := of_decide_eq_false h; omega)), (fun h => by first | omega | (exact absurd h (by decide)) | (have h2 := of_decide_eq_true h; omega) | (have h2 := of_decide_eq_false h; omega))⟩
    have hp263 := of_decide_eq_true hg245
    cases hg264 : decide ((chr l ((i + d56) + 1)) = 48)
    rotate_left
    · have hp282 := of_decide_eq_true hg264
      refine wp_region_lit ?_
      refine st_mv (.int .i64 (n234 : Int)) ?_
      simp only [nf0, nf1, nf2, nf3, nf4]
      refine st_value (v := (.bool false)) (by rfl) ((run_gtr (.tmp 50) (.const (.int .i64 1023)) rfl rfl rfl w237).trans (by rw [hg243])) ?_
      simp only [nf0, nf1, nf2, nf3, nf4]
      refine st_mv (.bool false) ?_
      simp only [nf0, nf1, nf2, nf3, nf4]
      refine st_mv (.int .i64 (d235 : Int)) ?_
      simp only [nf0, nf1, nf2, nf3, nf4]
      refine st_value (v := (.bool true)) (by rfl) ((run_gtr (.tmp 53) (.const (.int .i64 1)) rfl rfl rfl w237).trans (by rw [hg245])) ?_
      simp only [nf0, nf1, nf2, nf3, nf4]
      refine st_mv (.bool true) ?_
      simp only [nf0, nf1, nf2, nf3, nf4]
      refine st_mv (.string (str l)) ?_
      simp only [nf0, nf1, nf2, nf3, nf4]
      refine st_mv (.int .i64 (((i : Int) + (d56 : Int)) + 1)) ?_
      simp only [nf0, nf1, nf2, nf3, nf4]
      refine st_value (v := (.int .u8 (chr l ((i + d56) + 1)))) (by rfl) (run_index_text (.tmp 56) (.tmp 57) rfl Tryd.underlying9 (l := l) rfl rfl ((i + d56) + 1) (by omega) (by omega) w237) ?_
      simp only [nf0, nf1, nf2, nf3, nf4]
      refine st_value (v := (.bool true)) (by rfl) ((run_eql_int (.tmp 58) (.const (.int .u8 48)) rfl rfl rfl w237).trans (by rw [hg264])) ?_
      simp only [nf0, nf1, nf2, nf3, nf4]
      refine st_mv (.bool true) ?_
      simp only [nf0, nf1, nf2, nf3, nf4]
      refine st_mv (.bool true) ?_
      simp only [nf0, nf1, nf2, nf3, nf4]
      refine st_mv (.bool true) ?_
      simp only [nf0, nf1, nf2, nf3, nf4]
      refine st_nob (j := 12) (t := 62) (c := true) rfl rfl rfl rfl rfl ?_
      simp only [nf0, nf1, nf2, nf3, nf4]
      refine st_nob (j := 12) (t := 62) (c := true) rfl rfl rfl rfl rfl ?_
      simp only [nf0, nf1, nf2, nf3, nf4]
      refine st_nob (j := 12) (t := 62) (c := true) rfl rfl rfl rfl rfl ?_
      simp only [nf0, nf1, nf2, nf3, nf4]
      refine st_nob (j := 12) (t := 62) (c := true) rfl rfl rfl rfl rfl ?_
      simp only [nf0, nf1, nf2, nf3, nf4]
      refine st_nou (j := 16) (t := 66) rfl rfl rfl rfl ?_
      simp only [nf0, nf1, nf2, nf3, nf4]
      refine st_nou (j := 16) (t := 66) rfl rfl rfl rfl ?_
      simp only [nf0, nf1, nf2, nf3, nf4]
      refine st_nou (j := 16) (t := 66) rfl rfl rfl rfl ?_
      simp only [nf0, nf1, nf2, nf3, nf4]
      refine st_nou (j := 16) (t := 66) rfl rfl rfl rfl ?_
      simp only [nf0, nf1, nf2, nf3, nf4]
      refine st_nou (j := 16) (t := 66) rfl rfl rfl rfl ?_
      simp only [nf0, nf1, nf2, nf3, nf4]
      refine st_nob (j := 12) (t := 62) (c := true) rfl rfl rfl rfl rfl ?_
      simp only [nf0, nf1, nf2, nf3, nf4]
      refine st_mv (.bool true) ?_
      simp only [nf0, nf1, nf2, nf3, nf4]
      refine wpList_nil ?_
      exact ⟨rfl, true, rfl, rfl, (fun h => by first | omega | (exact absurd h (by decide)) | (have h2 := of_decide_eq_true h; omega) | (have h2 := of_decide_eq_false h; omega)), (fun h => by first | omega | (exact absurd h (by decide)) | (have h2 := of_decide_eq_true h; omega) | (have h2 := of_decide_eq_false h; omega))⟩
    have hp265 := of_decide_eq_false hg264
    refine wp_region_lit ?_
    refine st_mv (.int .i64 (n234 : Int)) ?_
    simp only [nf0, nf1, nf2, nf3, nf4]
    refine st_value (v := (.bool false)) (by rfl) ((run_gtr (.tmp 50) (.const (.int .i64 1023)) rfl rfl rfl w237).trans (by rw [hg243])) ?_
    simp only [nf0, nf1, nf2, nf3, nf4]
    refine st_mv (.bool false) ?_
    simp only [nf0, nf1, nf2, nf3, nf4]
    refine st_mv (.int .i64 (d235 : Int)) ?_
    simp only [nf0, nf1, nf2, nf3, nf4]
    refine st_value (v := (.bool true)) (by rfl) ((run_gtr (.tmp 53) (.const (.int .i64 1)) rfl rfl rfl w237).trans (by rw [hg245])) ?_
    simp only [nf0, nf1, nf2, nf3, nf4]
    refine st_mv (.bool true) ?_
    simp only [nf0, nf1, nf2, nf3, nf4]
    refine st_mv (.string (str l)) ?_
    simp only [nf0, nf1, nf2, nf3, nf4]
    refine st_mv (.int .i64 (((i : Int) + (d56 : Int)) + 1)) ?_
    simp only [nf0, nf1, nf2, nf3, nf4]
    refine st_value (v := (.int .u8 (chr l ((i + d56) + 1)))) (by rfl) (run_index_text (.tmp 56) (.tmp 57) rfl Tryd.underlying9 (l := l) rfl rfl ((i + d56) + 1) (by omega) (by omega) w237) ?_
    simp only [nf0, nf1, nf2, nf3, nf4]
    refine st_value (v := (.bool false)) (by rfl) ((run_eql_int (.tmp 58) (.const (.int .u8 48)) rfl rfl rfl w237).trans (by rw [hg264])) ?_
    simp only [nf0, nf1, nf2, nf3, nf4]
    refine st_mv (.bool false) ?_
    simp only [nf0, nf1, nf2, nf3, nf4]
    refine st_mv (.bool false) ?_
    simp only [nf0, nf1, nf2, nf3, nf4]
    refine st_mv (.bool false) ?_
    simp only [nf0, nf1, nf2, nf3, nf4]
    refine st_mv v98 ?_
    simp only [nf0, nf1, nf2, nf3, nf4]
    obtain ⟨A266, c267, hv268, h269, h270, h271, R272⟩ := O100.reads
    rw [eInt_all] at R272
    refine st_value (v := (.int .i64 1)) (by rfl) (run_len (.tmp 63) rfl ⟨_, Tryd.underlying36⟩ (by exact hv268) w237) ?_
    simp only [nf0, nf1, nf2, nf3, nf4]
    refine st_value (v := (.bool true)) (by rfl) ((run_gtr (.tmp 64) (.const (.int .i64 0)) rfl rfl rfl w237).trans (by rw [decide_eq_true (by omega)])) ?_
    simp only [nf0, nf1, nf2, nf3, nf4]
    refine st_mv (.bool true) ?_
    simp only [nf0, nf1, nf2, nf3, nf4]
    refine st_mv (.int .i64 (n234 : Int)) ?_
    simp only [nf0, nf1, nf2, nf3, nf4]
    refine st_mv v98 ?_
    simp only [nf0, nf1, nf2, nf3, nf4]
    obtain ⟨A273, c274, hv275, h276, h277, h278, R279⟩ := O100.reads
    rw [eInt_all] at R279
    obtain ⟨b280, o281, rfl, _⟩ := R279.at_ (by simp)
    refine st_value (v := (.pointer (some ⟨b280, o281 + 0 * 1, none⟩))) (by rfl) (run_indexAddrN (.tmp 68) (.const (.int .i64 0)) rfl Tryd.underlying36 slInt.sz (i := 0) (by exact hv275) rfl (by simp) w237) ?_
    simp only [nf0, nf1, nf2, nf3, nf4]
    refine st_value (v := (.int .i64 (n55 : Int))) (by rfl) (run_load1 (.tmp 69) rfl Tryd.underlying3 rfl slInt.sz rfl (Reads.intAt R279 0 (by simp))) ?_
    simp only [nf0, nf1, nf2, nf3, nf4]
    refine st_value (v := (.bool (decide ((n234 : Int) < (n55 : Int))))) (by rfl) (run_lss (.tmp 67) (.tmp 70) rfl rfl rfl w237) ?_
    simp only [nf0, nf1, nf2, nf3, nf4]
    refine st_mv (.bool (decide ((n234 : Int) < (n55 : Int)))) ?_
    simp only [nf0, nf1, nf2, nf3, nf4]
    refine st_mv (.bool (decide ((n234 : Int) < (n55 : Int)))) ?_
    simp only [nf0, nf1, nf2, nf3, nf4]
    refine wpList_nil ?_
    exact ⟨rfl, decide ((n234 : Int) < (n55 : Int)), rfl, rfl, (fun h => by first | omega | (exact absurd h (by decide)) | (have h2 := of_decide_eq_true h; omega) | (have h2 := of_decide_eq_false h; omega)), (fun h => by first | omega | (exact absurd h (by decide)) | (have h2 := of_decide_eq_true h; omega) | (have h2 := of_decide_eq_false h; omega))⟩
  intro a_ w284 h_
  revert h_
  generalize jk a_ = J242
  rintro ⟨b241, rfl, rfl, hb1b241, hb0b241⟩
  cases hg285 : b241
  rotate_left
  · have hp532 := trivial
    refine wp_cond_true rfl ?_
    refine wp_seq ?_
    refine wp_region_lit ?_
    refine st_value (v := (.agg (setA 0))) (by rfl) (run_build_set rfl w237) ?_
    simp only [nf0, nf1, nf2, nf3, nf4]
    refine st_mv (.int .i64 (((i : Int) + (d56 : Int)) + 1)) ?_
    simp only [nf0, nf1, nf2, nf3, nf4]
    refine st_row (by rfl) (run_store_set (.tmp 2) (.tmp 74) rfl rfl (S := 0) rfl B3) B3 ?_
    intro w533 B535 hg534
    simp only [nf0, nf1, nf2, nf3, nf4]
    replace O6 := O6.keptB hg534 n10
    replace O100 := O100.keptB hg534 n103
    clear B3
    replace bel := bl_kept0 bel hg534 lo5
    clear hg534
    refine st_mv (.int .i64 26) ?_
    simp only [nf0, nf1, nf2, nf3, nf4]
    refine st_mv (.int .i64 (((i : Int) + (d56 : Int)) + 1)) ?_
    simp only [nf0, nf1, nf2, nf3, nf4]
    refine wpList_nil ?_
    show Code.wp _ _ _ _ _
    refine wp_ret ?_
    first | show bodyPost _ _ _ _ _ _ | (simp only [Exit.then, Exit.inBlock]; show bodyPost _ _ _ _ _ _)
    have hbb := hb1b241 hg285
    have hpr : parse l = (0, 26, ((i + d56) + 1)) := by
      by_cases hc : 1023 < n234 ∨ (1 < d235 ∧ chr l ((i + d56) + 1) = 48)
      · obtain ⟨q, k, hq⟩ := hN236.2.2.2.2.1 (by omega) hc
        exact hP.err h0 (it_err2 hv1 (by omega) (by omega) hq (by decide)) (by decide)
      · exact hP.err h0 (it_less hv1 (by omega) (by omega) (hN236.2.2.2.2.2.1 (by omega) hc) (by omega)) (by decide)
    have hpr := hpr
    exact bodyPost_ret (results_set2 (p := 2) (u := 3) (v := 4) rfl _ _ _ 0 rfl B535) rfl ⟨fin_ret (E := 26) (A := (((i : Int) + (d56 : Int)) + 1)) hpr (by rfl) (by omega), bel⟩
  have hp286 := trivial
  refine wp_cond_false rfl ?_
  refine wp_skip ?_
  show Code.wp _ _ _ _ _
  refine wp_seq ?_
  have hb2 := hb0b241 hg285
  have hv2 : numE l ((i + d56) + 1) = (n234, 0, ((i + d56) + 1) + d235) := hN236.2.2.2.2.2.1 (by omega) (by omega)
  refine wp_region_lit ?_
  refine st_mv v98 ?_
  simp only [nf0, nf1, nf2, nf3, nf4]
  refine st_mv (.int .i64 (n234 : Int)) ?_
  simp only [nf0, nf1, nf2, nf3, nf4]
  refine st_lit (by rfl) (run_lit_36_1 (.tmp 77) rfl rfl _) ?_
  intro g287 w288 B289 hb290 lo291
  simp only [nf0, nf1, nf2, nf3, nf4]
  have n292 := B3.ne lo291
  have n293 := O6.off lo291
  have n294 := O100.off lo291
  replace lo291 := low_le bel lo291
  replace B3 := B3.below hb290
  replace O6 := O6.same hb290
  replace O100 := O100.same hb290
  replace bel := bl_step bel hb290
  clear hb290
  refine st_append slInt rfl (.tmp 76) (.tmp 78) rfl rfl O100 ([(n234 : Int)] : List Int) rfl rfl B289 (by simp [Enc.all, eInt]) (by simp only [List.length_append, List.length_cons, List.length_nil]; omega) bel.size ?_
  intro v295 w296 O297 hg298 hat299
  simp only [nf0, nf1, nf2, nf3, nf4]
  have n300 := (n103 : Off _ _).app B3 hat299
  replace B3 := B3.keptR hg298 n103
  have n301 := Off2.app n104 O6 hat299
  replace O6 := O6.keptR hg298 n104.symm
  replace bel := bl_app bel O100 hg298
  clear O100 hg298 hat299
  refine st_mv v295 ?_
  simp only [nf0, nf1, nf2, nf3, nf4]
  refine wpList_nil ?_
  show Code.wp _ _ _ _ _
  refine wp_seq ?_
  refine wp_region_lit ?_
  refine st_mv (.int .i64 (((i : Int) + (d56 : Int)) + 1)) ?_
  simp only [nf0, nf1, nf2, nf3, nf4]
  refine st_mv (.int .i64 (d235 : Int)) ?_
  simp only [nf0, nf1, nf2, nf3, nf4]
  refine st_value (v := (.int .i64 ((((i : Int) + (d56 : Int)) + 1) + (d235 : Int)))) (by rfl) (run_add_in (.tmp 80) (.tmp 81) rfl rfl rfl (by omega) w296) ?_
  simp only [nf0, nf1, nf2, nf3, nf4]
  refine st_mv (.int .i64 ((((i : Int) + (d56 : Int)) + 1) + (d235 : Int))) ?_
  simp only [nf0, nf1, nf2, nf3, nf4]
  refine wpList_nil ?_
  show Code.wp _ _ _ _ _
  refine wp_seq ?_
  refine wp_seq ?_
  refine wp_region_lit ?_
  refine st_mv v295 ?_
  simp only [nf0, nf1, nf2, nf3, nf4]
  obtain ⟨A302, c303, hv304, h305, h306, h307, R308⟩ := O297.reads
  rw [eInt_all] at R308
  refine st_value (v := (.int .i64 2)) (by rfl) (run_len (.tmp 83) rfl ⟨_, Tryd.underlying36⟩ (by exact hv304) w296) ?_
  simp only [nf0, nf1, nf2, nf3, nf4]
  refine st_value (v := (.bool true)) (by rfl) (run_eql_int_t (.tmp 84) (.const (.int .i64 2)) rfl rfl rfl rfl w296) ?_
  simp only [nf0, nf1, nf2, nf3, nf4]
  refine st_mv (.bool true) ?_
  simp only [nf0, nf1, nf2, nf3, nf4]
  refine st_nob (j := 3) (t := 86) (c := true) rfl rfl rfl rfl rfl ?_
  simp only [nf0, nf1, nf2, nf3, nf4]
  refine st_nob (j := 3) (t := 86) (c := true) rfl rfl rfl rfl rfl ?_
  simp only [nf0, nf1, nf2, nf3, nf4]
  refine st_nob (j := 3) (t := 86) (c := true) rfl rfl rfl rfl rfl ?_
  simp only [nf0, nf1, nf2, nf3, nf4]
  refine st_nob (j := 3) (t := 86) (c := true) rfl rfl rfl rfl rfl ?_
  simp only [nf0, nf1, nf2, nf3, nf4]
  refine st_mv (.bool true) ?_
  simp only [nf0, nf1, nf2, nf3, nf4]
  refine st_mv (.bool true) ?_
  simp only [nf0, nf1, nf2, nf3, nf4]
  refine st_nob (j := 9) (t := 92) (c := true) rfl rfl rfl rfl rfl ?_
  simp only [nf0, nf1, nf2, nf3, nf4]
  refine st_nob (j := 9) (t := 92) (c := true) rfl rfl rfl rfl rfl ?_
  simp only [nf0, nf1, nf2, nf3, nf4]
  refine st_nob (j := 9) (t := 92) (c := true) rfl rfl rfl rfl rfl ?_
  simp only [nf0, nf1, nf2, nf3, nf4]
  refine st_nob (j := 9) (t := 92) (c := true) rfl rfl rfl rfl rfl ?_
  simp only [nf0, nf1, nf2, nf3, nf4]
  refine st_mv (.bool true) ?_
  simp only [nf0, nf1, nf2, nf3, nf4]
  refine wpList_nil ?_
  show Code.wp _ _ _ _ _
  refine wp_cond_true rfl ?_
  refine wp_exit ?_
  show Code.wp _ _ _ _ _
  refine wp_seq ?_
  refine wp_seq ?_
  cases hg309 : decide (((((i : Int) + (d56 : Int)) + 1) + (d235 : Int)) < (l.length : Int))
  · have hp310 := of_decide_eq_false hg309
    have hT := it_two hv1 (by omega) (by omega) hv2 (by omega)
    refine wp_region_lit ?_
    refine st_mv (.int .i64 ((((i : Int) + (d56 : Int)) + 1) + (d235 : Int))) ?_
    simp only [nf0, nf1, nf2, nf3, nf4]
    refine st_mv (.string (str l)) ?_
    simp only [nf0, nf1, nf2, nf3, nf4]
    refine st_value (v := (.int .i64 (l.length : Int))) (by rfl) (run_len_text (.tmp 101) rfl Tryd.underlying9 (l := l) rfl w296) ?_
    simp only [nf0, nf1, nf2, nf3, nf4]
    refine st_value (v := (.bool false)) (by rfl) ((run_lss (.tmp 100) (.tmp 102) rfl rfl rfl w296).trans (by rw [hg309])) ?_
    simp only [nf0, nf1, nf2, nf3, nf4]
    refine st_mv (.bool false) ?_
    simp only [nf0, nf1, nf2, nf3, nf4]
    refine st_nob (j := 4) (t := 104) (c := false) rfl rfl rfl rfl rfl ?_
    simp only [nf0, nf1, nf2, nf3, nf4]
    refine st_nob (j := 4) (t := 104) (c := false) rfl rfl rfl rfl rfl ?_
    simp only [nf0, nf1, nf2, nf3, nf4]
    refine st_nob (j := 4) (t := 104) (c := false) rfl rfl rfl rfl rfl ?_
    simp only [nf0, nf1, nf2, nf3, nf4]
    refine st_nob (j := 4) (t := 104) (c := false) rfl rfl rfl rfl rfl ?_
    simp only [nf0, nf1, nf2, nf3, nf4]
    refine st_mv (.bool false) ?_
    simp only [nf0, nf1, nf2, nf3, nf4]
    refine wpList_nil ?_
    show Code.wp _ _ _ _ _
    refine wp_cond_false rfl ?_
    refine wp_skip ?_
    show Code.wp _ _ _ _ _
    refine wp_seq ?_
    refine wp_seq ?_
    have hI : itemE l i = (n55, n234, 0, 0, (((i + d56) + 1) + d235)) := hT.trans (tail_ok _ _ (by omega))
    refine wp_region_lit ?_
    refine st_mv v295 ?_
    simp only [nf0, nf1, nf2, nf3, nf4]
    obtain ⟨A311, c312, hv313, h314, h315, h316, R317⟩ := O297.reads
    rw [eInt_all] at R317
    obtain ⟨b318, o319, rfl, _⟩ := R317.at_ (by simp)
    refine st_value (v := (.pointer (some ⟨b318, o319 + 0 * 1, none⟩))) (by rfl) (run_indexAddrN (.tmp 112) (.const (.int .i64 0)) rfl Tryd.underlying36 slInt.sz (i := 0) (by exact hv313) rfl (by simp) w296) ?_
    simp only [nf0, nf1, nf2, nf3, nf4]
    refine st_value (v := (.int .i64 (n55 : Int))) (by rfl) (run_load1 (.tmp 113) rfl Tryd.underlying3 rfl slInt.sz rfl (Reads.intAt R317 0 (by simp))) ?_
    simp only [nf0, nf1, nf2, nf3, nf4]
    refine st_mv (.int .i64 (n55 : Int)) ?_
    simp only [nf0, nf1, nf2, nf3, nf4]
    refine wpList_nil ?_
    show Code.wp _ _ _ _ _
    refine wp_block ?_
    refine wp_loop_left (fun n_ a_ wr_ => (fun J320 => ∃ (x : Int), n_ = ((n234 : Int) + 1 - x).toNat ∧ a_ = ⟨#[.string (str l), J320 1, .pointer (some ⟨g1, 0, none⟩), J320 3, J320 4, vl, .int .i64 ((((i : Int) + (d56 : Int)) + 1) + (d235 : Int)), .int .i64 (i : Int), v295, .int .i64 (n234 : Int), .int .i64 (d235 : Int), .int .i64 x, J9 12, J320 13, J320 14, J320 15, J320 16, J320 17, J320 18, J320 19, J320 20, J320 21, J320 22, J320 23, J320 24, J320 25, J320 26, J320 27, J320 28, J320 29, J320 30, J320 31, J320 32, J320 33, J320 34, J320 35, J320 36, J320 37, J320 38, J320 39, J320 40, J320 41, J320 42, J320 43, J320 44, J320 45, J320 46, J320 47, J320 48, J320 49, J320 50, J320 51, J320 52, J320 53, J320 54, J320 55, J320 56, J320 57, J320 58, J320 59, J320 60, J320 61, J320 62, J320 63, J320 64, J320 65, J320 66, J320 67, J320 68, J320 69, J320 70, J320 71, J320 72, J320 73, J320 74, J320 75, J320 76, J320 77, J320 78, J320 79, J320 80, J320 81, J320 82, J320 83, J320 84, J320 85, J320 86, J320 87, J320 88, J320 89, J320 90, J320 91, J320 92, J320 93, J320 94, J320 95, J320 96, J320 97, J320 98, J320 99, J320 100, J320 101, J320 102, J320 103, J320 104, J320 105, J320 106, J320 107, J320 108, J320 109, J320 110, J320 111, J320 112, J320 113, J320 114, J320 115, J320 116, J320 117, J320 118, J320 119, J320 120, J320 121, J320 122, J320 123, J320 124, J320 125, J320 126, J320 127, J320 128, J320 129, J320 130, J320 131, J320 132, J320 133, J320 134, J320 135, J320 136, J320 137, J320 138, J320 139, J320 140, J320 141, J320 142, J320 143, J320 144, J320 145, J320 146, J320 147, J320 148, J320 149, J320 150, J320 151, J320 152, J320 153, J320 154, J320 155], []⟩ ∧ Blk wr_ g1 (setA 0) 24 ∧ OwnR wr_ w.heap.size 3 (eInt .i64) vl xs ∧ OwnR wr_ w.heap.size 3 (eInt .i64) v295 (([(n55 : Int)] : List Int) ++ ([(n234 : Int)] : List Int)) ∧ Off vl g1 ∧ Off v295 g1 ∧ Off2 vl v295 ∧ Below w.heap.size w wr_ ∧ (n55 : Int) ≤ x ∧ x ≤ (n234 : Int) + 1 ∧ ∀ j : Int, (n55 : Int) ≤ j → j < x → has (mk xs) j = false) (jk a_)) (((n234 : Int) + 1 - (n55 : Int)).toNat) ⟨(n55 : Int), rfl, rfl, B3, O6, O297, n10, n300, n301.symm, bel, (by omega), (by omega), (fun j a b => absurd a (by omega))⟩ ?_
    clear B3
    clear O6
    clear O297
    clear n10 n300 n301
    clear bel
    intro n_ a_ w324 h_
    revert h_
    generalize jk a_ = J320
    rintro ⟨x, hn, rfl, B3, O6, O297, n321, n322, n323, bel, hx1, hx2, hno⟩
    refine wp_seq ?_
    refine wp_seq ?_
    refine wp_region_lit ?_
    refine st_mv (.int .i64 x) ?_
    simp only [nf0, nf1, nf2, nf3, nf4]
    refine st_mv v295 ?_
    simp only [nf0, nf1, nf2, nf3, nf4]
    refine st_mv v295 ?_
    simp only [nf0, nf1, nf2, nf3, nf4]
    obtain ⟨A325, c326, hv327, h328, h329, h330, R331⟩ := O297.reads
    rw [eInt_all] at R331
    refine st_value (v := (.int .i64 2)) (by rfl) (run_len (.tmp 117) rfl ⟨_, Tryd.underlying36⟩ (by exact hv327) w324) ?_
    simp only [nf0, nf1, nf2, nf3, nf4]
    refine st_value (v := (.int .i64 1)) (by rfl) (run_sub_in (m := 2) (n := 1) (.tmp 118) (.const (.int .i64 1)) rfl rfl rfl (by omega) w324) ?_
    simp only [nf0, nf1, nf2, nf3, nf4]
    obtain ⟨A332, c333, hv334, h335, h336, h337, R338⟩ := O297.reads
    rw [eInt_all] at R338
    obtain ⟨b339, o340, rfl, _⟩ := R338.at_ (by simp)
    refine st_value (v := (.pointer (some ⟨b339, o340 + 1 * 1, none⟩))) (by rfl) (run_indexAddrN (.tmp 116) (.tmp 119) rfl Tryd.underlying36 slInt.sz (i := 1) (by exact hv334) rfl (by simp) w324) ?_
    simp only [nf0, nf1, nf2, nf3, nf4]
    refine st_value (v := (.int .i64 (n234 : Int))) (by rfl) (run_load1 (.tmp 120) rfl Tryd.underlying3 rfl slInt.sz rfl (Reads.intAt R338 1 (by simp))) ?_
    simp only [nf0, nf1, nf2, nf3, nf4]
    refine st_value (v := (.bool (decide (x ≤ (n234 : Int))))) (by rfl) (run_leq (.tmp 115) (.tmp 121) rfl rfl rfl w324) ?_
    simp only [nf0, nf1, nf2, nf3, nf4]
    refine wpList_nil ?_
    show Code.wp _ _ _ _ _
    cases hg341 : decide (x ≤ (n234 : Int))
    rotate_left
    · have hp406 := of_decide_eq_true hg341
      refine wp_cond_true rfl ?_
      refine wp_skip ?_
      show Code.wp _ _ _ _ _
      refine wp_seq ?_
      refine wp_block ?_
      refine wp_seq ?_
      refine wp_region_lit ?_
      refine st_mv vl ?_
      simp only [nf0, nf1, nf2, nf3, nf4]
      obtain ⟨A407, c408, hv409, h410, h411, h412, R413⟩ := O6.reads
      rw [eInt_all] at R413
      refine st_call1 (v := (.agg (setA (mk xs)))) (by rfl) (run_call_22_1 (.tmp 125) rfl rfl _) (by rw [hv409]; exact make_calls A407 xs c408 w324 R413 (by have := hP.2.2.2.2; have := hP.1; first | omega | (rw [ext_len]; omega))) ?_
      intro w414 hb415
      simp only [nf0, nf1, nf2, nf3, nf4]
      replace B3 := B3.below hb415
      replace O6 := O6.same hb415
      replace O297 := O297.same hb415
      replace bel := bl_step bel hb415
      clear hb415
      refine st_mv (.int .i64 x) ?_
      simp only [nf0, nf1, nf2, nf3, nf4]
      refine st_call1 (v := (.bool (has (mk xs) x))) (by rfl) (run_call_26_2 (.tmp 126) (.tmp 127) rfl rfl rfl _) (refHas_below (mk xs) (mk_sm _) x w414) ?_
      intro w416 hb417
      simp only [nf0, nf1, nf2, nf3, nf4]
      replace B3 := B3.below hb417
      replace O6 := O6.same hb417
      replace O297 := O297.same hb417
      replace bel := bl_step bel hb417
      clear hb417
      refine wpList_nil ?_
      show Code.wp _ _ _ _ _
      cases hg418 : has (mk xs) x
      · have hp419 := trivial
        refine wp_cond_false rfl ?_
        refine wp_skip ?_
        show Code.wp _ _ _ _ _
        refine wp_region_lit ?_
        refine st_mv (.int .i64 x) ?_
        simp only [nf0, nf1, nf2, nf3, nf4]
        refine st_value (v := (.int .i64 (x + 1))) (by rfl) (run_add_in (.tmp 123) (.const (.int .i64 1)) rfl rfl rfl (by omega) w416) ?_
        simp only [nf0, nf1, nf2, nf3, nf4]
        refine st_mv (.int .i64 (x + 1)) ?_
        simp only [nf0, nf1, nf2, nf3, nf4]
        refine wpList_nil ?_
        show ∃ m, m < _ ∧ _
        exact ⟨_, (by omega), (x + 1), rfl, rfl, B3, O6, O297, n321, n322, n323, bel, (by omega), (by omega), (hno_step hno hg418)⟩
      have hp420 := trivial
      refine wp_cond_true rfl ?_
      refine wp_seq ?_
      refine wp_region_lit ?_
      refine st_value (v := (.agg (setA 0))) (by rfl) (run_build_set rfl w416) ?_
      simp only [nf0, nf1, nf2, nf3, nf4]
      refine st_mv (.int .i64 (i : Int)) ?_
      simp only [nf0, nf1, nf2, nf3, nf4]
      refine st_row (by rfl) (run_store_set (.tmp 2) (.tmp 129) rfl rfl (S := 0) rfl B3) B3 ?_
      intro w421 B423 hg422
      simp only [nf0, nf1, nf2, nf3, nf4]
      replace O6 := O6.keptB hg422 n321
      replace O297 := O297.keptB hg422 n322
      clear B3
      replace bel := bl_kept0 bel hg422 lo5
      clear hg422
      refine st_mv (.int .i64 9) ?_
      simp only [nf0, nf1, nf2, nf3, nf4]
      refine st_mv (.int .i64 (i : Int)) ?_
      simp only [nf0, nf1, nf2, nf3, nf4]
      refine wpList_nil ?_
      show Code.wp _ _ _ _ _
      refine wp_ret ?_
      first | show bodyPost _ _ _ _ _ _ | (simp only [Exit.then, Exit.inBlock]; show bodyPost _ _ _ _ _ _)
      have hpr := hP.lap h0 hI hx1 (by omega) (by omega) hg418
      exact bodyPost_ret (results_set2 (p := 2) (u := 3) (v := 4) rfl _ _ _ 0 rfl B423) rfl ⟨fin_ret (E := 9) (A := (i : Int)) hpr (by rfl) (by omega), bel⟩
    have hp342 := of_decide_eq_false hg341
    refine wp_cond_false rfl ?_
    refine wp_exit ?_
    show Code.wp _ _ _ _ _
    refine wp_seq ?_
    refine wp_seq ?_
    obtain rfl : x = ((n234 : Int) + 1) := by omega
    refine wp_region_lit ?_
    refine st_mv v295 ?_
    simp only [nf0, nf1, nf2, nf3, nf4]
    obtain ⟨A343, c344, hv345, h346, h347, h348, R349⟩ := O297.reads
    rw [eInt_all] at R349
    obtain ⟨b350, o351, rfl, _⟩ := R349.at_ (by simp)
    refine st_value (v := (.pointer (some ⟨b350, o351 + 0 * 1, none⟩))) (by rfl) (run_indexAddrN (.tmp 131) (.const (.int .i64 0)) rfl Tryd.underlying36 slInt.sz (i := 0) (by exact hv345) rfl (by simp) w324) ?_
    simp only [nf0, nf1, nf2, nf3, nf4]
    refine st_value (v := (.int .i64 (n55 : Int))) (by rfl) (run_load1 (.tmp 132) rfl Tryd.underlying3 rfl slInt.sz rfl (Reads.intAt R349 0 (by simp))) ?_
    simp only [nf0, nf1, nf2, nf3, nf4]
    refine st_mv (.int .i64 (n55 : Int)) ?_
    simp only [nf0, nf1, nf2, nf3, nf4]
    refine wpList_nil ?_
    show Code.wp _ _ _ _ _
    refine wp_block ?_
    refine wp_loop_left (fun n_ a_ wr_ => (fun J352 => ∃ (y : Int) (vy : Value), n_ = ((n234 : Int) + 1 - y).toNat ∧ a_ = ⟨#[.string (str l), J352 1, .pointer (some ⟨g1, 0, none⟩), J320 3, J320 4, vy, .int .i64 ((((i : Int) + (d56 : Int)) + 1) + (d235 : Int)), .int .i64 (i : Int), v295, .int .i64 (n234 : Int), .int .i64 (d235 : Int), .int .i64 ((n234 : Int) + 1), .int .i64 y, J352 13, J352 14, J352 15, J352 16, J352 17, J352 18, J352 19, J352 20, J352 21, J352 22, J352 23, J352 24, J352 25, J352 26, J352 27, J352 28, J352 29, J352 30, J352 31, J352 32, J352 33, J352 34, J352 35, J352 36, J352 37, J352 38, J352 39, J352 40, J352 41, J352 42, J352 43, J352 44, J352 45, J352 46, J352 47, J352 48, J352 49, J352 50, J352 51, J352 52, J352 53, J352 54, J352 55, J352 56, J352 57, J352 58, J352 59, J352 60, J352 61, J352 62, J352 63, J352 64, J352 65, J352 66, J352 67, J352 68, J352 69, J352 70, J352 71, J352 72, J352 73, J352 74, J352 75, J352 76, J352 77, J352 78, J352 79, J352 80, J352 81, J352 82, J352 83, J352 84, J352 85, J352 86, J352 87, J352 88, J352 89, J352 90, J352 91, J352 92, J352 93, J352 94, J352 95, J352 96, J352 97, J352 98, J352 99, J352 100, J352 101, J352 102, J352 103, J352 104, J352 105, J352 106, J352 107, J352 108, J352 109, J352 110, J352 111, J352 112, J352 113, J352 114, J352 115, J352 116, J352 117, J352 118, J352 119, J352 120, J352 121, J352 122, J352 123, J352 124, J352 125, J352 126, J352 127, J352 128, J352 129, J352 130, J352 131, J352 132, J352 133, J352 134, J352 135, J352 136, J352 137, J352 138, J352 139, J352 140, J352 141, J352 142, J352 143, J352 144, J352 145, J352 146, J352 147, J352 148, J352 149, J352 150, J352 151, J352 152, J352 153, J352 154, J352 155], []⟩ ∧ Blk wr_ g1 (setA 0) 24 ∧ OwnR wr_ w.heap.size 3 (eInt .i64) vy (ext xs (n55 : Int) y) ∧ OwnR wr_ w.heap.size 3 (eInt .i64) v295 (([(n55 : Int)] : List Int) ++ ([(n234 : Int)] : List Int)) ∧ Off vy g1 ∧ Off v295 g1 ∧ Off2 vy v295 ∧ Below w.heap.size w wr_ ∧ (n55 : Int) ≤ y ∧ y ≤ (n234 : Int) + 1) (jk a_)) (((n234 : Int) + 1 - (n55 : Int)).toNat) ⟨(n55 : Int), vl, rfl, rfl, B3, (by rw [ext_same]; exact O6), O297, n321, n322, n323, bel, (by omega), (by omega)⟩ ?_
    clear B3
    clear O6
    clear O297
    clear n321 n322 n323
    clear bel
    intro n_ a_ w356 h_
    revert h_
    generalize jk a_ = J352
    rintro ⟨y, vy, hn, rfl, B3, O6, O297, n353, n354, n355, bel, hy1, hy2⟩
    refine wp_seq ?_
    refine wp_seq ?_
    refine wp_region_lit ?_
    refine st_mv (.int .i64 y) ?_
    simp only [nf0, nf1, nf2, nf3, nf4]
    refine st_mv v295 ?_
    simp only [nf0, nf1, nf2, nf3, nf4]
    refine st_mv v295 ?_
    simp only [nf0, nf1, nf2, nf3, nf4]
    obtain ⟨A357, c358, hv359, h360, h361, h362, R363⟩ := O297.reads
    rw [eInt_all] at R363
    refine st_value (v := (.int .i64 2)) (by rfl) (run_len (.tmp 136) rfl ⟨_, Tryd.underlying36⟩ (by exact hv359) w356) ?_
    simp only [nf0, nf1, nf2, nf3, nf4]
    refine st_value (v := (.int .i64 1)) (by rfl) (run_sub_in (m := 2) (n := 1) (.tmp 137) (.const (.int .i64 1)) rfl rfl rfl (by omega) w356) ?_
    simp only [nf0, nf1, nf2, nf3, nf4]
    obtain ⟨A364, c365, hv366, h367, h368, h369, R370⟩ := O297.reads
    rw [eInt_all] at R370
    obtain ⟨b371, o372, rfl, _⟩ := R370.at_ (by simp)
    refine st_value (v := (.pointer (some ⟨b371, o372 + 1 * 1, none⟩))) (by rfl) (run_indexAddrN (.tmp 135) (.tmp 138) rfl Tryd.underlying36 slInt.sz (i := 1) (by exact hv366) rfl (by simp) w356) ?_
    simp only [nf0, nf1, nf2, nf3, nf4]
    refine st_value (v := (.int .i64 (n234 : Int))) (by rfl) (run_load1 (.tmp 139) rfl Tryd.underlying3 rfl slInt.sz rfl (Reads.intAt R370 1 (by simp))) ?_
    simp only [nf0, nf1, nf2, nf3, nf4]
    refine st_value (v := (.bool (decide (y ≤ (n234 : Int))))) (by rfl) (run_leq (.tmp 134) (.tmp 140) rfl rfl rfl w356) ?_
    simp only [nf0, nf1, nf2, nf3, nf4]
    refine wpList_nil ?_
    show Code.wp _ _ _ _ _
    cases hg373 : decide (y ≤ (n234 : Int))
    rotate_left
    · have hp390 := of_decide_eq_true hg373
      refine wp_cond_true rfl ?_
      refine wp_skip ?_
      show Code.wp _ _ _ _ _
      refine wp_seq ?_
      refine wp_block ?_
      refine wp_region_lit ?_
      refine st_mv vy ?_
      simp only [nf0, nf1, nf2, nf3, nf4]
      refine st_mv (.int .i64 y) ?_
      simp only [nf0, nf1, nf2, nf3, nf4]
      refine st_lit (by rfl) (run_lit_36_1 (.tmp 145) rfl rfl _) ?_
      intro g391 w392 B393 hb394 lo395
      simp only [nf0, nf1, nf2, nf3, nf4]
      have n396 := B3.ne lo395
      have n397 := O6.off lo395
      have n398 := O297.off lo395
      replace lo395 := low_le bel lo395
      replace B3 := B3.below hb394
      replace O6 := O6.same hb394
      replace O297 := O297.same hb394
      replace bel := bl_step bel hb394
      clear hb394
      refine st_append slInt rfl (.tmp 144) (.tmp 146) rfl rfl O6 ([y] : List Int) rfl rfl B393 (by simp [Enc.all, eInt]) (by have := hP.2.2.2.2; have := hP.1; simp only [ext_len, List.length_cons, List.length_nil]; omega) bel.size ?_
      intro v399 w400 O401 hg402 hat403
      simp only [nf0, nf1, nf2, nf3, nf4]
      have n404 := (n353 : Off _ _).app B3 hat403
      replace B3 := B3.keptR hg402 n353
      have n405 := Off2.app n355 O297 hat403
      replace O297 := O297.keptR hg402 n355.symm
      replace bel := bl_app bel O6 hg402
      clear O6 hg402 hat403
      refine st_mv v399 ?_
      simp only [nf0, nf1, nf2, nf3, nf4]
      refine wpList_nil ?_
      show Code.wp _ _ _ _ _
      refine wp_region_lit ?_
      refine st_mv (.int .i64 y) ?_
      simp only [nf0, nf1, nf2, nf3, nf4]
      refine st_value (v := (.int .i64 (y + 1))) (by rfl) (run_add_in (.tmp 142) (.const (.int .i64 1)) rfl rfl rfl (by omega) w400) ?_
      simp only [nf0, nf1, nf2, nf3, nf4]
      refine st_mv (.int .i64 (y + 1)) ?_
      simp only [nf0, nf1, nf2, nf3, nf4]
      refine wpList_nil ?_
      show ∃ m, m < _ ∧ _
      exact ⟨_, (by omega), (y + 1), v399, rfl, rfl, B3, (by rw [ext_succ _ hy1]; exact O401), O297, n404, n354, n405, bel, (by omega), (by omega)⟩
    have hp374 := of_decide_eq_false hg373
    refine wp_cond_false rfl ?_
    refine wp_exit ?_
    show Code.wp _ _ _ _ _
    refine wp_seq ?_
    refine wp_seq ?_
    obtain rfl : y = ((n234 : Int) + 1) := by omega
    refine wp_region_lit ?_
    refine st_mv (.int .i64 ((((i : Int) + (d56 : Int)) + 1) + (d235 : Int))) ?_
    simp only [nf0, nf1, nf2, nf3, nf4]
    refine st_mv (.string (str l)) ?_
    simp only [nf0, nf1, nf2, nf3, nf4]
    refine st_value (v := (.int .i64 (l.length : Int))) (by rfl) (run_len_text (.tmp 149) rfl Tryd.underlying9 (l := l) rfl w356) ?_
    simp only [nf0, nf1, nf2, nf3, nf4]
    refine st_value (v := (.bool (decide (((((i : Int) + (d56 : Int)) + 1) + (d235 : Int)) = (l.length : Int))))) (by rfl) (run_eql_int (.tmp 148) (.tmp 150) rfl rfl rfl w356) ?_
    simp only [nf0, nf1, nf2, nf3, nf4]
    refine wpList_nil ?_
    show Code.wp _ _ _ _ _
    cases hg375 : decide (((((i : Int) + (d56 : Int)) + 1) + (d235 : Int)) = (l.length : Int))
    · have hp376 := of_decide_eq_false hg375
      exfalso
      omega
    have hp377 := of_decide_eq_true hg375
    refine wp_cond_true rfl ?_
    refine wp_exit ?_
    show Code.wp _ _ _ _ _
    refine wp_seq ?_
    refine wp_region_lit ?_
    refine st_mv vy ?_
    simp only [nf0, nf1, nf2, nf3, nf4]
    obtain ⟨A378, c379, hv380, h381, h382, h383, R384⟩ := O6.reads
    rw [eInt_all] at R384
    refine st_call1 (v := (.agg (setA (mk (ext xs (n55 : Int) ((n234 : Int) + 1)))))) (by rfl) (run_call_22_1 (.tmp 154) rfl rfl _) (by rw [hv380]; exact make_calls A378 (ext xs (n55 : Int) ((n234 : Int) + 1)) c379 w356 R384 (by have := hP.2.2.2.2; have := hP.1; first | omega | (rw [ext_len]; omega))) ?_
    intro w385 hb386
    simp only [nf0, nf1, nf2, nf3, nf4]
    replace B3 := B3.below hb386
    replace O6 := O6.same hb386
    replace O297 := O297.same hb386
    replace bel := bl_step bel hb386
    clear hb386
    refine st_row (by rfl) (run_store_set (.tmp 2) (.tmp 155) rfl rfl (S := (mk (ext xs (n55 : Int) ((n234 : Int) + 1)))) rfl B3) B3 ?_
    intro w387 B389 hg388
    simp only [nf0, nf1, nf2, nf3, nf4]
    replace O6 := O6.keptB hg388 n353
    replace O297 := O297.keptB hg388 n354
    clear B3
    replace bel := bl_kept0 bel hg388 lo5
    clear hg388
    refine st_mv (.int .i64 0) ?_
    simp only [nf0, nf1, nf2, nf3, nf4]
    refine st_mv (.int .i64 0) ?_
    simp only [nf0, nf1, nf2, nf3, nf4]
    refine wpList_nil ?_
    show Code.wp _ _ _ _ _
    refine wp_ret ?_
    first | show bodyPost _ _ _ _ _ _ | (simp only [Exit.then, Exit.inBlock]; show bodyPost _ _ _ _ _ _)
    have hpr := hP.last h0 hI (by omega) hno (by omega)
    exact bodyPost_ret (results_set2 (p := 2) (u := 3) (v := 4) rfl _ _ _ (mk (ext xs (n55 : Int) ((n234 : Int) + 1))) rfl B389) rfl ⟨fin_ret (E := 0) (A := 0) hpr (by rfl) (by omega), bel⟩
  have hp424 := of_decide_eq_true hg309
  have hT := it_two hv1 (by omega) (by omega) hv2 (by omega)
  refine wp_region_lit ?_
  refine st_mv (.int .i64 ((((i : Int) + (d56 : Int)) + 1) + (d235 : Int))) ?_
  simp only [nf0, nf1, nf2, nf3, nf4]
  refine st_mv (.string (str l)) ?_
  simp only [nf0, nf1, nf2, nf3, nf4]
  refine st_value (v := (.int .i64 (l.length : Int))) (by rfl) (run_len_text (.tmp 101) rfl Tryd.underlying9 (l := l) rfl w296) ?_
  simp only [nf0, nf1, nf2, nf3, nf4]
  refine st_value (v := (.bool true)) (by rfl) ((run_lss (.tmp 100) (.tmp 102) rfl rfl rfl w296).trans (by rw [hg309])) ?_
  simp only [nf0, nf1, nf2, nf3, nf4]
  refine st_mv (.bool true) ?_
  simp only [nf0, nf1, nf2, nf3, nf4]
  refine st_mv (.string (str l)) ?_
  simp only [nf0, nf1, nf2, nf3, nf4]
  refine st_mv (.int .i64 ((((i : Int) + (d56 : Int)) + 1) + (d235 : Int))) ?_
  simp only [nf0, nf1, nf2, nf3, nf4]
  refine st_value (v := (.int .u8 (chr l (((i + d56) + 1) + d235)))) (by rfl) (run_index_text (.tmp 105) (.tmp 106) rfl Tryd.underlying9 (l := l) rfl rfl (((i + d56) + 1) + d235) (by omega) (by omega) w296) ?_
  simp only [nf0, nf1, nf2, nf3, nf4]
  refine st_value (v := (.bool (!decide ((chr l (((i + d56) + 1) + d235)) = 44)))) (by rfl) (run_neq_int (.tmp 107) (.const (.int .u8 44)) rfl rfl rfl w296) ?_
  simp only [nf0, nf1, nf2, nf3, nf4]
  refine st_mv (.bool (!decide ((chr l (((i + d56) + 1) + d235)) = 44))) ?_
  simp only [nf0, nf1, nf2, nf3, nf4]
  refine wpList_nil ?_
  show Code.wp _ _ _ _ _
  cases hg425 : decide ((chr l (((i + d56) + 1) + d235)) = 44)
  · have hp426 := of_decide_eq_false hg425
    refine wp_cond_true rfl ?_
    refine wp_seq ?_
    refine wp_region_lit ?_
    refine st_value (v := (.agg (setA 0))) (by rfl) (run_build_set rfl w296) ?_
    simp only [nf0, nf1, nf2, nf3, nf4]
    refine st_mv (.int .i64 ((((i : Int) + (d56 : Int)) + 1) + (d235 : Int))) ?_
    simp only [nf0, nf1, nf2, nf3, nf4]
    refine st_row (by rfl) (run_store_set (.tmp 2) (.tmp 110) rfl rfl (S := 0) rfl B3) B3 ?_
    intro w427 B429 hg428
    simp only [nf0, nf1, nf2, nf3, nf4]
    replace O6 := O6.keptB hg428 n10
    replace O297 := O297.keptB hg428 n300
    clear B3
    replace bel := bl_kept0 bel hg428 lo5
    clear hg428
    refine st_mv (.int .i64 20) ?_
    simp only [nf0, nf1, nf2, nf3, nf4]
    refine st_mv (.int .i64 ((((i : Int) + (d56 : Int)) + 1) + (d235 : Int))) ?_
    simp only [nf0, nf1, nf2, nf3, nf4]
    refine wpList_nil ?_
    show Code.wp _ _ _ _ _
    refine wp_ret ?_
    first | show bodyPost _ _ _ _ _ _ | (simp only [Exit.then, Exit.inBlock]; show bodyPost _ _ _ _ _ _)
    have hpr := hP.err h0 (hT.trans (tail_bad _ _ (by omega) (by omega))) (by decide)
    exact bodyPost_ret (results_set2 (p := 2) (u := 3) (v := 4) rfl _ _ _ 0 rfl B429) rfl ⟨fin_ret (E := 20) (A := ((((i : Int) + (d56 : Int)) + 1) + (d235 : Int))) hpr (by rfl) (by omega), bel⟩
  have hp430 := of_decide_eq_true hg425
  refine wp_cond_false rfl ?_
  refine wp_skip ?_
  show Code.wp _ _ _ _ _
  refine wp_seq ?_
  refine wp_seq ?_
  have hI : itemE l i = (n55, n234, 0, 0, (((i + d56) + 1) + d235)) := hT.trans (tail_ok _ _ (by omega))
  refine wp_region_lit ?_
  refine st_mv v295 ?_
  simp only [nf0, nf1, nf2, nf3, nf4]
  obtain ⟨A431, c432, hv433, h434, h435, h436, R437⟩ := O297.reads
  rw [eInt_all] at R437
  obtain ⟨b438, o439, rfl, _⟩ := R437.at_ (by simp)
  refine st_value (v := (.pointer (some ⟨b438, o439 + 0 * 1, none⟩))) (by rfl) (run_indexAddrN (.tmp 112) (.const (.int .i64 0)) rfl Tryd.underlying36 slInt.sz (i := 0) (by exact hv433) rfl (by simp) w296) ?_
  simp only [nf0, nf1, nf2, nf3, nf4]
  refine st_value (v := (.int .i64 (n55 : Int))) (by rfl) (run_load1 (.tmp 113) rfl Tryd.underlying3 rfl slInt.sz rfl (Reads.intAt R437 0 (by simp))) ?_
  simp only [nf0, nf1, nf2, nf3, nf4]
  refine st_mv (.int .i64 (n55 : Int)) ?_
  simp only [nf0, nf1, nf2, nf3, nf4]
  refine wpList_nil ?_
  show Code.wp _ _ _ _ _
  refine wp_block ?_
  refine wp_loop_left (fun n_ a_ wr_ => (fun J440 => ∃ (x : Int), n_ = ((n234 : Int) + 1 - x).toNat ∧ a_ = ⟨#[.string (str l), J440 1, .pointer (some ⟨g1, 0, none⟩), J440 3, J440 4, vl, .int .i64 ((((i : Int) + (d56 : Int)) + 1) + (d235 : Int)), .int .i64 (i : Int), v295, .int .i64 (n234 : Int), .int .i64 (d235 : Int), .int .i64 x, J9 12, J440 13, J440 14, J440 15, J440 16, J440 17, J440 18, J440 19, J440 20, J440 21, J440 22, J440 23, J440 24, J440 25, J440 26, J440 27, J440 28, J440 29, J440 30, J440 31, J440 32, J440 33, J440 34, J440 35, J440 36, J440 37, J440 38, J440 39, J440 40, J440 41, J440 42, J440 43, J440 44, J440 45, J440 46, J440 47, J440 48, J440 49, J440 50, J440 51, J440 52, J440 53, J440 54, J440 55, J440 56, J440 57, J440 58, J440 59, J440 60, J440 61, J440 62, J440 63, J440 64, J440 65, J440 66, J440 67, J440 68, J440 69, J440 70, J440 71, J440 72, J440 73, J440 74, J440 75, J440 76, J440 77, J440 78, J440 79, J440 80, J440 81, J440 82, J440 83, J440 84, J440 85, J440 86, J440 87, J440 88, J440 89, J440 90, J440 91, J440 92, J440 93, J440 94, J440 95, J440 96, J440 97, J440 98, J440 99, J440 100, J440 101, J440 102, J440 103, J440 104, J440 105, J440 106, J440 107, J440 108, J440 109, J440 110, J440 111, J440 112, J440 113, J440 114, J440 115, J440 116, J440 117, J440 118, J440 119, J440 120, J440 121, J440 122, J440 123, J440 124, J440 125, J440 126, J440 127, J440 128, J440 129, J440 130, J440 131, J440 132, J440 133, J440 134, J440 135, J440 136, J440 137, J440 138, J440 139, J440 140, J440 141, J440 142, J440 143, J440 144, J440 145, J440 146, J440 147, J440 148, J440 149, J440 150, J440 151, J440 152, J440 153, J440 154, J440 155], []⟩ ∧ Blk wr_ g1 (setA 0) 24 ∧ OwnR wr_ w.heap.size 3 (eInt .i64) vl xs ∧ OwnR wr_ w.heap.size 3 (eInt .i64) v295 (([(n55 : Int)] : List Int) ++ ([(n234 : Int)] : List Int)) ∧ Off vl g1 ∧ Off v295 g1 ∧ Off2 vl v295 ∧ Below w.heap.size w wr_ ∧ (n55 : Int) ≤ x ∧ x ≤ (n234 : Int) + 1 ∧ ∀ j : Int, (n55 : Int) ≤ j → j < x → has (mk xs) j = false) (jk a_)) (((n234 : Int) + 1 - (n55 : Int)).toNat) ⟨(n55 : Int), rfl, rfl, B3, O6, O297, n10, n300, n301.symm, bel, (by omega), (by omega), (fun j a b => absurd a (by omega))⟩ ?_
  clear B3
  clear O6
  clear O297
  clear n10 n300 n301
  clear bel
  intro n_ a_ w444 h_
  revert h_
  generalize jk a_ = J440
  rintro ⟨x, hn, rfl, B3, O6, O297, n441, n442, n443, bel, hx1, hx2, hno⟩
  refine wp_seq ?_
  refine wp_seq ?_
  refine wp_region_lit ?_
  refine st_mv (.int .i64 x) ?_
  simp only [nf0, nf1, nf2, nf3, nf4]
  refine st_mv v295 ?_
  simp only [nf0, nf1, nf2, nf3, nf4]
  refine st_mv v295 ?_
  simp only [nf0, nf1, nf2, nf3, nf4]
  obtain ⟨A445, c446, hv447, h448, h449, h450, R451⟩ := O297.reads
  rw [eInt_all] at R451
  refine st_value (v := (.int .i64 2)) (by rfl) (run_len (.tmp 117) rfl ⟨_, Tryd.underlying36⟩ (by exact hv447) w444) ?_
  simp only [nf0, nf1, nf2, nf3, nf4]
  refine st_value (v := (.int .i64 1)) (by rfl) (run_sub_in (m := 2) (n := 1) (.tmp 118) (.const (.int .i64 1)) rfl rfl rfl (by omega) w444) ?_
  simp only [nf0, nf1, nf2, nf3, nf4]
  obtain ⟨A452, c453, hv454, h455, h456, h457, R458⟩ := O297.reads
  rw [eInt_all] at R458
  obtain ⟨b459, o460, rfl, _⟩ := R458.at_ (by simp)
  refine st_value (v := (.pointer (some ⟨b459, o460 + 1 * 1, none⟩))) (by rfl) (run_indexAddrN (.tmp 116) (.tmp 119) rfl Tryd.underlying36 slInt.sz (i := 1) (by exact hv454) rfl (by simp) w444) ?_
  simp only [nf0, nf1, nf2, nf3, nf4]
  refine st_value (v := (.int .i64 (n234 : Int))) (by rfl) (run_load1 (.tmp 120) rfl Tryd.underlying3 rfl slInt.sz rfl (Reads.intAt R458 1 (by simp))) ?_
  simp only [nf0, nf1, nf2, nf3, nf4]
  refine st_value (v := (.bool (decide (x ≤ (n234 : Int))))) (by rfl) (run_leq (.tmp 115) (.tmp 121) rfl rfl rfl w444) ?_
  simp only [nf0, nf1, nf2, nf3, nf4]
  refine wpList_nil ?_
  show Code.wp _ _ _ _ _
  cases hg461 : decide (x ≤ (n234 : Int))
  rotate_left
  · have hp514 := of_decide_eq_true hg461
    refine wp_cond_true rfl ?_
    refine wp_skip ?_
    show Code.wp _ _ _ _ _
    refine wp_seq ?_
    refine wp_block ?_
    refine wp_seq ?_
    refine wp_region_lit ?_
    refine st_mv vl ?_
    simp only [nf0, nf1, nf2, nf3, nf4]
    obtain ⟨A515, c516, hv517, h518, h519, h520, R521⟩ := O6.reads
    rw [eInt_all] at R521
    refine st_call1 (v := (.agg (setA (mk xs)))) (by rfl) (run_call_22_1 (.tmp 125) rfl rfl _) (by rw [hv517]; exact make_calls A515 xs c516 w444 R521 (by have := hP.2.2.2.2; have := hP.1; first | omega | (rw [ext_len]; omega))) ?_
    intro w522 hb523
    simp only [nf0, nf1, nf2, nf3, nf4]
    replace B3 := B3.below hb523
    replace O6 := O6.same hb523
    replace O297 := O297.same hb523
    replace bel := bl_step bel hb523
    clear hb523
    refine st_mv (.int .i64 x) ?_
    simp only [nf0, nf1, nf2, nf3, nf4]
    refine st_call1 (v := (.bool (has (mk xs) x))) (by rfl) (run_call_26_2 (.tmp 126) (.tmp 127) rfl rfl rfl _) (refHas_below (mk xs) (mk_sm _) x w522) ?_
    intro w524 hb525
    simp only [nf0, nf1, nf2, nf3, nf4]
    replace B3 := B3.below hb525
    replace O6 := O6.same hb525
    replace O297 := O297.same hb525
    replace bel := bl_step bel hb525
    clear hb525
    refine wpList_nil ?_
    show Code.wp _ _ _ _ _
    cases hg526 : has (mk xs) x
    · have hp527 := trivial
      refine wp_cond_false rfl ?_
      refine wp_skip ?_
      show Code.wp _ _ _ _ _
      refine wp_region_lit ?_
      refine st_mv (.int .i64 x) ?_
      simp only [nf0, nf1, nf2, nf3, nf4]
      refine st_value (v := (.int .i64 (x + 1))) (by rfl) (run_add_in (.tmp 123) (.const (.int .i64 1)) rfl rfl rfl (by omega) w524) ?_
      simp only [nf0, nf1, nf2, nf3, nf4]
      refine st_mv (.int .i64 (x + 1)) ?_
      simp only [nf0, nf1, nf2, nf3, nf4]
      refine wpList_nil ?_
      show ∃ m, m < _ ∧ _
      exact ⟨_, (by omega), (x + 1), rfl, rfl, B3, O6, O297, n441, n442, n443, bel, (by omega), (by omega), (hno_step hno hg526)⟩
    have hp528 := trivial
    refine wp_cond_true rfl ?_
    refine wp_seq ?_
    refine wp_region_lit ?_
    refine st_value (v := (.agg (setA 0))) (by rfl) (run_build_set rfl w524) ?_
    simp only [nf0, nf1, nf2, nf3, nf4]
    refine st_mv (.int .i64 (i : Int)) ?_
    simp only [nf0, nf1, nf2, nf3, nf4]
    refine st_row (by rfl) (run_store_set (.tmp 2) (.tmp 129) rfl rfl (S := 0) rfl B3) B3 ?_
    intro w529 B531 hg530
    simp only [nf0, nf1, nf2, nf3, nf4]
    replace O6 := O6.keptB hg530 n441
    replace O297 := O297.keptB hg530 n442
    clear B3
    replace bel := bl_kept0 bel hg530 lo5
    clear hg530
    refine st_mv (.int .i64 9) ?_
    simp only [nf0, nf1, nf2, nf3, nf4]
    refine st_mv (.int .i64 (i : Int)) ?_
    simp only [nf0, nf1, nf2, nf3, nf4]
    refine wpList_nil ?_
    show Code.wp _ _ _ _ _
    refine wp_ret ?_
    first | show bodyPost _ _ _ _ _ _ | (simp only [Exit.then, Exit.inBlock]; show bodyPost _ _ _ _ _ _)
    have hpr := hP.lap h0 hI hx1 (by omega) (by omega) hg526
    exact bodyPost_ret (results_set2 (p := 2) (u := 3) (v := 4) rfl _ _ _ 0 rfl B531) rfl ⟨fin_ret (E := 9) (A := (i : Int)) hpr (by rfl) (by omega), bel⟩
  have hp462 := of_decide_eq_false hg461
  refine wp_cond_false rfl ?_
  refine wp_exit ?_
  show Code.wp _ _ _ _ _
  refine wp_seq ?_
  refine wp_seq ?_
  obtain rfl : x = ((n234 : Int) + 1) := by omega
  refine wp_region_lit ?_
  refine st_mv v295 ?_
  simp only [nf0, nf1, nf2, nf3, nf4]
  obtain ⟨A463, c464, hv465, h466, h467, h468, R469⟩ := O297.reads
  rw [eInt_all] at R469
  obtain ⟨b470, o471, rfl, _⟩ := R469.at_ (by simp)
  refine st_value (v := (.pointer (some ⟨b470, o471 + 0 * 1, none⟩))) (by rfl) (run_indexAddrN (.tmp 131) (.const (.int .i64 0)) rfl Tryd.underlying36 slInt.sz (i := 0) (by exact hv465) rfl (by simp) w444) ?_
  simp only [nf0, nf1, nf2, nf3, nf4]
  refine st_value (v := (.int .i64 (n55 : Int))) (by rfl) (run_load1 (.tmp 132) rfl Tryd.underlying3 rfl slInt.sz rfl (Reads.intAt R469 0 (by simp))) ?_
  simp only [nf0, nf1, nf2, nf3, nf4]
  refine st_mv (.int .i64 (n55 : Int)) ?_
  simp only [nf0, nf1, nf2, nf3, nf4]
  refine wpList_nil ?_
  show Code.wp _ _ _ _ _
  refine wp_block ?_
  refine wp_loop_left (fun n_ a_ wr_ => (fun J472 => ∃ (y : Int) (vy : Value), n_ = ((n234 : Int) + 1 - y).toNat ∧ a_ = ⟨#[.string (str l), J472 1, .pointer (some ⟨g1, 0, none⟩), J440 3, J440 4, vy, .int .i64 ((((i : Int) + (d56 : Int)) + 1) + (d235 : Int)), .int .i64 (i : Int), v295, .int .i64 (n234 : Int), .int .i64 (d235 : Int), .int .i64 ((n234 : Int) + 1), .int .i64 y, J472 13, J472 14, J472 15, J472 16, J472 17, J472 18, J472 19, J472 20, J472 21, J472 22, J472 23, J472 24, J472 25, J472 26, J472 27, J472 28, J472 29, J472 30, J472 31, J472 32, J472 33, J472 34, J472 35, J472 36, J472 37, J472 38, J472 39, J472 40, J472 41, J472 42, J472 43, J472 44, J472 45, J472 46, J472 47, J472 48, J472 49, J472 50, J472 51, J472 52, J472 53, J472 54, J472 55, J472 56, J472 57, J472 58, J472 59, J472 60, J472 61, J472 62, J472 63, J472 64, J472 65, J472 66, J472 67, J472 68, J472 69, J472 70, J472 71, J472 72, J472 73, J472 74, J472 75, J472 76, J472 77, J472 78, J472 79, J472 80, J472 81, J472 82, J472 83, J472 84, J472 85, J472 86, J472 87, J472 88, J472 89, J472 90, J472 91, J472 92, J472 93, J472 94, J472 95, J472 96, J472 97, J472 98, J472 99, J472 100, J472 101, J472 102, J472 103, J472 104, J472 105, J472 106, J472 107, J472 108, J472 109, J472 110, J472 111, J472 112, J472 113, J472 114, J472 115, J472 116, J472 117, J472 118, J472 119, J472 120, J472 121, J472 122, J472 123, J472 124, J472 125, J472 126, J472 127, J472 128, J472 129, J472 130, J472 131, J472 132, J472 133, J472 134, J472 135, J472 136, J472 137, J472 138, J472 139, J472 140, J472 141, J472 142, J472 143, J472 144, J472 145, J472 146, J472 147, J472 148, J472 149, J472 150, J472 151, J472 152, J472 153, J472 154, J472 155], []⟩ ∧ Blk wr_ g1 (setA 0) 24 ∧ OwnR wr_ w.heap.size 3 (eInt .i64) vy (ext xs (n55 : Int) y) ∧ OwnR wr_ w.heap.size 3 (eInt .i64) v295 (([(n55 : Int)] : List Int) ++ ([(n234 : Int)] : List Int)) ∧ Off vy g1 ∧ Off v295 g1 ∧ Off2 vy v295 ∧ Below w.heap.size w wr_ ∧ (n55 : Int) ≤ y ∧ y ≤ (n234 : Int) + 1) (jk a_)) (((n234 : Int) + 1 - (n55 : Int)).toNat) ⟨(n55 : Int), vl, rfl, rfl, B3, (by rw [ext_same]; exact O6), O297, n441, n442, n443, bel, (by omega), (by omega)⟩ ?_
  clear B3
  clear O6
  clear O297
  clear n441 n442 n443
  clear bel
  intro n_ a_ w476 h_
  revert h_
  generalize jk a_ = J472
  rintro ⟨y, vy, hn, rfl, B3, O6, O297, n473, n474, n475, bel, hy1, hy2⟩
  refine wp_seq ?_
  refine wp_seq ?_
  refine wp_region_lit ?_
  refine st_mv (.int .i64 y) ?_
  simp only [nf0, nf1, nf2, nf3, nf4]
  refine st_mv v295 ?_
  simp only [nf0, nf1, nf2, nf3, nf4]
  refine st_mv v295 ?_
  simp only [nf0, nf1, nf2, nf3, nf4]
  obtain ⟨A477, c478, hv479, h480, h481, h482, R483⟩ := O297.reads
  rw [eInt_all] at R483
  refine st_value (v := (.int .i64 2)) (by rfl) (run_len (.tmp 136) rfl ⟨_, Tryd.underlying36⟩ (by exact hv479) w476) ?_
  simp only [nf0, nf1, nf2, nf3, nf4]
  refine st_value (v := (.int .i64 1)) (by rfl) (run_sub_in (m := 2) (n := 1) (.tmp 137) (.const (.int .i64 1)) rfl rfl rfl (by omega) w476) ?_
  simp only [nf0, nf1, nf2, nf3, nf4]
  obtain ⟨A484, c485, hv486, h487, h488, h489, R490⟩ := O297.reads
  rw [eInt_all] at R490
  obtain ⟨b491, o492, rfl, _⟩ := R490.at_ (by simp)
  refine st_value (v := (.pointer (some ⟨b491, o492 + 1 * 1, none⟩))) (by rfl) (run_indexAddrN (.tmp 135) (.tmp 138) rfl Tryd.underlying36 slInt.sz (i := 1) (by exact hv486) rfl (by simp) w476) ?_
  simp only [nf0, nf1, nf2, nf3, nf4]
  refine st_value (v := (.int .i64 (n234 : Int))) (by rfl) (run_load1 (.tmp 139) rfl Tryd.underlying3 rfl slInt.sz rfl (Reads.intAt R490 1 (by simp))) ?_
  simp only [nf0, nf1, nf2, nf3, nf4]
  refine st_value (v := (.bool (decide (y ≤ (n234 : Int))))) (by rfl) (run_leq (.tmp 134) (.tmp 140) rfl rfl rfl w476) ?_
  simp only [nf0, nf1, nf2, nf3, nf4]
  refine wpList_nil ?_
  show Code.wp _ _ _ _ _
  cases hg493 : decide (y ≤ (n234 : Int))
  · have hp494 := of_decide_eq_false hg493
    refine wp_cond_false rfl ?_
    refine wp_exit ?_
    show Code.wp _ _ _ _ _
    refine wp_seq ?_
    refine wp_seq ?_
    obtain rfl : y = ((n234 : Int) + 1) := by omega
    refine wp_region_lit ?_
    refine st_mv (.int .i64 ((((i : Int) + (d56 : Int)) + 1) + (d235 : Int))) ?_
    simp only [nf0, nf1, nf2, nf3, nf4]
    refine st_mv (.string (str l)) ?_
    simp only [nf0, nf1, nf2, nf3, nf4]
    refine st_value (v := (.int .i64 (l.length : Int))) (by rfl) (run_len_text (.tmp 149) rfl Tryd.underlying9 (l := l) rfl w476) ?_
    simp only [nf0, nf1, nf2, nf3, nf4]
    refine st_value (v := (.bool (decide (((((i : Int) + (d56 : Int)) + 1) + (d235 : Int)) = (l.length : Int))))) (by rfl) (run_eql_int (.tmp 148) (.tmp 150) rfl rfl rfl w476) ?_
    simp only [nf0, nf1, nf2, nf3, nf4]
    refine wpList_nil ?_
    show Code.wp _ _ _ _ _
    cases hg495 : decide (((((i : Int) + (d56 : Int)) + 1) + (d235 : Int)) = (l.length : Int))
    rotate_left
    · have hp497 := of_decide_eq_true hg495
      exfalso
      omega
    have hp496 := of_decide_eq_false hg495
    refine wp_cond_false rfl ?_
    refine wp_skip ?_
    show Code.wp _ _ _ _ _
    refine wp_region_lit ?_
    refine st_mv (.int .i64 ((((i : Int) + (d56 : Int)) + 1) + (d235 : Int))) ?_
    simp only [nf0, nf1, nf2, nf3, nf4]
    refine st_value (v := (.int .i64 (((((i : Int) + (d56 : Int)) + 1) + (d235 : Int)) + 1))) (by rfl) (run_add_in (.tmp 152) (.const (.int .i64 1)) rfl rfl rfl (by omega) w476) ?_
    simp only [nf0, nf1, nf2, nf3, nf4]
    refine st_mv (.int .i64 (((((i : Int) + (d56 : Int)) + 1) + (d235 : Int)) + 1)) ?_
    simp only [nf0, nf1, nf2, nf3, nf4]
    refine wpList_nil ?_
    show ∃ m, m < _ ∧ _
    exact ⟨_, (by omega), ((((i + d56) + 1) + d235) + 1), (f - 1), (ext xs (n55 : Int) ((n234 : Int) + 1)), vy, rfl, (by rw [show ((((((i + d56) + 1) + d235) + 1) : Nat) : Int) = (((((i : Int) + (d56 : Int)) + 1) + (d235 : Int)) + 1) from by omega]; rfl), B3, O6, n473, bel, (hP.more h0 hI (by omega) hno (by omega) (by omega))⟩
  have hp498 := of_decide_eq_true hg493
  refine wp_cond_true rfl ?_
  refine wp_skip ?_
  show Code.wp _ _ _ _ _
  refine wp_seq ?_
  refine wp_block ?_
  refine wp_region_lit ?_
  refine st_mv vy ?_
  simp only [nf0, nf1, nf2, nf3, nf4]
  refine st_mv (.int .i64 y) ?_
  simp only [nf0, nf1, nf2, nf3, nf4]
  refine st_lit (by rfl) (run_lit_36_1 (.tmp 145) rfl rfl _) ?_
  intro g499 w500 B501 hb502 lo503
  simp only [nf0, nf1, nf2, nf3, nf4]
  have n504 := B3.ne lo503
  have n505 := O6.off lo503
  have n506 := O297.off lo503
  replace lo503 := low_le bel lo503
  replace B3 := B3.below hb502
  replace O6 := O6.same hb502
  replace O297 := O297.same hb502
  replace bel := bl_step bel hb502
  clear hb502
  refine st_append slInt rfl (.tmp 144) (.tmp 146) rfl rfl O6 ([y] : List Int) rfl rfl B501 (by simp [Enc.all, eInt]) (by have := hP.2.2.2.2; have := hP.1; simp only [ext_len, List.length_cons, List.length_nil]; omega) bel.size ?_
  intro v507 w508 O509 hg510 hat511
  simp only [nf0, nf1, nf2, nf3, nf4]
  have n512 := (n473 : Off _ _).app B3 hat511
  replace B3 := B3.keptR hg510 n473
  have n513 := Off2.app n475 O297 hat511
  replace O297 := O297.keptR hg510 n475.symm
  replace bel := bl_app bel O6 hg510
  clear O6 hg510 hat511
  refine st_mv v507 ?_
  simp only [nf0, nf1, nf2, nf3, nf4]
  refine wpList_nil ?_
  show Code.wp _ _ _ _ _
  refine wp_region_lit ?_
  refine st_mv (.int .i64 y) ?_
  simp only [nf0, nf1, nf2, nf3, nf4]
  refine st_value (v := (.int .i64 (y + 1))) (by rfl) (run_add_in (.tmp 142) (.const (.int .i64 1)) rfl rfl rfl (by omega) w508) ?_
  simp only [nf0, nf1, nf2, nf3, nf4]
  refine st_mv (.int .i64 (y + 1)) ?_
  simp only [nf0, nf1, nf2, nf3, nf4]
  refine wpList_nil ?_
  show ∃ m, m < _ ∧ _
  exact ⟨_, (by omega), (y + 1), v507, rfl, rfl, B3, (by rw [ext_succ _ hy1]; exact O509), O297, n512, n474, n513, bel, (by omega), (by omega)⟩
end Go.Proofs.YthgamlklpfkkhaaDoor

/- What the law CpusetMakes does. -/
import Derived.Test.YthgamlklpfkkhaaDoorLives
import Derived.Test.YthgamlklpfkkhaaDoorMore
import Derived.Test.YthgamlklpfkkhaaDoorFlt
namespace Go.Proofs.YthgamlklpfkkhaaDoor
open Go.RowKit Go.WideShapes Go.ChangeShapes

theorem run_call_12_0 {o : Oper} {a : Act}  {ts : Array TypeId} (ho : o.op = .call { callee := .value (.func 12), args := #[], argTypes := ts })  (W : World) : (execOp a.eval o).run Tryd.prog W = .ok (.enter 12 #[]) W := by
  unfold execOp
  simp only [ho]
  go_simp
theorem run_call_21_1 {o : Oper} {a : Act} (x0 : Operand) {ts : Array TypeId} (ho : o.op = .call { callee := .value (.func 21), args := #[x0], argTypes := ts }) {v0 : Value} (h0 : a.eval x0 = v0) (W : World) : (execOp a.eval o).run Tryd.prog W = .ok (.enter 21 #[v0]) W := by
  unfold execOp
  simp only [ho]
  subst h0
  go_simp
theorem run_call_22_1 {o : Oper} {a : Act} (x0 : Operand) {ts : Array TypeId} (ho : o.op = .call { callee := .value (.func 22), args := #[x0], argTypes := ts }) {v0 : Value} (h0 : a.eval x0 = v0) (W : World) : (execOp a.eval o).run Tryd.prog W = .ok (.enter 22 #[v0]) W := by
  unfold execOp
  simp only [ho]
  subst h0
  go_simp
theorem run_call_23_2 {o : Oper} {a : Act} (x0 : Operand) (x1 : Operand) {ts : Array TypeId} (ho : o.op = .call { callee := .value (.func 23), args := #[x0, x1], argTypes := ts }) {v0 : Value} (h0 : a.eval x0 = v0) {v1 : Value} (h1 : a.eval x1 = v1) (W : World) : (execOp a.eval o).run Tryd.prog W = .ok (.enter 23 #[v0, v1]) W := by
  unfold execOp
  simp only [ho]
  subst h0 h1
  go_simp
theorem run_call_24_2 {o : Oper} {a : Act} (x0 : Operand) (x1 : Operand) {ts : Array TypeId} (ho : o.op = .call { callee := .value (.func 24), args := #[x0, x1], argTypes := ts }) {v0 : Value} (h0 : a.eval x0 = v0) {v1 : Value} (h1 : a.eval x1 = v1) (W : World) : (execOp a.eval o).run Tryd.prog W = .ok (.enter 24 #[v0, v1]) W := by
  unfold execOp
  simp only [ho]
  subst h0 h1
  go_simp
theorem run_call_25_2 {o : Oper} {a : Act} (x0 : Operand) (x1 : Operand) {ts : Array TypeId} (ho : o.op = .call { callee := .value (.func 25), args := #[x0, x1], argTypes := ts }) {v0 : Value} (h0 : a.eval x0 = v0) {v1 : Value} (h1 : a.eval x1 = v1) (W : World) : (execOp a.eval o).run Tryd.prog W = .ok (.enter 25 #[v0, v1]) W := by
  unfold execOp
  simp only [ho]
  subst h0 h1
  go_simp
theorem run_call_26_2 {o : Oper} {a : Act} (x0 : Operand) (x1 : Operand) {ts : Array TypeId} (ho : o.op = .call { callee := .value (.func 26), args := #[x0, x1], argTypes := ts }) {v0 : Value} (h0 : a.eval x0 = v0) {v1 : Value} (h1 : a.eval x1 = v1) (W : World) : (execOp a.eval o).run Tryd.prog W = .ok (.enter 26 #[v0, v1]) W := by
  unfold execOp
  simp only [ho]
  subst h0 h1
  go_simp
theorem run_lit_36_0 {o : Oper} {a : Act}  (ho : o.op = .buildSlice 36 0 #[])  (W : World) : (execOp a.eval o).run Tryd.prog W = .ok (.value (.slice (some ⟨W.heap.size, 0, none⟩) 0 0)) (W.alloc (.cells #[] 3)) := by
  unfold execOp
  simp only [ho, List.map_toArray, List.map_cons, List.map_nil]
  go_simp
theorem run_lit_36_1 {o : Oper} {a : Act} (x0 : Operand) (ho : o.op = .buildSlice 36 1 #[(0, x0)]) {m0 : Int} (h0 : a.eval x0 = (.int .i64 m0)) (W : World) : (execOp a.eval o).run Tryd.prog W = .ok (.value (.slice (some ⟨W.heap.size, 0, none⟩) 1 1)) (W.alloc (.cells #[(.int .i64 m0)] 3)) := by
  unfold execOp
  simp only [ho, List.map_toArray, List.map_cons, List.map_nil, h0]
  go_simp
set_option linter.unusedSimpArgs false in
set_option linter.unusedVariables false in
set_option maxRecDepth 100000 in
set_option maxHeartbeats 4000000 in
theorem makes_calls (A : Option Addr) (xs : List Int) (cap : Nat) (n : Int) (w : World) (hr : Reads w A (xs.map (Value.int .i64))) (hcap : xs.length ≤ cap) (hB : Tab w) :
    Calls Tryd.prog 6 #[.slice A xs.length cap, .int .i64 n] w fun e w' => e = .returned (.bool true) ∧ Below w.heap.size w w' := by
  have bel : Below w.heap.size w w := Below.refl _ _
  have hl60 : (xs.take 60).length ≤ 9223372036854775807 := by rw [List.length_take]; omega
  have hl61 : (xs.take 60).length ≤ 60 := by rw [List.length_take]; omega
  go_enter Tryd.func6, Tryd.ntmps6
  refine wp_seq ?_
  refine wp_region_lit ?_
  refine st_value (v := (.bool false)) (by rfl) (by rfl) ?_
  simp only [Act.put, List.setIfInBounds_toArray, List.set_cons_zero, List.set_cons_succ]
  refine wpList_nil ?_
  show Code.wp _ _ _ _ _
  refine wp_seq ?_
  refine wp_region_lit ?_
  refine st_value (v := (.slice A xs.length cap)) (by rfl) (by rfl) ?_
  simp only [Act.put, List.setIfInBounds_toArray, List.set_cons_zero, List.set_cons_succ]
  refine st_value (v := (.slice A xs.length cap)) (by rfl) (by rfl) ?_
  simp only [Act.put, List.setIfInBounds_toArray, List.set_cons_zero, List.set_cons_succ]
  refine st_value (v := (.int .i64 (xs.length : Int))) (by rfl) (run_len (.tmp 11) rfl ⟨_, Tryd.underlying36⟩ rfl w) ?_
  simp only [Act.put, List.setIfInBounds_toArray, List.set_cons_zero, List.set_cons_succ]
  refine st_value (v := (.int .i64 (min (xs.length : Int) 60))) (by rfl) (run_min2 (.tmp 12) (.const (.int .i64 60)) rfl rfl rfl w) ?_
  simp only [Act.put, List.setIfInBounds_toArray, List.set_cons_zero, List.set_cons_succ]
  have R1 := hr.takeI 60
  refine st_value (v := (.slice A (xs.take 60).length cap)) (by rfl) (run_cut_take (.tmp 10) (.tmp 13) rfl Tryd.underlying36 slInt.sz rfl 60 rfl rfl hcap w) ?_
  simp only [Act.put, List.setIfInBounds_toArray, List.set_cons_zero, List.set_cons_succ]
  refine st_value (v := (.slice A (xs.take 60).length cap)) (by rfl) (by rfl) ?_
  simp only [Act.put, List.setIfInBounds_toArray, List.set_cons_zero, List.set_cons_succ]
  refine wpList_nil ?_
  show Code.wp _ _ _ _ _
  refine wp_seq ?_
  refine wp_region_lit ?_
  refine st_value (v := (.slice A (xs.take 60).length cap)) (by rfl) (by rfl) ?_
  simp only [Act.put, List.setIfInBounds_toArray, List.set_cons_zero, List.set_cons_succ]
  refine st_call1 (v := (.agg (setA (mk (xs.take 60))))) (by rfl) (run_call_21_1 (.tmp 15) rfl rfl _) (of_calls A (xs.take 60) cap w (R1.same bel) hl60) ?_
  intro w2 hb3
  simp only [Act.put, List.setIfInBounds_toArray, List.set_cons_zero, List.set_cons_succ]
  replace bel := bl_step bel hb3
  clear hb3
  refine st_new (by rfl) (run_alloc_set rfl _) ?_
  intro g4 w5 B6 hb7 lo8
  simp only [Act.put, List.setIfInBounds_toArray, List.set_cons_zero, List.set_cons_succ]
  replace lo8 := low_le bel lo8
  replace bel := bl_step bel hb7
  clear hb7
  refine st_row (by rfl) (run_store_set (.tmp 5) (.tmp 16) rfl rfl (S := (mk (xs.take 60))) rfl B6) B6 ?_
  intro w9 B11 hg10
  simp only [Act.put, List.setIfInBounds_toArray, List.set_cons_zero, List.set_cons_succ]
  clear B6
  replace bel := bl_kept0 bel hg10 lo8
  clear hg10
  refine wpList_nil ?_
  show Code.wp _ _ _ _ _
  refine wp_seq ?_
  refine wp_region_lit ?_
  refine st_lit (by rfl) (run_lit_36_0  rfl  _) ?_
  intro g12 w13 B14 hb15 lo16
  simp only [Act.put, List.setIfInBounds_toArray, List.set_cons_zero, List.set_cons_succ]
  have n18 : Off (.slice (some ⟨g12, 0, none⟩) 0 0) g4 := fun e => B11.ne lo16 (Option.some.inj e).symm
  replace lo16 := low_le bel lo16
  replace B11 := B11.below hb15
  replace bel := bl_step bel hb15
  clear hb15
  have O17 : OwnR w13 w.heap.size 3 (eInt .i64) (.slice (some ⟨g12, 0, none⟩) 0 0) [] := OwnR.built B14 rfl lo16 (by simp) rfl
  refine st_value (v := (.slice A (xs.take 60).length cap)) (by rfl) (by rfl) ?_
  simp only [Act.put, List.setIfInBounds_toArray, List.set_cons_zero, List.set_cons_succ]
  refine st_appends slInt rfl (.tmp 17) (.tmp 18) rfl rfl O17 (xs.take 60) rfl rfl (by rw [eInt_all]; exact (R1.same bel)) (by simp only [List.length_nil]; omega) bel.size ?_
  intro v19 w20 O21 hg22 hat23
  simp only [Act.put, List.setIfInBounds_toArray, List.set_cons_zero, List.set_cons_succ]
  have n24 := (n18 : Off _ _).app B11 hat23
  replace B11 := B11.keptR hg22 n18
  replace bel := bl_app bel O17 hg22
  clear O17 hg22 hat23
  replace O21 : OwnR w20 w.heap.size 3 (eInt .i64) v19 (xs.take 60) := by rw [List.nil_append] at O21; exact O21
  refine st_value (v := (.int .i64 n)) (by rfl) (by rfl) ?_
  simp only [Act.put, List.setIfInBounds_toArray, List.set_cons_zero, List.set_cons_succ]
  refine st_lit (by rfl) (run_lit_36_1 (.tmp 20) rfl rfl _) ?_
  intro g25 w26 B27 hb28 lo29
  simp only [Act.put, List.setIfInBounds_toArray, List.set_cons_zero, List.set_cons_succ]
  have n30 := B11.ne lo29
  have n31 := O21.off lo29
  replace lo29 := low_le bel lo29
  replace B11 := B11.below hb28
  replace O21 := O21.same hb28
  replace bel := bl_step bel hb28
  clear hb28
  refine st_append slInt rfl (.tmp 19) (.tmp 21) rfl rfl O21 ([n] : List Int) rfl rfl B27 (by simp [Enc.all, eInt]) (by simp only [List.length_append, List.length_cons, List.length_nil]; omega) bel.size ?_
  intro v32 w33 O34 hg35 hat36
  simp only [Act.put, List.setIfInBounds_toArray, List.set_cons_zero, List.set_cons_succ]
  have n37 := (n24 : Off _ _).app B11 hat36
  replace B11 := B11.keptR hg35 n24
  replace bel := bl_app bel O21 hg35
  clear O21 hg35 hat36
  obtain ⟨A38, c39, hv40, h41, h42, h43, R44⟩ := O34.reads
  subst hv40
  rw [eInt_all] at R44
  clear O34
  refine st_call1 (v := (.agg (setA (mk ((xs.take 60) ++ ([n] : List Int)))))) (by rfl) (run_call_22_1 (.tmp 22) rfl rfl _) (make_calls A38 ((xs.take 60) ++ ([n] : List Int)) c39 w33 R44 (by simp only [List.length_append, List.length_singleton]; omega)) ?_
  intro w45 hb46
  simp only [Act.put, List.setIfInBounds_toArray, List.set_cons_zero, List.set_cons_succ]
  replace B11 := B11.below hb46
  replace R44 := R44.same hb46
  replace bel := bl_step bel hb46
  clear hb46
  clear R44
  refine st_new (by rfl) (run_alloc_set rfl _) ?_
  intro g47 w48 B49 hb50 lo51
  simp only [Act.put, List.setIfInBounds_toArray, List.set_cons_zero, List.set_cons_succ]
  have n52 := B11.ne lo51
  replace lo51 := low_le bel lo51
  replace B11 := B11.below hb50
  replace bel := bl_step bel hb50
  clear hb50
  refine st_row (by rfl) (run_store_set (.tmp 6) (.tmp 23) rfl rfl (S := (mk ((xs.take 60) ++ ([n] : List Int)))) rfl B49) B49 ?_
  intro w53 B55 hg54
  simp only [Act.put, List.setIfInBounds_toArray, List.set_cons_zero, List.set_cons_succ]
  replace B11 := B11.kept hg54 n52
  clear B49
  replace bel := bl_kept0 bel hg54 lo51
  clear hg54
  refine wpList_nil ?_
  show Code.wp _ _ _ _ _
  refine wp_seq ?_
  refine wp_region_lit ?_
  have O56 : OwnR w53 w.heap.size 3 (eInt .i64) (.slice none 0 0) [] := OwnR.nil _ _ _ _
  have n58 := Off.nil g4
  have n59 := Off.nil g47
  refine st_value (v := .slice none 0 0) (by rfl) (by rfl) ?_
  simp only [Act.put, List.setIfInBounds_toArray, List.set_cons_zero, List.set_cons_succ]
  refine wpList_nil ?_
  show Code.wp _ _ _ _ _
  refine wp_seq ?_
  refine wp_seq ?_
  refine wp_region_lit ?_
  refine st_value (v := (.slice A (xs.take 60).length cap)) (by rfl) (by rfl) ?_
  simp only [Act.put, List.setIfInBounds_toArray, List.set_cons_zero, List.set_cons_succ]
  refine st_value (v := (.int .i64 ((xs.take 60).length : Int))) (by rfl) (run_len (.tmp 24) rfl ⟨_, Tryd.underlying36⟩ rfl w53) ?_
  simp only [Act.put, List.setIfInBounds_toArray, List.set_cons_zero, List.set_cons_succ]
  refine st_value (v := (.int .i64 0)) (by rfl) (by rfl) ?_
  simp only [Act.put, List.setIfInBounds_toArray, List.set_cons_zero, List.set_cons_succ]
  refine wpList_nil ?_
  show Code.wp _ _ _ _ _
  refine wp_block ?_
  refine wp_loop_left (fun n_ a_ wr_ => ∃ (k : Nat) (vl : Value) (j7 : Value) (j9 : Value) (j27 : Value) (j28 : Value) (j29 : Value) (j30 : Value) (j31 : Value) (j32 : Value) (j33 : Value) (j34 : Value) (j35 : Value) (j36 : Value) (j37 : Value), n_ = (xs.take 60).length - k ∧ a_ = ⟨#[.slice A (xs.take 60).length cap, .int .i64 n, undef, undef, .bool false, .pointer (some ⟨g4, 0, none⟩), .pointer (some ⟨g47, 0, none⟩), vl, undef, j9, .slice A xs.length cap, .slice A xs.length cap, .int .i64 (xs.length : Int), .int .i64 (min (xs.length : Int) 60), .slice A (xs.take 60).length cap, .slice A (xs.take 60).length cap, .agg (setA (mk (xs.take 60))), .slice (some ⟨g12, 0, none⟩) 0 0, .slice A (xs.take 60).length cap, v19, .int .i64 n, .slice (some ⟨g25, 0, none⟩) 1 1, .slice A38 ((xs.take 60) ++ ([n] : List Int)).length c39, .agg (setA (mk ((xs.take 60) ++ ([n] : List Int)))), .slice A (xs.take 60).length cap, .int .i64 ((xs.take 60).length : Int), .int .i64 (k : Int), j27, j28, j29, j30, j31, j32, j33, j34, j35, j36, j37, undef, undef, undef, undef, undef, undef, undef, undef, undef, undef, undef, undef, undef, undef, undef, undef, undef, undef, undef, undef, undef, undef, undef, undef, undef, undef, undef, undef, undef, undef, undef], []⟩ ∧ Blk wr_ g4 (setA (mk (xs.take 60))) 24 ∧ Blk wr_ g47 (setA (mk ((xs.take 60) ++ ([n] : List Int)))) 24 ∧ OwnR wr_ w.heap.size 3 (eInt .i64) vl (flt n ((xs.take 60).take k)) ∧ Off vl g4 ∧ Off vl g47 ∧ Below w.heap.size w wr_ ∧ k ≤ (xs.take 60).length) ((xs.take 60).length - 0) ⟨0, (.slice none 0 0), (.slice none 0 0), undef, undef, undef, undef, undef, undef, undef, undef, undef, undef, undef, undef, rfl, rfl, B11, B55, O56, n58, n59, bel, Nat.zero_le _⟩ ?_
  clear B11
  clear B55
  clear O56
  clear n58 n59
  clear bel
  rintro n_ a_ w62 ⟨k, vl, j7, j9, j27, j28, j29, j30, j31, j32, j33, j34, j35, j36, j37, hn, rfl, B11, B55, O56, n60, n61, bel, hk⟩
  refine wp_seq ?_
  refine wp_region_lit ?_
  refine st_value (v := (.bool (decide ((k : Int) < ((xs.take 60).length : Int))))) (by rfl) (run_lss (.tmp 26) (.tmp 25) rfl rfl rfl w62) ?_
  simp only [Act.put, List.setIfInBounds_toArray, List.set_cons_zero, List.set_cons_succ]
  refine wpList_nil ?_
  show Code.wp _ _ _ _ _
  refine wp_seq ?_
  refine wp_cond_split (t := decide ((k : Int) < ((xs.take 60).length : Int))) rfl (fun hc63 => ?_) (fun hc63 => ?_)
  · replace hc63 := of_decide_eq_true hc63
    obtain ⟨b64, o65, rfl, hr66⟩ := (R1.same bel).at_ (by simp only [List.length_map]; omega)
    refine wp_skip ?_
    show Code.wp _ _ _ _ _
    refine wp_seq ?_
    refine wp_block ?_
    refine wp_seq ?_
    refine wp_region_lit ?_
    refine st_value (v := (.pointer (some ⟨b64, o65 + k * 1, none⟩))) (by rfl) (run_indexAddrN (.tmp 24) (.tmp 26) rfl Tryd.underlying36 slInt.sz rfl rfl (by omega) w62) ?_
    simp only [Act.put, List.setIfInBounds_toArray, List.set_cons_zero, List.set_cons_succ]
    refine st_value (v := (.int .i64 (nth (xs.take 60) k))) (by rfl) (run_load1 (.tmp 28) rfl Tryd.underlying3 rfl slInt.sz rfl (Reads.int_elem hr66 k (by omega))) ?_
    simp only [Act.put, List.setIfInBounds_toArray, List.set_cons_zero, List.set_cons_succ]
    refine st_value (v := (.int .i64 (nth (xs.take 60) k))) (by rfl) (by rfl) ?_
    simp only [Act.put, List.setIfInBounds_toArray, List.set_cons_zero, List.set_cons_succ]
    refine wpList_nil ?_
    show Code.wp _ _ _ _ _
    refine wp_seq ?_
    refine wp_region_lit ?_
    refine st_value (v := (.int .i64 (nth (xs.take 60) k))) (by rfl) (by rfl) ?_
    simp only [Act.put, List.setIfInBounds_toArray, List.set_cons_zero, List.set_cons_succ]
    refine st_value (v := (.int .i64 n)) (by rfl) (by rfl) ?_
    simp only [Act.put, List.setIfInBounds_toArray, List.set_cons_zero, List.set_cons_succ]
    refine st_value (v := (.bool (!decide ((nth (xs.take 60) k) = n)))) (by rfl) (run_neq_int (.tmp 30) (.tmp 31) rfl rfl rfl w62) ?_
    simp only [Act.put, List.setIfInBounds_toArray, List.set_cons_zero, List.set_cons_succ]
    refine wpList_nil ?_
    show Code.wp _ _ _ _ _
    refine wp_cond_split (t := !decide ((nth (xs.take 60) k) = n)) rfl (fun hc67 => ?_) (fun hc67 => ?_)
    · try simp at hc67
      refine wp_region_lit ?_
      refine st_value (v := vl) (by rfl) (by rfl) ?_
      simp only [Act.put, List.setIfInBounds_toArray, List.set_cons_zero, List.set_cons_succ]
      refine st_value (v := (.int .i64 (nth (xs.take 60) k))) (by rfl) (by rfl) ?_
      simp only [Act.put, List.setIfInBounds_toArray, List.set_cons_zero, List.set_cons_succ]
      refine st_lit (by rfl) (run_lit_36_1 (.tmp 34) rfl rfl _) ?_
      intro g68 w69 B70 hb71 lo72
      simp only [Act.put, List.setIfInBounds_toArray, List.set_cons_zero, List.set_cons_succ]
      have n73 := B11.ne lo72
      have n74 := B55.ne lo72
      have n75 := O56.off lo72
      replace lo72 := low_le bel lo72
      replace B11 := B11.below hb71
      replace B55 := B55.below hb71
      replace O56 := O56.same hb71
      replace bel := bl_step bel hb71
      clear hb71
      refine st_append slInt rfl (.tmp 33) (.tmp 35) rfl rfl O56 ([(nth (xs.take 60) k)] : List Int) rfl rfl B70 (by simp [Enc.all, eInt]) (by have := flt_len n ((xs.take 60).take k); have := List.length_take_le k (xs.take 60); simp only [List.length_cons, List.length_nil]; omega) bel.size ?_
      intro v76 w77 O78 hg79 hat80
      simp only [Act.put, List.setIfInBounds_toArray, List.set_cons_zero, List.set_cons_succ]
      have n81 := (n60 : Off _ _).app B11 hat80
      replace B11 := B11.keptR hg79 n60
      have n82 := (n61 : Off _ _).app B55 hat80
      replace B55 := B55.keptR hg79 n61
      replace bel := bl_app bel O56 hg79
      clear O56 hg79 hat80
      refine st_value (v := v76) (by rfl) (by rfl) ?_
      simp only [Act.put, List.setIfInBounds_toArray, List.set_cons_zero, List.set_cons_succ]
      refine wpList_nil ?_
      show Code.wp _ _ _ _ _
      refine wp_region_lit ?_
      refine st_value (v := (.int .i64 ((k : Int) + 1))) (by rfl) (run_add_in (.tmp 26) (.const (.int .i64 1)) rfl rfl rfl (by omega) w77) ?_
      simp only [Act.put, List.setIfInBounds_toArray, List.set_cons_zero, List.set_cons_succ]
      refine st_value (v := (.int .i64 ((k : Int) + 1))) (by rfl) (by rfl) ?_
      simp only [Act.put, List.setIfInBounds_toArray, List.set_cons_zero, List.set_cons_succ]
      refine wpList_nil ?_
      show ∃ m, m < _ ∧ _
      exact ⟨_, (by omega), (k + 1), v76, v76, (.int .i64 (nth (xs.take 60) k)), (.bool (decide ((k : Int) < ((xs.take 60).length : Int)))), (.pointer (some ⟨b64, o65 + k * 1, none⟩)), (.int .i64 (nth (xs.take 60) k)), (.int .i64 (nth (xs.take 60) k)), (.int .i64 n), (.bool (!decide ((nth (xs.take 60) k) = n))), vl, (.int .i64 (nth (xs.take 60) k)), (.slice (some ⟨g68, 0, none⟩) 1 1), v76, (.int .i64 ((k : Int) + 1)), rfl, rfl, B11, B55, (by rw [flt_ne (by omega) hc67]; exact O78), n81, n82, bel, (by omega)⟩
    · try simp at hc67
      refine wp_skip ?_
      show Code.wp _ _ _ _ _
      refine wp_region_lit ?_
      refine st_value (v := (.int .i64 ((k : Int) + 1))) (by rfl) (run_add_in (.tmp 26) (.const (.int .i64 1)) rfl rfl rfl (by omega) w62) ?_
      simp only [Act.put, List.setIfInBounds_toArray, List.set_cons_zero, List.set_cons_succ]
      refine st_value (v := (.int .i64 ((k : Int) + 1))) (by rfl) (by rfl) ?_
      simp only [Act.put, List.setIfInBounds_toArray, List.set_cons_zero, List.set_cons_succ]
      refine wpList_nil ?_
      show ∃ m, m < _ ∧ _
      exact ⟨_, (by omega), (k + 1), vl, vl, (.int .i64 (nth (xs.take 60) k)), (.bool (decide ((k : Int) < ((xs.take 60).length : Int)))), (.pointer (some ⟨b64, o65 + k * 1, none⟩)), (.int .i64 (nth (xs.take 60) k)), (.int .i64 (nth (xs.take 60) k)), (.int .i64 n), (.bool (!decide ((nth (xs.take 60) k) = n))), j33, j34, j35, j36, (.int .i64 ((k : Int) + 1)), rfl, rfl, B11, B55, (by rw [flt_eq (by omega) hc67]; exact O56), n60, n61, bel, (by omega)⟩
  · replace hc63 := of_decide_eq_false hc63
    refine wp_exit ?_
    show Code.wp _ _ _ _ _
    refine wp_seq ?_
    obtain ⟨A83, c84, hv85, h86, h87, h88, R89⟩ := O56.reads
    subst hv85
    rw [eInt_all] at R89
    clear O56
    refine wp_region_facts_lit (C := Abv w62) (G := G0) [.val (.agg (setA (mk (xs.take 60)))), .val (.slice A (xs.take 60).length cap), .val (.agg (setA (mk (xs.take 60)))), .val (.bool true), .val (.bool true), .val (.agg (setA (mk (xs.take 60)))), .val (.int .i64 n), .val (.agg (setA (put (mk (xs.take 60)) n))), .val (.agg (setA (mk ((xs.take 60) ++ ([n] : List Int))))), .val (.bool true), .val (.bool true), .val (.bool true), .val (.agg (setA (mk (xs.take 60)))), .val (.int .i64 n), .val (.agg (setA (drop (mk (xs.take 60)) n))), .val (.slice A83 (flt n ((xs.take 60).take k)).length c84), .val (.agg (setA (mk (flt n ((xs.take 60).take k))))), .val (.bool true), .val (.bool true), .val (.bool true), .val (.agg (setA (mk (xs.take 60)))), .val (.int .i64 n), .val (.bool (has (mk (xs.take 60)) n)), .val (.agg (setA (mk (xs.take 60)))), .val (.int .i64 n), .val (.bool (has (mk (xs.take 60)) n)), .val (.bool true), .val (.bool true), .val (.bool true), .val (.bool true), .val (.bool true), .val (.bool true)] (by kernel_rfl) (by kernel_rfl) (Abv.start _) ?_
    refine fsteps_val (fun W hC _ => opok_value (v := (.agg (setA (mk (xs.take 60))))) (by rfl) (run_load_set (.tmp 5) rfl _ rfl (mk (xs.take 60)) (B11.below hC)) rfl hC (G0.refl _)) ?_
    simp only [Act.put, List.setIfInBounds_toArray, List.set_cons_zero, List.set_cons_succ]
    refine fsteps_val (fun W hC _ => opok_value (v := (.slice A (xs.take 60).length cap)) (by rfl) (by rfl) rfl hC (G0.refl _)) ?_
    simp only [Act.put, List.setIfInBounds_toArray, List.set_cons_zero, List.set_cons_succ]
    refine fsteps_val (fun W hC _ => opok_call (by rfl) (run_call_22_1 (.tmp 39) rfl rfl W) ((make_calls A (xs.take 60) cap W (R1.same (bl_step bel hC)) hl60).mono fun e W' ⟨h1, h2⟩ => ⟨_, h1, rfl, hC.step h2, h2⟩)) ?_
    simp only [Act.put, List.setIfInBounds_toArray, List.set_cons_zero, List.set_cons_succ]
    refine fsteps_val (fun W hC _ => opok_value (v := (.bool true)) (by rfl) (run_eql_set_t (.tmp 38) (.tmp 40) rfl rfl rfl (mk_sm _) (mk_sm _) rfl W) rfl hC (G0.refl _)) ?_
    simp only [Act.put, List.setIfInBounds_toArray, List.set_cons_zero, List.set_cons_succ]
    refine fsteps_val (fun W hC _ => opok_value (v := (.bool true)) (by rfl) (by rfl) rfl hC (G0.refl _)) ?_
    simp only [Act.put, List.setIfInBounds_toArray, List.set_cons_zero, List.set_cons_succ]
    refine fsteps_val (fun W hC _ => opok_value (v := (.agg (setA (mk (xs.take 60))))) (by rfl) (run_load_set (.tmp 5) rfl _ rfl (mk (xs.take 60)) (B11.below hC)) rfl hC (G0.refl _)) ?_
    simp only [Act.put, List.setIfInBounds_toArray, List.set_cons_zero, List.set_cons_succ]
    refine fsteps_val (fun W hC _ => opok_value (v := (.int .i64 n)) (by rfl) (by rfl) rfl hC (G0.refl _)) ?_
    simp only [Act.put, List.setIfInBounds_toArray, List.set_cons_zero, List.set_cons_succ]
    refine fsteps_val (fun W hC _ => opok_call (by rfl) (run_call_23_2 (.tmp 43) (.tmp 44) rfl rfl rfl W) ((put_calls (mk (xs.take 60)) n W).mono fun e W' ⟨h1, h2⟩ => ⟨_, h1, rfl, hC.step h2, h2⟩)) ?_
    simp only [Act.put, List.setIfInBounds_toArray, List.set_cons_zero, List.set_cons_succ]
    refine fsteps_val (fun W hC _ => opok_value (v := (.agg (setA (mk ((xs.take 60) ++ ([n] : List Int)))))) (by rfl) (run_load_set (.tmp 6) rfl _ rfl (mk ((xs.take 60) ++ ([n] : List Int))) (B55.below hC)) rfl hC (G0.refl _)) ?_
    simp only [Act.put, List.setIfInBounds_toArray, List.set_cons_zero, List.set_cons_succ]
    refine fsteps_val (fun W hC _ => opok_value (v := (.bool true)) (by rfl) (run_eql_set_t (.tmp 45) (.tmp 46) rfl rfl rfl (put_sm (mk_sm _) n) (mk_sm _) ((mk_snoc _ _).symm) W) rfl hC (G0.refl _)) ?_
    simp only [Act.put, List.setIfInBounds_toArray, List.set_cons_zero, List.set_cons_succ]
    refine fsteps_val (fun W hC _ => opok_value (v := (.bool true)) (by rfl) (by rfl) rfl hC (G0.refl _)) ?_
    simp only [Act.put, List.setIfInBounds_toArray, List.set_cons_zero, List.set_cons_succ]
    refine fsteps_val (fun W hC _ => opok_value (v := (.bool true)) (by rfl) (by rfl) rfl hC (G0.refl _)) ?_
    simp only [Act.put, List.setIfInBounds_toArray, List.set_cons_zero, List.set_cons_succ]
    refine fsteps_val (fun W hC _ => opok_value (v := (.agg (setA (mk (xs.take 60))))) (by rfl) (run_load_set (.tmp 5) rfl _ rfl (mk (xs.take 60)) (B11.below hC)) rfl hC (G0.refl _)) ?_
    simp only [Act.put, List.setIfInBounds_toArray, List.set_cons_zero, List.set_cons_succ]
    refine fsteps_val (fun W hC _ => opok_value (v := (.int .i64 n)) (by rfl) (by rfl) rfl hC (G0.refl _)) ?_
    simp only [Act.put, List.setIfInBounds_toArray, List.set_cons_zero, List.set_cons_succ]
    refine fsteps_val (fun W hC _ => opok_call (by rfl) (run_call_24_2 (.tmp 50) (.tmp 51) rfl rfl rfl W) ((drop_calls (mk (xs.take 60)) n W).mono fun e W' ⟨h1, h2⟩ => ⟨_, h1, rfl, hC.step h2, h2⟩)) ?_
    simp only [Act.put, List.setIfInBounds_toArray, List.set_cons_zero, List.set_cons_succ]
    refine fsteps_val (fun W hC _ => opok_value (v := (.slice A83 (flt n ((xs.take 60).take k)).length c84)) (by rfl) (by rfl) rfl hC (G0.refl _)) ?_
    simp only [Act.put, List.setIfInBounds_toArray, List.set_cons_zero, List.set_cons_succ]
    refine fsteps_val (fun W hC _ => opok_call (by rfl) (run_call_22_1 (.tmp 53) rfl rfl W) ((make_calls A83 (flt n ((xs.take 60).take k)) c84 W (R89.same hC) (Nat.le_trans (flt_len _ _) (by rw [List.length_take]; omega))).mono fun e W' ⟨h1, h2⟩ => ⟨_, h1, rfl, hC.step h2, h2⟩)) ?_
    simp only [Act.put, List.setIfInBounds_toArray, List.set_cons_zero, List.set_cons_succ]
    refine fsteps_val (fun W hC _ => opok_value (v := (.bool true)) (by rfl) (run_eql_set_t (.tmp 52) (.tmp 54) rfl rfl rfl (drop_sm (mk_sm _) n) (mk_sm _) (mk_flt (by omega)) W) rfl hC (G0.refl _)) ?_
    simp only [Act.put, List.setIfInBounds_toArray, List.set_cons_zero, List.set_cons_succ]
    refine fsteps_val (fun W hC _ => opok_value (v := (.bool true)) (by rfl) (by rfl) rfl hC (G0.refl _)) ?_
    simp only [Act.put, List.setIfInBounds_toArray, List.set_cons_zero, List.set_cons_succ]
    refine fsteps_val (fun W hC _ => opok_value (v := (.bool true)) (by rfl) (by rfl) rfl hC (G0.refl _)) ?_
    simp only [Act.put, List.setIfInBounds_toArray, List.set_cons_zero, List.set_cons_succ]
    refine fsteps_val (fun W hC _ => opok_value (v := (.agg (setA (mk (xs.take 60))))) (by rfl) (run_load_set (.tmp 5) rfl _ rfl (mk (xs.take 60)) (B11.below hC)) rfl hC (G0.refl _)) ?_
    simp only [Act.put, List.setIfInBounds_toArray, List.set_cons_zero, List.set_cons_succ]
    refine fsteps_val (fun W hC _ => opok_value (v := (.int .i64 n)) (by rfl) (by rfl) rfl hC (G0.refl _)) ?_
    simp only [Act.put, List.setIfInBounds_toArray, List.set_cons_zero, List.set_cons_succ]
    refine fsteps_val (fun W hC _ => opok_call (by rfl) (run_call_25_2 (.tmp 58) (.tmp 59) rfl rfl rfl W) ((has_below (mk (xs.take 60)) (mk_sm _) n W).mono fun e W' ⟨h1, h2⟩ => ⟨_, h1, rfl, hC.step h2, h2⟩)) ?_
    simp only [Act.put, List.setIfInBounds_toArray, List.set_cons_zero, List.set_cons_succ]
    refine fsteps_val (fun W hC _ => opok_value (v := (.agg (setA (mk (xs.take 60))))) (by rfl) (run_load_set (.tmp 5) rfl _ rfl (mk (xs.take 60)) (B11.below hC)) rfl hC (G0.refl _)) ?_
    simp only [Act.put, List.setIfInBounds_toArray, List.set_cons_zero, List.set_cons_succ]
    refine fsteps_val (fun W hC _ => opok_value (v := (.int .i64 n)) (by rfl) (by rfl) rfl hC (G0.refl _)) ?_
    simp only [Act.put, List.setIfInBounds_toArray, List.set_cons_zero, List.set_cons_succ]
    refine fsteps_val (fun W hC _ => opok_call (by rfl) (run_call_26_2 (.tmp 61) (.tmp 62) rfl rfl rfl W) ((refHas_below (mk (xs.take 60)) (mk_sm _) n W).mono fun e W' ⟨h1, h2⟩ => ⟨_, h1, rfl, hC.step h2, h2⟩)) ?_
    simp only [Act.put, List.setIfInBounds_toArray, List.set_cons_zero, List.set_cons_succ]
    refine fsteps_val (fun W hC _ => opok_value (v := (.bool true)) (by rfl) (run_eql_bool_t (.tmp 60) (.tmp 63) rfl rfl rfl W) rfl hC (G0.refl _)) ?_
    simp only [Act.put, List.setIfInBounds_toArray, List.set_cons_zero, List.set_cons_succ]
    refine fsteps_val (fun W hC _ => opok_value (v := (.bool true)) (by rfl) (by rfl) rfl hC (G0.refl _)) ?_
    simp only [Act.put, List.setIfInBounds_toArray, List.set_cons_zero, List.set_cons_succ]
    refine fsteps_val (fun W hC _ => opok_value (v := (.bool true)) (by rfl) (by rfl) rfl hC (G0.refl _)) ?_
    simp only [Act.put, List.setIfInBounds_toArray, List.set_cons_zero, List.set_cons_succ]
    refine fsteps_val (fun W hC _ => opok_call (by rfl) (run_call_12_0  rfl  W) ((lives_calls W (hB.same (bl_step bel hC))).mono fun e W' ⟨h1, h2⟩ => ⟨_, h1, rfl, hC.step h2, h2⟩)) ?_
    simp only [Act.put, List.setIfInBounds_toArray, List.set_cons_zero, List.set_cons_succ]
    refine fsteps_val (fun W hC _ => opok_value (v := (.bool true)) (by rfl) (by rfl) rfl hC (G0.refl _)) ?_
    simp only [Act.put, List.setIfInBounds_toArray, List.set_cons_zero, List.set_cons_succ]
    refine fsteps_val (fun W hC _ => opok_value (v := (.bool true)) (by rfl) (by rfl) rfl hC (G0.refl _)) ?_
    simp only [Act.put, List.setIfInBounds_toArray, List.set_cons_zero, List.set_cons_succ]
    refine fsteps_nil fun w90 hC _ => ?_
    replace hC : Below w62.heap.size w62 w90 := hC
    replace B11 := B11.below hC
    replace B55 := B55.below hC
    replace R89 := R89.same hC
    replace bel := bl_step bel hC
    clear hC
    show Code.wp _ _ _ _ _
    refine wp_ret ?_
    show bodyPost _ _ _ _ _ _
    exact bodyPost_ret (results_tmp rfl _ _ _) rfl ⟨rfl, bel⟩
end Go.Proofs.YthgamlklpfkkhaaDoor

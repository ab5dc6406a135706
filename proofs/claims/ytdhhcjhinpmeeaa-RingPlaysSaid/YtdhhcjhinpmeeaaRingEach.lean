/- ring's Each and its iterator. -/
import Derived.Test.YtdhhcjhinpmeeaaRingLaw
import Derived.Test.YtdhhcjhinpmeeaaRange
namespace Go.Proofs.Ytdhhcjhinpmeeaa
open Go.RowKit Go.WideShapes Go.ChangeShapes
set_option linter.unusedSimpArgs false
set_option linter.unusedVariables false

theorem g1_one_3 : One Try.prog 3 := one_of Try.underlying3 rfl (by kernel_rfl)
theorem g2_one_3 : One Try.prog 3 := one_of Try.underlying3 rfl (by kernel_rfl)
theorem g2_one_23 : One Try.prog 23 := one_of Try.underlying23 rfl (by kernel_rfl)
theorem g2_run_call_8_1 {o : Oper} {a : Act} (x0 : Operand) {ts : Array TypeId} (ho : o.op = .call { callee := .value (.func 8), args := #[x0], argTypes := ts }) {v0 : Value} (h0 : a.eval x0 = v0) (W : World) : (execOp a.eval o).run Try.prog W = .ok (.enter 8 #[v0]) W := by
  unfold execOp
  simp only [ho]
  subst h0
  go_simp
theorem g3_one_3 : One Try.prog 3 := one_of Try.underlying3 rfl (by kernel_rfl)
theorem g3_one_23 : One Try.prog 23 := one_of Try.underlying23 rfl (by kernel_rfl)
theorem g3_run_call_8_1 {o : Oper} {a : Act} (x0 : Operand) {ts : Array TypeId} (ho : o.op = .call { callee := .value (.func 8), args := #[x0], argTypes := ts }) {v0 : Value} (h0 : a.eval x0 = v0) (W : World) : (execOp a.eval o).run Try.prog W = .ok (.enter 8 #[v0]) W := by
  unfold execOp
  simp only [ho]
  subst h0
  go_simp
theorem g3_run_call_23_2 {o : Oper} {a : Act} (x0 : Operand) (x1 : Operand) {ts : Array TypeId} (ho : o.op = .call { callee := .value (.func 23), args := #[x0, x1], argTypes := ts }) {v0 : Value} (h0 : a.eval x0 = v0) {v1 : Value} (h1 : a.eval x1 = v1) (W : World) : (execOp a.eval o).run Try.prog W = .ok (.enter 23 #[v0, v1]) W := by
  unfold execOp
  simp only [ho]
  subst h0 h1
  go_simp
theorem g3_run_lit_22_1 {o : Oper} {a : Act} (x0 : Operand) (ho : o.op = .buildSlice 22 1 #[(0, x0)]) {m0 : Int} (h0 : a.eval x0 = (.int .i64 m0)) (W : World) : (execOp a.eval o).run Try.prog W = .ok (.value (.slice (some ⟨W.heap.size, 0, none⟩) 1 1)) (W.alloc (.cells #[(.int .i64 m0)] 3)) := by
  unfold execOp
  simp only [ho, List.map_toArray, List.map_cons, List.map_nil, h0]
  go_simp

attribute [local irreducible] Go.wpList Go.Code.wp
/-- What a loop over a row sees, from a place on. -/
def got (from_ : Int) (xs : List Int) : List Int := if from_ < 0 then [] else xs.drop from_.toNat
theorem got_neg {from_ : Int} (h : from_ < 0) (xs : List Int) : got from_ xs = [] := if_pos h
theorem got_pos (f : Nat) (xs : List Int) : got (f : Int) xs = xs.drop f := by unfold got; rw [if_neg (by omega)]; rfl
theorem got_nil (from_ : Int) : got from_ [] = [] := by unfold got; split <;> simp
set_option maxRecDepth 100000 in
set_option maxHeartbeats 4000000 in
theorem each_calls (p : Option Addr) (from_ : Int) (w : World) : Calls Try.prog 11 #[.pointer p, .int .i64 from_] w fun e w' => ∃ v, e = .returned v ∧ ∃ B1 B2, v = .func (.func 24) #[] #[.pointer (some ⟨B1, 0, none⟩), .pointer (some ⟨B2, 0, none⟩)] ∧ Blk w' B1 #[.int .i64 from_] 3 ∧ Blk w' B2 #[.pointer p] 23 ∧ w.heap.size ≤ B1 ∧ w.heap.size ≤ B2 ∧ B1 ≠ B2 ∧ Below w.heap.size w w' := by
  have bel : Below w.heap.size w w := Below.refl _ _
  go_enter Try.func11, Try.ntmps11
  refine wp_seq ?_
  refine wp_region_lit ?_
  refine st_new (cs := #[.pointer p]) (t := 23) (by rfl) (run_boxV (.tmp 0) rfl (v := (.pointer p)) rfl rfl _) ?_
  intro g1 w2 B3 hb4 lo5
  simp only [nf0, nf1, nf2, nf3, nf4]
  replace lo5 := low_le bel lo5
  replace bel := bl_step bel hb4
  clear hb4
  refine st_new (cs := #[.int .i64 from_]) (t := 3) (by rfl) (run_boxV (.tmp 1) rfl (v := (.int .i64 from_)) rfl rfl _) ?_
  intro g6 w7 B8 hb9 lo10
  simp only [nf0, nf1, nf2, nf3, nf4]
  have n11 := B3.ne lo10
  replace lo10 := low_le bel lo10
  replace B3 := B3.below hb9
  replace bel := bl_step bel hb9
  clear hb9
  refine st_mv .nilFunc ?_
  simp only [nf0, nf1, nf2, nf3, nf4]
  refine wpList_nil ?_
  show Code.wp _ _ _ _ _
  refine wp_seq ?_
  refine wp_region_lit ?_
  refine st_value (v := (.func (.func 24) #[] #[.pointer (some ⟨g6, 0, none⟩), .pointer (some ⟨g1, 0, none⟩)])) (by rfl) (run_func (f := .func 24) (c := #[.tmp 3, .tmp 2]) (v := (.func (.func 24) #[] #[.pointer (some ⟨g6, 0, none⟩), .pointer (some ⟨g1, 0, none⟩)])) (by rfl) (by rw [List.map_toArray]; rfl) w7) ?_
  simp only [nf0, nf1, nf2, nf3, nf4]
  refine st_mv (.func (.func 24) #[] #[.pointer (some ⟨g6, 0, none⟩), .pointer (some ⟨g1, 0, none⟩)]) ?_
  simp only [nf0, nf1, nf2, nf3, nf4]
  refine wpList_nil ?_
  show Code.wp _ _ _ _ _
  refine wp_ret ?_
  first | show bodyPost _ _ _ _ _ _ | (simp only [Exit.then, Exit.inBlock]; show bodyPost _ _ _ _ _ _)
  exact bodyPost_ret (results_tmp rfl _ _ _) rfl ⟨_, rfl, g6, g1, rfl, B8, B3, lo10, lo5, n11.symm, bel⟩
set_option maxRecDepth 100000 in
set_option maxHeartbeats 4000000 in
theorem each_neg {w : World} {from_ : Int} (hf : from_ < 0) {p : Option Addr} {B1 B2 : Nat} (hB1 : Blk w B1 #[.int .i64 from_] 3) (hB2 : Blk w B2 #[.pointer p] 23) (S : List Nat) (ev : Nat → Array Value) : SeqAt Try.prog 24 #[.pointer (some ⟨B1, 0, none⟩), .pointer (some ⟨B2, 0, none⟩)] 0 ev S w := by
  intro l J Jx W hW hJ hY h0
  have hB1 := hB1.below hW
  have hB2 := hB2.below hW
  show Calls _ _ #[.func (.yield l) #[] #[], .pointer (some ⟨B1, 0, none⟩), .pointer (some ⟨B2, 0, none⟩)] _ _
  have bel : Below W.heap.size W W := Below.refl _ _
  go_enter Try.func24, Try.ntmps24
  refine wp_seq ?_
  refine wp_region_lit ?_
  have O1 : OwnR W W.heap.size 3 (eInt .i64) (.slice none 0 0) [] := OwnR.nil _ _ _ _
  have n3 := Off.nil B1
  have n4 := Off.nil B2
  refine st_value (v := .slice none 0 0) (by rfl) (by rfl) ?_
  simp only [nf0, nf1, nf2, nf3, nf4]
  refine wpList_nil ?_
  show Code.wp _ _ _ _ _
  refine wp_seq ?_
  refine wp_seq ?_
  refine wp_region_lit ?_
  refine st_value (v := (.int .i64 from_)) (by rfl) (run_loadB (.tmp 1) rfl g1_one_3 rfl hB1 rfl) ?_
  simp only [nf0, nf1, nf2, nf3, nf4]
  refine st_value (v := (.int .i64 (max from_ 0))) (by rfl) (run_max2 (.tmp 8) (.const (.int .i64 0)) rfl rfl rfl W) ?_
  simp only [nf0, nf1, nf2, nf3, nf4]
  refine st_mv (.int .i64 (max from_ 0)) ?_
  simp only [nf0, nf1, nf2, nf3, nf4]
  refine wpList_nil ?_
  show Code.wp _ _ _ _ _
  refine wp_block ?_
  refine wp_loop_rnds 1 ?_
  show Code.wp _ _ _ _ _
  refine wp_seq ?_
  refine wp_seq ?_
  cases hg5 : decide (0 ≤ from_)
  rotate_left
  · have hp14 := of_decide_eq_true hg5
    exfalso
    omega
  have hp6 := of_decide_eq_false hg5
  refine wp_region_lit ?_
  refine st_value (v := (.int .i64 from_)) (by rfl) (run_loadB (.tmp 1) rfl g1_one_3 rfl hB1 rfl) ?_
  simp only [nf0, nf1, nf2, nf3, nf4]
  refine st_value (v := (.bool false)) (by rfl) ((run_geq (.tmp 10) (.const (.int .i64 0)) rfl rfl rfl W).trans (by rw [hg5])) ?_
  simp only [nf0, nf1, nf2, nf3, nf4]
  refine st_mv (.bool false) ?_
  simp only [nf0, nf1, nf2, nf3, nf4]
  refine st_nob (j := 2) (t := 12) (c := false) rfl rfl rfl rfl rfl ?_
  simp only [nf0, nf1, nf2, nf3, nf4]
  refine st_nob (j := 2) (t := 12) (c := false) rfl rfl rfl rfl rfl ?_
  simp only [nf0, nf1, nf2, nf3, nf4]
  refine st_nob (j := 2) (t := 12) (c := false) rfl rfl rfl rfl rfl ?_
  simp only [nf0, nf1, nf2, nf3, nf4]
  refine st_nob (j := 2) (t := 12) (c := false) rfl rfl rfl rfl rfl ?_
  simp only [nf0, nf1, nf2, nf3, nf4]
  refine st_mv (.bool false) ?_
  simp only [nf0, nf1, nf2, nf3, nf4]
  refine wpList_nil ?_
  show Code.wp _ _ _ _ _
  refine wp_cond_false rfl ?_
  refine wp_exit ?_
  show Code.wp _ _ _ _ _
  refine wp_seq ?_
  refine wp_region_lit ?_
  refine st_mv (.slice none 0 0) ?_
  simp only [nf0, nf1, nf2, nf3, nf4]
  obtain ⟨A7, c8, hv9, h10, h11, h12, R13⟩ := O1.reads
  rw [eInt_all] at R13
  refine st_value (v := (.int .i64 0)) (by rfl) (run_len (.tmp 28) rfl ⟨_, Try.underlying22⟩ (by exact hv9) W) ?_
  simp only [nf0, nf1, nf2, nf3, nf4]
  refine st_mv (.int .i64 0) ?_
  simp only [nf0, nf1, nf2, nf3, nf4]
  refine wpList_nil ?_
  show Code.wp _ _ _ _ _
  refine wp_block ?_
  refine wp_loop_rnds 1 ?_
  show Code.wp _ _ _ _ _
  refine wp_seq ?_
  refine wp_region_lit ?_
  refine st_value (v := (.bool false)) (by rfl) ((run_lss (.tmp 30) (.tmp 29) rfl rfl rfl W).trans (by rw [decide_eq_false (by omega)])) ?_
  simp only [nf0, nf1, nf2, nf3, nf4]
  refine wpList_nil ?_
  show Code.wp _ _ _ _ _
  refine wp_seq ?_
  refine wp_cond_false rfl ?_
  refine wp_exit ?_
  first | show bodyPost _ _ _ _ _ _ | (simp only [Exit.then, Exit.inBlock, if_true]; show bodyPost _ _ _ _ _ _)
  exact ⟨rfl, _, results_none rfl _ _ _, ⟨_, rfl⟩, .inl (hJ 0 W _ h0 bel)⟩
set_option maxRecDepth 100000 in
set_option maxHeartbeats 4000000 in
theorem each_nil {w : World} {from_ : Int} {B1 B2 : Nat} (hB1 : Blk w B1 #[.int .i64 from_] 3) (hB2 : Blk w B2 #[.pointer none] 23) (S : List Nat) (ev : Nat → Array Value) : SeqAt Try.prog 24 #[.pointer (some ⟨B1, 0, none⟩), .pointer (some ⟨B2, 0, none⟩)] 0 ev S w := by
  intro l J Jx W hW hJ hY h0
  have hB1 := hB1.below hW
  have hB2 := hB2.below hW
  show Calls _ _ #[.func (.yield l) #[] #[], .pointer (some ⟨B1, 0, none⟩), .pointer (some ⟨B2, 0, none⟩)] _ _
  have bel : Below W.heap.size W W := Below.refl _ _
  go_enter Try.func24, Try.ntmps24
  refine wp_seq ?_
  refine wp_region_lit ?_
  have O1 : OwnR W W.heap.size 3 (eInt .i64) (.slice none 0 0) [] := OwnR.nil _ _ _ _
  have n3 := Off.nil B1
  have n4 := Off.nil B2
  refine st_value (v := .slice none 0 0) (by rfl) (by rfl) ?_
  simp only [nf0, nf1, nf2, nf3, nf4]
  refine wpList_nil ?_
  show Code.wp _ _ _ _ _
  refine wp_seq ?_
  refine wp_seq ?_
  refine wp_region_lit ?_
  refine st_value (v := (.int .i64 from_)) (by rfl) (run_loadB (.tmp 1) rfl g2_one_3 rfl hB1 rfl) ?_
  simp only [nf0, nf1, nf2, nf3, nf4]
  refine st_value (v := (.int .i64 (max from_ 0))) (by rfl) (run_max2 (.tmp 8) (.const (.int .i64 0)) rfl rfl rfl W) ?_
  simp only [nf0, nf1, nf2, nf3, nf4]
  refine st_mv (.int .i64 (max from_ 0)) ?_
  simp only [nf0, nf1, nf2, nf3, nf4]
  refine wpList_nil ?_
  show Code.wp _ _ _ _ _
  refine wp_block ?_
  refine wp_loop_rnds 1 ?_
  show Code.wp _ _ _ _ _
  refine wp_seq ?_
  refine wp_seq ?_
  cases hg5 : decide (0 ≤ from_)
  · have hp6 := of_decide_eq_false hg5
    refine wp_region_lit ?_
    refine st_value (v := (.int .i64 from_)) (by rfl) (run_loadB (.tmp 1) rfl g2_one_3 rfl hB1 rfl) ?_
    simp only [nf0, nf1, nf2, nf3, nf4]
    refine st_value (v := (.bool false)) (by rfl) ((run_geq (.tmp 10) (.const (.int .i64 0)) rfl rfl rfl W).trans (by rw [hg5])) ?_
    simp only [nf0, nf1, nf2, nf3, nf4]
    refine st_mv (.bool false) ?_
    simp only [nf0, nf1, nf2, nf3, nf4]
    refine st_nob (j := 2) (t := 12) (c := false) rfl rfl rfl rfl rfl ?_
    simp only [nf0, nf1, nf2, nf3, nf4]
    refine st_nob (j := 2) (t := 12) (c := false) rfl rfl rfl rfl rfl ?_
    simp only [nf0, nf1, nf2, nf3, nf4]
    refine st_nob (j := 2) (t := 12) (c := false) rfl rfl rfl rfl rfl ?_
    simp only [nf0, nf1, nf2, nf3, nf4]
    refine st_nob (j := 2) (t := 12) (c := false) rfl rfl rfl rfl rfl ?_
    simp only [nf0, nf1, nf2, nf3, nf4]
    refine st_mv (.bool false) ?_
    simp only [nf0, nf1, nf2, nf3, nf4]
    refine wpList_nil ?_
    show Code.wp _ _ _ _ _
    refine wp_cond_false rfl ?_
    refine wp_exit ?_
    show Code.wp _ _ _ _ _
    refine wp_seq ?_
    refine wp_region_lit ?_
    refine st_mv (.slice none 0 0) ?_
    simp only [nf0, nf1, nf2, nf3, nf4]
    obtain ⟨A7, c8, hv9, h10, h11, h12, R13⟩ := O1.reads
    rw [eInt_all] at R13
    refine st_value (v := (.int .i64 0)) (by rfl) (run_len (.tmp 28) rfl ⟨_, Try.underlying22⟩ (by exact hv9) W) ?_
    simp only [nf0, nf1, nf2, nf3, nf4]
    refine st_mv (.int .i64 0) ?_
    simp only [nf0, nf1, nf2, nf3, nf4]
    refine wpList_nil ?_
    show Code.wp _ _ _ _ _
    refine wp_block ?_
    refine wp_loop_rnds 1 ?_
    show Code.wp _ _ _ _ _
    refine wp_seq ?_
    refine wp_region_lit ?_
    refine st_value (v := (.bool false)) (by rfl) ((run_lss (.tmp 30) (.tmp 29) rfl rfl rfl W).trans (by rw [decide_eq_false (by omega)])) ?_
    simp only [nf0, nf1, nf2, nf3, nf4]
    refine wpList_nil ?_
    show Code.wp _ _ _ _ _
    refine wp_seq ?_
    refine wp_cond_false rfl ?_
    refine wp_exit ?_
    first | show bodyPost _ _ _ _ _ _ | (simp only [Exit.then, Exit.inBlock, if_true]; show bodyPost _ _ _ _ _ _)
    exact ⟨rfl, _, results_none rfl _ _ _, ⟨_, rfl⟩, .inl (hJ 0 W _ h0 bel)⟩
  have hp14 := of_decide_eq_true hg5
  refine wp_region_lit ?_
  refine st_value (v := (.int .i64 from_)) (by rfl) (run_loadB (.tmp 1) rfl g2_one_3 rfl hB1 rfl) ?_
  simp only [nf0, nf1, nf2, nf3, nf4]
  refine st_value (v := (.bool true)) (by rfl) ((run_geq (.tmp 10) (.const (.int .i64 0)) rfl rfl rfl W).trans (by rw [hg5])) ?_
  simp only [nf0, nf1, nf2, nf3, nf4]
  refine st_mv (.bool true) ?_
  simp only [nf0, nf1, nf2, nf3, nf4]
  refine st_mv (.int .i64 (max from_ 0)) ?_
  simp only [nf0, nf1, nf2, nf3, nf4]
  refine st_value (v := (.pointer none)) (by rfl) (run_loadB (.tmp 2) rfl g2_one_23 rfl hB2 rfl) ?_
  simp only [nf0, nf1, nf2, nf3, nf4]
  refine st_call1 (v := (.int .i64 0)) (by rfl) (g2_run_call_8_1 (.tmp 14) rfl rfl _) (len_nil W) ?_
  intro w15 hb16
  simp only [nf0, nf1, nf2, nf3, nf4]
  replace hB1 := hB1.below hb16
  replace hB2 := hB2.below hb16
  replace O1 := O1.same hb16
  replace bel := bl_step bel hb16
  clear hb16
  refine st_value (v := (.bool (decide ((max from_ 0) < 0)))) (by rfl) (run_lss (.tmp 13) (.tmp 15) rfl rfl rfl w15) ?_
  simp only [nf0, nf1, nf2, nf3, nf4]
  refine st_mv (.bool (decide ((max from_ 0) < 0))) ?_
  simp only [nf0, nf1, nf2, nf3, nf4]
  refine wpList_nil ?_
  show Code.wp _ _ _ _ _
  cases hg17 : decide ((max from_ 0) < 0)
  rotate_left
  · have hp26 := of_decide_eq_true hg17
    exfalso
    omega
  have hp18 := of_decide_eq_false hg17
  refine wp_cond_false rfl ?_
  refine wp_exit ?_
  show Code.wp _ _ _ _ _
  refine wp_seq ?_
  refine wp_region_lit ?_
  refine st_mv (.slice none 0 0) ?_
  simp only [nf0, nf1, nf2, nf3, nf4]
  obtain ⟨A19, c20, hv21, h22, h23, h24, R25⟩ := O1.reads
  rw [eInt_all] at R25
  refine st_value (v := (.int .i64 0)) (by rfl) (run_len (.tmp 28) rfl ⟨_, Try.underlying22⟩ (by exact hv21) w15) ?_
  simp only [nf0, nf1, nf2, nf3, nf4]
  refine st_mv (.int .i64 0) ?_
  simp only [nf0, nf1, nf2, nf3, nf4]
  refine wpList_nil ?_
  show Code.wp _ _ _ _ _
  refine wp_block ?_
  refine wp_loop_rnds 1 ?_
  show Code.wp _ _ _ _ _
  refine wp_seq ?_
  refine wp_region_lit ?_
  refine st_value (v := (.bool false)) (by rfl) ((run_lss (.tmp 30) (.tmp 29) rfl rfl rfl w15).trans (by rw [decide_eq_false (by omega)])) ?_
  simp only [nf0, nf1, nf2, nf3, nf4]
  refine wpList_nil ?_
  show Code.wp _ _ _ _ _
  refine wp_seq ?_
  refine wp_cond_false rfl ?_
  refine wp_exit ?_
  first | show bodyPost _ _ _ _ _ _ | (simp only [Exit.then, Exit.inBlock, if_true]; show bodyPost _ _ _ _ _ _)
  exact ⟨rfl, _, results_none rfl _ _ _, ⟨_, rfl⟩, .inl (hJ 0 W _ h0 bel)⟩
theorem slInt' : SlT Try.prog 22 3 (eInt .i64) 8 := slT_of Try.underlying22 (z := .int .i64 0) (by kernel_rfl) rfl Nat.one_pos (by omega)
theorem take_nth' {l : List Int} {k : Nat} (h : k < l.length) : l.take (k + 1) = l.take k ++ [nth l k] := by
  rw [List.take_add_one, List.getElem?_eq_getElem h]
  simp [nth, h]
set_option maxRecDepth 100000 in
set_option maxHeartbeats 4000000 in
theorem each_pos {w : World} {r b N : Nat} {xs : List Int} (hR : Rg w r b N xs) {f : Nat} {B1 B2 : Nat} (hB1 : Blk w B1 #[.int .i64 (f : Int)] 3) (hB2 : Blk w B2 #[.pointer (some ⟨r, 0, none⟩)] 23) {S : List Nat} (hS : ∀ j, j ∈ S → j < w.heap.size) (hn1 : B1 ∉ S) : SeqAt Try.prog 24 #[.pointer (some ⟨B1, 0, none⟩), .pointer (some ⟨B2, 0, none⟩)] (xs.drop f).length (fun k => #[.int .i64 ((f : Int) + (k : Int)), .int .i64 (nth (xs.drop f) k)]) S w := by
  intro l J Jx W hW hJ hY h0
  have hB1 := hB1.below hW
  have hB2 := hB2.below hW
  obtain ⟨at_, cs, ⟨hr, hb, hne, hlen, h4, hat, hn⟩, hv⟩ := hR.below hW
  show Calls _ _ #[.func (.yield l) #[] #[], .pointer (some ⟨B1, 0, none⟩), .pointer (some ⟨B2, 0, none⟩)] _ _
  have bel : Below W.heap.size W W := Below.refl _ _
  have hdl : (xs.drop f).length = xs.length - f := by rw [List.length_drop]
  have hS' : ∀ j, j ∈ S → j < W.heap.size := fun j hj => Nat.lt_of_lt_of_le (hS j hj) hW.size
  go_enter Try.func24, Try.ntmps24
  refine wp_seq ?_
  refine wp_region_lit ?_
  have O1 : OwnR W W.heap.size 3 (eInt .i64) (.slice none 0 0) [] := OwnR.nil _ _ _ _
  have n3 := Off.nil B1
  have n4 := Off.nil B2
  have n5 := Off.nil r
  have n6 := Off.nil b
  refine st_value (v := .slice none 0 0) (by rfl) (by rfl) ?_
  simp only [nf0, nf1, nf2, nf3, nf4]
  refine wpList_nil ?_
  show Code.wp _ _ _ _ _
  refine wp_seq ?_
  refine wp_seq ?_
  refine wp_region_lit ?_
  refine st_value (v := (.int .i64 (f : Int))) (by rfl) (run_loadB (.tmp 1) rfl g3_one_3 rfl hB1 rfl) ?_
  simp only [nf0, nf1, nf2, nf3, nf4]
  refine st_value (v := (.int .i64 (max (f : Int) 0))) (by rfl) (run_max2 (.tmp 8) (.const (.int .i64 0)) rfl rfl rfl W) ?_
  simp only [nf0, nf1, nf2, nf3, nf4]
  refine st_mv (.int .i64 (max (f : Int) 0)) ?_
  simp only [nf0, nf1, nf2, nf3, nf4]
  refine wpList_nil ?_
  show Code.wp _ _ _ _ _
  refine wp_block ?_
  refine wp_loop_left (fun n_ a_ wr_ => (fun J7 => ∃ (k : Nat) (K : Int) (v : Value), n_ = (xs.drop f).length - k ∧ a_ = ⟨#[.func (.yield l) #[] #[], .pointer (some ⟨B1, 0, none⟩), .pointer (some ⟨B2, 0, none⟩), J7 3, v, .int .i64 K, J7 6, J7 7, J7 8, J7 9, J7 10, J7 11, J7 12, J7 13, J7 14, J7 15, J7 16, J7 17, J7 18, J7 19, J7 20, J7 21, J7 22, J7 23, J7 24, J7 25, J7 26, J7 27, undef, undef, J7 30, J7 31, J7 32, J7 33, J7 34, J7 35, J7 36, J7 37, J7 38, J7 39, J7 40, J7 41, J7 42], []⟩ ∧ Blk wr_ B1 #[.int .i64 (f : Int)] 3 ∧ Blk wr_ B2 #[.pointer (some ⟨r, 0, none⟩)] 23 ∧ Blk wr_ r #[.slice (some ⟨b, 0, none⟩) N N, .int .i64 (at_ : Int), .int .i64 ((xs.length : Nat) : Int)] 48 ∧ Blk wr_ b (ints cs) 3 ∧ OwnR wr_ W.heap.size 3 (eInt .i64) v ((xs.drop f).take k) ∧ Off v B1 ∧ Off v B2 ∧ Off v r ∧ Off v b ∧ Below W.heap.size W wr_ ∧ (K = ((f + k : Nat) : Int)) ∧ (k ≤ (xs.drop f).length)) (jk a_)) ((xs.drop f).length - 0) ⟨0, _, (.slice none 0 0), rfl, rfl, hB1, hB2, hr, hb, O1, n3, n4, n5, n6, bel, (by omega), Nat.zero_le _⟩ ?_
  clear hB1
  clear hB2
  clear hr
  clear hb
  clear O1
  clear n3 n4 n5 n6
  clear bel
  intro n_ a_ w12 h_
  revert h_
  generalize jk a_ = J7
  rintro ⟨k, K, v, hms, rfl, hB1, hB2, hr, hb, O1, n8, n9, n10, n11, bel, hK, hk⟩
  refine wp_seq ?_
  refine wp_seq ?_
  cases hg13 : decide (0 ≤ (f : Int))
  · have hp14 := of_decide_eq_false hg13
    refine wp_region_lit ?_
    refine st_value (v := (.int .i64 (f : Int))) (by rfl) (run_loadB (.tmp 1) rfl g3_one_3 rfl hB1 rfl) ?_
    simp only [nf0, nf1, nf2, nf3, nf4]
    refine st_value (v := (.bool false)) (by rfl) ((run_geq (.tmp 10) (.const (.int .i64 0)) rfl rfl rfl w12).trans (by rw [hg13])) ?_
    simp only [nf0, nf1, nf2, nf3, nf4]
    refine st_mv (.bool false) ?_
    simp only [nf0, nf1, nf2, nf3, nf4]
    refine st_nob (j := 2) (t := 12) (c := false) rfl rfl rfl rfl rfl ?_
    simp only [nf0, nf1, nf2, nf3, nf4]
    refine st_nob (j := 2) (t := 12) (c := false) rfl rfl rfl rfl rfl ?_
    simp only [nf0, nf1, nf2, nf3, nf4]
    refine st_nob (j := 2) (t := 12) (c := false) rfl rfl rfl rfl rfl ?_
    simp only [nf0, nf1, nf2, nf3, nf4]
    refine st_nob (j := 2) (t := 12) (c := false) rfl rfl rfl rfl rfl ?_
    simp only [nf0, nf1, nf2, nf3, nf4]
    refine st_mv (.bool false) ?_
    simp only [nf0, nf1, nf2, nf3, nf4]
    refine wpList_nil ?_
    show Code.wp _ _ _ _ _
    refine wp_cond_false rfl ?_
    refine wp_exit ?_
    show Code.wp _ _ _ _ _
    refine wp_seq ?_
    have hkk : k = (xs.drop f).length := by omega
    rw [hkk, List.take_length] at O1
    have hO_ := O1
    obtain ⟨A15, c16, hv17, h18, h19, h20, R21⟩ := O1.reads
    subst hv17
    rw [eInt_all] at R21
    clear O1
    have hnA := OwnR.notin hO_ hS'
    clear hO_
    have hJ0 := hJ 0 W _ h0 bel
    clear bel
    refine wp_region_lit ?_
    refine st_mv (.slice A15 (xs.drop f).length c16) ?_
    simp only [nf0, nf1, nf2, nf3, nf4]
    refine st_value (v := (.int .i64 ((xs.drop f).length : Int))) (by rfl) (run_len (.tmp 28) rfl ⟨_, Try.underlying22⟩ rfl w12) ?_
    simp only [nf0, nf1, nf2, nf3, nf4]
    refine st_mv (.int .i64 0) ?_
    simp only [nf0, nf1, nf2, nf3, nf4]
    refine wpList_nil ?_
    show Code.wp _ _ _ _ _
    refine wp_block ?_
    refine wp_loop_left (fun n_ a_ wr_ => (fun J22 => ∃ (i : Nat), n_ = (xs.drop f).length - i ∧ a_ = ⟨#[.func (.yield l) #[] #[], .pointer (some ⟨B1, 0, none⟩), .pointer (some ⟨B2, 0, none⟩), J22 3, .slice A15 (xs.drop f).length c16, J22 5, J22 6, J22 7, J22 8, J22 9, J22 10, J22 11, J22 12, J22 13, J22 14, J22 15, J22 16, J22 17, J22 18, J22 19, J22 20, J22 21, J22 22, J22 23, J22 24, J22 25, J22 26, J22 27, .slice A15 (xs.drop f).length c16, .int .i64 ((xs.drop f).length : Int), .int .i64 (i : Int), J22 31, J22 32, J22 33, J22 34, J22 35, J22 36, J22 37, J22 38, J22 39, J22 40, J22 41, J22 42], []⟩ ∧ Blk wr_ B1 #[.int .i64 (f : Int)] 3 ∧ Reads wr_ A15 ((xs.drop f).map (Value.int .i64)) ∧ (J i wr_) ∧ (i ≤ (xs.drop f).length)) (jk a_)) ((xs.drop f).length - 0) ⟨0, rfl, rfl, hB1, R21, hJ0, Nat.zero_le _⟩ ?_
    clear hB1
    clear R21
    intro n_ a_ w23 h_
    revert h_
    generalize jk a_ = J22
    rintro ⟨i, hms, rfl, hB1, R21, hJi, hi⟩
    refine wp_seq ?_
    refine wp_region_lit ?_
    refine st_value (v := (.bool (decide ((i : Int) < ((xs.drop f).length : Int))))) (by rfl) (run_lss (.tmp 30) (.tmp 29) rfl rfl rfl w23) ?_
    simp only [nf0, nf1, nf2, nf3, nf4]
    refine wpList_nil ?_
    show Code.wp _ _ _ _ _
    refine wp_seq ?_
    cases hg24 : decide ((i : Int) < ((xs.drop f).length : Int))
    · have hp25 := of_decide_eq_false hg24
      refine wp_cond_false rfl ?_
      refine wp_exit ?_
      first | show bodyPost _ _ _ _ _ _ | (simp only [Exit.then, Exit.inBlock, if_true]; show bodyPost _ _ _ _ _ _)
      obtain rfl : i = (xs.drop f).length := by omega
      exact ⟨rfl, _, results_none rfl _ _ _, ⟨_, rfl⟩, .inl hJi⟩
    have hp26 := of_decide_eq_true hg24
    refine wp_cond_true rfl ?_
    refine wp_skip ?_
    show Code.wp _ _ _ _ _
    refine wp_seq ?_
    refine wp_block ?_
    refine wp_seq ?_
    obtain ⟨b27, o28, rfl, _⟩ := R21.at_ (by simp only [List.length_map]; omega)
    refine wp_region_lit ?_
    refine st_mv (.int .i64 (i : Int)) ?_
    simp only [nf0, nf1, nf2, nf3, nf4]
    refine st_value (v := (.pointer (some ⟨b27, o28 + i * 1, none⟩))) (by rfl) (run_indexAddrN (.tmp 28) (.tmp 30) rfl Try.underlying22 slInt'.sz (i := i) rfl rfl (by omega) w23) ?_
    simp only [nf0, nf1, nf2, nf3, nf4]
    refine st_value (v := (.int .i64 (nth (xs.drop f) i))) (by rfl) (run_load1 (.tmp 33) rfl Try.underlying3 rfl slInt'.sz rfl (Reads.intAt R21 i (by omega))) ?_
    simp only [nf0, nf1, nf2, nf3, nf4]
    refine st_mv (.int .i64 (i : Int)) ?_
    simp only [nf0, nf1, nf2, nf3, nf4]
    refine st_mv (.int .i64 (nth (xs.drop f) i)) ?_
    simp only [nf0, nf1, nf2, nf3, nf4]
    refine wpList_nil ?_
    show Code.wp _ _ _ _ _
    refine wp_seq ?_
    refine wp_region_wide 2 ?_
    refine si_mv (.func (.yield l) #[] #[]) ?_
    simp only [nf0, nf1, nf2, nf3, nf4]
    refine si_value (v := (.int .i64 (f : Int))) (by rfl) (run_loadB (.tmp 1) rfl g3_one_3 rfl hB1 rfl) ?_
    simp only [nf0, nf1, nf2, nf3, nf4]
    refine si_mv (.int .i64 (i : Int)) ?_
    simp only [nf0, nf1, nf2, nf3, nf4]
    refine si_value (v := (.int .i64 ((f : Int) + (i : Int)))) (by rfl) (run_add_in (.tmp 36) (.tmp 37) rfl rfl rfl (by omega) w23) ?_
    simp only [nf0, nf1, nf2, nf3, nf4]
    refine si_mv (.int .i64 (nth (xs.drop f) i)) ?_
    simp only [nf0, nf1, nf2, nf3, nf4]
    refine si_yield rfl (by rfl) rfl rfl rfl (hY i _ hJi (by omega)) ?_ ?_
    · rintro w29 ⟨hJi, hk30⟩
      replace hB1 := hB1.kc hk30 hn1
      replace R21 := R21.kc hk30 hnA
      simp only [nf0, nf1, nf2, nf3, nf4]
      refine si_value (v := (.bool false)) (by rfl) (run_not (.tmp 40) rfl (b := true) rfl w29) ?_
      simp only [nf0, nf1, nf2, nf3, nf4]
      refine wpListIn_nil ?_
      show Code.wp _ _ _ _ _
      refine wp_cond_false rfl ?_
      refine wp_skip ?_
      show Code.wp _ _ _ _ _
      refine wp_region_lit ?_
      refine st_value (v := (.int .i64 ((i : Int) + 1))) (by rfl) (run_add_in (.tmp 30) (.const (.int .i64 1)) rfl rfl rfl (by omega) w29) ?_
      simp only [nf0, nf1, nf2, nf3, nf4]
      refine st_mv (.int .i64 ((i : Int) + 1)) ?_
      simp only [nf0, nf1, nf2, nf3, nf4]
      refine wpList_nil ?_
      show ∃ m, m < _ ∧ _
      exact ⟨_, (by omega), (i + 1), rfl, rfl, hB1, R21, hJi, (by omega)⟩
    · intro w31 hJx
      simp only [nf0, nf1, nf2, nf3, nf4]
      refine si_value (v := (.bool true)) (by rfl) (run_not (.tmp 40) rfl (b := false) rfl w31) ?_
      simp only [nf0, nf1, nf2, nf3, nf4]
      refine wpListIn_nil ?_
      show Code.wp _ _ _ _ _
      refine wp_cond_true rfl ?_
      refine wp_ret ?_
      first | show bodyPost _ _ _ _ _ _ | (simp only [Exit.then, Exit.inBlock]; show bodyPost _ _ _ _ _ _)
      exact ⟨rfl, _, results_none rfl _ _ _, ⟨_, rfl⟩, .inr hJx⟩
  have hp32 := of_decide_eq_true hg13
  refine wp_region_lit ?_
  refine st_value (v := (.int .i64 (f : Int))) (by rfl) (run_loadB (.tmp 1) rfl g3_one_3 rfl hB1 rfl) ?_
  simp only [nf0, nf1, nf2, nf3, nf4]
  refine st_value (v := (.bool true)) (by rfl) ((run_geq (.tmp 10) (.const (.int .i64 0)) rfl rfl rfl w12).trans (by rw [hg13])) ?_
  simp only [nf0, nf1, nf2, nf3, nf4]
  refine st_mv (.bool true) ?_
  simp only [nf0, nf1, nf2, nf3, nf4]
  refine st_mv (.int .i64 K) ?_
  simp only [nf0, nf1, nf2, nf3, nf4]
  refine st_value (v := (.pointer (some ⟨r, 0, none⟩))) (by rfl) (run_loadB (.tmp 2) rfl g3_one_23 rfl hB2 rfl) ?_
  simp only [nf0, nf1, nf2, nf3, nf4]
  refine st_call1 (v := (.int .i64 ((xs.length : Nat) : Int))) (by rfl) (g3_run_call_8_1 (.tmp 14) rfl rfl _) (len_raw hr) ?_
  intro w33 hb34
  simp only [nf0, nf1, nf2, nf3, nf4]
  replace hB1 := hB1.below hb34
  replace hB2 := hB2.below hb34
  replace hr := hr.below hb34
  replace hb := hb.below hb34
  replace O1 := O1.same hb34
  replace bel := bl_step bel hb34
  clear hb34
  refine st_value (v := (.bool (decide (K < ((xs.length : Nat) : Int))))) (by rfl) (run_lss (.tmp 13) (.tmp 15) rfl rfl rfl w33) ?_
  simp only [nf0, nf1, nf2, nf3, nf4]
  refine st_mv (.bool (decide (K < ((xs.length : Nat) : Int)))) ?_
  simp only [nf0, nf1, nf2, nf3, nf4]
  refine wpList_nil ?_
  show Code.wp _ _ _ _ _
  cases hg35 : decide (K < ((xs.length : Nat) : Int))
  rotate_left
  · have hp54 := of_decide_eq_true hg35
    refine wp_cond_true rfl ?_
    refine wp_skip ?_
    show Code.wp _ _ _ _ _
    refine wp_seq ?_
    refine wp_block ?_
    have hat' : at_ < N := hat (by omega)
    refine wp_region_lit ?_
    refine st_mv v ?_
    simp only [nf0, nf1, nf2, nf3, nf4]
    refine st_value (v := (.pointer (some ⟨r, 0, none⟩))) (by rfl) (run_loadB (.tmp 2) rfl g3_one_23 rfl hB2 rfl) ?_
    simp only [nf0, nf1, nf2, nf3, nf4]
    refine st_mv (.int .i64 K) ?_
    simp only [nf0, nf1, nf2, nf3, nf4]
    refine st_call1 (v := (.pointer (some ⟨b, ((at_ + (f + k)) % N), none⟩))) (by rfl) (g3_run_call_23_2 (.tmp 21) (.tmp 22) rfl rfl rfl _) (slot_raw (at_ := at_) (i := (f + k)) hr (by omega) (by omega) (by omega) (by omega) (by omega)) ?_
    intro w55 hb56
    simp only [nf0, nf1, nf2, nf3, nf4]
    replace hB1 := hB1.below hb56
    replace hB2 := hB2.below hb56
    replace hr := hr.below hb56
    replace hb := hb.below hb56
    replace O1 := O1.same hb56
    replace bel := bl_step bel hb56
    clear hb56
    refine st_value (v := (.pointer (some ⟨b, ((at_ + (f + k)) % N), none⟩))) (by rfl) (run_check (.tmp 23) rfl rfl w55) ?_
    simp only [nf0, nf1, nf2, nf3, nf4]
    refine st_value (v := (.int .i64 (nth cs ((at_ + (f + k)) % N)))) (by rfl) (run_loadB (.tmp 24) rfl g3_one_3 rfl hb (ints_get _ _ (by rw [hlen]; exact (Nat.mod_lt _ (by omega))))) ?_
    simp only [nf0, nf1, nf2, nf3, nf4]
    refine st_lit (by rfl) (g3_run_lit_22_1 (.tmp 25) rfl rfl _) ?_
    intro g57 w58 B59 hb60 lo61
    simp only [nf0, nf1, nf2, nf3, nf4]
    have n62 := hB1.ne lo61
    have n63 := hB2.ne lo61
    have n64 := hr.ne lo61
    have n65 := hb.ne lo61
    have n66 := O1.off lo61
    replace lo61 := low_le bel lo61
    replace hB1 := hB1.below hb60
    replace hB2 := hB2.below hb60
    replace hr := hr.below hb60
    replace hb := hb.below hb60
    replace O1 := O1.same hb60
    replace bel := bl_step bel hb60
    clear hb60
    refine st_append slInt' rfl (.tmp 20) (.tmp 26) rfl rfl O1 ([(nth cs ((at_ + (f + k)) % N))] : List Int) rfl rfl B59 (by simp [Enc.all, eInt]) (by simp only [List.length_take, List.length_cons, List.length_nil]; omega) bel.size ?_
    intro v67 w68 O69 hg70 hat71
    simp only [nf0, nf1, nf2, nf3, nf4]
    have n72 := (n8 : Off _ _).app hB1 hat71
    replace hB1 := hB1.keptR hg70 n8
    have n73 := (n9 : Off _ _).app hB2 hat71
    replace hB2 := hB2.keptR hg70 n9
    have n74 := (n10 : Off _ _).app hr hat71
    replace hr := hr.keptR hg70 n10
    have n75 := (n11 : Off _ _).app hb hat71
    replace hb := hb.keptR hg70 n11
    replace bel := bl_app bel O1 hg70
    clear O1 hg70 hat71
    refine st_mv v67 ?_
    simp only [nf0, nf1, nf2, nf3, nf4]
    refine wpList_nil ?_
    show Code.wp _ _ _ _ _
    refine wp_region_lit ?_
    refine st_mv (.int .i64 K) ?_
    simp only [nf0, nf1, nf2, nf3, nf4]
    refine st_value (v := (.int .i64 (K + 1))) (by rfl) (run_add_in (.tmp 18) (.const (.int .i64 1)) rfl rfl rfl (by omega) w68) ?_
    simp only [nf0, nf1, nf2, nf3, nf4]
    refine st_mv (.int .i64 (K + 1)) ?_
    simp only [nf0, nf1, nf2, nf3, nf4]
    refine wpList_nil ?_
    show ∃ m, m < _ ∧ _
    exact ⟨_, (by omega), (k + 1), _, v67, rfl, rfl, hB1, hB2, hr, hb, (by rw [take_nth' (l := (xs.drop f)) (k := k) (by omega), nth_drop, ← hv (f + k) (by omega)]; exact O69), n72, n73, n74, n75, (by omega), (by omega)⟩
  have hp36 := of_decide_eq_false hg35
  refine wp_cond_false rfl ?_
  refine wp_exit ?_
  show Code.wp _ _ _ _ _
  refine wp_seq ?_
  have hkk : k = (xs.drop f).length := by omega
  rw [hkk, List.take_length] at O1
  have hO_ := O1
  obtain ⟨A37, c38, hv39, h40, h41, h42, R43⟩ := O1.reads
  subst hv39
  rw [eInt_all] at R43
  clear O1
  have hnA := OwnR.notin hO_ hS'
  clear hO_
  have hJ0 := hJ 0 W _ h0 bel
  clear bel
  refine wp_region_lit ?_
  refine st_mv (.slice A37 (xs.drop f).length c38) ?_
  simp only [nf0, nf1, nf2, nf3, nf4]
  refine st_value (v := (.int .i64 ((xs.drop f).length : Int))) (by rfl) (run_len (.tmp 28) rfl ⟨_, Try.underlying22⟩ rfl w33) ?_
  simp only [nf0, nf1, nf2, nf3, nf4]
  refine st_mv (.int .i64 0) ?_
  simp only [nf0, nf1, nf2, nf3, nf4]
  refine wpList_nil ?_
  show Code.wp _ _ _ _ _
  refine wp_block ?_
  refine wp_loop_left (fun n_ a_ wr_ => (fun J44 => ∃ (i : Nat), n_ = (xs.drop f).length - i ∧ a_ = ⟨#[.func (.yield l) #[] #[], .pointer (some ⟨B1, 0, none⟩), .pointer (some ⟨B2, 0, none⟩), J44 3, .slice A37 (xs.drop f).length c38, J44 5, J44 6, J44 7, J44 8, J44 9, J44 10, J44 11, J44 12, J44 13, J44 14, J44 15, J44 16, J44 17, J44 18, J44 19, J44 20, J44 21, J44 22, J44 23, J44 24, J44 25, J44 26, J44 27, .slice A37 (xs.drop f).length c38, .int .i64 ((xs.drop f).length : Int), .int .i64 (i : Int), J44 31, J44 32, J44 33, J44 34, J44 35, J44 36, J44 37, J44 38, J44 39, J44 40, J44 41, J44 42], []⟩ ∧ Blk wr_ B1 #[.int .i64 (f : Int)] 3 ∧ Reads wr_ A37 ((xs.drop f).map (Value.int .i64)) ∧ (J i wr_) ∧ (i ≤ (xs.drop f).length)) (jk a_)) ((xs.drop f).length - 0) ⟨0, rfl, rfl, hB1, R43, hJ0, Nat.zero_le _⟩ ?_
  clear hB1
  clear R43
  intro n_ a_ w45 h_
  revert h_
  generalize jk a_ = J44
  rintro ⟨i, hms, rfl, hB1, R43, hJi, hi⟩
  refine wp_seq ?_
  refine wp_region_lit ?_
  refine st_value (v := (.bool (decide ((i : Int) < ((xs.drop f).length : Int))))) (by rfl) (run_lss (.tmp 30) (.tmp 29) rfl rfl rfl w45) ?_
  simp only [nf0, nf1, nf2, nf3, nf4]
  refine wpList_nil ?_
  show Code.wp _ _ _ _ _
  refine wp_seq ?_
  cases hg46 : decide ((i : Int) < ((xs.drop f).length : Int))
  · have hp47 := of_decide_eq_false hg46
    refine wp_cond_false rfl ?_
    refine wp_exit ?_
    first | show bodyPost _ _ _ _ _ _ | (simp only [Exit.then, Exit.inBlock, if_true]; show bodyPost _ _ _ _ _ _)
    obtain rfl : i = (xs.drop f).length := by omega
    exact ⟨rfl, _, results_none rfl _ _ _, ⟨_, rfl⟩, .inl hJi⟩
  have hp48 := of_decide_eq_true hg46
  refine wp_cond_true rfl ?_
  refine wp_skip ?_
  show Code.wp _ _ _ _ _
  refine wp_seq ?_
  refine wp_block ?_
  refine wp_seq ?_
  obtain ⟨b49, o50, rfl, _⟩ := R43.at_ (by simp only [List.length_map]; omega)
  refine wp_region_lit ?_
  refine st_mv (.int .i64 (i : Int)) ?_
  simp only [nf0, nf1, nf2, nf3, nf4]
  refine st_value (v := (.pointer (some ⟨b49, o50 + i * 1, none⟩))) (by rfl) (run_indexAddrN (.tmp 28) (.tmp 30) rfl Try.underlying22 slInt'.sz (i := i) rfl rfl (by omega) w45) ?_
  simp only [nf0, nf1, nf2, nf3, nf4]
  refine st_value (v := (.int .i64 (nth (xs.drop f) i))) (by rfl) (run_load1 (.tmp 33) rfl Try.underlying3 rfl slInt'.sz rfl (Reads.intAt R43 i (by omega))) ?_
  simp only [nf0, nf1, nf2, nf3, nf4]
  refine st_mv (.int .i64 (i : Int)) ?_
  simp only [nf0, nf1, nf2, nf3, nf4]
  refine st_mv (.int .i64 (nth (xs.drop f) i)) ?_
  simp only [nf0, nf1, nf2, nf3, nf4]
  refine wpList_nil ?_
  show Code.wp _ _ _ _ _
  refine wp_seq ?_
  refine wp_region_wide 2 ?_
  refine si_mv (.func (.yield l) #[] #[]) ?_
  simp only [nf0, nf1, nf2, nf3, nf4]
  refine si_value (v := (.int .i64 (f : Int))) (by rfl) (run_loadB (.tmp 1) rfl g3_one_3 rfl hB1 rfl) ?_
  simp only [nf0, nf1, nf2, nf3, nf4]
  refine si_mv (.int .i64 (i : Int)) ?_
  simp only [nf0, nf1, nf2, nf3, nf4]
  refine si_value (v := (.int .i64 ((f : Int) + (i : Int)))) (by rfl) (run_add_in (.tmp 36) (.tmp 37) rfl rfl rfl (by omega) w45) ?_
  simp only [nf0, nf1, nf2, nf3, nf4]
  refine si_mv (.int .i64 (nth (xs.drop f) i)) ?_
  simp only [nf0, nf1, nf2, nf3, nf4]
  refine si_yield rfl (by rfl) rfl rfl rfl (hY i _ hJi (by omega)) ?_ ?_
  · rintro w51 ⟨hJi, hk52⟩
    replace hB1 := hB1.kc hk52 hn1
    replace R43 := R43.kc hk52 hnA
    simp only [nf0, nf1, nf2, nf3, nf4]
    refine si_value (v := (.bool false)) (by rfl) (run_not (.tmp 40) rfl (b := true) rfl w51) ?_
    simp only [nf0, nf1, nf2, nf3, nf4]
    refine wpListIn_nil ?_
    show Code.wp _ _ _ _ _
    refine wp_cond_false rfl ?_
    refine wp_skip ?_
    show Code.wp _ _ _ _ _
    refine wp_region_lit ?_
    refine st_value (v := (.int .i64 ((i : Int) + 1))) (by rfl) (run_add_in (.tmp 30) (.const (.int .i64 1)) rfl rfl rfl (by omega) w51) ?_
    simp only [nf0, nf1, nf2, nf3, nf4]
    refine st_mv (.int .i64 ((i : Int) + 1)) ?_
    simp only [nf0, nf1, nf2, nf3, nf4]
    refine wpList_nil ?_
    show ∃ m, m < _ ∧ _
    exact ⟨_, (by omega), (i + 1), rfl, rfl, hB1, R43, hJi, (by omega)⟩
  · intro w53 hJx
    simp only [nf0, nf1, nf2, nf3, nf4]
    refine si_value (v := (.bool true)) (by rfl) (run_not (.tmp 40) rfl (b := false) rfl w53) ?_
    simp only [nf0, nf1, nf2, nf3, nf4]
    refine wpListIn_nil ?_
    show Code.wp _ _ _ _ _
    refine wp_cond_true rfl ?_
    refine wp_ret ?_
    first | show bodyPost _ _ _ _ _ _ | (simp only [Exit.then, Exit.inBlock]; show bodyPost _ _ _ _ _ _)
    exact ⟨rfl, _, results_none rfl _ _ _, ⟨_, rfl⟩, .inr hJx⟩
theorem each_stops {w : World} {r b N : Nat} {xs : List Int} (hR : Rg w r b N xs) {from_ : Int} {B1 B2 : Nat} (hB1 : Blk w B1 #[.int .i64 from_] 3) (hB2 : Blk w B2 #[.pointer (some ⟨r, 0, none⟩)] 23) {S : List Nat} (hS : ∀ j, j ∈ S → j < w.heap.size) (hn1 : B1 ∉ S) : SeqAt Try.prog 24 #[.pointer (some ⟨B1, 0, none⟩), .pointer (some ⟨B2, 0, none⟩)] (got from_ xs).length (fun k => #[.int .i64 (from_ + (k : Int)), .int .i64 (nth (got from_ xs) k)]) S w := by
  by_cases hf : from_ < 0
  · rw [got_neg hf]; exact each_neg hf hB1 hB2 S _
  · obtain ⟨f, rfl⟩ : ∃ f : Nat, from_ = (f : Int) := ⟨from_.toNat, by omega⟩
    rw [got_pos]
    exact each_pos hR hB1 hB2 hS hn1
end Go.Proofs.Ytdhhcjhinpmeeaa

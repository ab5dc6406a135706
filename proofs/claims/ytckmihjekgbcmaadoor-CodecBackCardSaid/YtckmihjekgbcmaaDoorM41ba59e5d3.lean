/- Lemmas that the chapter's laws rest on: CodeParse, CodeParses, CodePutEvs, CodeRefEvs, CodeBack, Facts7, CodecBackWalk, CodecBack. -/
import Derived.Test.YtckmihjekgbcmaaDoorM98ababc1ad
/- codec's parse, at the function values of ParseEvents and ParseEntries. -/
namespace Go.Proofs.YtckmihjekgbcmaaDoor
open Go.RowKit Go.WideShapes Go.ChangeShapes
set_option linter.unusedSimpArgs false
set_option linter.unusedVariables false

theorem t_run_call_8_2 {o : Oper} {a : Act} (x0 : Operand) (x1 : Operand) {ts : Array TypeId} (ho : o.op = .call { callee := .value (.func 8), args := #[x0, x1], argTypes := ts }) {v0 : Value} (h0 : a.eval x0 = v0) {v1 : Value} (h1 : a.eval x1 = v1) (W : World) : (execOp a.eval o).run Tryd.prog W = .ok (.enter 8 #[v0, v1]) W := by
  unfold execOp
  simp only [ho]
  subst h0 h1
  go_simp
theorem t_run_callc_35_1_1 {o : Oper} {a : Act} (x : Operand) (x0 : Operand) {ts : Array TypeId} (ho : o.op = .call { callee := .value x, args := #[x0], argTypes := ts }) {c0 : Value} (hx : a.eval x = .func (.func 35) #[] #[c0]) {v0 : Value} (h0 : a.eval x0 = v0) (W : World) : (execOp a.eval o).run Tryd.prog W = .ok (.enter 35 #[v0, c0]) W := by
  unfold execOp
  simp only [ho]
  subst h0
  generalize a.eval = ρ at *
  go_simp
theorem t_run_lit_67_1 {o : Oper} {a : Act} (x0 : Operand) (ho : o.op = .buildSlice 67 1 #[(0, x0)]) {m0 : Int} (h0 : a.eval x0 = (.int .i64 m0)) (W : World) : (execOp a.eval o).run Tryd.prog W = .ok (.value (.slice (some ⟨W.heap.size, 0, none⟩) 1 1)) (W.alloc (.cells #[(.int .i64 m0)] 3)) := by
  unfold execOp
  simp only [ho, List.map_toArray, List.map_cons, List.map_nil, h0]
  go_simp
theorem t_run_callc_36_1_1 {o : Oper} {a : Act} (x : Operand) (x0 : Operand) {ts : Array TypeId} (ho : o.op = .call { callee := .value x, args := #[x0], argTypes := ts }) {c0 : Value} (hx : a.eval x = .func (.func 36) #[] #[c0]) {v0 : Value} (h0 : a.eval x0 = v0) (W : World) : (execOp a.eval o).run Tryd.prog W = .ok (.enter 36 #[v0, c0]) W := by
  unfold execOp
  simp only [ho]
  subst h0
  generalize a.eval = ρ at *
  go_simp

attribute [local irreducible] Go.wpList Go.Code.wp
set_option maxRecDepth 100000 in
set_option maxHeartbeats 4000000 in
theorem parseEvent_at {w0 w : World} {g : Nat} {v : Value} {A : Option Addr} {l : List UInt8} {cap : Nat} (hcap : l.length ≤ cap) (hl : l.length ≤ 100000) (hr : Reads w0 A (eByte.all l)) (hB : Blk w g #[v] 39) (hO : OwnR w w0.heap.size 42 eEvt v []) (n0 : Off v g) (bel : Below w0.heap.size w0 w) (hlo : w0.heap.size ≤ g) : Calls Tryd.prog 34 #[.slice A l.length cap, .int .i64 5, .func (.func 35) #[] #[.pointer (some ⟨g, 0, none⟩)]] w fun e w' => ∃ u, e = .returned u ∧ u = .int .i64 (fvA l).2 ∧ ∃ v' ys, Blk w' g #[v'] 39 ∧ OwnR w' w0.heap.size 42 eEvt v' ys ∧ ((fvA l).2 = -1 → ys = (fvA l).1) ∧ Off v' g ∧ Below w0.heap.size w0 w' := by
  go_enter Tryd.func34, Tryd.ntmps34
  refine wp_seq ?_
  refine wp_region_lit ?_
  refine st_mv (.int .i64 0) ?_
  simp only [nf0, nf1, nf2, nf3, nf4]
  refine wpList_nil ?_
  show Code.wp _ _ _ _ _
  refine wp_seq ?_
  refine wp_region_lit ?_
  refine st_mv (.int .i64 0) ?_
  simp only [nf0, nf1, nf2, nf3, nf4]
  refine wpList_nil ?_
  show Code.wp _ _ _ _ _
  refine wp_seq ?_
  refine wp_block ?_
  refine wp_loop_left (fun n_ a_ wr_ => (fun J1 => ∃ (p : Nat) (f : Nat) (xs : List TEvt) (vv : Value), n_ = l.length - p ∧ a_ = ⟨#[.slice A l.length cap, .int .i64 5, .func (.func 35) #[] #[.pointer (some ⟨g, 0, none⟩)], J1 3, J1 4, J1 5, J1 6, .int .i64 (p : Int), J1 8, J1 9, J1 10, J1 11, J1 12, J1 13, J1 14, J1 15, J1 16, J1 17, J1 18, J1 19, J1 20, J1 21, J1 22, J1 23, J1 24, J1 25, J1 26, J1 27, J1 28, J1 29, J1 30, J1 31, J1 32, J1 33, J1 34, J1 35, J1 36, J1 37, J1 38, J1 39], []⟩ ∧ Blk wr_ g #[vv] 39 ∧ OwnR wr_ w0.heap.size 42 eEvt vv xs ∧ Off vv g ∧ Below w0.heap.size w0 wr_ ∧ (p ≤ l.length) ∧ (FR l f p xs)) (jk a_)) (l.length - 0) ⟨0, (l.length + 1), [], v, rfl, rfl, hB, hO, n0, bel, (Nat.zero_le _), (fr_start l)⟩ ?_
  clear hB
  clear hO
  clear n0
  clear bel
  intro n_ a_ w3 h_
  revert h_
  generalize jk a_ = J1
  rintro ⟨p, f, xs, vv, hms, rfl, hB, hO, n2, bel, hp, hR⟩
  have hn0 := ne_le l p
  have hn1 := ne_le l (ne l p)
  have hn2 := ne_le l (ne l (ne l p))
  have hn3 := ne_le l (ne l (ne l (ne l p)))
  have hn4 := ne_le l (ne l (ne l (ne l (ne l p))))
  refine wp_seq ?_
  refine wp_seq ?_
  refine wp_region_lit ?_
  refine st_mv (.int .i64 (p : Int)) ?_
  simp only [nf0, nf1, nf2, nf3, nf4]
  refine st_mv (.slice A l.length cap) ?_
  simp only [nf0, nf1, nf2, nf3, nf4]
  refine st_value (v := (.int .i64 (l.length : Int))) (by rfl) (run_len (.tmp 14) rfl ⟨_, Tryd.underlying22⟩ rfl w3) ?_
  simp only [nf0, nf1, nf2, nf3, nf4]
  refine st_value (v := (.bool (decide ((p : Int) < (l.length : Int))))) (by rfl) (run_lss (.tmp 13) (.tmp 15) rfl rfl rfl w3) ?_
  simp only [nf0, nf1, nf2, nf3, nf4]
  refine wpList_nil ?_
  show Code.wp _ _ _ _ _
  cases hg4 : decide ((p : Int) < (l.length : Int))
  · have hp5 := of_decide_eq_false hg4
    refine wp_cond_false rfl ?_
    refine wp_exit ?_
    show Code.wp _ _ _ _ _
    refine wp_seq ?_
    refine wp_region_lit ?_
    refine st_mv (.int .i64 (-1)) ?_
    simp only [nf0, nf1, nf2, nf3, nf4]
    refine wpList_nil ?_
    show Code.wp _ _ _ _ _
    refine wp_ret ?_
    first | show bodyPost _ _ _ _ _ _ | (simp only [Exit.then, Exit.inBlock]; show bodyPost _ _ _ _ _ _)
    obtain ⟨hE, hX⟩ := fr_end hR (by omega)
    subst hX
    exact bodyPost_ret (results_tmp rfl _ _ _) rfl ⟨_, rfl, by rw [hE]; rfl, _, _, hB, hO, fun _ => rfl, n2, bel⟩
  have hp6 := of_decide_eq_true hg4
  refine wp_cond_true rfl ?_
  refine wp_skip ?_
  show Code.wp _ _ _ _ _
  refine wp_block ?_
  refine wp_seq ?_
  refine wp_region_lit ?_
  refine st_mv (.int .i64 (p : Int)) ?_
  simp only [nf0, nf1, nf2, nf3, nf4]
  refine st_mv (.int .i64 (p : Int)) ?_
  simp only [nf0, nf1, nf2, nf3, nf4]
  refine wpList_nil ?_
  show Code.wp _ _ _ _ _
  refine wp_seq ?_
  refine wp_region_lit ?_
  have O7 : OwnR w3 w0.heap.size 3 (eInt .i64) (.slice none 0 0) [] := OwnR.nil _ _ _ _
  have n9 := Off.nil g
  have n10 : Off2 (.slice none 0 0) vv := Off2.nil _
  refine st_mv (.slice none 0 0) ?_
  simp only [nf0, nf1, nf2, nf3, nf4]
  refine wpList_nil ?_
  show Code.wp _ _ _ _ _
  refine wp_seq ?_
  refine wp_seq ?_
  refine wp_region_lit ?_
  refine st_mv (.int .i64 5) ?_
  simp only [nf0, nf1, nf2, nf3, nf4]
  refine st_mv (.int .i64 0) ?_
  simp only [nf0, nf1, nf2, nf3, nf4]
  refine wpList_nil ?_
  show Code.wp _ _ _ _ _
  refine wp_block ?_
  refine wp_loop_rnds 5 ?_
  show Code.wp _ _ _ _ _
  refine wp_seq ?_
  refine wp_region_lit ?_
  refine st_value (v := (.bool true)) (by rfl) ((run_lss (.tmp 19) (.tmp 18) rfl rfl rfl w3).trans (by rw [decide_eq_true (by omega)])) ?_
  simp only [nf0, nf1, nf2, nf3, nf4]
  refine wpList_nil ?_
  show Code.wp _ _ _ _ _
  refine wp_seq ?_
  refine wp_cond_true rfl ?_
  refine wp_skip ?_
  show Code.wp _ _ _ _ _
  refine wp_seq ?_
  refine wp_block ?_
  refine wp_seq ?_
  refine wp_region_lit ?_
  refine st_mv (.slice A l.length cap) ?_
  simp only [nf0, nf1, nf2, nf3, nf4]
  refine st_mv (.int .i64 (p : Int)) ?_
  simp only [nf0, nf1, nf2, nf3, nf4]
  refine st_call1 (v := (.tuple #[.int .i64 (nv l p), .int .i64 ((ne l p : Nat) : Int), .bool (nk l p)])) (by rfl) (t_run_call_8_2 (.tmp 22) (.tmp 23) rfl rfl rfl _) (getInt_tot A l cap p hcap (by omega) (by omega) w3 (hr.same bel)) ?_
  intro w11 hb12
  simp only [nf0, nf1, nf2, nf3, nf4]
  replace hB := hB.below hb12
  replace hO := hO.same hb12
  replace O7 := O7.same hb12
  replace bel := bl_step bel hb12
  clear hb12
  refine st_mv (.tuple #[.int .i64 (nv l p), .int .i64 ((ne l p : Nat) : Int), .bool (nk l p)]) ?_
  simp only [nf0, nf1, nf2, nf3, nf4]
  refine st_mv (.int .i64 (nv l p)) ?_
  simp only [nf0, nf1, nf2, nf3, nf4]
  refine st_mv (.int .i64 ((ne l p : Nat) : Int)) ?_
  simp only [nf0, nf1, nf2, nf3, nf4]
  refine st_mv (.bool (nk l p)) ?_
  simp only [nf0, nf1, nf2, nf3, nf4]
  refine st_mv (.int .i64 (nv l p)) ?_
  simp only [nf0, nf1, nf2, nf3, nf4]
  refine st_mv (.int .i64 ((ne l p : Nat) : Int)) ?_
  simp only [nf0, nf1, nf2, nf3, nf4]
  refine st_mv (.bool (nk l p)) ?_
  simp only [nf0, nf1, nf2, nf3, nf4]
  refine wpList_nil ?_
  show Code.wp _ _ _ _ _
  refine wp_seq ?_
  refine wp_seq ?_
  refine wp_region_lit ?_
  refine st_mv (.bool (nk l p)) ?_
  simp only [nf0, nf1, nf2, nf3, nf4]
  refine st_value (v := (.bool (!(nk l p)))) (by rfl) (run_not (.tmp 28) rfl (b := nk l p) rfl w11) ?_
  simp only [nf0, nf1, nf2, nf3, nf4]
  refine wpList_nil ?_
  show Code.wp _ _ _ _ _
  cases hg13 : nk l p
  · have hp14 := trivial
    refine wp_cond_true rfl ?_
    refine wp_seq ?_
    refine wp_region_lit ?_
    refine st_mv (.int .i64 (p : Int)) ?_
    simp only [nf0, nf1, nf2, nf3, nf4]
    refine st_mv (.int .i64 (p : Int)) ?_
    simp only [nf0, nf1, nf2, nf3, nf4]
    refine wpList_nil ?_
    show Code.wp _ _ _ _ _
    refine wp_ret ?_
    first | show bodyPost _ _ _ _ _ _ | (simp only [Exit.then, Exit.inBlock]; show bodyPost _ _ _ _ _ _)
    have hE := fr_bad hR (by omega) (fun h => by have h_ := h.1; rw [hg13] at h_; cases h_)
    exact bodyPost_ret (results_tmp rfl _ _ _) rfl ⟨_, rfl, by rw [hE]; rfl, _, _, hB, hO, fun h => by rw [hE] at h; omega, n2, bel⟩
  have hp15 := trivial
  refine wp_cond_false rfl ?_
  refine wp_skip ?_
  show Code.wp _ _ _ _ _
  refine wp_seq ?_
  refine wp_region_lit ?_
  refine st_mv (.slice none 0 0) ?_
  simp only [nf0, nf1, nf2, nf3, nf4]
  refine st_mv (.int .i64 (nv l p)) ?_
  simp only [nf0, nf1, nf2, nf3, nf4]
  refine st_lit (by rfl) (t_run_lit_67_1 (.tmp 32) rfl rfl _) ?_
  intro g16 w17 B18 hb19 lo20
  simp only [nf0, nf1, nf2, nf3, nf4]
  have n21 := hB.ne lo20
  have n22 := hO.off lo20
  have n23 := O7.off lo20
  replace lo20 := low_le bel lo20
  replace hB := hB.below hb19
  replace hO := hO.same hb19
  replace O7 := O7.same hb19
  replace bel := bl_step bel hb19
  clear hb19
  refine st_append slInt rfl (.tmp 31) (.tmp 33) rfl rfl O7 ([(nv l p)] : List Int) rfl rfl B18 (by simp [Enc.all, eInt]) (by simp) bel.size ?_
  intro v24 w25 O26 hg27 hat28
  simp only [nf0, nf1, nf2, nf3, nf4]
  have n29 := (n9 : Off _ _).app hB hat28
  replace hB := hB.keptR hg27 n9
  have n30 := Off2.app n10 hO hat28
  replace hO := hO.keptR hg27 n10.symm
  replace bel := bl_app bel O7 hg27
  clear O7 hg27 hat28
  replace O26 : OwnR w25 w0.heap.size 3 (eInt .i64) v24 ([(nv l p)] : List Int) := by rw [List.nil_append] at O26; exact O26
  refine st_mv v24 ?_
  simp only [nf0, nf1, nf2, nf3, nf4]
  refine wpList_nil ?_
  show Code.wp _ _ _ _ _
  refine wp_region_lit ?_
  refine st_mv (.int .i64 ((ne l p : Nat) : Int)) ?_
  simp only [nf0, nf1, nf2, nf3, nf4]
  refine st_mv (.int .i64 ((ne l p : Nat) : Int)) ?_
  simp only [nf0, nf1, nf2, nf3, nf4]
  refine wpList_nil ?_
  show Code.wp _ _ _ _ _
  refine wp_region_lit ?_
  refine st_value (v := (.int .i64 1)) (by rfl) (run_add_in (m := 0) (n := 1) (.tmp 19) (.const (.int .i64 1)) rfl rfl rfl (by omega) w25) ?_
  simp only [nf0, nf1, nf2, nf3, nf4]
  refine st_mv (.int .i64 1) ?_
  simp only [nf0, nf1, nf2, nf3, nf4]
  refine wpList_nil ?_
  show Code.wp _ _ _ _ _
  refine wp_seq ?_
  refine wp_region_lit ?_
  refine st_value (v := (.bool true)) (by rfl) ((run_lss (.tmp 19) (.tmp 18) rfl rfl rfl w25).trans (by rw [decide_eq_true (by omega)])) ?_
  simp only [nf0, nf1, nf2, nf3, nf4]
  refine wpList_nil ?_
  show Code.wp _ _ _ _ _
  refine wp_seq ?_
  refine wp_cond_true rfl ?_
  refine wp_skip ?_
  show Code.wp _ _ _ _ _
  refine wp_seq ?_
  refine wp_block ?_
  refine wp_seq ?_
  refine wp_region_lit ?_
  refine st_mv (.slice A l.length cap) ?_
  simp only [nf0, nf1, nf2, nf3, nf4]
  refine st_mv (.int .i64 ((ne l p : Nat) : Int)) ?_
  simp only [nf0, nf1, nf2, nf3, nf4]
  refine st_call1 (v := (.tuple #[.int .i64 (nv l (ne l p)), .int .i64 ((ne l (ne l p) : Nat) : Int), .bool (nk l (ne l p))])) (by rfl) (t_run_call_8_2 (.tmp 22) (.tmp 23) rfl rfl rfl _) (getInt_tot A l cap (ne l p) hcap (by omega) (by omega) w25 (hr.same bel)) ?_
  intro w31 hb32
  simp only [nf0, nf1, nf2, nf3, nf4]
  replace hB := hB.below hb32
  replace hO := hO.same hb32
  replace O26 := O26.same hb32
  replace bel := bl_step bel hb32
  clear hb32
  refine st_mv (.tuple #[.int .i64 (nv l (ne l p)), .int .i64 ((ne l (ne l p) : Nat) : Int), .bool (nk l (ne l p))]) ?_
  simp only [nf0, nf1, nf2, nf3, nf4]
  refine st_mv (.int .i64 (nv l (ne l p))) ?_
  simp only [nf0, nf1, nf2, nf3, nf4]
  refine st_mv (.int .i64 ((ne l (ne l p) : Nat) : Int)) ?_
  simp only [nf0, nf1, nf2, nf3, nf4]
  refine st_mv (.bool (nk l (ne l p))) ?_
  simp only [nf0, nf1, nf2, nf3, nf4]
  refine st_mv (.int .i64 (nv l (ne l p))) ?_
  simp only [nf0, nf1, nf2, nf3, nf4]
  refine st_mv (.int .i64 ((ne l (ne l p) : Nat) : Int)) ?_
  simp only [nf0, nf1, nf2, nf3, nf4]
  refine st_mv (.bool (nk l (ne l p))) ?_
  simp only [nf0, nf1, nf2, nf3, nf4]
  refine wpList_nil ?_
  show Code.wp _ _ _ _ _
  refine wp_seq ?_
  refine wp_seq ?_
  refine wp_region_lit ?_
  refine st_mv (.bool (nk l (ne l p))) ?_
  simp only [nf0, nf1, nf2, nf3, nf4]
  refine st_value (v := (.bool (!(nk l (ne l p))))) (by rfl) (run_not (.tmp 28) rfl (b := nk l (ne l p)) rfl w31) ?_
  simp only [nf0, nf1, nf2, nf3, nf4]
  refine wpList_nil ?_
  show Code.wp _ _ _ _ _
  cases hg33 : nk l (ne l p)
  · have hp34 := trivial
    refine wp_cond_true rfl ?_
    refine wp_seq ?_
    refine wp_region_lit ?_
    refine st_mv (.int .i64 (p : Int)) ?_
    simp only [nf0, nf1, nf2, nf3, nf4]
    refine st_mv (.int .i64 (p : Int)) ?_
    simp only [nf0, nf1, nf2, nf3, nf4]
    refine wpList_nil ?_
    show Code.wp _ _ _ _ _
    refine wp_ret ?_
    first | show bodyPost _ _ _ _ _ _ | (simp only [Exit.then, Exit.inBlock]; show bodyPost _ _ _ _ _ _)
    have hE := fr_bad hR (by omega) (fun h => by have h_ := h.2.1; rw [hg33] at h_; cases h_)
    exact bodyPost_ret (results_tmp rfl _ _ _) rfl ⟨_, rfl, by rw [hE]; rfl, _, _, hB, hO, fun h => by rw [hE] at h; omega, n2, bel⟩
  have hp35 := trivial
  refine wp_cond_false rfl ?_
  refine wp_skip ?_
  show Code.wp _ _ _ _ _
  refine wp_seq ?_
  refine wp_region_lit ?_
  refine st_mv v24 ?_
  simp only [nf0, nf1, nf2, nf3, nf4]
  refine st_mv (.int .i64 (nv l (ne l p))) ?_
  simp only [nf0, nf1, nf2, nf3, nf4]
  refine st_lit (by rfl) (t_run_lit_67_1 (.tmp 32) rfl rfl _) ?_
  intro g36 w37 B38 hb39 lo40
  simp only [nf0, nf1, nf2, nf3, nf4]
  have n41 := hB.ne lo40
  have n42 := hO.off lo40
  have n43 := O26.off lo40
  replace lo40 := low_le bel lo40
  replace hB := hB.below hb39
  replace hO := hO.same hb39
  replace O26 := O26.same hb39
  replace bel := bl_step bel hb39
  clear hb39
  refine st_append slInt rfl (.tmp 31) (.tmp 33) rfl rfl O26 ([(nv l (ne l p))] : List Int) rfl rfl B38 (by simp [Enc.all, eInt]) (by simp) bel.size ?_
  intro v44 w45 O46 hg47 hat48
  simp only [nf0, nf1, nf2, nf3, nf4]
  have n49 := (n29 : Off _ _).app hB hat48
  replace hB := hB.keptR hg47 n29
  have n50 := Off2.app n30 hO hat48
  replace hO := hO.keptR hg47 n30.symm
  replace bel := bl_app bel O26 hg47
  clear O26 hg47 hat48
  refine st_mv v44 ?_
  simp only [nf0, nf1, nf2, nf3, nf4]
  refine wpList_nil ?_
  show Code.wp _ _ _ _ _
  refine wp_region_lit ?_
  refine st_mv (.int .i64 ((ne l (ne l p) : Nat) : Int)) ?_
  simp only [nf0, nf1, nf2, nf3, nf4]
  refine st_mv (.int .i64 ((ne l (ne l p) : Nat) : Int)) ?_
  simp only [nf0, nf1, nf2, nf3, nf4]
  refine wpList_nil ?_
  show Code.wp _ _ _ _ _
  refine wp_region_lit ?_
  refine st_value (v := (.int .i64 2)) (by rfl) (run_add_in (m := 1) (n := 1) (.tmp 19) (.const (.int .i64 1)) rfl rfl rfl (by omega) w45) ?_
  simp only [nf0, nf1, nf2, nf3, nf4]
  refine st_mv (.int .i64 2) ?_
  simp only [nf0, nf1, nf2, nf3, nf4]
  refine wpList_nil ?_
  show Code.wp _ _ _ _ _
  refine wp_seq ?_
  refine wp_region_lit ?_
  refine st_value (v := (.bool true)) (by rfl) ((run_lss (.tmp 19) (.tmp 18) rfl rfl rfl w45).trans (by rw [decide_eq_true (by omega)])) ?_
  simp only [nf0, nf1, nf2, nf3, nf4]
  refine wpList_nil ?_
  show Code.wp _ _ _ _ _
  refine wp_seq ?_
  refine wp_cond_true rfl ?_
  refine wp_skip ?_
  show Code.wp _ _ _ _ _
  refine wp_seq ?_
  refine wp_block ?_
  refine wp_seq ?_
  refine wp_region_lit ?_
  refine st_mv (.slice A l.length cap) ?_
  simp only [nf0, nf1, nf2, nf3, nf4]
  refine st_mv (.int .i64 ((ne l (ne l p) : Nat) : Int)) ?_
  simp only [nf0, nf1, nf2, nf3, nf4]
  refine st_call1 (v := (.tuple #[.int .i64 (nv l (ne l (ne l p))), .int .i64 ((ne l (ne l (ne l p)) : Nat) : Int), .bool (nk l (ne l (ne l p)))])) (by rfl) (t_run_call_8_2 (.tmp 22) (.tmp 23) rfl rfl rfl _) (getInt_tot A l cap (ne l (ne l p)) hcap (by omega) (by omega) w45 (hr.same bel)) ?_
  intro w51 hb52
  simp only [nf0, nf1, nf2, nf3, nf4]
  replace hB := hB.below hb52
  replace hO := hO.same hb52
  replace O46 := O46.same hb52
  replace bel := bl_step bel hb52
  clear hb52
  refine st_mv (.tuple #[.int .i64 (nv l (ne l (ne l p))), .int .i64 ((ne l (ne l (ne l p)) : Nat) : Int), .bool (nk l (ne l (ne l p)))]) ?_
  simp only [nf0, nf1, nf2, nf3, nf4]
  refine st_mv (.int .i64 (nv l (ne l (ne l p)))) ?_
  simp only [nf0, nf1, nf2, nf3, nf4]
  refine st_mv (.int .i64 ((ne l (ne l (ne l p)) : Nat) : Int)) ?_
  simp only [nf0, nf1, nf2, nf3, nf4]
  refine st_mv (.bool (nk l (ne l (ne l p)))) ?_
  simp only [nf0, nf1, nf2, nf3, nf4]
  refine st_mv (.int .i64 (nv l (ne l (ne l p)))) ?_
  simp only [nf0, nf1, nf2, nf3, nf4]
  refine st_mv (.int .i64 ((ne l (ne l (ne l p)) : Nat) : Int)) ?_
  simp only [nf0, nf1, nf2, nf3, nf4]
  refine st_mv (.bool (nk l (ne l (ne l p)))) ?_
  simp only [nf0, nf1, nf2, nf3, nf4]
  refine wpList_nil ?_
  show Code.wp _ _ _ _ _
  refine wp_seq ?_
  refine wp_seq ?_
  refine wp_region_lit ?_
  refine st_mv (.bool (nk l (ne l (ne l p)))) ?_
  simp only [nf0, nf1, nf2, nf3, nf4]
  refine st_value (v := (.bool (!(nk l (ne l (ne l p)))))) (by rfl) (run_not (.tmp 28) rfl (b := nk l (ne l (ne l p))) rfl w51) ?_
  simp only [nf0, nf1, nf2, nf3, nf4]
  refine wpList_nil ?_
  show Code.wp _ _ _ _ _
  cases hg53 : nk l (ne l (ne l p))
  · have hp54 := trivial
    refine wp_cond_true rfl ?_
    refine wp_seq ?_
    refine wp_region_lit ?_
    refine st_mv (.int .i64 (p : Int)) ?_
    simp only [nf0, nf1, nf2, nf3, nf4]
    refine st_mv (.int .i64 (p : Int)) ?_
    simp only [nf0, nf1, nf2, nf3, nf4]
    refine wpList_nil ?_
    show Code.wp _ _ _ _ _
    refine wp_ret ?_
    first | show bodyPost _ _ _ _ _ _ | (simp only [Exit.then, Exit.inBlock]; show bodyPost _ _ _ _ _ _)
    have hE := fr_bad hR (by omega) (fun h => by have h_ := h.2.2.1; rw [hg53] at h_; cases h_)
    exact bodyPost_ret (results_tmp rfl _ _ _) rfl ⟨_, rfl, by rw [hE]; rfl, _, _, hB, hO, fun h => by rw [hE] at h; omega, n2, bel⟩
  have hp55 := trivial
  refine wp_cond_false rfl ?_
  refine wp_skip ?_
  show Code.wp _ _ _ _ _
  refine wp_seq ?_
  refine wp_region_lit ?_
  refine st_mv v44 ?_
  simp only [nf0, nf1, nf2, nf3, nf4]
  refine st_mv (.int .i64 (nv l (ne l (ne l p)))) ?_
  simp only [nf0, nf1, nf2, nf3, nf4]
  refine st_lit (by rfl) (t_run_lit_67_1 (.tmp 32) rfl rfl _) ?_
  intro g56 w57 B58 hb59 lo60
  simp only [nf0, nf1, nf2, nf3, nf4]
  have n61 := hB.ne lo60
  have n62 := hO.off lo60
  have n63 := O46.off lo60
  replace lo60 := low_le bel lo60
  replace hB := hB.below hb59
  replace hO := hO.same hb59
  replace O46 := O46.same hb59
  replace bel := bl_step bel hb59
  clear hb59
  refine st_append slInt rfl (.tmp 31) (.tmp 33) rfl rfl O46 ([(nv l (ne l (ne l p)))] : List Int) rfl rfl B58 (by simp [Enc.all, eInt]) (by simp) bel.size ?_
  intro v64 w65 O66 hg67 hat68
  simp only [nf0, nf1, nf2, nf3, nf4]
  have n69 := (n49 : Off _ _).app hB hat68
  replace hB := hB.keptR hg67 n49
  have n70 := Off2.app n50 hO hat68
  replace hO := hO.keptR hg67 n50.symm
  replace bel := bl_app bel O46 hg67
  clear O46 hg67 hat68
  refine st_mv v64 ?_
  simp only [nf0, nf1, nf2, nf3, nf4]
  refine wpList_nil ?_
  show Code.wp _ _ _ _ _
  refine wp_region_lit ?_
  refine st_mv (.int .i64 ((ne l (ne l (ne l p)) : Nat) : Int)) ?_
  simp only [nf0, nf1, nf2, nf3, nf4]
  refine st_mv (.int .i64 ((ne l (ne l (ne l p)) : Nat) : Int)) ?_
  simp only [nf0, nf1, nf2, nf3, nf4]
  refine wpList_nil ?_
  show Code.wp _ _ _ _ _
  refine wp_region_lit ?_
  refine st_value (v := (.int .i64 3)) (by rfl) (run_add_in (m := 2) (n := 1) (.tmp 19) (.const (.int .i64 1)) rfl rfl rfl (by omega) w65) ?_
  simp only [nf0, nf1, nf2, nf3, nf4]
  refine st_mv (.int .i64 3) ?_
  simp only [nf0, nf1, nf2, nf3, nf4]
  refine wpList_nil ?_
  show Code.wp _ _ _ _ _
  refine wp_seq ?_
  refine wp_region_lit ?_
  refine st_value (v := (.bool true)) (by rfl) ((run_lss (.tmp 19) (.tmp 18) rfl rfl rfl w65).trans (by rw [decide_eq_true (by omega)])) ?_
  simp only [nf0, nf1, nf2, nf3, nf4]
  refine wpList_nil ?_
  show Code.wp _ _ _ _ _
  refine wp_seq ?_
  refine wp_cond_true rfl ?_
  refine wp_skip ?_
  show Code.wp _ _ _ _ _
  refine wp_seq ?_
  refine wp_block ?_
  refine wp_seq ?_
  refine wp_region_lit ?_
  refine st_mv (.slice A l.length cap) ?_
  simp only [nf0, nf1, nf2, nf3, nf4]
  refine st_mv (.int .i64 ((ne l (ne l (ne l p)) : Nat) : Int)) ?_
  simp only [nf0, nf1, nf2, nf3, nf4]
  refine st_call1 (v := (.tuple #[.int .i64 (nv l (ne l (ne l (ne l p)))), .int .i64 ((ne l (ne l (ne l (ne l p))) : Nat) : Int), .bool (nk l (ne l (ne l (ne l p))))])) (by rfl) (t_run_call_8_2 (.tmp 22) (.tmp 23) rfl rfl rfl _) (getInt_tot A l cap (ne l (ne l (ne l p))) hcap (by omega) (by omega) w65 (hr.same bel)) ?_
  intro w71 hb72
  simp only [nf0, nf1, nf2, nf3, nf4]
  replace hB := hB.below hb72
  replace hO := hO.same hb72
  replace O66 := O66.same hb72
  replace bel := bl_step bel hb72
  clear hb72
  refine st_mv (.tuple #[.int .i64 (nv l (ne l (ne l (ne l p)))), .int .i64 ((ne l (ne l (ne l (ne l p))) : Nat) : Int), .bool (nk l (ne l (ne l (ne l p))))]) ?_
  simp only [nf0, nf1, nf2, nf3, nf4]
  refine st_mv (.int .i64 (nv l (ne l (ne l (ne l p))))) ?_
  simp only [nf0, nf1, nf2, nf3, nf4]
  refine st_mv (.int .i64 ((ne l (ne l (ne l (ne l p))) : Nat) : Int)) ?_
  simp only [nf0, nf1, nf2, nf3, nf4]
  refine st_mv (.bool (nk l (ne l (ne l (ne l p))))) ?_
  simp only [nf0, nf1, nf2, nf3, nf4]
  refine st_mv (.int .i64 (nv l (ne l (ne l (ne l p))))) ?_
  simp only [nf0, nf1, nf2, nf3, nf4]
  refine st_mv (.int .i64 ((ne l (ne l (ne l (ne l p))) : Nat) : Int)) ?_
  simp only [nf0, nf1, nf2, nf3, nf4]
  refine st_mv (.bool (nk l (ne l (ne l (ne l p))))) ?_
  simp only [nf0, nf1, nf2, nf3, nf4]
  refine wpList_nil ?_
  show Code.wp _ _ _ _ _
  refine wp_seq ?_
  refine wp_seq ?_
  refine wp_region_lit ?_
  refine st_mv (.bool (nk l (ne l (ne l (ne l p))))) ?_
  simp only [nf0, nf1, nf2, nf3, nf4]
  refine st_value (v := (.bool (!(nk l (ne l (ne l (ne l p))))))) (by rfl) (run_not (.tmp 28) rfl (b := nk l (ne l (ne l (ne l p)))) rfl w71) ?_
  simp only [nf0, nf1, nf2, nf3, nf4]
  refine wpList_nil ?_
  show Code.wp _ _ _ _ _
  cases hg73 : nk l (ne l (ne l (ne l p)))
  · have hp74 := trivial
    refine wp_cond_true rfl ?_
    refine wp_seq ?_
    refine wp_region_lit ?_
    refine st_mv (.int .i64 (p : Int)) ?_
    simp only [nf0, nf1, nf2, nf3, nf4]
    refine st_mv (.int .i64 (p : Int)) ?_
    simp only [nf0, nf1, nf2, nf3, nf4]
    refine wpList_nil ?_
    show Code.wp _ _ _ _ _
    refine wp_ret ?_
    first | show bodyPost _ _ _ _ _ _ | (simp only [Exit.then, Exit.inBlock]; show bodyPost _ _ _ _ _ _)
    have hE := fr_bad hR (by omega) (fun h => by have h_ := h.2.2.2.1; rw [hg73] at h_; cases h_)
    exact bodyPost_ret (results_tmp rfl _ _ _) rfl ⟨_, rfl, by rw [hE]; rfl, _, _, hB, hO, fun h => by rw [hE] at h; omega, n2, bel⟩
  have hp75 := trivial
  refine wp_cond_false rfl ?_
  refine wp_skip ?_
  show Code.wp _ _ _ _ _
  refine wp_seq ?_
  refine wp_region_lit ?_
  refine st_mv v64 ?_
  simp only [nf0, nf1, nf2, nf3, nf4]
  refine st_mv (.int .i64 (nv l (ne l (ne l (ne l p))))) ?_
  simp only [nf0, nf1, nf2, nf3, nf4]
  refine st_lit (by rfl) (t_run_lit_67_1 (.tmp 32) rfl rfl _) ?_
  intro g76 w77 B78 hb79 lo80
  simp only [nf0, nf1, nf2, nf3, nf4]
  have n81 := hB.ne lo80
  have n82 := hO.off lo80
  have n83 := O66.off lo80
  replace lo80 := low_le bel lo80
  replace hB := hB.below hb79
  replace hO := hO.same hb79
  replace O66 := O66.same hb79
  replace bel := bl_step bel hb79
  clear hb79
  refine st_append slInt rfl (.tmp 31) (.tmp 33) rfl rfl O66 ([(nv l (ne l (ne l (ne l p))))] : List Int) rfl rfl B78 (by simp [Enc.all, eInt]) (by simp) bel.size ?_
  intro v84 w85 O86 hg87 hat88
  simp only [nf0, nf1, nf2, nf3, nf4]
  have n89 := (n69 : Off _ _).app hB hat88
  replace hB := hB.keptR hg87 n69
  have n90 := Off2.app n70 hO hat88
  replace hO := hO.keptR hg87 n70.symm
  replace bel := bl_app bel O66 hg87
  clear O66 hg87 hat88
  refine st_mv v84 ?_
  simp only [nf0, nf1, nf2, nf3, nf4]
  refine wpList_nil ?_
  show Code.wp _ _ _ _ _
  refine wp_region_lit ?_
  refine st_mv (.int .i64 ((ne l (ne l (ne l (ne l p))) : Nat) : Int)) ?_
  simp only [nf0, nf1, nf2, nf3, nf4]
  refine st_mv (.int .i64 ((ne l (ne l (ne l (ne l p))) : Nat) : Int)) ?_
  simp only [nf0, nf1, nf2, nf3, nf4]
  refine wpList_nil ?_
  show Code.wp _ _ _ _ _
  refine wp_region_lit ?_
  refine st_value (v := (.int .i64 4)) (by rfl) (run_add_in (m := 3) (n := 1) (.tmp 19) (.const (.int .i64 1)) rfl rfl rfl (by omega) w85) ?_
  simp only [nf0, nf1, nf2, nf3, nf4]
  refine st_mv (.int .i64 4) ?_
  simp only [nf0, nf1, nf2, nf3, nf4]
  refine wpList_nil ?_
  show Code.wp _ _ _ _ _
  refine wp_seq ?_
  refine wp_region_lit ?_
  refine st_value (v := (.bool true)) (by rfl) ((run_lss (.tmp 19) (.tmp 18) rfl rfl rfl w85).trans (by rw [decide_eq_true (by omega)])) ?_
  simp only [nf0, nf1, nf2, nf3, nf4]
  refine wpList_nil ?_
  show Code.wp _ _ _ _ _
  refine wp_seq ?_
  refine wp_cond_true rfl ?_
  refine wp_skip ?_
  show Code.wp _ _ _ _ _
  refine wp_seq ?_
  refine wp_block ?_
  refine wp_seq ?_
  refine wp_region_lit ?_
  refine st_mv (.slice A l.length cap) ?_
  simp only [nf0, nf1, nf2, nf3, nf4]
  refine st_mv (.int .i64 ((ne l (ne l (ne l (ne l p))) : Nat) : Int)) ?_
  simp only [nf0, nf1, nf2, nf3, nf4]
  refine st_call1 (v := (.tuple #[.int .i64 (nv l (ne l (ne l (ne l (ne l p))))), .int .i64 ((ne l (ne l (ne l (ne l (ne l p)))) : Nat) : Int), .bool (nk l (ne l (ne l (ne l (ne l p)))))])) (by rfl) (t_run_call_8_2 (.tmp 22) (.tmp 23) rfl rfl rfl _) (getInt_tot A l cap (ne l (ne l (ne l (ne l p)))) hcap (by omega) (by omega) w85 (hr.same bel)) ?_
  intro w91 hb92
  simp only [nf0, nf1, nf2, nf3, nf4]
  replace hB := hB.below hb92
  replace hO := hO.same hb92
  replace O86 := O86.same hb92
  replace bel := bl_step bel hb92
  clear hb92
  refine st_mv (.tuple #[.int .i64 (nv l (ne l (ne l (ne l (ne l p))))), .int .i64 ((ne l (ne l (ne l (ne l (ne l p)))) : Nat) : Int), .bool (nk l (ne l (ne l (ne l (ne l p)))))]) ?_
  simp only [nf0, nf1, nf2, nf3, nf4]
  refine st_mv (.int .i64 (nv l (ne l (ne l (ne l (ne l p)))))) ?_
  simp only [nf0, nf1, nf2, nf3, nf4]
  refine st_mv (.int .i64 ((ne l (ne l (ne l (ne l (ne l p)))) : Nat) : Int)) ?_
  simp only [nf0, nf1, nf2, nf3, nf4]
  refine st_mv (.bool (nk l (ne l (ne l (ne l (ne l p)))))) ?_
  simp only [nf0, nf1, nf2, nf3, nf4]
  refine st_mv (.int .i64 (nv l (ne l (ne l (ne l (ne l p)))))) ?_
  simp only [nf0, nf1, nf2, nf3, nf4]
  refine st_mv (.int .i64 ((ne l (ne l (ne l (ne l (ne l p)))) : Nat) : Int)) ?_
  simp only [nf0, nf1, nf2, nf3, nf4]
  refine st_mv (.bool (nk l (ne l (ne l (ne l (ne l p)))))) ?_
  simp only [nf0, nf1, nf2, nf3, nf4]
  refine wpList_nil ?_
  show Code.wp _ _ _ _ _
  refine wp_seq ?_
  refine wp_seq ?_
  refine wp_region_lit ?_
  refine st_mv (.bool (nk l (ne l (ne l (ne l (ne l p)))))) ?_
  simp only [nf0, nf1, nf2, nf3, nf4]
  refine st_value (v := (.bool (!(nk l (ne l (ne l (ne l (ne l p)))))))) (by rfl) (run_not (.tmp 28) rfl (b := nk l (ne l (ne l (ne l (ne l p))))) rfl w91) ?_
  simp only [nf0, nf1, nf2, nf3, nf4]
  refine wpList_nil ?_
  show Code.wp _ _ _ _ _
  cases hg93 : nk l (ne l (ne l (ne l (ne l p))))
  · have hp94 := trivial
    refine wp_cond_true rfl ?_
    refine wp_seq ?_
    refine wp_region_lit ?_
    refine st_mv (.int .i64 (p : Int)) ?_
    simp only [nf0, nf1, nf2, nf3, nf4]
    refine st_mv (.int .i64 (p : Int)) ?_
    simp only [nf0, nf1, nf2, nf3, nf4]
    refine wpList_nil ?_
    show Code.wp _ _ _ _ _
    refine wp_ret ?_
    first | show bodyPost _ _ _ _ _ _ | (simp only [Exit.then, Exit.inBlock]; show bodyPost _ _ _ _ _ _)
    have hE := fr_bad hR (by omega) (fun h => by have h_ := h.2.2.2.2; rw [hg93] at h_; cases h_)
    exact bodyPost_ret (results_tmp rfl _ _ _) rfl ⟨_, rfl, by rw [hE]; rfl, _, _, hB, hO, fun h => by rw [hE] at h; omega, n2, bel⟩
  have hp95 := trivial
  refine wp_cond_false rfl ?_
  refine wp_skip ?_
  show Code.wp _ _ _ _ _
  refine wp_seq ?_
  refine wp_region_lit ?_
  refine st_mv v84 ?_
  simp only [nf0, nf1, nf2, nf3, nf4]
  refine st_mv (.int .i64 (nv l (ne l (ne l (ne l (ne l p)))))) ?_
  simp only [nf0, nf1, nf2, nf3, nf4]
  refine st_lit (by rfl) (t_run_lit_67_1 (.tmp 32) rfl rfl _) ?_
  intro g96 w97 B98 hb99 lo100
  simp only [nf0, nf1, nf2, nf3, nf4]
  have n101 := hB.ne lo100
  have n102 := hO.off lo100
  have n103 := O86.off lo100
  replace lo100 := low_le bel lo100
  replace hB := hB.below hb99
  replace hO := hO.same hb99
  replace O86 := O86.same hb99
  replace bel := bl_step bel hb99
  clear hb99
  refine st_append slInt rfl (.tmp 31) (.tmp 33) rfl rfl O86 ([(nv l (ne l (ne l (ne l (ne l p)))))] : List Int) rfl rfl B98 (by simp [Enc.all, eInt]) (by simp) bel.size ?_
  intro v104 w105 O106 hg107 hat108
  simp only [nf0, nf1, nf2, nf3, nf4]
  have n109 := (n89 : Off _ _).app hB hat108
  replace hB := hB.keptR hg107 n89
  have n110 := Off2.app n90 hO hat108
  replace hO := hO.keptR hg107 n90.symm
  replace bel := bl_app bel O86 hg107
  clear O86 hg107 hat108
  refine st_mv v104 ?_
  simp only [nf0, nf1, nf2, nf3, nf4]
  refine wpList_nil ?_
  show Code.wp _ _ _ _ _
  refine wp_region_lit ?_
  refine st_mv (.int .i64 ((ne l (ne l (ne l (ne l (ne l p)))) : Nat) : Int)) ?_
  simp only [nf0, nf1, nf2, nf3, nf4]
  refine st_mv (.int .i64 ((ne l (ne l (ne l (ne l (ne l p)))) : Nat) : Int)) ?_
  simp only [nf0, nf1, nf2, nf3, nf4]
  refine wpList_nil ?_
  show Code.wp _ _ _ _ _
  refine wp_region_lit ?_
  refine st_value (v := (.int .i64 5)) (by rfl) (run_add_in (m := 4) (n := 1) (.tmp 19) (.const (.int .i64 1)) rfl rfl rfl (by omega) w105) ?_
  simp only [nf0, nf1, nf2, nf3, nf4]
  refine st_mv (.int .i64 5) ?_
  simp only [nf0, nf1, nf2, nf3, nf4]
  refine wpList_nil ?_
  show Code.wp _ _ _ _ _
  refine wp_seq ?_
  refine wp_region_lit ?_
  refine st_value (v := (.bool false)) (by rfl) ((run_lss (.tmp 19) (.tmp 18) rfl rfl rfl w105).trans (by rw [decide_eq_false (by omega)])) ?_
  simp only [nf0, nf1, nf2, nf3, nf4]
  refine wpList_nil ?_
  show Code.wp _ _ _ _ _
  refine wp_seq ?_
  refine wp_cond_false rfl ?_
  refine wp_exit ?_
  show Code.wp _ _ _ _ _
  refine wp_region_lit ?_
  refine st_mv (.func (.func 35) #[] #[.pointer (some ⟨g, 0, none⟩)]) ?_
  simp only [nf0, nf1, nf2, nf3, nf4]
  refine st_mv v104 ?_
  simp only [nf0, nf1, nf2, nf3, nf4]
  refine st_call (by rfl) (t_run_callc_35_1_1 (.tmp 37) (.tmp 38) rfl rfl rfl _) (addEvent_calls (by rfl) O106 hB hO n2 bel hlo (by first | (rw [List.length_map]; have := fr_len hR; omega) | (have := fr_len hR; omega))) ?_
  rintro u115 w116 ⟨v114, B111, O112, n113, hf117⟩
  simp only [nf0, nf1, nf2, nf3, nf4]
  replace bel := hf117
  clear hB
  clear hO
  clear O106
  refine wpList_nil ?_
  show ∃ m, m < _ ∧ _
  exact ⟨_, (by have := e5_gt (l := l) (p := p) ⟨hg13, hg33, hg53, hg73, hg93⟩; omega), (e5 l p), (f - 1), (xs ++ [five l p]), _, rfl, rfl, B111, (by exact O112), n113, bel, (by exact e5_le l p), (by exact fr_go hR (by omega) ⟨hg13, hg33, hg53, hg73, hg93⟩)⟩
set_option maxRecDepth 100000 in
set_option maxHeartbeats 4000000 in
theorem parseEntry_at {w0 w : World} {g : Nat} {v : Value} {A : Option Addr} {l : List UInt8} {cap : Nat} (hcap : l.length ≤ cap) (hl : l.length ≤ 100000) (hr : Reads w0 A (eByte.all l)) (hB : Blk w g #[v] 40) (hO : OwnR w w0.heap.size 46 eEnt v []) (n0 : Off v g) (bel : Below w0.heap.size w0 w) (hlo : w0.heap.size ≤ g) : Calls Tryd.prog 34 #[.slice A l.length cap, .int .i64 5, .func (.func 36) #[] #[.pointer (some ⟨g, 0, none⟩)]] w fun e w' => ∃ u, e = .returned u ∧ u = .int .i64 (fvA l).2 ∧ ∃ v' ys, Blk w' g #[v'] 40 ∧ OwnR w' w0.heap.size 46 eEnt v' ys ∧ ((fvA l).2 = -1 → ys = ((fvA l).1.map enOf)) ∧ Off v' g ∧ Below w0.heap.size w0 w' := by
  go_enter Tryd.func34, Tryd.ntmps34
  refine wp_seq ?_
  refine wp_region_lit ?_
  refine st_mv (.int .i64 0) ?_
  simp only [nf0, nf1, nf2, nf3, nf4]
  refine wpList_nil ?_
  show Code.wp _ _ _ _ _
  refine wp_seq ?_
  refine wp_region_lit ?_
  refine st_mv (.int .i64 0) ?_
  simp only [nf0, nf1, nf2, nf3, nf4]
  refine wpList_nil ?_
  show Code.wp _ _ _ _ _
  refine wp_seq ?_
  refine wp_block ?_
  refine wp_loop_left (fun n_ a_ wr_ => (fun J1 => ∃ (p : Nat) (f : Nat) (xs : List TEvt) (vv : Value), n_ = l.length - p ∧ a_ = ⟨#[.slice A l.length cap, .int .i64 5, .func (.func 36) #[] #[.pointer (some ⟨g, 0, none⟩)], J1 3, J1 4, J1 5, J1 6, .int .i64 (p : Int), J1 8, J1 9, J1 10, J1 11, J1 12, J1 13, J1 14, J1 15, J1 16, J1 17, J1 18, J1 19, J1 20, J1 21, J1 22, J1 23, J1 24, J1 25, J1 26, J1 27, J1 28, J1 29, J1 30, J1 31, J1 32, J1 33, J1 34, J1 35, J1 36, J1 37, J1 38, J1 39], []⟩ ∧ Blk wr_ g #[vv] 40 ∧ OwnR wr_ w0.heap.size 46 eEnt vv (xs.map enOf) ∧ Off vv g ∧ Below w0.heap.size w0 wr_ ∧ (p ≤ l.length) ∧ (FR l f p xs)) (jk a_)) (l.length - 0) ⟨0, (l.length + 1), [], v, rfl, rfl, hB, hO, n0, bel, (Nat.zero_le _), (fr_start l)⟩ ?_
  clear hB
  clear hO
  clear n0
  clear bel
  intro n_ a_ w3 h_
  revert h_
  generalize jk a_ = J1
  rintro ⟨p, f, xs, vv, hms, rfl, hB, hO, n2, bel, hp, hR⟩
  have hn0 := ne_le l p
  have hn1 := ne_le l (ne l p)
  have hn2 := ne_le l (ne l (ne l p))
  have hn3 := ne_le l (ne l (ne l (ne l p)))
  have hn4 := ne_le l (ne l (ne l (ne l (ne l p))))
  refine wp_seq ?_
  refine wp_seq ?_
  refine wp_region_lit ?_
  refine st_mv (.int .i64 (p : Int)) ?_
  simp only [nf0, nf1, nf2, nf3, nf4]
  refine st_mv (.slice A l.length cap) ?_
  simp only [nf0, nf1, nf2, nf3, nf4]
  refine st_value (v := (.int .i64 (l.length : Int))) (by rfl) (run_len (.tmp 14) rfl ⟨_, Tryd.underlying22⟩ rfl w3) ?_
  simp only [nf0, nf1, nf2, nf3, nf4]
  refine st_value (v := (.bool (decide ((p : Int) < (l.length : Int))))) (by rfl) (run_lss (.tmp 13) (.tmp 15) rfl rfl rfl w3) ?_
  simp only [nf0, nf1, nf2, nf3, nf4]
  refine wpList_nil ?_
  show Code.wp _ _ _ _ _
  cases hg4 : decide ((p : Int) < (l.length : Int))
  · have hp5 := of_decide_eq_false hg4
    refine wp_cond_false rfl ?_
    refine wp_exit ?_
    show Code.wp _ _ _ _ _
    refine wp_seq ?_
    refine wp_region_lit ?_
    refine st_mv (.int .i64 (-1)) ?_
    simp only [nf0, nf1, nf2, nf3, nf4]
    refine wpList_nil ?_
    show Code.wp _ _ _ _ _
    refine wp_ret ?_
    first | show bodyPost _ _ _ _ _ _ | (simp only [Exit.then, Exit.inBlock]; show bodyPost _ _ _ _ _ _)
    obtain ⟨hE, hX⟩ := fr_end hR (by omega)
    subst hX
    exact bodyPost_ret (results_tmp rfl _ _ _) rfl ⟨_, rfl, by rw [hE]; rfl, _, _, hB, hO, fun _ => rfl, n2, bel⟩
  have hp6 := of_decide_eq_true hg4
  refine wp_cond_true rfl ?_
  refine wp_skip ?_
  show Code.wp _ _ _ _ _
  refine wp_block ?_
  refine wp_seq ?_
  refine wp_region_lit ?_
  refine st_mv (.int .i64 (p : Int)) ?_
  simp only [nf0, nf1, nf2, nf3, nf4]
  refine st_mv (.int .i64 (p : Int)) ?_
  simp only [nf0, nf1, nf2, nf3, nf4]
  refine wpList_nil ?_
  show Code.wp _ _ _ _ _
  refine wp_seq ?_
  refine wp_region_lit ?_
  have O7 : OwnR w3 w0.heap.size 3 (eInt .i64) (.slice none 0 0) [] := OwnR.nil _ _ _ _
  have n9 := Off.nil g
  have n10 : Off2 (.slice none 0 0) vv := Off2.nil _
  refine st_mv (.slice none 0 0) ?_
  simp only [nf0, nf1, nf2, nf3, nf4]
  refine wpList_nil ?_
  show Code.wp _ _ _ _ _
  refine wp_seq ?_
  refine wp_seq ?_
  refine wp_region_lit ?_
  refine st_mv (.int .i64 5) ?_
  simp only [nf0, nf1, nf2, nf3, nf4]
  refine st_mv (.int .i64 0) ?_
  simp only [nf0, nf1, nf2, nf3, nf4]
  refine wpList_nil ?_
  show Code.wp _ _ _ _ _
  refine wp_block ?_
  refine wp_loop_rnds 5 ?_
  show Code.wp _ _ _ _ _
  refine wp_seq ?_
  refine wp_region_lit ?_
  refine st_value (v := (.bool true)) (by rfl) ((run_lss (.tmp 19) (.tmp 18) rfl rfl rfl w3).trans (by rw [decide_eq_true (by omega)])) ?_
  simp only [nf0, nf1, nf2, nf3, nf4]
  refine wpList_nil ?_
  show Code.wp _ _ _ _ _
  refine wp_seq ?_
  refine wp_cond_true rfl ?_
  refine wp_skip ?_
  show Code.wp _ _ _ _ _
  refine wp_seq ?_
  refine wp_block ?_
  refine wp_seq ?_
  refine wp_region_lit ?_
  refine st_mv (.slice A l.length cap) ?_
  simp only [nf0, nf1, nf2, nf3, nf4]
  refine st_mv (.int .i64 (p : Int)) ?_
  simp only [nf0, nf1, nf2, nf3, nf4]
  refine st_call1 (v := (.tuple #[.int .i64 (nv l p), .int .i64 ((ne l p : Nat) : Int), .bool (nk l p)])) (by rfl) (t_run_call_8_2 (.tmp 22) (.tmp 23) rfl rfl rfl _) (getInt_tot A l cap p hcap (by omega) (by omega) w3 (hr.same bel)) ?_
  intro w11 hb12
  simp only [nf0, nf1, nf2, nf3, nf4]
  replace hB := hB.below hb12
  replace hO := hO.same hb12
  replace O7 := O7.same hb12
  replace bel := bl_step bel hb12
  clear hb12
  refine st_mv (.tuple #[.int .i64 (nv l p), .int .i64 ((ne l p : Nat) : Int), .bool (nk l p)]) ?_
  simp only [nf0, nf1, nf2, nf3, nf4]
  refine st_mv (.int .i64 (nv l p)) ?_
  simp only [nf0, nf1, nf2, nf3, nf4]
  refine st_mv (.int .i64 ((ne l p : Nat) : Int)) ?_
  simp only [nf0, nf1, nf2, nf3, nf4]
  refine st_mv (.bool (nk l p)) ?_
  simp only [nf0, nf1, nf2, nf3, nf4]
  refine st_mv (.int .i64 (nv l p)) ?_
  simp only [nf0, nf1, nf2, nf3, nf4]
  refine st_mv (.int .i64 ((ne l p : Nat) : Int)) ?_
  simp only [nf0, nf1, nf2, nf3, nf4]
  refine st_mv (.bool (nk l p)) ?_
  simp only [nf0, nf1, nf2, nf3, nf4]
  refine wpList_nil ?_
  show Code.wp _ _ _ _ _
  refine wp_seq ?_
  refine wp_seq ?_
  refine wp_region_lit ?_
  refine st_mv (.bool (nk l p)) ?_
  simp only [nf0, nf1, nf2, nf3, nf4]
  refine st_value (v := (.bool (!(nk l p)))) (by rfl) (run_not (.tmp 28) rfl (b := nk l p) rfl w11) ?_
  simp only [nf0, nf1, nf2, nf3, nf4]
  refine wpList_nil ?_
  show Code.wp _ _ _ _ _
  cases hg13 : nk l p
  · have hp14 := trivial
    refine wp_cond_true rfl ?_
    refine wp_seq ?_
    refine wp_region_lit ?_
    refine st_mv (.int .i64 (p : Int)) ?_
    simp only [nf0, nf1, nf2, nf3, nf4]
    refine st_mv (.int .i64 (p : Int)) ?_
    simp only [nf0, nf1, nf2, nf3, nf4]
    refine wpList_nil ?_
    show Code.wp _ _ _ _ _
    refine wp_ret ?_
    first | show bodyPost _ _ _ _ _ _ | (simp only [Exit.then, Exit.inBlock]; show bodyPost _ _ _ _ _ _)
    have hE := fr_bad hR (by omega) (fun h => by have h_ := h.1; rw [hg13] at h_; cases h_)
    exact bodyPost_ret (results_tmp rfl _ _ _) rfl ⟨_, rfl, by rw [hE]; rfl, _, _, hB, hO, fun h => by rw [hE] at h; omega, n2, bel⟩
  have hp15 := trivial
  refine wp_cond_false rfl ?_
  refine wp_skip ?_
  show Code.wp _ _ _ _ _
  refine wp_seq ?_
  refine wp_region_lit ?_
  refine st_mv (.slice none 0 0) ?_
  simp only [nf0, nf1, nf2, nf3, nf4]
  refine st_mv (.int .i64 (nv l p)) ?_
  simp only [nf0, nf1, nf2, nf3, nf4]
  refine st_lit (by rfl) (t_run_lit_67_1 (.tmp 32) rfl rfl _) ?_
  intro g16 w17 B18 hb19 lo20
  simp only [nf0, nf1, nf2, nf3, nf4]
  have n21 := hB.ne lo20
  have n22 := hO.off lo20
  have n23 := O7.off lo20
  replace lo20 := low_le bel lo20
  replace hB := hB.below hb19
  replace hO := hO.same hb19
  replace O7 := O7.same hb19
  replace bel := bl_step bel hb19
  clear hb19
  refine st_append slInt rfl (.tmp 31) (.tmp 33) rfl rfl O7 ([(nv l p)] : List Int) rfl rfl B18 (by simp [Enc.all, eInt]) (by simp) bel.size ?_
  intro v24 w25 O26 hg27 hat28
  simp only [nf0, nf1, nf2, nf3, nf4]
  have n29 := (n9 : Off _ _).app hB hat28
  replace hB := hB.keptR hg27 n9
  have n30 := Off2.app n10 hO hat28
  replace hO := hO.keptR hg27 n10.symm
  replace bel := bl_app bel O7 hg27
  clear O7 hg27 hat28
  replace O26 : OwnR w25 w0.heap.size 3 (eInt .i64) v24 ([(nv l p)] : List Int) := by rw [List.nil_append] at O26; exact O26
  refine st_mv v24 ?_
  simp only [nf0, nf1, nf2, nf3, nf4]
  refine wpList_nil ?_
  show Code.wp _ _ _ _ _
  refine wp_region_lit ?_
  refine st_mv (.int .i64 ((ne l p : Nat) : Int)) ?_
  simp only [nf0, nf1, nf2, nf3, nf4]
  refine st_mv (.int .i64 ((ne l p : Nat) : Int)) ?_
  simp only [nf0, nf1, nf2, nf3, nf4]
  refine wpList_nil ?_
  show Code.wp _ _ _ _ _
  refine wp_region_lit ?_
  refine st_value (v := (.int .i64 1)) (by rfl) (run_add_in (m := 0) (n := 1) (.tmp 19) (.const (.int .i64 1)) rfl rfl rfl (by omega) w25) ?_
  simp only [nf0, nf1, nf2, nf3, nf4]
  refine st_mv (.int .i64 1) ?_
  simp only [nf0, nf1, nf2, nf3, nf4]
  refine wpList_nil ?_
  show Code.wp _ _ _ _ _
  refine wp_seq ?_
  refine wp_region_lit ?_
  refine st_value (v := (.bool true)) (by rfl) ((run_lss (.tmp 19) (.tmp 18) rfl rfl rfl w25).trans (by rw [decide_eq_true (by omega)])) ?_
  simp only [nf0, nf1, nf2, nf3, nf4]
  refine wpList_nil ?_
  show Code.wp _ _ _ _ _
  refine wp_seq ?_
  refine wp_cond_true rfl ?_
  refine wp_skip ?_
  show Code.wp _ _ _ _ _
  refine wp_seq ?_
  refine wp_block ?_
  refine wp_seq ?_
  refine wp_region_lit ?_
  refine st_mv (.slice A l.length cap) ?_
  simp only [nf0, nf1, nf2, nf3, nf4]
  refine st_mv (.int .i64 ((ne l p : Nat) : Int)) ?_
  simp only [nf0, nf1, nf2, nf3, nf4]
  refine st_call1 (v := (.tuple #[.int .i64 (nv l (ne l p)), .int .i64 ((ne l (ne l p) : Nat) : Int), .bool (nk l (ne l p))])) (by rfl) (t_run_call_8_2 (.tmp 22) (.tmp 23) rfl rfl rfl _) (getInt_tot A l cap (ne l p) hcap (by omega) (by omega) w25 (hr.same bel)) ?_
  intro w31 hb32
  simp only [nf0, nf1, nf2, nf3, nf4]
  replace hB := hB.below hb32
  replace hO := hO.same hb32
  replace O26 := O26.same hb32
  replace bel := bl_step bel hb32
  clear hb32
  refine st_mv (.tuple #[.int .i64 (nv l (ne l p)), .int .i64 ((ne l (ne l p) : Nat) : Int), .bool (nk l (ne l p))]) ?_
  simp only [nf0, nf1, nf2, nf3, nf4]
  refine st_mv (.int .i64 (nv l (ne l p))) ?_
  simp only [nf0, nf1, nf2, nf3, nf4]
  refine st_mv (.int .i64 ((ne l (ne l p) : Nat) : Int)) ?_
  simp only [nf0, nf1, nf2, nf3, nf4]
  refine st_mv (.bool (nk l (ne l p))) ?_
  simp only [nf0, nf1, nf2, nf3, nf4]
  refine st_mv (.int .i64 (nv l (ne l p))) ?_
  simp only [nf0, nf1, nf2, nf3, nf4]
  refine st_mv (.int .i64 ((ne l (ne l p) : Nat) : Int)) ?_
  simp only [nf0, nf1, nf2, nf3, nf4]
  refine st_mv (.bool (nk l (ne l p))) ?_
  simp only [nf0, nf1, nf2, nf3, nf4]
  refine wpList_nil ?_
  show Code.wp _ _ _ _ _
  refine wp_seq ?_
  refine wp_seq ?_
  refine wp_region_lit ?_
  refine st_mv (.bool (nk l (ne l p))) ?_
  simp only [nf0, nf1, nf2, nf3, nf4]
  refine st_value (v := (.bool (!(nk l (ne l p))))) (by rfl) (run_not (.tmp 28) rfl (b := nk l (ne l p)) rfl w31) ?_
  simp only [nf0, nf1, nf2, nf3, nf4]
  refine wpList_nil ?_
  show Code.wp _ _ _ _ _
  cases hg33 : nk l (ne l p)
  · have hp34 := trivial
    refine wp_cond_true rfl ?_
    refine wp_seq ?_
    refine wp_region_lit ?_
    refine st_mv (.int .i64 (p : Int)) ?_
    simp only [nf0, nf1, nf2, nf3, nf4]
    refine st_mv (.int .i64 (p : Int)) ?_
    simp only [nf0, nf1, nf2, nf3, nf4]
    refine wpList_nil ?_
    show Code.wp _ _ _ _ _
    refine wp_ret ?_
    first | show bodyPost _ _ _ _ _ _ | (simp only [Exit.then, Exit.inBlock]; show bodyPost _ _ _ _ _ _)
    have hE := fr_bad hR (by omega) (fun h => by have h_ := h.2.1; rw [hg33] at h_; cases h_)
    exact bodyPost_ret (results_tmp rfl _ _ _) rfl ⟨_, rfl, by rw [hE]; rfl, _, _, hB, hO, fun h => by rw [hE] at h; omega, n2, bel⟩
  have hp35 := trivial
  refine wp_cond_false rfl ?_
  refine wp_skip ?_
  show Code.wp _ _ _ _ _
  refine wp_seq ?_
  refine wp_region_lit ?_
  refine st_mv v24 ?_
  simp only [nf0, nf1, nf2, nf3, nf4]
  refine st_mv (.int .i64 (nv l (ne l p))) ?_
  simp only [nf0, nf1, nf2, nf3, nf4]
  refine st_lit (by rfl) (t_run_lit_67_1 (.tmp 32) rfl rfl _) ?_
  intro g36 w37 B38 hb39 lo40
  simp only [nf0, nf1, nf2, nf3, nf4]
  have n41 := hB.ne lo40
  have n42 := hO.off lo40
  have n43 := O26.off lo40
  replace lo40 := low_le bel lo40
  replace hB := hB.below hb39
  replace hO := hO.same hb39
  replace O26 := O26.same hb39
  replace bel := bl_step bel hb39
  clear hb39
  refine st_append slInt rfl (.tmp 31) (.tmp 33) rfl rfl O26 ([(nv l (ne l p))] : List Int) rfl rfl B38 (by simp [Enc.all, eInt]) (by simp) bel.size ?_
  intro v44 w45 O46 hg47 hat48
  simp only [nf0, nf1, nf2, nf3, nf4]
  have n49 := (n29 : Off _ _).app hB hat48
  replace hB := hB.keptR hg47 n29
  have n50 := Off2.app n30 hO hat48
  replace hO := hO.keptR hg47 n30.symm
  replace bel := bl_app bel O26 hg47
  clear O26 hg47 hat48
  refine st_mv v44 ?_
  simp only [nf0, nf1, nf2, nf3, nf4]
  refine wpList_nil ?_
  show Code.wp _ _ _ _ _
  refine wp_region_lit ?_
  refine st_mv (.int .i64 ((ne l (ne l p) : Nat) : Int)) ?_
  simp only [nf0, nf1, nf2, nf3, nf4]
  refine st_mv (.int .i64 ((ne l (ne l p) : Nat) : Int)) ?_
  simp only [nf0, nf1, nf2, nf3, nf4]
  refine wpList_nil ?_
  show Code.wp _ _ _ _ _
  refine wp_region_lit ?_
  refine st_value (v := (.int .i64 2)) (by rfl) (run_add_in (m := 1) (n := 1) (.tmp 19) (.const (.int .i64 1)) rfl rfl rfl (by omega) w45) ?_
  simp only [nf0, nf1, nf2, nf3, nf4]
  refine st_mv (.int .i64 2) ?_
  simp only [nf0, nf1, nf2, nf3, nf4]
  refine wpList_nil ?_
  show Code.wp _ _ _ _ _
  refine wp_seq ?_
  refine wp_region_lit ?_
  refine st_value (v := (.bool true)) (by rfl) ((run_lss (.tmp 19) (.tmp 18) rfl rfl rfl w45).trans (by rw [decide_eq_true (by omega)])) ?_
  simp only [nf0, nf1, nf2, nf3, nf4]
  refine wpList_nil ?_
  show Code.wp _ _ _ _ _
  refine wp_seq ?_
  refine wp_cond_true rfl ?_
  refine wp_skip ?_
  show Code.wp _ _ _ _ _
  refine wp_seq ?_
  refine wp_block ?_
  refine wp_seq ?_
  refine wp_region_lit ?_
  refine st_mv (.slice A l.length cap) ?_
  simp only [nf0, nf1, nf2, nf3, nf4]
  refine st_mv (.int .i64 ((ne l (ne l p) : Nat) : Int)) ?_
  simp only [nf0, nf1, nf2, nf3, nf4]
  refine st_call1 (v := (.tuple #[.int .i64 (nv l (ne l (ne l p))), .int .i64 ((ne l (ne l (ne l p)) : Nat) : Int), .bool (nk l (ne l (ne l p)))])) (by rfl) (t_run_call_8_2 (.tmp 22) (.tmp 23) rfl rfl rfl _) (getInt_tot A l cap (ne l (ne l p)) hcap (by omega) (by omega) w45 (hr.same bel)) ?_
  intro w51 hb52
  simp only [nf0, nf1, nf2, nf3, nf4]
  replace hB := hB.below hb52
  replace hO := hO.same hb52
  replace O46 := O46.same hb52
  replace bel := bl_step bel hb52
  clear hb52
  refine st_mv (.tuple #[.int .i64 (nv l (ne l (ne l p))), .int .i64 ((ne l (ne l (ne l p)) : Nat) : Int), .bool (nk l (ne l (ne l p)))]) ?_
  simp only [nf0, nf1, nf2, nf3, nf4]
  refine st_mv (.int .i64 (nv l (ne l (ne l p)))) ?_
  simp only [nf0, nf1, nf2, nf3, nf4]
  refine st_mv (.int .i64 ((ne l (ne l (ne l p)) : Nat) : Int)) ?_
  simp only [nf0, nf1, nf2, nf3, nf4]
  refine st_mv (.bool (nk l (ne l (ne l p)))) ?_
  simp only [nf0, nf1, nf2, nf3, nf4]
  refine st_mv (.int .i64 (nv l (ne l (ne l p)))) ?_
  simp only [nf0, nf1, nf2, nf3, nf4]
  refine st_mv (.int .i64 ((ne l (ne l (ne l p)) : Nat) : Int)) ?_
  simp only [nf0, nf1, nf2, nf3, nf4]
  refine st_mv (.bool (nk l (ne l (ne l p)))) ?_
  simp only [nf0, nf1, nf2, nf3, nf4]
  refine wpList_nil ?_
  show Code.wp _ _ _ _ _
  refine wp_seq ?_
  refine wp_seq ?_
  refine wp_region_lit ?_
  refine st_mv (.bool (nk l (ne l (ne l p)))) ?_
  simp only [nf0, nf1, nf2, nf3, nf4]
  refine st_value (v := (.bool (!(nk l (ne l (ne l p)))))) (by rfl) (run_not (.tmp 28) rfl (b := nk l (ne l (ne l p))) rfl w51) ?_
  simp only [nf0, nf1, nf2, nf3, nf4]
  refine wpList_nil ?_
  show Code.wp _ _ _ _ _
  cases hg53 : nk l (ne l (ne l p))
  · have hp54 := trivial
    refine wp_cond_true rfl ?_
    refine wp_seq ?_
    refine wp_region_lit ?_
    refine st_mv (.int .i64 (p : Int)) ?_
    simp only [nf0, nf1, nf2, nf3, nf4]
    refine st_mv (.int .i64 (p : Int)) ?_
    simp only [nf0, nf1, nf2, nf3, nf4]
    refine wpList_nil ?_
    show Code.wp _ _ _ _ _
    refine wp_ret ?_
    first | show bodyPost _ _ _ _ _ _ | (simp only [Exit.then, Exit.inBlock]; show bodyPost _ _ _ _ _ _)
    have hE := fr_bad hR (by omega) (fun h => by have h_ := h.2.2.1; rw [hg53] at h_; cases h_)
    exact bodyPost_ret (results_tmp rfl _ _ _) rfl ⟨_, rfl, by rw [hE]; rfl, _, _, hB, hO, fun h => by rw [hE] at h; omega, n2, bel⟩
  have hp55 := trivial
  refine wp_cond_false rfl ?_
  refine wp_skip ?_
  show Code.wp _ _ _ _ _
  refine wp_seq ?_
  refine wp_region_lit ?_
  refine st_mv v44 ?_
  simp only [nf0, nf1, nf2, nf3, nf4]
  refine st_mv (.int .i64 (nv l (ne l (ne l p)))) ?_
  simp only [nf0, nf1, nf2, nf3, nf4]
  refine st_lit (by rfl) (t_run_lit_67_1 (.tmp 32) rfl rfl _) ?_
  intro g56 w57 B58 hb59 lo60
  simp only [nf0, nf1, nf2, nf3, nf4]
  have n61 := hB.ne lo60
  have n62 := hO.off lo60
  have n63 := O46.off lo60
  replace lo60 := low_le bel lo60
  replace hB := hB.below hb59
  replace hO := hO.same hb59
  replace O46 := O46.same hb59
  replace bel := bl_step bel hb59
  clear hb59
  refine st_append slInt rfl (.tmp 31) (.tmp 33) rfl rfl O46 ([(nv l (ne l (ne l p)))] : List Int) rfl rfl B58 (by simp [Enc.all, eInt]) (by simp) bel.size ?_
  intro v64 w65 O66 hg67 hat68
  simp only [nf0, nf1, nf2, nf3, nf4]
  have n69 := (n49 : Off _ _).app hB hat68
  replace hB := hB.keptR hg67 n49
  have n70 := Off2.app n50 hO hat68
  replace hO := hO.keptR hg67 n50.symm
  replace bel := bl_app bel O46 hg67
  clear O46 hg67 hat68
  refine st_mv v64 ?_
  simp only [nf0, nf1, nf2, nf3, nf4]
  refine wpList_nil ?_
  show Code.wp _ _ _ _ _
  refine wp_region_lit ?_
  refine st_mv (.int .i64 ((ne l (ne l (ne l p)) : Nat) : Int)) ?_
  simp only [nf0, nf1, nf2, nf3, nf4]
  refine st_mv (.int .i64 ((ne l (ne l (ne l p)) : Nat) : Int)) ?_
  simp only [nf0, nf1, nf2, nf3, nf4]
  refine wpList_nil ?_
  show Code.wp _ _ _ _ _
  refine wp_region_lit ?_
  refine st_value (v := (.int .i64 3)) (by rfl) (run_add_in (m := 2) (n := 1) (.tmp 19) (.const (.int .i64 1)) rfl rfl rfl (by omega) w65) ?_
  simp only [nf0, nf1, nf2, nf3, nf4]
  refine st_mv (.int .i64 3) ?_
  simp only [nf0, nf1, nf2, nf3, nf4]
  refine wpList_nil ?_
  show Code.wp _ _ _ _ _
  refine wp_seq ?_
  refine wp_region_lit ?_
  refine st_value (v := (.bool true)) (by rfl) ((run_lss (.tmp 19) (.tmp 18) rfl rfl rfl w65).trans (by rw [decide_eq_true (by omega)])) ?_
  simp only [nf0, nf1, nf2, nf3, nf4]
  refine wpList_nil ?_
  show Code.wp _ _ _ _ _
  refine wp_seq ?_
  refine wp_cond_true rfl ?_
  refine wp_skip ?_
  show Code.wp _ _ _ _ _
  refine wp_seq ?_
  refine wp_block ?_
  refine wp_seq ?_
  refine wp_region_lit ?_
  refine st_mv (.slice A l.length cap) ?_
  simp only [nf0, nf1, nf2, nf3, nf4]
  refine st_mv (.int .i64 ((ne l (ne l (ne l p)) : Nat) : Int)) ?_
  simp only [nf0, nf1, nf2, nf3, nf4]
  refine st_call1 (v := (.tuple #[.int .i64 (nv l (ne l (ne l (ne l p)))), .int .i64 ((ne l (ne l (ne l (ne l p))) : Nat) : Int), .bool (nk l (ne l (ne l (ne l p))))])) (by rfl) (t_run_call_8_2 (.tmp 22) (.tmp 23) rfl rfl rfl _) (getInt_tot A l cap (ne l (ne l (ne l p))) hcap (by omega) (by omega) w65 (hr.same bel)) ?_
  intro w71 hb72
  simp only [nf0, nf1, nf2, nf3, nf4]
  replace hB := hB.below hb72
  replace hO := hO.same hb72
  replace O66 := O66.same hb72
  replace bel := bl_step bel hb72
  clear hb72
  refine st_mv (.tuple #[.int .i64 (nv l (ne l (ne l (ne l p)))), .int .i64 ((ne l (ne l (ne l (ne l p))) : Nat) : Int), .bool (nk l (ne l (ne l (ne l p))))]) ?_
  simp only [nf0, nf1, nf2, nf3, nf4]
  refine st_mv (.int .i64 (nv l (ne l (ne l (ne l p))))) ?_
  simp only [nf0, nf1, nf2, nf3, nf4]
  refine st_mv (.int .i64 ((ne l (ne l (ne l (ne l p))) : Nat) : Int)) ?_
  simp only [nf0, nf1, nf2, nf3, nf4]
  refine st_mv (.bool (nk l (ne l (ne l (ne l p))))) ?_
  simp only [nf0, nf1, nf2, nf3, nf4]
  refine st_mv (.int .i64 (nv l (ne l (ne l (ne l p))))) ?_
  simp only [nf0, nf1, nf2, nf3, nf4]
  refine st_mv (.int .i64 ((ne l (ne l (ne l (ne l p))) : Nat) : Int)) ?_
  simp only [nf0, nf1, nf2, nf3, nf4]
  refine st_mv (.bool (nk l (ne l (ne l (ne l p))))) ?_
  simp only [nf0, nf1, nf2, nf3, nf4]
  refine wpList_nil ?_
  show Code.wp _ _ _ _ _
  refine wp_seq ?_
  refine wp_seq ?_
  refine wp_region_lit ?_
  refine st_mv (.bool (nk l (ne l (ne l (ne l p))))) ?_
  simp only [nf0, nf1, nf2, nf3, nf4]
  refine st_value (v := (.bool (!(nk l (ne l (ne l (ne l p))))))) (by rfl) (run_not (.tmp 28) rfl (b := nk l (ne l (ne l (ne l p)))) rfl w71) ?_
  simp only [nf0, nf1, nf2, nf3, nf4]
  refine wpList_nil ?_
  show Code.wp _ _ _ _ _
  cases hg73 : nk l (ne l (ne l (ne l p)))
  · have hp74 := trivial
    refine wp_cond_true rfl ?_
    refine wp_seq ?_
    refine wp_region_lit ?_
    refine st_mv (.int .i64 (p : Int)) ?_
    simp only [nf0, nf1, nf2, nf3, nf4]
    refine st_mv (.int .i64 (p : Int)) ?_
    simp only [nf0, nf1, nf2, nf3, nf4]
    refine wpList_nil ?_
    show Code.wp _ _ _ _ _
    refine wp_ret ?_
    first | show bodyPost _ _ _ _ _ _ | (simp only [Exit.then, Exit.inBlock]; show bodyPost _ _ _ _ _ _)
    have hE := fr_bad hR (by omega) (fun h => by have h_ := h.2.2.2.1; rw [hg73] at h_; cases h_)
    exact bodyPost_ret (results_tmp rfl _ _ _) rfl ⟨_, rfl, by rw [hE]; rfl, _, _, hB, hO, fun h => by rw [hE] at h; omega, n2, bel⟩
  have hp75 := trivial
  refine wp_cond_false rfl ?_
  refine wp_skip ?_
  show Code.wp _ _ _ _ _
  refine wp_seq ?_
  refine wp_region_lit ?_
  refine st_mv v64 ?_
  simp only [nf0, nf1, nf2, nf3, nf4]
  refine st_mv (.int .i64 (nv l (ne l (ne l (ne l p))))) ?_
  simp only [nf0, nf1, nf2, nf3, nf4]
  refine st_lit (by rfl) (t_run_lit_67_1 (.tmp 32) rfl rfl _) ?_
  intro g76 w77 B78 hb79 lo80
  simp only [nf0, nf1, nf2, nf3, nf4]
  have n81 := hB.ne lo80
  have n82 := hO.off lo80
  have n83 := O66.off lo80
  replace lo80 := low_le bel lo80
  replace hB := hB.below hb79
  replace hO := hO.same hb79
  replace O66 := O66.same hb79
  replace bel := bl_step bel hb79
  clear hb79
  refine st_append slInt rfl (.tmp 31) (.tmp 33) rfl rfl O66 ([(nv l (ne l (ne l (ne l p))))] : List Int) rfl rfl B78 (by simp [Enc.all, eInt]) (by simp) bel.size ?_
  intro v84 w85 O86 hg87 hat88
  simp only [nf0, nf1, nf2, nf3, nf4]
  have n89 := (n69 : Off _ _).app hB hat88
  replace hB := hB.keptR hg87 n69
  have n90 := Off2.app n70 hO hat88
  replace hO := hO.keptR hg87 n70.symm
  replace bel := bl_app bel O66 hg87
  clear O66 hg87 hat88
  refine st_mv v84 ?_
  simp only [nf0, nf1, nf2, nf3, nf4]
  refine wpList_nil ?_
  show Code.wp _ _ _ _ _
  refine wp_region_lit ?_
  refine st_mv (.int .i64 ((ne l (ne l (ne l (ne l p))) : Nat) : Int)) ?_
  simp only [nf0, nf1, nf2, nf3, nf4]
  refine st_mv (.int .i64 ((ne l (ne l (ne l (ne l p))) : Nat) : Int)) ?_
  simp only [nf0, nf1, nf2, nf3, nf4]
  refine wpList_nil ?_
  show Code.wp _ _ _ _ _
  refine wp_region_lit ?_
  refine st_value (v := (.int .i64 4)) (by rfl) (run_add_in (m := 3) (n := 1) (.tmp 19) (.const (.int .i64 1)) rfl rfl rfl (by omega) w85) ?_
  simp only [nf0, nf1, nf2, nf3, nf4]
  refine st_mv (.int .i64 4) ?_
  simp only [nf0, nf1, nf2, nf3, nf4]
  refine wpList_nil ?_
  show Code.wp _ _ _ _ _
  refine wp_seq ?_
  refine wp_region_lit ?_
  refine st_value (v := (.bool true)) (by rfl) ((run_lss (.tmp 19) (.tmp 18) rfl rfl rfl w85).trans (by rw [decide_eq_true (by omega)])) ?_
  simp only [nf0, nf1, nf2, nf3, nf4]
  refine wpList_nil ?_
  show Code.wp _ _ _ _ _
  refine wp_seq ?_
  refine wp_cond_true rfl ?_
  refine wp_skip ?_
  show Code.wp _ _ _ _ _
  refine wp_seq ?_
  refine wp_block ?_
  refine wp_seq ?_
  refine wp_region_lit ?_
  refine st_mv (.slice A l.length cap) ?_
  simp only [nf0, nf1, nf2, nf3, nf4]
  refine st_mv (.int .i64 ((ne l (ne l (ne l (ne l p))) : Nat) : Int)) ?_
  simp only [nf0, nf1, nf2, nf3, nf4]
  refine st_call1 (v := (.tuple #[.int .i64 (nv l (ne l (ne l (ne l (ne l p))))), .int .i64 ((ne l (ne l (ne l (ne l (ne l p)))) : Nat) : Int), .bool (nk l (ne l (ne l (ne l (ne l p)))))])) (by rfl) (t_run_call_8_2 (.tmp 22) (.tmp 23) rfl rfl rfl _) (getInt_tot A l cap (ne l (ne l (ne l (ne l p)))) hcap (by omega) (by omega) w85 (hr.same bel)) ?_
  intro w91 hb92
  simp only [nf0, nf1, nf2, nf3, nf4]
  replace hB := hB.below hb92
  replace hO := hO.same hb92
  replace O86 := O86.same hb92
  replace bel := bl_step bel hb92
  clear hb92
  refine st_mv (.tuple #[.int .i64 (nv l (ne l (ne l (ne l (ne l p))))), .int .i64 ((ne l (ne l (ne l (ne l (ne l p)))) : Nat) : Int), .bool (nk l (ne l (ne l (ne l (ne l p)))))]) ?_
  simp only [nf0, nf1, nf2, nf3, nf4]
  refine st_mv (.int .i64 (nv l (ne l (ne l (ne l (ne l p)))))) ?_
  simp only [nf0, nf1, nf2, nf3, nf4]
  refine st_mv (.int .i64 ((ne l (ne l (ne l (ne l (ne l p)))) : Nat) : Int)) ?_
  simp only [nf0, nf1, nf2, nf3, nf4]
  refine st_mv (.bool (nk l (ne l (ne l (ne l (ne l p)))))) ?_
  simp only [nf0, nf1, nf2, nf3, nf4]
  refine st_mv (.int .i64 (nv l (ne l (ne l (ne l (ne l p)))))) ?_
  simp only [nf0, nf1, nf2, nf3, nf4]
  refine st_mv (.int .i64 ((ne l (ne l (ne l (ne l (ne l p)))) : Nat) : Int)) ?_
  simp only [nf0, nf1, nf2, nf3, nf4]
  refine st_mv (.bool (nk l (ne l (ne l (ne l (ne l p)))))) ?_
  simp only [nf0, nf1, nf2, nf3, nf4]
  refine wpList_nil ?_
  show Code.wp _ _ _ _ _
  refine wp_seq ?_
  refine wp_seq ?_
  refine wp_region_lit ?_
  refine st_mv (.bool (nk l (ne l (ne l (ne l (ne l p)))))) ?_
  simp only [nf0, nf1, nf2, nf3, nf4]
  refine st_value (v := (.bool (!(nk l (ne l (ne l (ne l (ne l p)))))))) (by rfl) (run_not (.tmp 28) rfl (b := nk l (ne l (ne l (ne l (ne l p))))) rfl w91) ?_
  simp only [nf0, nf1, nf2, nf3, nf4]
  refine wpList_nil ?_
  show Code.wp _ _ _ _ _
  cases hg93 : nk l (ne l (ne l (ne l (ne l p))))
  · have hp94 := trivial
    refine wp_cond_true rfl ?_
    refine wp_seq ?_
    refine wp_region_lit ?_
    refine st_mv (.int .i64 (p : Int)) ?_
    simp only [nf0, nf1, nf2, nf3, nf4]
    refine st_mv (.int .i64 (p : Int)) ?_
    simp only [nf0, nf1, nf2, nf3, nf4]
    refine wpList_nil ?_
    show Code.wp _ _ _ _ _
    refine wp_ret ?_
    first | show bodyPost _ _ _ _ _ _ | (simp only [Exit.then, Exit.inBlock]; show bodyPost _ _ _ _ _ _)
    have hE := fr_bad hR (by omega) (fun h => by have h_ := h.2.2.2.2; rw [hg93] at h_; cases h_)
    exact bodyPost_ret (results_tmp rfl _ _ _) rfl ⟨_, rfl, by rw [hE]; rfl, _, _, hB, hO, fun h => by rw [hE] at h; omega, n2, bel⟩
  have hp95 := trivial
  refine wp_cond_false rfl ?_
  refine wp_skip ?_
  show Code.wp _ _ _ _ _
  refine wp_seq ?_
  refine wp_region_lit ?_
  refine st_mv v84 ?_
  simp only [nf0, nf1, nf2, nf3, nf4]
  refine st_mv (.int .i64 (nv l (ne l (ne l (ne l (ne l p)))))) ?_
  simp only [nf0, nf1, nf2, nf3, nf4]
  refine st_lit (by rfl) (t_run_lit_67_1 (.tmp 32) rfl rfl _) ?_
  intro g96 w97 B98 hb99 lo100
  simp only [nf0, nf1, nf2, nf3, nf4]
  have n101 := hB.ne lo100
  have n102 := hO.off lo100
  have n103 := O86.off lo100
  replace lo100 := low_le bel lo100
  replace hB := hB.below hb99
  replace hO := hO.same hb99
  replace O86 := O86.same hb99
  replace bel := bl_step bel hb99
  clear hb99
  refine st_append slInt rfl (.tmp 31) (.tmp 33) rfl rfl O86 ([(nv l (ne l (ne l (ne l (ne l p)))))] : List Int) rfl rfl B98 (by simp [Enc.all, eInt]) (by simp) bel.size ?_
  intro v104 w105 O106 hg107 hat108
  simp only [nf0, nf1, nf2, nf3, nf4]
  have n109 := (n89 : Off _ _).app hB hat108
  replace hB := hB.keptR hg107 n89
  have n110 := Off2.app n90 hO hat108
  replace hO := hO.keptR hg107 n90.symm
  replace bel := bl_app bel O86 hg107
  clear O86 hg107 hat108
  refine st_mv v104 ?_
  simp only [nf0, nf1, nf2, nf3, nf4]
  refine wpList_nil ?_
  show Code.wp _ _ _ _ _
  refine wp_region_lit ?_
  refine st_mv (.int .i64 ((ne l (ne l (ne l (ne l (ne l p)))) : Nat) : Int)) ?_
  simp only [nf0, nf1, nf2, nf3, nf4]
  refine st_mv (.int .i64 ((ne l (ne l (ne l (ne l (ne l p)))) : Nat) : Int)) ?_
  simp only [nf0, nf1, nf2, nf3, nf4]
  refine wpList_nil ?_
  show Code.wp _ _ _ _ _
  refine wp_region_lit ?_
  refine st_value (v := (.int .i64 5)) (by rfl) (run_add_in (m := 4) (n := 1) (.tmp 19) (.const (.int .i64 1)) rfl rfl rfl (by omega) w105) ?_
  simp only [nf0, nf1, nf2, nf3, nf4]
  refine st_mv (.int .i64 5) ?_
  simp only [nf0, nf1, nf2, nf3, nf4]
  refine wpList_nil ?_
  show Code.wp _ _ _ _ _
  refine wp_seq ?_
  refine wp_region_lit ?_
  refine st_value (v := (.bool false)) (by rfl) ((run_lss (.tmp 19) (.tmp 18) rfl rfl rfl w105).trans (by rw [decide_eq_false (by omega)])) ?_
  simp only [nf0, nf1, nf2, nf3, nf4]
  refine wpList_nil ?_
  show Code.wp _ _ _ _ _
  refine wp_seq ?_
  refine wp_cond_false rfl ?_
  refine wp_exit ?_
  show Code.wp _ _ _ _ _
  refine wp_region_lit ?_
  refine st_mv (.func (.func 36) #[] #[.pointer (some ⟨g, 0, none⟩)]) ?_
  simp only [nf0, nf1, nf2, nf3, nf4]
  refine st_mv v104 ?_
  simp only [nf0, nf1, nf2, nf3, nf4]
  refine st_call (by rfl) (t_run_callc_36_1_1 (.tmp 37) (.tmp 38) rfl rfl rfl _) (addEntry_calls (by rfl) O106 hB hO n2 bel hlo (by first | (rw [List.length_map]; have := fr_len hR; omega) | (have := fr_len hR; omega))) ?_
  rintro u115 w116 ⟨v114, B111, O112, n113, hf117⟩
  simp only [nf0, nf1, nf2, nf3, nf4]
  replace bel := hf117
  clear hB
  clear hO
  clear O106
  refine wpList_nil ?_
  show ∃ m, m < _ ∧ _
  exact ⟨_, (by have := e5_gt (l := l) (p := p) ⟨hg13, hg33, hg53, hg73, hg93⟩; omega), (e5 l p), (f - 1), (xs ++ [five l p]), _, rfl, rfl, B111, (by rw [List.map_append]; exact O112), n113, bel, (by exact e5_le l p), (by exact fr_go hR (by omega) ⟨hg13, hg33, hg53, hg73, hg93⟩)⟩
end Go.Proofs.YtckmihjekgbcmaaDoor

/- codec's ParseEvents and ParseEntries. -/
namespace Go.Proofs.YtckmihjekgbcmaaDoor
open Go.RowKit Go.WideShapes Go.ChangeShapes
set_option linter.unusedSimpArgs false
set_option linter.unusedVariables false

theorem u_zero_39 : ZeroOf Tryd.prog 39 #[.slice none 0 0] := zeroOf (z := .slice none 0 0) (by kernel_rfl) rfl
theorem u_one_39 : One Tryd.prog 39 := one_of Tryd.underlying39 rfl (by kernel_rfl)
theorem u_run_call_34_3 {o : Oper} {a : Act} (x0 : Operand) (x1 : Operand) (x2 : Operand) {ts : Array TypeId} (ho : o.op = .call { callee := .value (.func 34), args := #[x0, x1, x2], argTypes := ts }) {v0 : Value} (h0 : a.eval x0 = v0) {v1 : Value} (h1 : a.eval x1 = v1) {v2 : Value} (h2 : a.eval x2 = v2) (W : World) : (execOp a.eval o).run Tryd.prog W = .ok (.enter 34 #[v0, v1, v2]) W := by
  unfold execOp
  simp only [ho]
  subst h0 h1 h2
  go_simp
theorem u_zero_40 : ZeroOf Tryd.prog 40 #[.slice none 0 0] := zeroOf (z := .slice none 0 0) (by kernel_rfl) rfl
theorem u_one_40 : One Tryd.prog 40 := one_of Tryd.underlying40 rfl (by kernel_rfl)

attribute [local irreducible] Go.wpList Go.Code.wp
set_option maxRecDepth 100000 in
set_option maxHeartbeats 4000000 in
theorem parseEvents_calls (A : Option Addr) (l : List UInt8) (cap : Nat) (hcap : l.length ≤ cap) (hl : l.length ≤ 100000) (w : World) (hr : Reads w A (eByte.all l)) : Calls Tryd.prog 19 #[.slice A l.length cap] w fun e w' => ∃ u, e = .returned u ∧ ∃ v, u = .tuple #[v, .int .i64 (fvA l).2] ∧ OwnR w' w.heap.size 42 eEvt v (fvR l) ∧ Below w.heap.size w w' := by
  have bel : Below w.heap.size w w := Below.refl _ _
  go_enter Tryd.func19, Tryd.ntmps19
  refine wp_seq ?_
  refine wp_region_lit ?_
  refine st_new (cs := #[.slice none 0 0]) (t := 39) (by rfl) (run_allocV rfl u_zero_39 _) ?_
  intro g1 w2 B3 hb4 lo5
  simp only [nf0, nf1, nf2, nf3, nf4]
  replace lo5 := low_le bel lo5
  replace bel := bl_step bel hb4
  clear hb4
  refine st_mv (.int .i64 0) ?_
  simp only [nf0, nf1, nf2, nf3, nf4]
  refine wpList_nil ?_
  show Code.wp _ _ _ _ _
  refine wp_seq ?_
  have O6 : OwnR w2 w.heap.size 42 eEvt (.slice none 0 0) [] := OwnR.nil _ _ _ _
  have n7 : Off (.slice none 0 0) g1 := Off.nil _
  refine wp_region_lit ?_
  refine st_mv (.slice A l.length cap) ?_
  simp only [nf0, nf1, nf2, nf3, nf4]
  refine st_value (v := (.func (.func 35) #[] #[.pointer (some ⟨g1, 0, none⟩)])) (by rfl) (run_func (f := .func 35) (c := #[.tmp 2]) (v := (.func (.func 35) #[] #[.pointer (some ⟨g1, 0, none⟩)])) (by rfl) (by rw [List.map_toArray]; rfl) w2) ?_
  simp only [nf0, nf1, nf2, nf3, nf4]
  refine st_call (by rfl) (u_run_call_34_3 (.tmp 4) (.const (.int .i64 5)) (.tmp 5) rfl rfl rfl rfl _) (parseEvent_at (w0 := w) hcap hl hr B3 O6 n7 bel lo5) ?_
  rintro _ w14 ⟨rfl, v11, ys12, B8, O9, hy13, n10, hf15⟩
  simp only [nf0, nf1, nf2, nf3, nf4]
  replace bel := hf15
  clear B3
  clear O6
  refine st_mv (.int .i64 ((fvA l).2)) ?_
  simp only [nf0, nf1, nf2, nf3, nf4]
  refine wpList_nil ?_
  show Code.wp _ _ _ _ _
  refine wp_seq ?_
  refine wp_seq ?_
  refine wp_region_lit ?_
  refine st_mv (.int .i64 ((fvA l).2)) ?_
  simp only [nf0, nf1, nf2, nf3, nf4]
  refine st_value (v := (.bool (decide (0 ≤ ((fvA l).2))))) (by rfl) (run_geq (.tmp 7) (.const (.int .i64 0)) rfl rfl rfl w14) ?_
  simp only [nf0, nf1, nf2, nf3, nf4]
  refine wpList_nil ?_
  show Code.wp _ _ _ _ _
  cases hg16 : decide (0 ≤ ((fvA l).2))
  rotate_left
  · have hp21 := of_decide_eq_true hg16
    refine wp_cond_true rfl ?_
    refine wp_seq ?_
    refine wp_region_lit ?_
    refine st_mv (.int .i64 ((fvA l).2)) ?_
    simp only [nf0, nf1, nf2, nf3, nf4]
    refine st_cell (v := (.slice none 0 0)) (by rfl) (run_storeB (.tmp 2) (.const (.slice none 0 0)) rfl u_one_39 B8 (show 0 < 1 by decide) rfl rfl rfl rfl) B8 ?_
    intro w22 B24 hg23
    simp only [nf0, nf1, nf2, nf3, nf4]
    replace O9 := O9.keptB hg23 n10
    replace bel := bl_kept0 bel hg23 lo5
    clear hg23
    clear B8
    replace B24 : Blk w22 g1 #[.slice none 0 0] 39 := B24
    refine st_mv (.int .i64 ((fvA l).2)) ?_
    simp only [nf0, nf1, nf2, nf3, nf4]
    refine wpList_nil ?_
    show Code.wp _ _ _ _ _
    refine wp_ret ?_
    first | show bodyPost _ _ _ _ _ _ | (simp only [Exit.then, Exit.inBlock]; show bodyPost _ _ _ _ _ _)
    have hR : (fvR l) = [] := by unfold fvR; rw [if_neg (by omega)]
    exact bodyPost_ret (results_cell1t rfl u_one_39 (by rfl) B24) rfl ⟨_, rfl, _, rfl, by rw [hR]; exact OwnR.nil _ _ _ _, bel⟩
  have hp17 := of_decide_eq_false hg16
  refine wp_cond_false rfl ?_
  refine wp_skip ?_
  show Code.wp _ _ _ _ _
  refine wp_seq ?_
  refine wp_region_lit ?_
  refine st_value (v := v11) (by rfl) (run_loadB (.tmp 2) rfl u_one_39 rfl B8 rfl) ?_
  simp only [nf0, nf1, nf2, nf3, nf4]
  refine st_cell (v := v11) (by rfl) (run_storeB (.tmp 2) (.tmp 10) rfl u_one_39 B8 (show 0 < 1 by decide) rfl rfl (OwnR.cell1 O9).1 (OwnR.cell1 O9).2) B8 ?_
  intro w18 B20 hg19
  simp only [nf0, nf1, nf2, nf3, nf4]
  replace O9 := O9.keptB hg19 n10
  replace bel := bl_kept0 bel hg19 lo5
  clear hg19
  clear B8
  replace B20 : Blk w18 g1 #[v11] 39 := B20
  refine st_mv (.int .i64 (-1)) ?_
  simp only [nf0, nf1, nf2, nf3, nf4]
  refine wpList_nil ?_
  show Code.wp _ _ _ _ _
  refine wp_ret ?_
  first | show bodyPost _ _ _ _ _ _ | (simp only [Exit.then, Exit.inBlock]; show bodyPost _ _ _ _ _ _)
  have hb := fvA_bad l
  have he : (fvA l).2 = -1 := by omega
  have hR : (fvR l) = (fvA l).1 := by unfold fvR; rw [if_pos he]
  rw [hy13 he, ← hR] at O9
  exact bodyPost_ret (results_cell1t rfl u_one_39 (by rfl) B20) rfl ⟨_, rfl, _, by rw [he]; rfl, O9, bel⟩
set_option maxRecDepth 100000 in
set_option maxHeartbeats 4000000 in
theorem parseEntries_calls (A : Option Addr) (l : List UInt8) (cap : Nat) (hcap : l.length ≤ cap) (hl : l.length ≤ 100000) (w : World) (hr : Reads w A (eByte.all l)) : Calls Tryd.prog 20 #[.slice A l.length cap] w fun e w' => ∃ u, e = .returned u ∧ ∃ v, u = .tuple #[v, .int .i64 (fvA l).2] ∧ OwnR w' w.heap.size 46 eEnt v ((fvR l).map enOf) ∧ Below w.heap.size w w' := by
  have bel : Below w.heap.size w w := Below.refl _ _
  go_enter Tryd.func20, Tryd.ntmps20
  refine wp_seq ?_
  refine wp_region_lit ?_
  refine st_new (cs := #[.slice none 0 0]) (t := 40) (by rfl) (run_allocV rfl u_zero_40 _) ?_
  intro g1 w2 B3 hb4 lo5
  simp only [nf0, nf1, nf2, nf3, nf4]
  replace lo5 := low_le bel lo5
  replace bel := bl_step bel hb4
  clear hb4
  refine st_mv (.int .i64 0) ?_
  simp only [nf0, nf1, nf2, nf3, nf4]
  refine wpList_nil ?_
  show Code.wp _ _ _ _ _
  refine wp_seq ?_
  have O6 : OwnR w2 w.heap.size 46 eEnt (.slice none 0 0) [] := OwnR.nil _ _ _ _
  have n7 : Off (.slice none 0 0) g1 := Off.nil _
  refine wp_region_lit ?_
  refine st_mv (.slice A l.length cap) ?_
  simp only [nf0, nf1, nf2, nf3, nf4]
  refine st_value (v := (.func (.func 36) #[] #[.pointer (some ⟨g1, 0, none⟩)])) (by rfl) (run_func (f := .func 36) (c := #[.tmp 2]) (v := (.func (.func 36) #[] #[.pointer (some ⟨g1, 0, none⟩)])) (by rfl) (by rw [List.map_toArray]; rfl) w2) ?_
  simp only [nf0, nf1, nf2, nf3, nf4]
  refine st_call (by rfl) (u_run_call_34_3 (.tmp 4) (.const (.int .i64 5)) (.tmp 5) rfl rfl rfl rfl _) (parseEntry_at (w0 := w) hcap hl hr B3 O6 n7 bel lo5) ?_
  rintro _ w14 ⟨rfl, v11, ys12, B8, O9, hy13, n10, hf15⟩
  simp only [nf0, nf1, nf2, nf3, nf4]
  replace bel := hf15
  clear B3
  clear O6
  refine st_mv (.int .i64 ((fvA l).2)) ?_
  simp only [nf0, nf1, nf2, nf3, nf4]
  refine wpList_nil ?_
  show Code.wp _ _ _ _ _
  refine wp_seq ?_
  refine wp_seq ?_
  refine wp_region_lit ?_
  refine st_mv (.int .i64 ((fvA l).2)) ?_
  simp only [nf0, nf1, nf2, nf3, nf4]
  refine st_value (v := (.bool (decide (0 ≤ ((fvA l).2))))) (by rfl) (run_geq (.tmp 7) (.const (.int .i64 0)) rfl rfl rfl w14) ?_
  simp only [nf0, nf1, nf2, nf3, nf4]
  refine wpList_nil ?_
  show Code.wp _ _ _ _ _
  cases hg16 : decide (0 ≤ ((fvA l).2))
  rotate_left
  · have hp21 := of_decide_eq_true hg16
    refine wp_cond_true rfl ?_
    refine wp_seq ?_
    refine wp_region_lit ?_
    refine st_mv (.int .i64 ((fvA l).2)) ?_
    simp only [nf0, nf1, nf2, nf3, nf4]
    refine st_cell (v := (.slice none 0 0)) (by rfl) (run_storeB (.tmp 2) (.const (.slice none 0 0)) rfl u_one_40 B8 (show 0 < 1 by decide) rfl rfl rfl rfl) B8 ?_
    intro w22 B24 hg23
    simp only [nf0, nf1, nf2, nf3, nf4]
    replace O9 := O9.keptB hg23 n10
    replace bel := bl_kept0 bel hg23 lo5
    clear hg23
    clear B8
    replace B24 : Blk w22 g1 #[.slice none 0 0] 40 := B24
    refine st_mv (.int .i64 ((fvA l).2)) ?_
    simp only [nf0, nf1, nf2, nf3, nf4]
    refine wpList_nil ?_
    show Code.wp _ _ _ _ _
    refine wp_ret ?_
    first | show bodyPost _ _ _ _ _ _ | (simp only [Exit.then, Exit.inBlock]; show bodyPost _ _ _ _ _ _)
    have hR : ((fvR l).map enOf) = [] := by unfold fvR; rw [if_neg (by omega)]; rfl
    exact bodyPost_ret (results_cell1t rfl u_one_40 (by rfl) B24) rfl ⟨_, rfl, _, rfl, by rw [hR]; exact OwnR.nil _ _ _ _, bel⟩
  have hp17 := of_decide_eq_false hg16
  refine wp_cond_false rfl ?_
  refine wp_skip ?_
  show Code.wp _ _ _ _ _
  refine wp_seq ?_
  refine wp_region_lit ?_
  refine st_value (v := v11) (by rfl) (run_loadB (.tmp 2) rfl u_one_40 rfl B8 rfl) ?_
  simp only [nf0, nf1, nf2, nf3, nf4]
  refine st_cell (v := v11) (by rfl) (run_storeB (.tmp 2) (.tmp 10) rfl u_one_40 B8 (show 0 < 1 by decide) rfl rfl (OwnR.cell1 O9).1 (OwnR.cell1 O9).2) B8 ?_
  intro w18 B20 hg19
  simp only [nf0, nf1, nf2, nf3, nf4]
  replace O9 := O9.keptB hg19 n10
  replace bel := bl_kept0 bel hg19 lo5
  clear hg19
  clear B8
  replace B20 : Blk w18 g1 #[v11] 40 := B20
  refine st_mv (.int .i64 (-1)) ?_
  simp only [nf0, nf1, nf2, nf3, nf4]
  refine wpList_nil ?_
  show Code.wp _ _ _ _ _
  refine wp_ret ?_
  first | show bodyPost _ _ _ _ _ _ | (simp only [Exit.then, Exit.inBlock]; show bodyPost _ _ _ _ _ _)
  have hb := fvA_bad l
  have he : (fvA l).2 = -1 := by omega
  have hR : ((fvR l).map enOf) = ((fvA l).1.map enOf) := by unfold fvR; rw [if_pos he]
  rw [hy13 he, ← hR] at O9
  exact bodyPost_ret (results_cell1t rfl u_one_40 (by rfl) B20) rfl ⟨_, rfl, _, by rw [he]; rfl, O9, bel⟩
end Go.Proofs.YtckmihjekgbcmaaDoor

/- codec's Events and Entries. -/
namespace Go.Proofs.YtckmihjekgbcmaaDoor
open Go.RowKit Go.WideShapes Go.ChangeShapes
set_option linter.unusedSimpArgs false
set_option linter.unusedVariables false

theorem q_zero_42 : ZeroOf Tryd.prog 42 #[.int .i64 0, .int .i64 0, .int .i64 0, .int .i64 0, .int .i64 0] := zeroOf (z := .agg #[.int .i64 0, .int .i64 0, .int .i64 0, .int .i64 0, .int .i64 0]) (by kernel_rfl) rfl
theorem q_fld_42_0 : FieldAt Tryd.prog 42 0 0 := fieldAt_of (s := 0) Tryd.underlying42 (by kernel_rfl)
theorem q_one_3 : One Tryd.prog 3 := one_of Tryd.underlying3 rfl (by kernel_rfl)
theorem q_fld_42_1 : FieldAt Tryd.prog 42 1 1 := fieldAt_of (s := 0) Tryd.underlying42 (by kernel_rfl)
theorem q_fld_42_2 : FieldAt Tryd.prog 42 2 2 := fieldAt_of (s := 0) Tryd.underlying42 (by kernel_rfl)
theorem q_fld_42_3 : FieldAt Tryd.prog 42 3 3 := fieldAt_of (s := 0) Tryd.underlying42 (by kernel_rfl)
theorem q_fld_42_4 : FieldAt Tryd.prog 42 4 4 := fieldAt_of (s := 0) Tryd.underlying42 (by kernel_rfl)
theorem q_run_call_30_2 {o : Oper} {a : Act} (x0 : Operand) (x1 : Operand) {ts : Array TypeId} (ho : o.op = .call { callee := .value (.func 30), args := #[x0, x1], argTypes := ts }) {v0 : Value} (h0 : a.eval x0 = v0) {v1 : Value} (h1 : a.eval x1 = v1) (W : World) : (execOp a.eval o).run Tryd.prog W = .ok (.enter 30 #[v0, v1]) W := by
  unfold execOp
  simp only [ho]
  subst h0 h1
  go_simp
theorem q_run_lit_67_5 {o : Oper} {a : Act} (x0 : Operand) (x1 : Operand) (x2 : Operand) (x3 : Operand) (x4 : Operand) (ho : o.op = .buildSlice 67 5 #[(0, x0), (1, x1), (2, x2), (3, x3), (4, x4)]) {m0 : Int} (h0 : a.eval x0 = (.int .i64 m0)) {m1 : Int} (h1 : a.eval x1 = (.int .i64 m1)) {m2 : Int} (h2 : a.eval x2 = (.int .i64 m2)) {m3 : Int} (h3 : a.eval x3 = (.int .i64 m3)) {m4 : Int} (h4 : a.eval x4 = (.int .i64 m4)) (W : World) : (execOp a.eval o).run Tryd.prog W = .ok (.value (.slice (some ⟨W.heap.size, 0, none⟩) 5 5)) (W.alloc (.cells #[(.int .i64 m0), (.int .i64 m1), (.int .i64 m2), (.int .i64 m3), (.int .i64 m4)] 3)) := by
  unfold execOp
  simp only [ho, List.map_toArray, List.map_cons, List.map_nil, h0, h1, h2, h3, h4]
  go_simp
theorem q_zero_46 : ZeroOf Tryd.prog 46 #[.int .i64 0, .int .i64 0, .int .i64 0, .int .i64 0, .int .u64 0] := zeroOf (z := .agg #[.int .i64 0, .int .i64 0, .int .i64 0, .int .i64 0, .int .u64 0]) (by kernel_rfl) rfl
theorem q_fld_46_0 : FieldAt Tryd.prog 46 0 0 := fieldAt_of (s := 0) Tryd.underlying46 (by kernel_rfl)
theorem q_fld_46_1 : FieldAt Tryd.prog 46 1 1 := fieldAt_of (s := 0) Tryd.underlying46 (by kernel_rfl)
theorem q_fld_46_2 : FieldAt Tryd.prog 46 2 2 := fieldAt_of (s := 0) Tryd.underlying46 (by kernel_rfl)
theorem q_fld_46_3 : FieldAt Tryd.prog 46 3 3 := fieldAt_of (s := 0) Tryd.underlying46 (by kernel_rfl)
theorem q_fld_46_4 : FieldAt Tryd.prog 46 4 4 := fieldAt_of (s := 0) Tryd.underlying46 (by kernel_rfl)
theorem q_one_44 : One Tryd.prog 44 := one_of Tryd.underlying44 rfl (by kernel_rfl)

attribute [local irreducible] Go.wpList Go.Code.wp
set_option maxRecDepth 100000 in
set_option maxHeartbeats 4000000 in
theorem putEvents_calls (A : Option Addr) (xs : List TEvt) (cap : Nat) (hcap : xs.length ≤ cap) (hl : xs.length ≤ 100000) (hok : ∀ x ∈ xs, okEvt x) (w : World) (hr : Reads w A (eEvt.all xs)) : Calls Tryd.prog 21 #[.slice A xs.length cap] w fun e w' => ∃ v, e = .returned v ∧ OwnR w' w.heap.size 5 eByte v (vbs (xs.flatMap evL)) ∧ Below w.heap.size w w' := by
  have bel : Below w.heap.size w w := Below.refl _ _
  go_enter Tryd.func21, Tryd.ntmps21
  refine wp_seq ?_
  refine wp_region_lit ?_
  have O1 : OwnR w w.heap.size 5 eByte (.slice none 0 0) [] := OwnR.nil _ _ _ _
  refine st_mv (.slice none 0 0) ?_
  simp only [nf0, nf1, nf2, nf3, nf4]
  refine wpList_nil ?_
  show Code.wp _ _ _ _ _
  refine wp_seq ?_
  refine wp_seq ?_
  refine wp_region_lit ?_
  refine st_mv (.slice A xs.length cap) ?_
  simp only [nf0, nf1, nf2, nf3, nf4]
  refine st_value (v := (.int .i64 (xs.length : Int))) (by rfl) (run_len (.tmp 5) rfl ⟨_, Tryd.underlying39⟩ rfl w) ?_
  simp only [nf0, nf1, nf2, nf3, nf4]
  refine st_mv (.int .i64 0) ?_
  simp only [nf0, nf1, nf2, nf3, nf4]
  refine wpList_nil ?_
  show Code.wp _ _ _ _ _
  refine wp_block ?_
  refine wp_loop_left (fun n_ a_ wr_ => (fun J3 => ∃ (k : Nat) (v2 : Value), n_ = xs.length - k ∧ a_ = ⟨#[.slice A xs.length cap, J3 1, v2, J3 3, J3 4, .slice A xs.length cap, .int .i64 (xs.length : Int), .int .i64 (k : Int), J3 8, J3 9, J3 10, J3 11, J3 12, J3 13, J3 14, J3 15, J3 16, J3 17, J3 18, J3 19, J3 20, J3 21, J3 22, J3 23, J3 24, J3 25], []⟩ ∧ OwnR wr_ w.heap.size 5 eByte v2 (vbs ((xs.take k).flatMap evL)) ∧ Below w.heap.size w wr_ ∧ (k ≤ xs.length)) (jk a_)) (xs.length - 0) ⟨0, (.slice none 0 0), rfl, rfl, (by rw [List.take_zero]; exact O1), bel, (Nat.zero_le _)⟩ ?_
  clear O1
  clear bel
  intro n_ a_ w4 h_
  revert h_
  generalize jk a_ = J3
  rintro ⟨k, v2, hms, rfl, O1, bel, hk⟩
  refine wp_seq ?_
  refine wp_region_lit ?_
  refine st_value (v := (.bool (decide ((k : Int) < (xs.length : Int))))) (by rfl) (run_lss (.tmp 7) (.tmp 6) rfl rfl rfl w4) ?_
  simp only [nf0, nf1, nf2, nf3, nf4]
  refine wpList_nil ?_
  show Code.wp _ _ _ _ _
  refine wp_seq ?_
  cases hg5 : decide ((k : Int) < (xs.length : Int))
  · have hp6 := of_decide_eq_false hg5
    refine wp_cond_false rfl ?_
    refine wp_exit ?_
    show Code.wp _ _ _ _ _
    refine wp_seq ?_
    refine wp_region_lit ?_
    refine st_mv v2 ?_
    simp only [nf0, nf1, nf2, nf3, nf4]
    refine st_mv v2 ?_
    simp only [nf0, nf1, nf2, nf3, nf4]
    refine wpList_nil ?_
    show Code.wp _ _ _ _ _
    refine wp_ret ?_
    first | show bodyPost _ _ _ _ _ _ | (simp only [Exit.then, Exit.inBlock]; show bodyPost _ _ _ _ _ _)
    obtain rfl : k = xs.length := by omega
    exact bodyPost_ret (results_tmp rfl _ _ _) rfl ⟨_, rfl, by have h := O1; rw [List.take_length] at h; exact h, bel⟩
  have hp7 := of_decide_eq_true hg5
  refine wp_cond_true rfl ?_
  refine wp_skip ?_
  show Code.wp _ _ _ _ _
  refine wp_seq ?_
  refine wp_block ?_
  refine wp_seq ?_
  obtain ⟨b8, o9, rfl, _⟩ := (hr.same bel).at_ (by rw [Enc.all_length]; exact Nat.mul_pos (by omega) (by decide))
  refine wp_region_lit ?_
  refine st_value (v := (.pointer (some ⟨b8, o9 + k * 5, none⟩))) (by rfl) (run_indexAddrN (.tmp 5) (.tmp 7) rfl Tryd.underlying39 slEvt.sz (i := k) rfl rfl (by omega) w4) ?_
  simp only [nf0, nf1, nf2, nf3, nf4]
  refine st_value (v := (.agg #[.int .i64 ((evtAt xs k).1), .int .i64 ((evtAt xs k).2.1), .int .i64 ((evtAt xs k).2.2.1), .int .i64 ((evtAt xs k).2.2.2.1), .int .i64 ((evtAt xs k).2.2.2.2)])) (by rfl) (run_loadE (E := eEvt) (.tmp 9) rfl aggEvt rfl (hr.same bel) (evtAt_get (by omega))) ?_
  simp only [nf0, nf1, nf2, nf3, nf4]
  refine st_new (cs := #[.int .i64 0, .int .i64 0, .int .i64 0, .int .i64 0, .int .i64 0]) (t := 42) (by rfl) (run_allocV rfl q_zero_42 _) ?_
  intro g10 w11 B12 hb13 lo14
  simp only [nf0, nf1, nf2, nf3, nf4]
  have n15 := O1.off lo14
  replace lo14 := low_le bel lo14
  replace O1 := O1.same hb13
  replace bel := bl_step bel hb13
  clear hb13
  refine st_row (by rfl) (run_storeW (.tmp 4) (.tmp 10) rfl (cs := #[.int .i64 ((evtAt xs k).1), .int .i64 ((evtAt xs k).2.1), .int .i64 ((evtAt xs k).2.2.1), .int .i64 ((evtAt xs k).2.2.2.1), .int .i64 ((evtAt xs k).2.2.2.2)]) aggEvt rfl rfl B12 rfl (by simp [Value.oneCell'])) B12 ?_
  intro w16 B18 hg17
  simp only [nf0, nf1, nf2, nf3, nf4]
  replace O1 := O1.keptB hg17 n15
  replace bel := bl_kept0 bel hg17 lo14
  clear hg17
  clear B12
  refine wpList_nil ?_
  show Code.wp _ _ _ _ _
  refine wp_region_lit ?_
  refine st_mv v2 ?_
  simp only [nf0, nf1, nf2, nf3, nf4]
  refine st_value (v := (.pointer (some ⟨g10, 0, none⟩))) (by rfl) (run_fieldA (.tmp 4) rfl q_fld_42_0 rfl rfl w16) ?_
  simp only [nf0, nf1, nf2, nf3, nf4]
  refine st_value (v := (.int .i64 ((evtAt xs k).1))) (by rfl) (run_loadB (.tmp 12) rfl q_one_3 rfl B18 rfl) ?_
  simp only [nf0, nf1, nf2, nf3, nf4]
  refine st_value (v := (.pointer (some ⟨g10, 1, none⟩))) (by rfl) (run_fieldA (.tmp 4) rfl q_fld_42_1 rfl rfl w16) ?_
  simp only [nf0, nf1, nf2, nf3, nf4]
  refine st_value (v := (.int .i64 ((evtAt xs k).2.1))) (by rfl) (run_loadB (.tmp 14) rfl q_one_3 rfl B18 rfl) ?_
  simp only [nf0, nf1, nf2, nf3, nf4]
  refine st_value (v := (.pointer (some ⟨g10, 2, none⟩))) (by rfl) (run_fieldA (.tmp 4) rfl q_fld_42_2 rfl rfl w16) ?_
  simp only [nf0, nf1, nf2, nf3, nf4]
  refine st_value (v := (.int .i64 ((evtAt xs k).2.2.1))) (by rfl) (run_loadB (.tmp 16) rfl q_one_3 rfl B18 rfl) ?_
  simp only [nf0, nf1, nf2, nf3, nf4]
  refine st_value (v := (.pointer (some ⟨g10, 3, none⟩))) (by rfl) (run_fieldA (.tmp 4) rfl q_fld_42_3 rfl rfl w16) ?_
  simp only [nf0, nf1, nf2, nf3, nf4]
  refine st_value (v := (.int .i64 ((evtAt xs k).2.2.2.1))) (by rfl) (run_loadB (.tmp 18) rfl q_one_3 rfl B18 rfl) ?_
  simp only [nf0, nf1, nf2, nf3, nf4]
  refine st_value (v := (.pointer (some ⟨g10, 4, none⟩))) (by rfl) (run_fieldA (.tmp 4) rfl q_fld_42_4 rfl rfl w16) ?_
  simp only [nf0, nf1, nf2, nf3, nf4]
  refine st_value (v := (.int .i64 ((evtAt xs k).2.2.2.2))) (by rfl) (run_loadB (.tmp 20) rfl q_one_3 rfl B18 rfl) ?_
  simp only [nf0, nf1, nf2, nf3, nf4]
  refine st_lit (by rfl) (q_run_lit_67_5 (.tmp 13) (.tmp 15) (.tmp 17) (.tmp 19) (.tmp 21) rfl rfl rfl rfl rfl rfl _) ?_
  intro g19 w20 B21 hb22 lo23
  simp only [nf0, nf1, nf2, nf3, nf4]
  have n24 := O1.off lo23
  have n25 := B18.ne lo23
  replace lo23 := low_le bel lo23
  replace O1 := O1.same hb22
  replace B18 := B18.below hb22
  replace bel := bl_step bel hb22
  clear hb22
  refine st_call (by rfl) (q_run_call_30_2 (.tmp 11) (.tmp 22) rfl rfl rfl _) (putAll_calls (ns := evL (evtAt xs k)) (cap := 5) O1 bel.size (B21.readsAt _ rfl) (evL_I64 (hok _ (evtAt_mem (by omega)))) (by have := ev_take_len (E := evL) hok (fun x hx => evL_I64 hx) evL5 k; rw [evL5]; omega)) ?_
  rintro v26 w28 ⟨O27, hf29⟩
  simp only [nf0, nf1, nf2, nf3, nf4]
  replace B18 := B18.below hf29
  replace bel := bl_step bel hf29
  clear hf29
  clear O1
  clear B21
  refine st_mv v26 ?_
  simp only [nf0, nf1, nf2, nf3, nf4]
  refine wpList_nil ?_
  show Code.wp _ _ _ _ _
  refine wp_region_lit ?_
  refine st_value (v := (.int .i64 ((k : Int) + 1))) (by rfl) (run_add_in (.tmp 7) (.const (.int .i64 1)) rfl rfl rfl (by omega) w28) ?_
  simp only [nf0, nf1, nf2, nf3, nf4]
  refine st_mv (.int .i64 ((k : Int) + 1)) ?_
  simp only [nf0, nf1, nf2, nf3, nf4]
  refine wpList_nil ?_
  show ∃ m, m < _ ∧ _
  exact ⟨_, (by omega), (k + 1), v26, rfl, rfl, (by rw [flat_take evL (evtAt_get (by omega)), vbs_append]; exact O27), bel, (by omega)⟩
set_option maxRecDepth 100000 in
set_option maxHeartbeats 4000000 in
theorem putEntries_calls (A : Option Addr) (xs : List TEnt) (cap : Nat) (hcap : xs.length ≤ cap) (hl : xs.length ≤ 100000) (hok : ∀ x ∈ xs, okEnt x) (w : World) (hr : Reads w A (eEnt.all xs)) : Calls Tryd.prog 22 #[.slice A xs.length cap] w fun e w' => ∃ v, e = .returned v ∧ OwnR w' w.heap.size 5 eByte v (vbs (xs.flatMap enL)) ∧ Below w.heap.size w w' := by
  have bel : Below w.heap.size w w := Below.refl _ _
  go_enter Tryd.func22, Tryd.ntmps22
  refine wp_seq ?_
  refine wp_region_lit ?_
  have O1 : OwnR w w.heap.size 5 eByte (.slice none 0 0) [] := OwnR.nil _ _ _ _
  refine st_mv (.slice none 0 0) ?_
  simp only [nf0, nf1, nf2, nf3, nf4]
  refine wpList_nil ?_
  show Code.wp _ _ _ _ _
  refine wp_seq ?_
  refine wp_seq ?_
  refine wp_region_lit ?_
  refine st_mv (.slice A xs.length cap) ?_
  simp only [nf0, nf1, nf2, nf3, nf4]
  refine st_value (v := (.int .i64 (xs.length : Int))) (by rfl) (run_len (.tmp 5) rfl ⟨_, Tryd.underlying40⟩ rfl w) ?_
  simp only [nf0, nf1, nf2, nf3, nf4]
  refine st_mv (.int .i64 0) ?_
  simp only [nf0, nf1, nf2, nf3, nf4]
  refine wpList_nil ?_
  show Code.wp _ _ _ _ _
  refine wp_block ?_
  refine wp_loop_left (fun n_ a_ wr_ => (fun J3 => ∃ (k : Nat) (v2 : Value), n_ = xs.length - k ∧ a_ = ⟨#[.slice A xs.length cap, J3 1, v2, J3 3, J3 4, .slice A xs.length cap, .int .i64 (xs.length : Int), .int .i64 (k : Int), J3 8, J3 9, J3 10, J3 11, J3 12, J3 13, J3 14, J3 15, J3 16, J3 17, J3 18, J3 19, J3 20, J3 21, J3 22, J3 23, J3 24, J3 25, J3 26], []⟩ ∧ OwnR wr_ w.heap.size 5 eByte v2 (vbs ((xs.take k).flatMap enL)) ∧ Below w.heap.size w wr_ ∧ (k ≤ xs.length)) (jk a_)) (xs.length - 0) ⟨0, (.slice none 0 0), rfl, rfl, (by rw [List.take_zero]; exact O1), bel, (Nat.zero_le _)⟩ ?_
  clear O1
  clear bel
  intro n_ a_ w4 h_
  revert h_
  generalize jk a_ = J3
  rintro ⟨k, v2, hms, rfl, O1, bel, hk⟩
  refine wp_seq ?_
  refine wp_region_lit ?_
  refine st_value (v := (.bool (decide ((k : Int) < (xs.length : Int))))) (by rfl) (run_lss (.tmp 7) (.tmp 6) rfl rfl rfl w4) ?_
  simp only [nf0, nf1, nf2, nf3, nf4]
  refine wpList_nil ?_
  show Code.wp _ _ _ _ _
  refine wp_seq ?_
  cases hg5 : decide ((k : Int) < (xs.length : Int))
  · have hp6 := of_decide_eq_false hg5
    refine wp_cond_false rfl ?_
    refine wp_exit ?_
    show Code.wp _ _ _ _ _
    refine wp_seq ?_
    refine wp_region_lit ?_
    refine st_mv v2 ?_
    simp only [nf0, nf1, nf2, nf3, nf4]
    refine st_mv v2 ?_
    simp only [nf0, nf1, nf2, nf3, nf4]
    refine wpList_nil ?_
    show Code.wp _ _ _ _ _
    refine wp_ret ?_
    first | show bodyPost _ _ _ _ _ _ | (simp only [Exit.then, Exit.inBlock]; show bodyPost _ _ _ _ _ _)
    obtain rfl : k = xs.length := by omega
    exact bodyPost_ret (results_tmp rfl _ _ _) rfl ⟨_, rfl, by have h := O1; rw [List.take_length] at h; exact h, bel⟩
  have hp7 := of_decide_eq_true hg5
  refine wp_cond_true rfl ?_
  refine wp_skip ?_
  show Code.wp _ _ _ _ _
  refine wp_seq ?_
  refine wp_block ?_
  refine wp_seq ?_
  obtain ⟨b8, o9, rfl, _⟩ := (hr.same bel).at_ (by rw [Enc.all_length]; exact Nat.mul_pos (by omega) (by decide))
  refine wp_region_lit ?_
  refine st_value (v := (.pointer (some ⟨b8, o9 + k * 5, none⟩))) (by rfl) (run_indexAddrN (.tmp 5) (.tmp 7) rfl Tryd.underlying40 slEnt.sz (i := k) rfl rfl (by omega) w4) ?_
  simp only [nf0, nf1, nf2, nf3, nf4]
  refine st_value (v := (.agg #[.int .i64 ((entAt xs k).1), .int .i64 ((entAt xs k).2.1), .int .i64 ((entAt xs k).2.2.1), .int .i64 ((entAt xs k).2.2.2.1), .int .u64 ((entAt xs k).2.2.2.2)])) (by rfl) (run_loadE (E := eEnt) (.tmp 9) rfl aggEnt rfl (hr.same bel) (entAt_get (by omega))) ?_
  simp only [nf0, nf1, nf2, nf3, nf4]
  refine st_new (cs := #[.int .i64 0, .int .i64 0, .int .i64 0, .int .i64 0, .int .u64 0]) (t := 46) (by rfl) (run_allocV rfl q_zero_46 _) ?_
  intro g10 w11 B12 hb13 lo14
  simp only [nf0, nf1, nf2, nf3, nf4]
  have n15 := O1.off lo14
  replace lo14 := low_le bel lo14
  replace O1 := O1.same hb13
  replace bel := bl_step bel hb13
  clear hb13
  refine st_row (by rfl) (run_storeW (.tmp 4) (.tmp 10) rfl (cs := #[.int .i64 ((entAt xs k).1), .int .i64 ((entAt xs k).2.1), .int .i64 ((entAt xs k).2.2.1), .int .i64 ((entAt xs k).2.2.2.1), .int .u64 ((entAt xs k).2.2.2.2)]) aggEnt rfl rfl B12 rfl (by simp [Value.oneCell'])) B12 ?_
  intro w16 B18 hg17
  simp only [nf0, nf1, nf2, nf3, nf4]
  replace O1 := O1.keptB hg17 n15
  replace bel := bl_kept0 bel hg17 lo14
  clear hg17
  clear B12
  refine wpList_nil ?_
  show Code.wp _ _ _ _ _
  refine wp_region_lit ?_
  refine st_mv v2 ?_
  simp only [nf0, nf1, nf2, nf3, nf4]
  refine st_value (v := (.pointer (some ⟨g10, 0, none⟩))) (by rfl) (run_fieldA (.tmp 4) rfl q_fld_46_0 rfl rfl w16) ?_
  simp only [nf0, nf1, nf2, nf3, nf4]
  refine st_value (v := (.int .i64 ((entAt xs k).1))) (by rfl) (run_loadB (.tmp 12) rfl q_one_3 rfl B18 rfl) ?_
  simp only [nf0, nf1, nf2, nf3, nf4]
  refine st_value (v := (.pointer (some ⟨g10, 1, none⟩))) (by rfl) (run_fieldA (.tmp 4) rfl q_fld_46_1 rfl rfl w16) ?_
  simp only [nf0, nf1, nf2, nf3, nf4]
  refine st_value (v := (.int .i64 ((entAt xs k).2.1))) (by rfl) (run_loadB (.tmp 14) rfl q_one_3 rfl B18 rfl) ?_
  simp only [nf0, nf1, nf2, nf3, nf4]
  refine st_value (v := (.pointer (some ⟨g10, 2, none⟩))) (by rfl) (run_fieldA (.tmp 4) rfl q_fld_46_2 rfl rfl w16) ?_
  simp only [nf0, nf1, nf2, nf3, nf4]
  refine st_value (v := (.int .i64 ((entAt xs k).2.2.1))) (by rfl) (run_loadB (.tmp 16) rfl q_one_3 rfl B18 rfl) ?_
  simp only [nf0, nf1, nf2, nf3, nf4]
  refine st_value (v := (.pointer (some ⟨g10, 3, none⟩))) (by rfl) (run_fieldA (.tmp 4) rfl q_fld_46_3 rfl rfl w16) ?_
  simp only [nf0, nf1, nf2, nf3, nf4]
  refine st_value (v := (.int .i64 ((entAt xs k).2.2.2.1))) (by rfl) (run_loadB (.tmp 18) rfl q_one_3 rfl B18 rfl) ?_
  simp only [nf0, nf1, nf2, nf3, nf4]
  refine st_value (v := (.pointer (some ⟨g10, 4, none⟩))) (by rfl) (run_fieldA (.tmp 4) rfl q_fld_46_4 rfl rfl w16) ?_
  simp only [nf0, nf1, nf2, nf3, nf4]
  refine st_value (v := (.int .u64 ((entAt xs k).2.2.2.2))) (by rfl) (run_loadB (.tmp 20) rfl q_one_44 rfl B18 rfl) ?_
  simp only [nf0, nf1, nf2, nf3, nf4]
  refine st_value (v := (.int .i64 (IntKind.i64.wrap (entAt xs k).2.2.2.2))) (by rfl) (run_conv_u64_i64 (.tmp 21) rfl Tryd.underlying44 Tryd.underlying3 (z := (entAt xs k).2.2.2.2) rfl rfl w16) ?_
  simp only [nf0, nf1, nf2, nf3, nf4]
  refine st_lit (by rfl) (q_run_lit_67_5 (.tmp 13) (.tmp 15) (.tmp 17) (.tmp 19) (.tmp 22) rfl rfl rfl rfl rfl rfl _) ?_
  intro g19 w20 B21 hb22 lo23
  simp only [nf0, nf1, nf2, nf3, nf4]
  have n24 := O1.off lo23
  have n25 := B18.ne lo23
  replace lo23 := low_le bel lo23
  replace O1 := O1.same hb22
  replace B18 := B18.below hb22
  replace bel := bl_step bel hb22
  clear hb22
  refine st_call (by rfl) (q_run_call_30_2 (.tmp 11) (.tmp 23) rfl rfl rfl _) (putAll_calls (ns := enL (entAt xs k)) (cap := 5) O1 bel.size (B21.readsAt _ rfl) (enL_I64 (hok _ (entAt_mem (by omega)))) (by have := ev_take_len (E := enL) hok (fun x hx => enL_I64 hx) enL5 k; rw [enL5]; omega)) ?_
  rintro v26 w28 ⟨O27, hf29⟩
  simp only [nf0, nf1, nf2, nf3, nf4]
  replace B18 := B18.below hf29
  replace bel := bl_step bel hf29
  clear hf29
  clear O1
  clear B21
  refine st_mv v26 ?_
  simp only [nf0, nf1, nf2, nf3, nf4]
  refine wpList_nil ?_
  show Code.wp _ _ _ _ _
  refine wp_region_lit ?_
  refine st_value (v := (.int .i64 ((k : Int) + 1))) (by rfl) (run_add_in (.tmp 7) (.const (.int .i64 1)) rfl rfl rfl (by omega) w28) ?_
  simp only [nf0, nf1, nf2, nf3, nf4]
  refine st_mv (.int .i64 ((k : Int) + 1)) ?_
  simp only [nf0, nf1, nf2, nf3, nf4]
  refine wpList_nil ?_
  show ∃ m, m < _ ∧ _
  exact ⟨_, (by omega), (k + 1), v26, rfl, rfl, (by rw [flat_take enL (entAt_get (by omega)), vbs_append]; exact O27), bel, (by omega)⟩
end Go.Proofs.YtckmihjekgbcmaaDoor

/- The document's bytes of an event, of an entry. -/
namespace Go.Proofs.YtckmihjekgbcmaaDoor
open Go.RowKit Go.WideShapes Go.ChangeShapes
set_option linter.unusedSimpArgs false
set_option linter.unusedVariables false

theorem p_fld_42_0 : FieldAt Tryd.prog 42 0 0 := fieldAt_of (s := 0) Tryd.underlying42 (by kernel_rfl)
theorem p_one_3 : One Tryd.prog 3 := one_of Tryd.underlying3 rfl (by kernel_rfl)
theorem p_fld_42_1 : FieldAt Tryd.prog 42 1 1 := fieldAt_of (s := 0) Tryd.underlying42 (by kernel_rfl)
theorem p_fld_42_2 : FieldAt Tryd.prog 42 2 2 := fieldAt_of (s := 0) Tryd.underlying42 (by kernel_rfl)
theorem p_fld_42_3 : FieldAt Tryd.prog 42 3 3 := fieldAt_of (s := 0) Tryd.underlying42 (by kernel_rfl)
theorem p_fld_42_4 : FieldAt Tryd.prog 42 4 4 := fieldAt_of (s := 0) Tryd.underlying42 (by kernel_rfl)
theorem p_run_call_10_1 {o : Oper} {a : Act} (x0 : Operand) {ts : Array TypeId} (ho : o.op = .call { callee := .value (.func 10), args := #[x0], argTypes := ts }) {v0 : Value} (h0 : a.eval x0 = v0) (W : World) : (execOp a.eval o).run Tryd.prog W = .ok (.enter 10 #[v0]) W := by
  unfold execOp
  simp only [ho]
  subst h0
  go_simp
theorem p_run_lit_67_5 {o : Oper} {a : Act} (x0 : Operand) (x1 : Operand) (x2 : Operand) (x3 : Operand) (x4 : Operand) (ho : o.op = .buildSlice 67 5 #[(0, x0), (1, x1), (2, x2), (3, x3), (4, x4)]) {m0 : Int} (h0 : a.eval x0 = (.int .i64 m0)) {m1 : Int} (h1 : a.eval x1 = (.int .i64 m1)) {m2 : Int} (h2 : a.eval x2 = (.int .i64 m2)) {m3 : Int} (h3 : a.eval x3 = (.int .i64 m3)) {m4 : Int} (h4 : a.eval x4 = (.int .i64 m4)) (W : World) : (execOp a.eval o).run Tryd.prog W = .ok (.value (.slice (some ⟨W.heap.size, 0, none⟩) 5 5)) (W.alloc (.cells #[(.int .i64 m0), (.int .i64 m1), (.int .i64 m2), (.int .i64 m3), (.int .i64 m4)] 3)) := by
  unfold execOp
  simp only [ho, List.map_toArray, List.map_cons, List.map_nil, h0, h1, h2, h3, h4]
  go_simp
theorem p_fld_46_0 : FieldAt Tryd.prog 46 0 0 := fieldAt_of (s := 0) Tryd.underlying46 (by kernel_rfl)
theorem p_fld_46_1 : FieldAt Tryd.prog 46 1 1 := fieldAt_of (s := 0) Tryd.underlying46 (by kernel_rfl)
theorem p_fld_46_2 : FieldAt Tryd.prog 46 2 2 := fieldAt_of (s := 0) Tryd.underlying46 (by kernel_rfl)
theorem p_fld_46_3 : FieldAt Tryd.prog 46 3 3 := fieldAt_of (s := 0) Tryd.underlying46 (by kernel_rfl)
theorem p_fld_46_4 : FieldAt Tryd.prog 46 4 4 := fieldAt_of (s := 0) Tryd.underlying46 (by kernel_rfl)
theorem p_one_44 : One Tryd.prog 44 := one_of Tryd.underlying44 rfl (by kernel_rfl)

attribute [local irreducible] Go.wpList Go.Code.wp
set_option maxRecDepth 100000 in
set_option maxHeartbeats 4000000 in
theorem refEvent_calls (p : TEvt) (hok : okEvt p) (w : World) : Calls Tryd.prog 15 #[.agg (eEvt.enc p).toArray] w fun e w' => ∃ v, e = .returned v ∧ OwnR w' w.heap.size 5 eByte v (vbs (evL p)) ∧ Below w.heap.size w w' := by
  have bel : Below w.heap.size w w := Below.refl _ _
  have hI := evL_I64 hok
  go_enter Tryd.func15, Tryd.ntmps15
  refine wp_seq ?_
  refine wp_region_lit ?_
  refine st_new (cs := #[.int .i64 p.1, .int .i64 p.2.1, .int .i64 p.2.2.1, .int .i64 p.2.2.2.1, .int .i64 p.2.2.2.2]) (t := 42) (by rfl) (run_boxV (.tmp 0) rfl (v := (.agg #[.int .i64 p.1, .int .i64 p.2.1, .int .i64 p.2.2.1, .int .i64 p.2.2.2.1, .int .i64 p.2.2.2.2])) rfl rfl _) ?_
  intro g1 w2 B3 hb4 lo5
  simp only [nf0, nf1, nf2, nf3, nf4]
  replace lo5 := low_le bel lo5
  replace bel := bl_step bel hb4
  clear hb4
  refine st_mv (.slice none 0 0) ?_
  simp only [nf0, nf1, nf2, nf3, nf4]
  refine wpList_nil ?_
  show Code.wp _ _ _ _ _
  refine wp_seq ?_
  refine wp_region_lit ?_
  have O6 : OwnR w2 w.heap.size 5 eByte (.slice none 0 0) [] := OwnR.nil _ _ _ _
  have n8 := Off.nil g1
  refine st_mv (.slice none 0 0) ?_
  simp only [nf0, nf1, nf2, nf3, nf4]
  refine wpList_nil ?_
  show Code.wp _ _ _ _ _
  refine wp_seq ?_
  refine wp_seq ?_
  refine wp_region_lit ?_
  refine st_value (v := (.pointer (some ⟨g1, 0, none⟩))) (by rfl) (run_fieldA (.tmp 1) rfl p_fld_42_0 rfl rfl w2) ?_
  simp only [nf0, nf1, nf2, nf3, nf4]
  refine st_value (v := (.int .i64 p.1)) (by rfl) (run_loadB (.tmp 6) rfl p_one_3 rfl B3 rfl) ?_
  simp only [nf0, nf1, nf2, nf3, nf4]
  refine st_value (v := (.pointer (some ⟨g1, 1, none⟩))) (by rfl) (run_fieldA (.tmp 1) rfl p_fld_42_1 rfl rfl w2) ?_
  simp only [nf0, nf1, nf2, nf3, nf4]
  refine st_value (v := (.int .i64 p.2.1)) (by rfl) (run_loadB (.tmp 8) rfl p_one_3 rfl B3 rfl) ?_
  simp only [nf0, nf1, nf2, nf3, nf4]
  refine st_value (v := (.pointer (some ⟨g1, 2, none⟩))) (by rfl) (run_fieldA (.tmp 1) rfl p_fld_42_2 rfl rfl w2) ?_
  simp only [nf0, nf1, nf2, nf3, nf4]
  refine st_value (v := (.int .i64 p.2.2.1)) (by rfl) (run_loadB (.tmp 10) rfl p_one_3 rfl B3 rfl) ?_
  simp only [nf0, nf1, nf2, nf3, nf4]
  refine st_value (v := (.pointer (some ⟨g1, 3, none⟩))) (by rfl) (run_fieldA (.tmp 1) rfl p_fld_42_3 rfl rfl w2) ?_
  simp only [nf0, nf1, nf2, nf3, nf4]
  refine st_value (v := (.int .i64 p.2.2.2.1)) (by rfl) (run_loadB (.tmp 12) rfl p_one_3 rfl B3 rfl) ?_
  simp only [nf0, nf1, nf2, nf3, nf4]
  refine st_value (v := (.pointer (some ⟨g1, 4, none⟩))) (by rfl) (run_fieldA (.tmp 1) rfl p_fld_42_4 rfl rfl w2) ?_
  simp only [nf0, nf1, nf2, nf3, nf4]
  refine st_value (v := (.int .i64 p.2.2.2.2)) (by rfl) (run_loadB (.tmp 14) rfl p_one_3 rfl B3 rfl) ?_
  simp only [nf0, nf1, nf2, nf3, nf4]
  refine st_lit (n := 5) (by rfl) (p_run_lit_67_5 (.tmp 7) (.tmp 9) (.tmp 11) (.tmp 13) (.tmp 15) rfl rfl rfl rfl rfl rfl _) ?_
  intro g9 w10 B11 hb12 lo13
  simp only [nf0, nf1, nf2, nf3, nf4]
  have n14 := B3.ne lo13
  have n15 := O6.off lo13
  replace lo13 := low_le bel lo13
  replace B3 := B3.below hb12
  replace O6 := O6.same hb12
  replace bel := bl_step bel hb12
  clear hb12
  refine st_value (v := (.int .i64 5)) (by rfl) (run_len (.tmp 16) rfl ⟨_, Tryd.underlying67⟩ rfl w10) ?_
  simp only [nf0, nf1, nf2, nf3, nf4]
  refine st_mv (.int .i64 0) ?_
  simp only [nf0, nf1, nf2, nf3, nf4]
  refine wpList_nil ?_
  show Code.wp _ _ _ _ _
  refine wp_block ?_
  refine wp_loop_rnds 5 ?_
  show Code.wp _ _ _ _ _
  refine wp_seq ?_
  refine wp_region_lit ?_
  refine st_value (v := (.bool true)) (by rfl) ((run_lss (.tmp 18) (.tmp 17) rfl rfl rfl w10).trans (by rw [decide_eq_true (by omega)])) ?_
  simp only [nf0, nf1, nf2, nf3, nf4]
  refine wpList_nil ?_
  show Code.wp _ _ _ _ _
  refine wp_seq ?_
  refine wp_cond_true rfl ?_
  refine wp_skip ?_
  show Code.wp _ _ _ _ _
  refine wp_seq ?_
  refine wp_block ?_
  refine wp_seq ?_
  refine wp_region_lit ?_
  refine st_value (v := (.pointer (some ⟨g9, 0, none⟩))) (by rfl) (run_index1 (.tmp 16) (.tmp 18) rfl Tryd.underlying67 (by kernel_rfl) rfl rfl (by omega) (by omega) w10) ?_
  simp only [nf0, nf1, nf2, nf3, nf4]
  refine st_value (v := (.int .i64 p.1)) (by rfl) (run_loadB (.tmp 20) rfl p_one_3 rfl B11 rfl) ?_
  simp only [nf0, nf1, nf2, nf3, nf4]
  refine st_mv (.int .i64 p.1) ?_
  simp only [nf0, nf1, nf2, nf3, nf4]
  refine wpList_nil ?_
  show Code.wp _ _ _ _ _
  refine wp_region_lit ?_
  refine st_mv (.slice none 0 0) ?_
  simp only [nf0, nf1, nf2, nf3, nf4]
  refine st_mv (.int .i64 p.1) ?_
  simp only [nf0, nf1, nf2, nf3, nf4]
  refine st_call (by rfl) (p_run_call_10_1 (.tmp 23) rfl rfl _) (refInt_calls (hI _ (by simp [evL])) w10) ?_
  rintro v16 w18 ⟨O17, hf19⟩
  simp only [nf0, nf1, nf2, nf3, nf4]
  have n20 := O17.offLow B3
  have n21 := O17.offLow2 O6
  have n22 := O17.offLow B11
  have O17_ := fun k hk => (O17.lt k hk).1
  replace O17 := O17.lower bel.size
  replace B3 := B3.below hf19
  replace O6 := O6.same hf19
  replace B11 := B11.below hf19
  replace bel := bl_step bel hf19
  clear hf19
  obtain ⟨A23, c24, hv25, h26, h27, h28, R29⟩ := O17.reads
  subst hv25
  clear O17
  refine st_appends slByte rfl (.tmp 22) (.tmp 24) rfl rfl O6 (vb (zig p.1)) rfl rfl R29 (by (try simp only [List.length_append, List.length_nil, List.nil_append]); have q0 := vbz_len (hI _ (by simp [evL] : p.1 ∈ evL p)); have q1 := vbz_len (hI _ (by simp [evL] : p.2.1 ∈ evL p)); have q2 := vbz_len (hI _ (by simp [evL] : p.2.2.1 ∈ evL p)); have q3 := vbz_len (hI _ (by simp [evL] : p.2.2.2.1 ∈ evL p)); have q4 := vbz_len (hI _ (by simp [evL] : p.2.2.2.2 ∈ evL p)); omega) bel.size ?_
  intro v30 w31 O32 hg33 hat34
  simp only [nf0, nf1, nf2, nf3, nf4]
  have n35 := (n8 : Off _ _).app B3 hat34
  replace B3 := B3.keptR hg33 n8
  have n36 := (n15 : Off _ _).app B11 hat34
  replace B11 := B11.keptR hg33 n15
  replace bel := bl_app bel O6 hg33
  clear O6 hg33 hat34
  replace O32 : OwnR w31 w.heap.size 5 eByte v30 (vb (zig p.1)) := by rw [List.nil_append] at O32; exact O32
  clear R29
  refine st_mv v30 ?_
  simp only [nf0, nf1, nf2, nf3, nf4]
  refine wpList_nil ?_
  show Code.wp _ _ _ _ _
  refine wp_region_lit ?_
  refine st_value (v := (.int .i64 1)) (by rfl) (run_add_in (m := 0) (n := 1) (.tmp 18) (.const (.int .i64 1)) rfl rfl rfl (by omega) w31) ?_
  simp only [nf0, nf1, nf2, nf3, nf4]
  refine st_mv (.int .i64 1) ?_
  simp only [nf0, nf1, nf2, nf3, nf4]
  refine wpList_nil ?_
  show Code.wp _ _ _ _ _
  refine wp_seq ?_
  refine wp_region_lit ?_
  refine st_value (v := (.bool true)) (by rfl) ((run_lss (.tmp 18) (.tmp 17) rfl rfl rfl w31).trans (by rw [decide_eq_true (by omega)])) ?_
  simp only [nf0, nf1, nf2, nf3, nf4]
  refine wpList_nil ?_
  show Code.wp _ _ _ _ _
  refine wp_seq ?_
  refine wp_cond_true rfl ?_
  refine wp_skip ?_
  show Code.wp _ _ _ _ _
  refine wp_seq ?_
  refine wp_block ?_
  refine wp_seq ?_
  refine wp_region_lit ?_
  refine st_value (v := (.pointer (some ⟨g9, 1, none⟩))) (by rfl) (run_index1 (.tmp 16) (.tmp 18) rfl Tryd.underlying67 (by kernel_rfl) rfl rfl (by omega) (by omega) w31) ?_
  simp only [nf0, nf1, nf2, nf3, nf4]
  refine st_value (v := (.int .i64 p.2.1)) (by rfl) (run_loadB (.tmp 20) rfl p_one_3 rfl B11 rfl) ?_
  simp only [nf0, nf1, nf2, nf3, nf4]
  refine st_mv (.int .i64 p.2.1) ?_
  simp only [nf0, nf1, nf2, nf3, nf4]
  refine wpList_nil ?_
  show Code.wp _ _ _ _ _
  refine wp_region_lit ?_
  refine st_mv v30 ?_
  simp only [nf0, nf1, nf2, nf3, nf4]
  refine st_mv (.int .i64 p.2.1) ?_
  simp only [nf0, nf1, nf2, nf3, nf4]
  refine st_call (by rfl) (p_run_call_10_1 (.tmp 23) rfl rfl _) (refInt_calls (hI _ (by simp [evL])) w31) ?_
  rintro v37 w39 ⟨O38, hf40⟩
  simp only [nf0, nf1, nf2, nf3, nf4]
  have n41 := O38.offLow B3
  have n42 := O38.offLow B11
  have n43 := O38.offLow2 O32
  have O38_ := fun k hk => (O38.lt k hk).1
  replace O38 := O38.lower bel.size
  replace B3 := B3.below hf40
  replace B11 := B11.below hf40
  replace O32 := O32.same hf40
  replace bel := bl_step bel hf40
  clear hf40
  obtain ⟨A44, c45, hv46, h47, h48, h49, R50⟩ := O38.reads
  subst hv46
  clear O38
  refine st_appends slByte rfl (.tmp 22) (.tmp 24) rfl rfl O32 (vb (zig p.2.1)) rfl rfl R50 (by (try simp only [List.length_append, List.length_nil, List.nil_append]); have q0 := vbz_len (hI _ (by simp [evL] : p.1 ∈ evL p)); have q1 := vbz_len (hI _ (by simp [evL] : p.2.1 ∈ evL p)); have q2 := vbz_len (hI _ (by simp [evL] : p.2.2.1 ∈ evL p)); have q3 := vbz_len (hI _ (by simp [evL] : p.2.2.2.1 ∈ evL p)); have q4 := vbz_len (hI _ (by simp [evL] : p.2.2.2.2 ∈ evL p)); omega) bel.size ?_
  intro v51 w52 O53 hg54 hat55
  simp only [nf0, nf1, nf2, nf3, nf4]
  have n56 := (n35 : Off _ _).app B3 hat55
  replace B3 := B3.keptR hg54 n35
  have n57 := (n36 : Off _ _).app B11 hat55
  replace B11 := B11.keptR hg54 n36
  replace bel := bl_app bel O32 hg54
  clear O32 hg54 hat55
  clear R50
  refine st_mv v51 ?_
  simp only [nf0, nf1, nf2, nf3, nf4]
  refine wpList_nil ?_
  show Code.wp _ _ _ _ _
  refine wp_region_lit ?_
  refine st_value (v := (.int .i64 2)) (by rfl) (run_add_in (m := 1) (n := 1) (.tmp 18) (.const (.int .i64 1)) rfl rfl rfl (by omega) w52) ?_
  simp only [nf0, nf1, nf2, nf3, nf4]
  refine st_mv (.int .i64 2) ?_
  simp only [nf0, nf1, nf2, nf3, nf4]
  refine wpList_nil ?_
  show Code.wp _ _ _ _ _
  refine wp_seq ?_
  refine wp_region_lit ?_
  refine st_value (v := (.bool true)) (by rfl) ((run_lss (.tmp 18) (.tmp 17) rfl rfl rfl w52).trans (by rw [decide_eq_true (by omega)])) ?_
  simp only [nf0, nf1, nf2, nf3, nf4]
  refine wpList_nil ?_
  show Code.wp _ _ _ _ _
  refine wp_seq ?_
  refine wp_cond_true rfl ?_
  refine wp_skip ?_
  show Code.wp _ _ _ _ _
  refine wp_seq ?_
  refine wp_block ?_
  refine wp_seq ?_
  refine wp_region_lit ?_
  refine st_value (v := (.pointer (some ⟨g9, 2, none⟩))) (by rfl) (run_index1 (.tmp 16) (.tmp 18) rfl Tryd.underlying67 (by kernel_rfl) rfl rfl (by omega) (by omega) w52) ?_
  simp only [nf0, nf1, nf2, nf3, nf4]
  refine st_value (v := (.int .i64 p.2.2.1)) (by rfl) (run_loadB (.tmp 20) rfl p_one_3 rfl B11 rfl) ?_
  simp only [nf0, nf1, nf2, nf3, nf4]
  refine st_mv (.int .i64 p.2.2.1) ?_
  simp only [nf0, nf1, nf2, nf3, nf4]
  refine wpList_nil ?_
  show Code.wp _ _ _ _ _
  refine wp_region_lit ?_
  refine st_mv v51 ?_
  simp only [nf0, nf1, nf2, nf3, nf4]
  refine st_mv (.int .i64 p.2.2.1) ?_
  simp only [nf0, nf1, nf2, nf3, nf4]
  refine st_call (by rfl) (p_run_call_10_1 (.tmp 23) rfl rfl _) (refInt_calls (hI _ (by simp [evL])) w52) ?_
  rintro v58 w60 ⟨O59, hf61⟩
  simp only [nf0, nf1, nf2, nf3, nf4]
  have n62 := O59.offLow B3
  have n63 := O59.offLow B11
  have n64 := O59.offLow2 O53
  have O59_ := fun k hk => (O59.lt k hk).1
  replace O59 := O59.lower bel.size
  replace B3 := B3.below hf61
  replace B11 := B11.below hf61
  replace O53 := O53.same hf61
  replace bel := bl_step bel hf61
  clear hf61
  obtain ⟨A65, c66, hv67, h68, h69, h70, R71⟩ := O59.reads
  subst hv67
  clear O59
  refine st_appends slByte rfl (.tmp 22) (.tmp 24) rfl rfl O53 (vb (zig p.2.2.1)) rfl rfl R71 (by (try simp only [List.length_append, List.length_nil, List.nil_append]); have q0 := vbz_len (hI _ (by simp [evL] : p.1 ∈ evL p)); have q1 := vbz_len (hI _ (by simp [evL] : p.2.1 ∈ evL p)); have q2 := vbz_len (hI _ (by simp [evL] : p.2.2.1 ∈ evL p)); have q3 := vbz_len (hI _ (by simp [evL] : p.2.2.2.1 ∈ evL p)); have q4 := vbz_len (hI _ (by simp [evL] : p.2.2.2.2 ∈ evL p)); omega) bel.size ?_
  intro v72 w73 O74 hg75 hat76
  simp only [nf0, nf1, nf2, nf3, nf4]
  have n77 := (n56 : Off _ _).app B3 hat76
  replace B3 := B3.keptR hg75 n56
  have n78 := (n57 : Off _ _).app B11 hat76
  replace B11 := B11.keptR hg75 n57
  replace bel := bl_app bel O53 hg75
  clear O53 hg75 hat76
  clear R71
  refine st_mv v72 ?_
  simp only [nf0, nf1, nf2, nf3, nf4]
  refine wpList_nil ?_
  show Code.wp _ _ _ _ _
  refine wp_region_lit ?_
  refine st_value (v := (.int .i64 3)) (by rfl) (run_add_in (m := 2) (n := 1) (.tmp 18) (.const (.int .i64 1)) rfl rfl rfl (by omega) w73) ?_
  simp only [nf0, nf1, nf2, nf3, nf4]
  refine st_mv (.int .i64 3) ?_
  simp only [nf0, nf1, nf2, nf3, nf4]
  refine wpList_nil ?_
  show Code.wp _ _ _ _ _
  refine wp_seq ?_
  refine wp_region_lit ?_
  refine st_value (v := (.bool true)) (by rfl) ((run_lss (.tmp 18) (.tmp 17) rfl rfl rfl w73).trans (by rw [decide_eq_true (by omega)])) ?_
  simp only [nf0, nf1, nf2, nf3, nf4]
  refine wpList_nil ?_
  show Code.wp _ _ _ _ _
  refine wp_seq ?_
  refine wp_cond_true rfl ?_
  refine wp_skip ?_
  show Code.wp _ _ _ _ _
  refine wp_seq ?_
  refine wp_block ?_
  refine wp_seq ?_
  refine wp_region_lit ?_
  refine st_value (v := (.pointer (some ⟨g9, 3, none⟩))) (by rfl) (run_index1 (.tmp 16) (.tmp 18) rfl Tryd.underlying67 (by kernel_rfl) rfl rfl (by omega) (by omega) w73) ?_
  simp only [nf0, nf1, nf2, nf3, nf4]
  refine st_value (v := (.int .i64 p.2.2.2.1)) (by rfl) (run_loadB (.tmp 20) rfl p_one_3 rfl B11 rfl) ?_
  simp only [nf0, nf1, nf2, nf3, nf4]
  refine st_mv (.int .i64 p.2.2.2.1) ?_
  simp only [nf0, nf1, nf2, nf3, nf4]
  refine wpList_nil ?_
  show Code.wp _ _ _ _ _
  refine wp_region_lit ?_
  refine st_mv v72 ?_
  simp only [nf0, nf1, nf2, nf3, nf4]
  refine st_mv (.int .i64 p.2.2.2.1) ?_
  simp only [nf0, nf1, nf2, nf3, nf4]
  refine st_call (by rfl) (p_run_call_10_1 (.tmp 23) rfl rfl _) (refInt_calls (hI _ (by simp [evL])) w73) ?_
  rintro v79 w81 ⟨O80, hf82⟩
  simp only [nf0, nf1, nf2, nf3, nf4]
  have n83 := O80.offLow B3
  have n84 := O80.offLow B11
  have n85 := O80.offLow2 O74
  have O80_ := fun k hk => (O80.lt k hk).1
  replace O80 := O80.lower bel.size
  replace B3 := B3.below hf82
  replace B11 := B11.below hf82
  replace O74 := O74.same hf82
  replace bel := bl_step bel hf82
  clear hf82
  obtain ⟨A86, c87, hv88, h89, h90, h91, R92⟩ := O80.reads
  subst hv88
  clear O80
  refine st_appends slByte rfl (.tmp 22) (.tmp 24) rfl rfl O74 (vb (zig p.2.2.2.1)) rfl rfl R92 (by (try simp only [List.length_append, List.length_nil, List.nil_append]); have q0 := vbz_len (hI _ (by simp [evL] : p.1 ∈ evL p)); have q1 := vbz_len (hI _ (by simp [evL] : p.2.1 ∈ evL p)); have q2 := vbz_len (hI _ (by simp [evL] : p.2.2.1 ∈ evL p)); have q3 := vbz_len (hI _ (by simp [evL] : p.2.2.2.1 ∈ evL p)); have q4 := vbz_len (hI _ (by simp [evL] : p.2.2.2.2 ∈ evL p)); omega) bel.size ?_
  intro v93 w94 O95 hg96 hat97
  simp only [nf0, nf1, nf2, nf3, nf4]
  have n98 := (n77 : Off _ _).app B3 hat97
  replace B3 := B3.keptR hg96 n77
  have n99 := (n78 : Off _ _).app B11 hat97
  replace B11 := B11.keptR hg96 n78
  replace bel := bl_app bel O74 hg96
  clear O74 hg96 hat97
  clear R92
  refine st_mv v93 ?_
  simp only [nf0, nf1, nf2, nf3, nf4]
  refine wpList_nil ?_
  show Code.wp _ _ _ _ _
  refine wp_region_lit ?_
  refine st_value (v := (.int .i64 4)) (by rfl) (run_add_in (m := 3) (n := 1) (.tmp 18) (.const (.int .i64 1)) rfl rfl rfl (by omega) w94) ?_
  simp only [nf0, nf1, nf2, nf3, nf4]
  refine st_mv (.int .i64 4) ?_
  simp only [nf0, nf1, nf2, nf3, nf4]
  refine wpList_nil ?_
  show Code.wp _ _ _ _ _
  refine wp_seq ?_
  refine wp_region_lit ?_
  refine st_value (v := (.bool true)) (by rfl) ((run_lss (.tmp 18) (.tmp 17) rfl rfl rfl w94).trans (by rw [decide_eq_true (by omega)])) ?_
  simp only [nf0, nf1, nf2, nf3, nf4]
  refine wpList_nil ?_
  show Code.wp _ _ _ _ _
  refine wp_seq ?_
  refine wp_cond_true rfl ?_
  refine wp_skip ?_
  show Code.wp _ _ _ _ _
  refine wp_seq ?_
  refine wp_block ?_
  refine wp_seq ?_
  refine wp_region_lit ?_
  refine st_value (v := (.pointer (some ⟨g9, 4, none⟩))) (by rfl) (run_index1 (.tmp 16) (.tmp 18) rfl Tryd.underlying67 (by kernel_rfl) rfl rfl (by omega) (by omega) w94) ?_
  simp only [nf0, nf1, nf2, nf3, nf4]
  refine st_value (v := (.int .i64 p.2.2.2.2)) (by rfl) (run_loadB (.tmp 20) rfl p_one_3 rfl B11 rfl) ?_
  simp only [nf0, nf1, nf2, nf3, nf4]
  refine st_mv (.int .i64 p.2.2.2.2) ?_
  simp only [nf0, nf1, nf2, nf3, nf4]
  refine wpList_nil ?_
  show Code.wp _ _ _ _ _
  refine wp_region_lit ?_
  refine st_mv v93 ?_
  simp only [nf0, nf1, nf2, nf3, nf4]
  refine st_mv (.int .i64 p.2.2.2.2) ?_
  simp only [nf0, nf1, nf2, nf3, nf4]
  refine st_call (by rfl) (p_run_call_10_1 (.tmp 23) rfl rfl _) (refInt_calls (hI _ (by simp [evL])) w94) ?_
  rintro v100 w102 ⟨O101, hf103⟩
  simp only [nf0, nf1, nf2, nf3, nf4]
  have n104 := O101.offLow B3
  have n105 := O101.offLow B11
  have n106 := O101.offLow2 O95
  have O101_ := fun k hk => (O101.lt k hk).1
  replace O101 := O101.lower bel.size
  replace B3 := B3.below hf103
  replace B11 := B11.below hf103
  replace O95 := O95.same hf103
  replace bel := bl_step bel hf103
  clear hf103
  obtain ⟨A107, c108, hv109, h110, h111, h112, R113⟩ := O101.reads
  subst hv109
  clear O101
  refine st_appends slByte rfl (.tmp 22) (.tmp 24) rfl rfl O95 (vb (zig p.2.2.2.2)) rfl rfl R113 (by (try simp only [List.length_append, List.length_nil, List.nil_append]); have q0 := vbz_len (hI _ (by simp [evL] : p.1 ∈ evL p)); have q1 := vbz_len (hI _ (by simp [evL] : p.2.1 ∈ evL p)); have q2 := vbz_len (hI _ (by simp [evL] : p.2.2.1 ∈ evL p)); have q3 := vbz_len (hI _ (by simp [evL] : p.2.2.2.1 ∈ evL p)); have q4 := vbz_len (hI _ (by simp [evL] : p.2.2.2.2 ∈ evL p)); omega) bel.size ?_
  intro v114 w115 O116 hg117 hat118
  simp only [nf0, nf1, nf2, nf3, nf4]
  have n119 := (n98 : Off _ _).app B3 hat118
  replace B3 := B3.keptR hg117 n98
  have n120 := (n99 : Off _ _).app B11 hat118
  replace B11 := B11.keptR hg117 n99
  replace bel := bl_app bel O95 hg117
  clear O95 hg117 hat118
  clear R113
  refine st_mv v114 ?_
  simp only [nf0, nf1, nf2, nf3, nf4]
  refine wpList_nil ?_
  show Code.wp _ _ _ _ _
  refine wp_region_lit ?_
  refine st_value (v := (.int .i64 5)) (by rfl) (run_add_in (m := 4) (n := 1) (.tmp 18) (.const (.int .i64 1)) rfl rfl rfl (by omega) w115) ?_
  simp only [nf0, nf1, nf2, nf3, nf4]
  refine st_mv (.int .i64 5) ?_
  simp only [nf0, nf1, nf2, nf3, nf4]
  refine wpList_nil ?_
  show Code.wp _ _ _ _ _
  refine wp_seq ?_
  refine wp_region_lit ?_
  refine st_value (v := (.bool false)) (by rfl) ((run_lss (.tmp 18) (.tmp 17) rfl rfl rfl w115).trans (by rw [decide_eq_false (by omega)])) ?_
  simp only [nf0, nf1, nf2, nf3, nf4]
  refine wpList_nil ?_
  show Code.wp _ _ _ _ _
  refine wp_seq ?_
  refine wp_cond_false rfl ?_
  refine wp_exit ?_
  show Code.wp _ _ _ _ _
  refine wp_seq ?_
  refine wp_region_lit ?_
  refine st_mv v114 ?_
  simp only [nf0, nf1, nf2, nf3, nf4]
  refine st_mv v114 ?_
  simp only [nf0, nf1, nf2, nf3, nf4]
  refine wpList_nil ?_
  show Code.wp _ _ _ _ _
  refine wp_ret ?_
  first | show bodyPost _ _ _ _ _ _ | (simp only [Exit.then, Exit.inBlock]; show bodyPost _ _ _ _ _ _)
  exact bodyPost_ret (results_tmp rfl _ _ _) rfl ⟨_, rfl, by have h := O116; simpa [evL, vbs] using h, bel⟩
set_option maxRecDepth 100000 in
set_option maxHeartbeats 4000000 in
theorem refEntry_calls (p : TEnt) (hok : okEnt p) (w : World) : Calls Tryd.prog 16 #[.agg (eEnt.enc p).toArray] w fun e w' => ∃ v, e = .returned v ∧ OwnR w' w.heap.size 5 eByte v (vbs (enL p)) ∧ Below w.heap.size w w' := by
  have bel : Below w.heap.size w w := Below.refl _ _
  have hI := enL_I64 hok
  go_enter Tryd.func16, Tryd.ntmps16
  refine wp_seq ?_
  refine wp_region_lit ?_
  refine st_new (cs := #[.int .i64 p.1, .int .i64 p.2.1, .int .i64 p.2.2.1, .int .i64 p.2.2.2.1, .int .u64 p.2.2.2.2]) (t := 46) (by rfl) (run_boxV (.tmp 0) rfl (v := (.agg #[.int .i64 p.1, .int .i64 p.2.1, .int .i64 p.2.2.1, .int .i64 p.2.2.2.1, .int .u64 p.2.2.2.2])) rfl rfl _) ?_
  intro g1 w2 B3 hb4 lo5
  simp only [nf0, nf1, nf2, nf3, nf4]
  replace lo5 := low_le bel lo5
  replace bel := bl_step bel hb4
  clear hb4
  refine st_mv (.slice none 0 0) ?_
  simp only [nf0, nf1, nf2, nf3, nf4]
  refine wpList_nil ?_
  show Code.wp _ _ _ _ _
  refine wp_seq ?_
  refine wp_region_lit ?_
  have O6 : OwnR w2 w.heap.size 5 eByte (.slice none 0 0) [] := OwnR.nil _ _ _ _
  have n8 := Off.nil g1
  refine st_mv (.slice none 0 0) ?_
  simp only [nf0, nf1, nf2, nf3, nf4]
  refine wpList_nil ?_
  show Code.wp _ _ _ _ _
  refine wp_seq ?_
  refine wp_seq ?_
  refine wp_region_lit ?_
  refine st_value (v := (.pointer (some ⟨g1, 0, none⟩))) (by rfl) (run_fieldA (.tmp 1) rfl p_fld_46_0 rfl rfl w2) ?_
  simp only [nf0, nf1, nf2, nf3, nf4]
  refine st_value (v := (.int .i64 p.1)) (by rfl) (run_loadB (.tmp 6) rfl p_one_3 rfl B3 rfl) ?_
  simp only [nf0, nf1, nf2, nf3, nf4]
  refine st_value (v := (.pointer (some ⟨g1, 1, none⟩))) (by rfl) (run_fieldA (.tmp 1) rfl p_fld_46_1 rfl rfl w2) ?_
  simp only [nf0, nf1, nf2, nf3, nf4]
  refine st_value (v := (.int .i64 p.2.1)) (by rfl) (run_loadB (.tmp 8) rfl p_one_3 rfl B3 rfl) ?_
  simp only [nf0, nf1, nf2, nf3, nf4]
  refine st_value (v := (.pointer (some ⟨g1, 2, none⟩))) (by rfl) (run_fieldA (.tmp 1) rfl p_fld_46_2 rfl rfl w2) ?_
  simp only [nf0, nf1, nf2, nf3, nf4]
  refine st_value (v := (.int .i64 p.2.2.1)) (by rfl) (run_loadB (.tmp 10) rfl p_one_3 rfl B3 rfl) ?_
  simp only [nf0, nf1, nf2, nf3, nf4]
  refine st_value (v := (.pointer (some ⟨g1, 3, none⟩))) (by rfl) (run_fieldA (.tmp 1) rfl p_fld_46_3 rfl rfl w2) ?_
  simp only [nf0, nf1, nf2, nf3, nf4]
  refine st_value (v := (.int .i64 p.2.2.2.1)) (by rfl) (run_loadB (.tmp 12) rfl p_one_3 rfl B3 rfl) ?_
  simp only [nf0, nf1, nf2, nf3, nf4]
  refine st_value (v := (.pointer (some ⟨g1, 4, none⟩))) (by rfl) (run_fieldA (.tmp 1) rfl p_fld_46_4 rfl rfl w2) ?_
  simp only [nf0, nf1, nf2, nf3, nf4]
  refine st_value (v := (.int .u64 p.2.2.2.2)) (by rfl) (run_loadB (.tmp 14) rfl p_one_44 rfl B3 rfl) ?_
  simp only [nf0, nf1, nf2, nf3, nf4]
  refine st_value (v := (.int .i64 (IntKind.i64.wrap p.2.2.2.2))) (by rfl) (run_conv_u64_i64 (.tmp 15) rfl Tryd.underlying44 Tryd.underlying3 (z := p.2.2.2.2) rfl rfl w2) ?_
  simp only [nf0, nf1, nf2, nf3, nf4]
  refine st_lit (n := 5) (by rfl) (p_run_lit_67_5 (.tmp 7) (.tmp 9) (.tmp 11) (.tmp 13) (.tmp 16) rfl rfl rfl rfl rfl rfl _) ?_
  intro g9 w10 B11 hb12 lo13
  simp only [nf0, nf1, nf2, nf3, nf4]
  have n14 := B3.ne lo13
  have n15 := O6.off lo13
  replace lo13 := low_le bel lo13
  replace B3 := B3.below hb12
  replace O6 := O6.same hb12
  replace bel := bl_step bel hb12
  clear hb12
  refine st_value (v := (.int .i64 5)) (by rfl) (run_len (.tmp 17) rfl ⟨_, Tryd.underlying67⟩ rfl w10) ?_
  simp only [nf0, nf1, nf2, nf3, nf4]
  refine st_mv (.int .i64 0) ?_
  simp only [nf0, nf1, nf2, nf3, nf4]
  refine wpList_nil ?_
  show Code.wp _ _ _ _ _
  refine wp_block ?_
  refine wp_loop_rnds 5 ?_
  show Code.wp _ _ _ _ _
  refine wp_seq ?_
  refine wp_region_lit ?_
  refine st_value (v := (.bool true)) (by rfl) ((run_lss (.tmp 19) (.tmp 18) rfl rfl rfl w10).trans (by rw [decide_eq_true (by omega)])) ?_
  simp only [nf0, nf1, nf2, nf3, nf4]
  refine wpList_nil ?_
  show Code.wp _ _ _ _ _
  refine wp_seq ?_
  refine wp_cond_true rfl ?_
  refine wp_skip ?_
  show Code.wp _ _ _ _ _
  refine wp_seq ?_
  refine wp_block ?_
  refine wp_seq ?_
  refine wp_region_lit ?_
  refine st_value (v := (.pointer (some ⟨g9, 0, none⟩))) (by rfl) (run_index1 (.tmp 17) (.tmp 19) rfl Tryd.underlying67 (by kernel_rfl) rfl rfl (by omega) (by omega) w10) ?_
  simp only [nf0, nf1, nf2, nf3, nf4]
  refine st_value (v := (.int .i64 p.1)) (by rfl) (run_loadB (.tmp 21) rfl p_one_3 rfl B11 rfl) ?_
  simp only [nf0, nf1, nf2, nf3, nf4]
  refine st_mv (.int .i64 p.1) ?_
  simp only [nf0, nf1, nf2, nf3, nf4]
  refine wpList_nil ?_
  show Code.wp _ _ _ _ _
  refine wp_region_lit ?_
  refine st_mv (.slice none 0 0) ?_
  simp only [nf0, nf1, nf2, nf3, nf4]
  refine st_mv (.int .i64 p.1) ?_
  simp only [nf0, nf1, nf2, nf3, nf4]
  refine st_call (by rfl) (p_run_call_10_1 (.tmp 24) rfl rfl _) (refInt_calls (hI _ (by simp [enL])) w10) ?_
  rintro v16 w18 ⟨O17, hf19⟩
  simp only [nf0, nf1, nf2, nf3, nf4]
  have n20 := O17.offLow B3
  have n21 := O17.offLow2 O6
  have n22 := O17.offLow B11
  have O17_ := fun k hk => (O17.lt k hk).1
  replace O17 := O17.lower bel.size
  replace B3 := B3.below hf19
  replace O6 := O6.same hf19
  replace B11 := B11.below hf19
  replace bel := bl_step bel hf19
  clear hf19
  obtain ⟨A23, c24, hv25, h26, h27, h28, R29⟩ := O17.reads
  subst hv25
  clear O17
  refine st_appends slByte rfl (.tmp 23) (.tmp 25) rfl rfl O6 (vb (zig p.1)) rfl rfl R29 (by (try simp only [List.length_append, List.length_nil, List.nil_append]); have q0 := vbz_len (hI _ (by simp [enL] : p.1 ∈ enL p)); have q1 := vbz_len (hI _ (by simp [enL] : p.2.1 ∈ enL p)); have q2 := vbz_len (hI _ (by simp [enL] : p.2.2.1 ∈ enL p)); have q3 := vbz_len (hI _ (by simp [enL] : p.2.2.2.1 ∈ enL p)); have q4 := vbz_len (hI _ (by simp [enL] : (IntKind.i64.wrap p.2.2.2.2) ∈ enL p)); omega) bel.size ?_
  intro v30 w31 O32 hg33 hat34
  simp only [nf0, nf1, nf2, nf3, nf4]
  have n35 := (n8 : Off _ _).app B3 hat34
  replace B3 := B3.keptR hg33 n8
  have n36 := (n15 : Off _ _).app B11 hat34
  replace B11 := B11.keptR hg33 n15
  replace bel := bl_app bel O6 hg33
  clear O6 hg33 hat34
  replace O32 : OwnR w31 w.heap.size 5 eByte v30 (vb (zig p.1)) := by rw [List.nil_append] at O32; exact O32
  clear R29
  refine st_mv v30 ?_
  simp only [nf0, nf1, nf2, nf3, nf4]
  refine wpList_nil ?_
  show Code.wp _ _ _ _ _
  refine wp_region_lit ?_
  refine st_value (v := (.int .i64 1)) (by rfl) (run_add_in (m := 0) (n := 1) (.tmp 19) (.const (.int .i64 1)) rfl rfl rfl (by omega) w31) ?_
  simp only [nf0, nf1, nf2, nf3, nf4]
  refine st_mv (.int .i64 1) ?_
  simp only [nf0, nf1, nf2, nf3, nf4]
  refine wpList_nil ?_
  show Code.wp _ _ _ _ _
  refine wp_seq ?_
  refine wp_region_lit ?_
  refine st_value (v := (.bool true)) (by rfl) ((run_lss (.tmp 19) (.tmp 18) rfl rfl rfl w31).trans (by rw [decide_eq_true (by omega)])) ?_
  simp only [nf0, nf1, nf2, nf3, nf4]
  refine wpList_nil ?_
  show Code.wp _ _ _ _ _
  refine wp_seq ?_
  refine wp_cond_true rfl ?_
  refine wp_skip ?_
  show Code.wp _ _ _ _ _
  refine wp_seq ?_
  refine wp_block ?_
  refine wp_seq ?_
  refine wp_region_lit ?_
  refine st_value (v := (.pointer (some ⟨g9, 1, none⟩))) (by rfl) (run_index1 (.tmp 17) (.tmp 19) rfl Tryd.underlying67 (by kernel_rfl) rfl rfl (by omega) (by omega) w31) ?_
  simp only [nf0, nf1, nf2, nf3, nf4]
  refine st_value (v := (.int .i64 p.2.1)) (by rfl) (run_loadB (.tmp 21) rfl p_one_3 rfl B11 rfl) ?_
  simp only [nf0, nf1, nf2, nf3, nf4]
  refine st_mv (.int .i64 p.2.1) ?_
  simp only [nf0, nf1, nf2, nf3, nf4]
  refine wpList_nil ?_
  show Code.wp _ _ _ _ _
  refine wp_region_lit ?_
  refine st_mv v30 ?_
  simp only [nf0, nf1, nf2, nf3, nf4]
  refine st_mv (.int .i64 p.2.1) ?_
  simp only [nf0, nf1, nf2, nf3, nf4]
  refine st_call (by rfl) (p_run_call_10_1 (.tmp 24) rfl rfl _) (refInt_calls (hI _ (by simp [enL])) w31) ?_
  rintro v37 w39 ⟨O38, hf40⟩
  simp only [nf0, nf1, nf2, nf3, nf4]
  have n41 := O38.offLow B3
  have n42 := O38.offLow B11
  have n43 := O38.offLow2 O32
  have O38_ := fun k hk => (O38.lt k hk).1
  replace O38 := O38.lower bel.size
  replace B3 := B3.below hf40
  replace B11 := B11.below hf40
  replace O32 := O32.same hf40
  replace bel := bl_step bel hf40
  clear hf40
  obtain ⟨A44, c45, hv46, h47, h48, h49, R50⟩ := O38.reads
  subst hv46
  clear O38
  refine st_appends slByte rfl (.tmp 23) (.tmp 25) rfl rfl O32 (vb (zig p.2.1)) rfl rfl R50 (by (try simp only [List.length_append, List.length_nil, List.nil_append]); have q0 := vbz_len (hI _ (by simp [enL] : p.1 ∈ enL p)); have q1 := vbz_len (hI _ (by simp [enL] : p.2.1 ∈ enL p)); have q2 := vbz_len (hI _ (by simp [enL] : p.2.2.1 ∈ enL p)); have q3 := vbz_len (hI _ (by simp [enL] : p.2.2.2.1 ∈ enL p)); have q4 := vbz_len (hI _ (by simp [enL] : (IntKind.i64.wrap p.2.2.2.2) ∈ enL p)); omega) bel.size ?_
  intro v51 w52 O53 hg54 hat55
  simp only [nf0, nf1, nf2, nf3, nf4]
  have n56 := (n35 : Off _ _).app B3 hat55
  replace B3 := B3.keptR hg54 n35
  have n57 := (n36 : Off _ _).app B11 hat55
  replace B11 := B11.keptR hg54 n36
  replace bel := bl_app bel O32 hg54
  clear O32 hg54 hat55
  clear R50
  refine st_mv v51 ?_
  simp only [nf0, nf1, nf2, nf3, nf4]
  refine wpList_nil ?_
  show Code.wp _ _ _ _ _
  refine wp_region_lit ?_
  refine st_value (v := (.int .i64 2)) (by rfl) (run_add_in (m := 1) (n := 1) (.tmp 19) (.const (.int .i64 1)) rfl rfl rfl (by omega) w52) ?_
  simp only [nf0, nf1, nf2, nf3, nf4]
  refine st_mv (.int .i64 2) ?_
  simp only [nf0, nf1, nf2, nf3, nf4]
  refine wpList_nil ?_
  show Code.wp _ _ _ _ _
  refine wp_seq ?_
  refine wp_region_lit ?_
  refine st_value (v := (.bool true)) (by rfl) ((run_lss (.tmp 19) (.tmp 18) rfl rfl rfl w52).trans (by rw [decide_eq_true (by omega)])) ?_
  simp only [nf0, nf1, nf2, nf3, nf4]
  refine wpList_nil ?_
  show Code.wp _ _ _ _ _
  refine wp_seq ?_
  refine wp_cond_true rfl ?_
  refine wp_skip ?_
  show Code.wp _ _ _ _ _
  refine wp_seq ?_
  refine wp_block ?_
  refine wp_seq ?_
  refine wp_region_lit ?_
  refine st_value (v := (.pointer (some ⟨g9, 2, none⟩))) (by rfl) (run_index1 (.tmp 17) (.tmp 19) rfl Tryd.underlying67 (by kernel_rfl) rfl rfl (by omega) (by omega) w52) ?_
  simp only [nf0, nf1, nf2, nf3, nf4]
  refine st_value (v := (.int .i64 p.2.2.1)) (by rfl) (run_loadB (.tmp 21) rfl p_one_3 rfl B11 rfl) ?_
  simp only [nf0, nf1, nf2, nf3, nf4]
  refine st_mv (.int .i64 p.2.2.1) ?_
  simp only [nf0, nf1, nf2, nf3, nf4]
  refine wpList_nil ?_
  show Code.wp _ _ _ _ _
  refine wp_region_lit ?_
  refine st_mv v51 ?_
  simp only [nf0, nf1, nf2, nf3, nf4]
  refine st_mv (.int .i64 p.2.2.1) ?_
  simp only [nf0, nf1, nf2, nf3, nf4]
  refine st_call (by rfl) (p_run_call_10_1 (.tmp 24) rfl rfl _) (refInt_calls (hI _ (by simp [enL])) w52) ?_
  rintro v58 w60 ⟨O59, hf61⟩
  simp only [nf0, nf1, nf2, nf3, nf4]
  have n62 := O59.offLow B3
  have n63 := O59.offLow B11
  have n64 := O59.offLow2 O53
  have O59_ := fun k hk => (O59.lt k hk).1
  replace O59 := O59.lower bel.size
  replace B3 := B3.below hf61
  replace B11 := B11.below hf61
  replace O53 := O53.same hf61
  replace bel := bl_step bel hf61
  clear hf61
  obtain ⟨A65, c66, hv67, h68, h69, h70, R71⟩ := O59.reads
  subst hv67
  clear O59
  refine st_appends slByte rfl (.tmp 23) (.tmp 25) rfl rfl O53 (vb (zig p.2.2.1)) rfl rfl R71 (by (try simp only [List.length_append, List.length_nil, List.nil_append]); have q0 := vbz_len (hI _ (by simp [enL] : p.1 ∈ enL p)); have q1 := vbz_len (hI _ (by simp [enL] : p.2.1 ∈ enL p)); have q2 := vbz_len (hI _ (by simp [enL] : p.2.2.1 ∈ enL p)); have q3 := vbz_len (hI _ (by simp [enL] : p.2.2.2.1 ∈ enL p)); have q4 := vbz_len (hI _ (by simp [enL] : (IntKind.i64.wrap p.2.2.2.2) ∈ enL p)); omega) bel.size ?_
  intro v72 w73 O74 hg75 hat76
  simp only [nf0, nf1, nf2, nf3, nf4]
  have n77 := (n56 : Off _ _).app B3 hat76
  replace B3 := B3.keptR hg75 n56
  have n78 := (n57 : Off _ _).app B11 hat76
  replace B11 := B11.keptR hg75 n57
  replace bel := bl_app bel O53 hg75
  clear O53 hg75 hat76
  clear R71
  refine st_mv v72 ?_
  simp only [nf0, nf1, nf2, nf3, nf4]
  refine wpList_nil ?_
  show Code.wp _ _ _ _ _
  refine wp_region_lit ?_
  refine st_value (v := (.int .i64 3)) (by rfl) (run_add_in (m := 2) (n := 1) (.tmp 19) (.const (.int .i64 1)) rfl rfl rfl (by omega) w73) ?_
  simp only [nf0, nf1, nf2, nf3, nf4]
  refine st_mv (.int .i64 3) ?_
  simp only [nf0, nf1, nf2, nf3, nf4]
  refine wpList_nil ?_
  show Code.wp _ _ _ _ _
  refine wp_seq ?_
  refine wp_region_lit ?_
  refine st_value (v := (.bool true)) (by rfl) ((run_lss (.tmp 19) (.tmp 18) rfl rfl rfl w73).trans (by rw [decide_eq_true (by omega)])) ?_
  simp only [nf0, nf1, nf2, nf3, nf4]
  refine wpList_nil ?_
  show Code.wp _ _ _ _ _
  refine wp_seq ?_
  refine wp_cond_true rfl ?_
  refine wp_skip ?_
  show Code.wp _ _ _ _ _
  refine wp_seq ?_
  refine wp_block ?_
  refine wp_seq ?_
  refine wp_region_lit ?_
  refine st_value (v := (.pointer (some ⟨g9, 3, none⟩))) (by rfl) (run_index1 (.tmp 17) (.tmp 19) rfl Tryd.underlying67 (by kernel_rfl) rfl rfl (by omega) (by omega) w73) ?_
  simp only [nf0, nf1, nf2, nf3, nf4]
  refine st_value (v := (.int .i64 p.2.2.2.1)) (by rfl) (run_loadB (.tmp 21) rfl p_one_3 rfl B11 rfl) ?_
  simp only [nf0, nf1, nf2, nf3, nf4]
  refine st_mv (.int .i64 p.2.2.2.1) ?_
  simp only [nf0, nf1, nf2, nf3, nf4]
  refine wpList_nil ?_
  show Code.wp _ _ _ _ _
  refine wp_region_lit ?_
  refine st_mv v72 ?_
  simp only [nf0, nf1, nf2, nf3, nf4]
  refine st_mv (.int .i64 p.2.2.2.1) ?_
  simp only [nf0, nf1, nf2, nf3, nf4]
  refine st_call (by rfl) (p_run_call_10_1 (.tmp 24) rfl rfl _) (refInt_calls (hI _ (by simp [enL])) w73) ?_
  rintro v79 w81 ⟨O80, hf82⟩
  simp only [nf0, nf1, nf2, nf3, nf4]
  have n83 := O80.offLow B3
  have n84 := O80.offLow B11
  have n85 := O80.offLow2 O74
  have O80_ := fun k hk => (O80.lt k hk).1
  replace O80 := O80.lower bel.size
  replace B3 := B3.below hf82
  replace B11 := B11.below hf82
  replace O74 := O74.same hf82
  replace bel := bl_step bel hf82
  clear hf82
  obtain ⟨A86, c87, hv88, h89, h90, h91, R92⟩ := O80.reads
  subst hv88
  clear O80
  refine st_appends slByte rfl (.tmp 23) (.tmp 25) rfl rfl O74 (vb (zig p.2.2.2.1)) rfl rfl R92 (by (try simp only [List.length_append, List.length_nil, List.nil_append]); have q0 := vbz_len (hI _ (by simp [enL] : p.1 ∈ enL p)); have q1 := vbz_len (hI _ (by simp [enL] : p.2.1 ∈ enL p)); have q2 := vbz_len (hI _ (by simp [enL] : p.2.2.1 ∈ enL p)); have q3 := vbz_len (hI _ (by simp [enL] : p.2.2.2.1 ∈ enL p)); have q4 := vbz_len (hI _ (by simp [enL] : (IntKind.i64.wrap p.2.2.2.2) ∈ enL p)); omega) bel.size ?_
  intro v93 w94 O95 hg96 hat97
  simp only [nf0, nf1, nf2, nf3, nf4]
  have n98 := (n77 : Off _ _).app B3 hat97
  replace B3 := B3.keptR hg96 n77
  have n99 := (n78 : Off _ _).app B11 hat97
  replace B11 := B11.keptR hg96 n78
  replace bel := bl_app bel O74 hg96
  clear O74 hg96 hat97
  clear R92
  refine st_mv v93 ?_
  simp only [nf0, nf1, nf2, nf3, nf4]
  refine wpList_nil ?_
  show Code.wp _ _ _ _ _
  refine wp_region_lit ?_
  refine st_value (v := (.int .i64 4)) (by rfl) (run_add_in (m := 3) (n := 1) (.tmp 19) (.const (.int .i64 1)) rfl rfl rfl (by omega) w94) ?_
  simp only [nf0, nf1, nf2, nf3, nf4]
  refine st_mv (.int .i64 4) ?_
  simp only [nf0, nf1, nf2, nf3, nf4]
  refine wpList_nil ?_
  show Code.wp _ _ _ _ _
  refine wp_seq ?_
  refine wp_region_lit ?_
  refine st_value (v := (.bool true)) (by rfl) ((run_lss (.tmp 19) (.tmp 18) rfl rfl rfl w94).trans (by rw [decide_eq_true (by omega)])) ?_
  simp only [nf0, nf1, nf2, nf3, nf4]
  refine wpList_nil ?_
  show Code.wp _ _ _ _ _
  refine wp_seq ?_
  refine wp_cond_true rfl ?_
  refine wp_skip ?_
  show Code.wp _ _ _ _ _
  refine wp_seq ?_
  refine wp_block ?_
  refine wp_seq ?_
  refine wp_region_lit ?_
  refine st_value (v := (.pointer (some ⟨g9, 4, none⟩))) (by rfl) (run_index1 (.tmp 17) (.tmp 19) rfl Tryd.underlying67 (by kernel_rfl) rfl rfl (by omega) (by omega) w94) ?_
  simp only [nf0, nf1, nf2, nf3, nf4]
  refine st_value (v := (.int .i64 (IntKind.i64.wrap p.2.2.2.2))) (by rfl) (run_loadB (.tmp 21) rfl p_one_3 rfl B11 rfl) ?_
  simp only [nf0, nf1, nf2, nf3, nf4]
  refine st_mv (.int .i64 (IntKind.i64.wrap p.2.2.2.2)) ?_
  simp only [nf0, nf1, nf2, nf3, nf4]
  refine wpList_nil ?_
  show Code.wp _ _ _ _ _
  refine wp_region_lit ?_
  refine st_mv v93 ?_
  simp only [nf0, nf1, nf2, nf3, nf4]
  refine st_mv (.int .i64 (IntKind.i64.wrap p.2.2.2.2)) ?_
  simp only [nf0, nf1, nf2, nf3, nf4]
  refine st_call (by rfl) (p_run_call_10_1 (.tmp 24) rfl rfl _) (refInt_calls (hI _ (by simp [enL])) w94) ?_
  rintro v100 w102 ⟨O101, hf103⟩
  simp only [nf0, nf1, nf2, nf3, nf4]
  have n104 := O101.offLow B3
  have n105 := O101.offLow B11
  have n106 := O101.offLow2 O95
  have O101_ := fun k hk => (O101.lt k hk).1
  replace O101 := O101.lower bel.size
  replace B3 := B3.below hf103
  replace B11 := B11.below hf103
  replace O95 := O95.same hf103
  replace bel := bl_step bel hf103
  clear hf103
  obtain ⟨A107, c108, hv109, h110, h111, h112, R113⟩ := O101.reads
  subst hv109
  clear O101
  refine st_appends slByte rfl (.tmp 23) (.tmp 25) rfl rfl O95 (vb (zig (IntKind.i64.wrap p.2.2.2.2))) rfl rfl R113 (by (try simp only [List.length_append, List.length_nil, List.nil_append]); have q0 := vbz_len (hI _ (by simp [enL] : p.1 ∈ enL p)); have q1 := vbz_len (hI _ (by simp [enL] : p.2.1 ∈ enL p)); have q2 := vbz_len (hI _ (by simp [enL] : p.2.2.1 ∈ enL p)); have q3 := vbz_len (hI _ (by simp [enL] : p.2.2.2.1 ∈ enL p)); have q4 := vbz_len (hI _ (by simp [enL] : (IntKind.i64.wrap p.2.2.2.2) ∈ enL p)); omega) bel.size ?_
  intro v114 w115 O116 hg117 hat118
  simp only [nf0, nf1, nf2, nf3, nf4]
  have n119 := (n98 : Off _ _).app B3 hat118
  replace B3 := B3.keptR hg117 n98
  have n120 := (n99 : Off _ _).app B11 hat118
  replace B11 := B11.keptR hg117 n99
  replace bel := bl_app bel O95 hg117
  clear O95 hg117 hat118
  clear R113
  refine st_mv v114 ?_
  simp only [nf0, nf1, nf2, nf3, nf4]
  refine wpList_nil ?_
  show Code.wp _ _ _ _ _
  refine wp_region_lit ?_
  refine st_value (v := (.int .i64 5)) (by rfl) (run_add_in (m := 4) (n := 1) (.tmp 19) (.const (.int .i64 1)) rfl rfl rfl (by omega) w115) ?_
  simp only [nf0, nf1, nf2, nf3, nf4]
  refine st_mv (.int .i64 5) ?_
  simp only [nf0, nf1, nf2, nf3, nf4]
  refine wpList_nil ?_
  show Code.wp _ _ _ _ _
  refine wp_seq ?_
  refine wp_region_lit ?_
  refine st_value (v := (.bool false)) (by rfl) ((run_lss (.tmp 19) (.tmp 18) rfl rfl rfl w115).trans (by rw [decide_eq_false (by omega)])) ?_
  simp only [nf0, nf1, nf2, nf3, nf4]
  refine wpList_nil ?_
  show Code.wp _ _ _ _ _
  refine wp_seq ?_
  refine wp_cond_false rfl ?_
  refine wp_exit ?_
  show Code.wp _ _ _ _ _
  refine wp_seq ?_
  refine wp_region_lit ?_
  refine st_mv v114 ?_
  simp only [nf0, nf1, nf2, nf3, nf4]
  refine st_mv v114 ?_
  simp only [nf0, nf1, nf2, nf3, nf4]
  refine wpList_nil ?_
  show Code.wp _ _ _ _ _
  refine wp_ret ?_
  first | show bodyPost _ _ _ _ _ _ | (simp only [Exit.then, Exit.inBlock]; show bodyPost _ _ _ _ _ _)
  exact bodyPost_ret (results_tmp rfl _ _ _) rfl ⟨_, rfl, by have h := O116; simpa [enL, vbs] using h, bel⟩
end Go.Proofs.YtckmihjekgbcmaaDoor

/- Rows of five numbers, written and read: plain laws. -/
namespace Go.Proofs.YtckmihjekgbcmaaDoor
open Go.RowKit Go.WideShapes Go.ChangeShapes

theorem num_at {l pre r : List UInt8} {n : Int} (hn : I64 n) (hl : l = pre ++ (vb (zig n) ++ r)) : nv l pre.length = n ∧ ne l pre.length = (pre ++ vb (zig n)).length ∧ nk l pre.length = true := by
  have h := getAt_vbr (zig_lt hn) pre r
  rw [← hl] at h
  refine ⟨?_, ?_, ?_⟩
  · unfold nv; rw [h]; exact zag_zig n
  · unfold ne; rw [h]; simp
  · unfold nk; rw [h]; rfl
theorem five_at {l pre r : List UInt8} {x : TEvt} (hx : okEvt x) (hl : l = pre ++ (vbs (evL x) ++ r)) : five l pre.length = x ∧ k5 l pre.length ∧ e5 l pre.length = (pre ++ vbs (evL x)).length := by
  obtain ⟨a, b, c, d, e⟩ := x
  obtain ⟨h0, h1, h2, h3, h4⟩ := hx
  have hv : vbs (evL (a, b, c, d, e)) = vb (zig a) ++ (vb (zig b) ++ (vb (zig c) ++ (vb (zig d) ++ vb (zig e)))) := by simp [evL, vbs]
  rw [hv] at hl ⊢
  simp only [List.append_assoc] at hl
  obtain ⟨a1, a2, a3⟩ := num_at (l := l) (pre := pre) (n := a) (r := vb (zig b) ++ (vb (zig c) ++ (vb (zig d) ++ (vb (zig e) ++ r)))) h0 hl
  obtain ⟨b1, b2, b3⟩ := num_at (l := l) (pre := pre ++ vb (zig a)) (n := b) (r := vb (zig c) ++ (vb (zig d) ++ (vb (zig e) ++ r))) h1 (by rw [hl]; simp only [List.append_assoc])
  obtain ⟨c1, c2, c3⟩ := num_at (l := l) (pre := pre ++ vb (zig a) ++ vb (zig b)) (n := c) (r := vb (zig d) ++ (vb (zig e) ++ r)) h2 (by rw [hl]; simp only [List.append_assoc])
  obtain ⟨d1, d2, d3⟩ := num_at (l := l) (pre := pre ++ vb (zig a) ++ vb (zig b) ++ vb (zig c)) (n := d) (r := vb (zig e) ++ r) h3 (by rw [hl]; simp only [List.append_assoc])
  obtain ⟨e1, e2, e3⟩ := num_at (l := l) (pre := pre ++ vb (zig a) ++ vb (zig b) ++ vb (zig c) ++ vb (zig d)) (n := e) (r := r) h4 (by rw [hl]; simp only [List.append_assoc])
  refine ⟨?_, ?_, ?_⟩
  · unfold five; rw [a2, b2, c2, d2, a1, b1, c1, d1, e1]
  · unfold k5; rw [a2, b2, c2, d2]; exact ⟨a3, b3, c3, d3, e3⟩
  · unfold e5; rw [a2, b2, c2, d2, e2]; simp only [List.append_assoc]
theorem vbs_pos {x : TEvt} : 0 < (vbs (evL x)).length := by
  have h : ∀ u, 0 < (vb u).length := fun u => by rw [vb]; split <;> simp
  have := h (zig x.1)
  simp only [evL, vbs, List.flatMap_cons, List.length_append]
  omega
theorem fv_fwd : ∀ (zs : List TEvt) (pre : List UInt8) (f : Nat), (∀ x ∈ zs, okEvt x) → zs.length < f → fv (pre ++ vbs (zs.flatMap evL)) f pre.length = (zs, -1)
  | [], pre, f, _, hf => by
    cases f with
    | zero => omega
    | succ f => rw [fv, if_neg (by simp [vbs])]
  | x :: zs, pre, f, hok, hf => by
    cases f with
    | zero => omega
    | succ f =>
      rw [List.length_cons] at hf
      have e0 : vbs ((x :: zs).flatMap evL) = vbs (evL x) ++ vbs (zs.flatMap evL) := by rw [List.flatMap_cons, vbs_append]
      obtain ⟨h1, h2, h3⟩ := five_at (l := pre ++ vbs ((x :: zs).flatMap evL)) (pre := pre) (r := vbs (zs.flatMap evL)) (hok x (by simp)) (by rw [e0])
      have hp := vbs_pos (x := x)
      have ih := fv_fwd zs (pre ++ vbs (evL x)) f (fun y hy => hok y (by simp [hy])) (by omega)
      rw [List.append_assoc, ← e0] at ih
      rw [fv, if_pos (by rw [List.length_append, e0, List.length_append]; omega), if_pos h2, h3, h1, ih]
theorem vbs_ge : ∀ (zs : List TEvt), zs.length ≤ (vbs (zs.flatMap evL)).length
  | [] => Nat.zero_le _
  | x :: zs => by
    have h1 := vbs_ge zs
    have h2 := vbs_pos (x := x)
    rw [List.flatMap_cons, vbs_append, List.length_append, List.length_cons]; omega
theorem fvA_fwd {zs : List TEvt} (h : ∀ x ∈ zs, okEvt x) : fvA (vbs (zs.flatMap evL)) = (zs, -1) := by
  have h1 := vbs_ge zs
  have := fv_fwd zs [] ((vbs (zs.flatMap evL)).length + 1) h (by omega)
  simpa [fvA] using this
theorem fvR_fwd {zs : List TEvt} (h : ∀ x ∈ zs, okEvt x) : fvR (vbs (zs.flatMap evL)) = zs := by unfold fvR; rw [fvA_fwd h, if_pos rfl]
theorem vbs_inj {zs ms : List TEvt} (h1 : ∀ x ∈ zs, okEvt x) (h2 : ∀ x ∈ ms, okEvt x) : decide (vbs (zs.flatMap evL) = vbs (ms.flatMap evL)) = decide (zs = ms) := by
  rw [decide_eq_decide]
  constructor
  · intro h
    have := fvA_fwd h1
    rw [h, fvA_fwd h2] at this
    exact (congrArg Prod.fst this).symm
  · intro h; rw [h]
theorem num_back {l : List UInt8} {p : Nat} (h : nk l p = true) : vb (zig (nv l p)) = (l.drop p).take (ne l p - p) ∧ p ≤ ne l p := by
  unfold nk at h
  unfold nv ne
  cases hg : getAt l p with
  | none => rw [hg] at h; cases h
  | some x =>
    obtain ⟨u, m⟩ := x
    refine ⟨?_, by show p ≤ p + m; omega⟩
    show vb (zig (zag u)) = (l.drop p).take (p + m - p)
    rw [zig_zag, getAt_canon hg, Nat.add_sub_cancel_left]
theorem take_cat {l : List UInt8} {p q r : Nat} (h1 : p ≤ q) (h2 : q ≤ r) : (l.drop p).take (q - p) ++ (l.drop q).take (r - q) = (l.drop p).take (r - p) := by
  rw [show r - p = (q - p) + (r - q) by omega, List.take_add, List.drop_drop, show p + (q - p) = q by omega]
theorem five_back {l : List UInt8} {p : Nat} (h : k5 l p) : vbs (evL (five l p)) = (l.drop p).take (e5 l p - p) ∧ p ≤ e5 l p := by
  obtain ⟨h0, h1, h2, h3, h4⟩ := h
  obtain ⟨a0, b0⟩ := num_back h0
  obtain ⟨a1, b1⟩ := num_back h1
  obtain ⟨a2, b2⟩ := num_back h2
  obtain ⟨a3, b3⟩ := num_back h3
  obtain ⟨a4, b4⟩ := num_back h4
  have hv : vbs (evL (five l p)) = vb (zig (nv l p)) ++ (vb (zig (nv l (ne l p))) ++ (vb (zig (nv l (ne l (ne l p)))) ++ (vb (zig (nv l (ne l (ne l (ne l p))))) ++ vb (zig (nv l (ne l (ne l (ne l (ne l p))))))))) := by simp [evL, five, vbs]
  refine ⟨?_, by unfold e5; omega⟩
  rw [hv, a0, a1, a2, a3, a4, take_cat b3 b4, take_cat b2 (by omega), take_cat b1 (by omega), take_cat b0 (by omega)]
  rfl
theorem fv_text {l : List UInt8} : ∀ {f p : Nat}, p ≤ l.length → l.length < f + p → (fv l f p).2 = -1 → vbs ((fv l f p).1.flatMap evL) = l.drop p
  | 0, p, h1, h2, _ => by omega
  | f + 1, p, h1, h2, h3 => by
    rw [fv] at h3 ⊢
    by_cases hp : p < l.length
    · rw [if_pos hp] at h3 ⊢
      by_cases hk : k5 l p
      · rw [if_pos hk] at h3 ⊢
        obtain ⟨h4, h5⟩ := five_back hk
        have h6 := e5_gt hk
        have ih := fv_text (f := f) (e5_le l p) (by omega) h3
        show vbs ((five l p :: (fv l f (e5 l p)).1).flatMap evL) = _
        rw [List.flatMap_cons, vbs_append, ih, h4]
        conv => rhs; rw [← List.take_append_drop (e5 l p - p) (l.drop p)]
        rw [List.drop_drop, show p + (e5 l p - p) = e5 l p by omega]
      · rw [if_neg hk] at h3
        simp only at h3
        omega
    · rw [if_neg hp, List.drop_eq_nil_of_le (by omega)]; rfl
theorem fvR_text {l : List UInt8} (h : (fvA l).2 = -1) : vbs ((fvR l).flatMap evL) = l := by
  have := fv_text (l := l) (f := l.length + 1) (Nat.zero_le _) (by omega) h
  unfold fvR; rw [if_pos h]; exact this
theorem fvR_ok (l : List UInt8) : ∀ x ∈ fvR l, okEvt x := fun x hx => by
  unfold fvR at hx
  split at hx
  · exact fvA_ok l x hx
  · simp at hx
theorem fvR_len (l : List UInt8) : (fvR l).length ≤ l.length := by
  have := fvA_len l
  unfold fvR; split
  · exact this
  · simp
theorem enR_ok (l : List UInt8) : ∀ x ∈ (fvR l).map enOf, okEnt x := fun x hx => by
  obtain ⟨y, hy, rfl⟩ := List.mem_map.1 hx
  exact okEnt_enOf (fvR_ok l y hy)
theorem enR_text {l : List UInt8} : ((fvR l).map enOf).flatMap enL = (fvR l).flatMap evL := by
  rw [List.flatMap_map]
  have h := fvR_ok l
  generalize fvR l = xs at *
  induction xs with
  | nil => rfl
  | cons x xs ih => rw [List.flatMap_cons, List.flatMap_cons, ih fun y hy => h y (by simp [hy]), enL_enOf (h x (by simp))]
end Go.Proofs.YtckmihjekgbcmaaDoor

/- A region that draws its order and writes, at its end, variables that it reads (XFacts, one step more). -/
namespace Go.Proofs.YtckmihjekgbcmaaDoor
open Go.RowKit
def factsOk7 (ops : Array Oper) (n : Nat) (i : Nat) (o : Oper) : Bool :=
  (o.after.all fun e => !Region.binds .any e || decide (e.on < i)) &&
  (match o.dst with | some d => decide (d < n) | none => true) &&
  (List.range ops.size).all fun j => match ops[j]? with
    | some o' => match o'.dst with
      | some d => (i == j || o.dst != some d) && (!(o.looksAt ops).contains d || (predsOf o).contains j || (decide (i < j) && (predsOf o').contains i))
      | none => true
    | none => true
def factsB7 (ops : Array Oper) (n : Nat) : Bool :=
  Region.noSelect ops && (List.range ops.size).all fun i => match ops[i]? with | some o => factsOk7 ops n i o | none => true
section
variable {P : Program} {ops : Array Oper} {C : World → Prop} {G : World → World → Prop}
theorem factsOk7_of (n : Nat) (h : factsB7 ops n = true) {i : Nat} {o : Oper} (hi : ops[i]? = some o) :
    (∀ e ∈ o.after, Region.binds .any e = true → e.on < i) ∧ (∀ d, o.dst = some d → d < n) ∧ (∀ j o' d, ops[j]? = some o' → o'.dst = some d → (j ≠ i → o.dst ≠ some d) ∧ (d ∈ o.looksAt ops → j ∈ predsOf o ∨ (i < j ∧ i ∈ predsOf o'))) := by
  have hlt := (Array.getElem?_eq_some_iff.1 hi).1
  simp only [factsB7, Bool.and_eq_true, List.all_eq_true, List.mem_range] at h
  have h1 := h.2 i hlt
  simp only [hi, factsOk7, Bool.and_eq_true, List.all_eq_true, List.mem_range] at h1
  obtain ⟨⟨h1, h2⟩, h3⟩ := h1
  refine ⟨fun e he hb => ?_, fun d hd => ?_, fun j o' d hj hd => ?_⟩
  · rw [Array.all_eq_true_iff_forall_mem] at h1
    have := h1 e he
    simpa [hb] using this
  · simpa [hd] using h2
  · have hjl := (Array.getElem?_eq_some_iff.1 hj).1
    have := h3 j hjl
    simp only [hj, hd, Bool.and_eq_true, Bool.or_eq_true] at this
    refine ⟨fun hne => ?_, fun hin => ?_⟩
    · have := this.1.resolve_left (by simp; omega)
      simpa using this
    · have := this.2
      simp only [Bool.or_eq_true, Bool.not_eq_true', Bool.and_eq_true, decide_eq_true_eq] at this
      rcases this with (h4 | h4) | h4
      · exact absurd hin (by simpa using h4)
      · exact .inl (by simpa using h4)
      · exact .inr ⟨h4.1, by simpa using h4.2⟩

structure FInv7 (ops : Array Oper) (C : World → Prop) (fs0 : List (Fact G)) (a0 : Act) (listed : Array Bool) (a : Act) (w : World) (vs : Nat → Value) : Prop where
  size : listed.size = ops.size
  cls : C w
  closed : ∀ j oj, ops[j]? = some oj → listed.getD j false = true → ∀ k ∈ predsOf oj, listed.getD k false = true
  defers : a.defers = a0.defers
  tsize : a.tmps.size = a0.tmps.size
  agree : Agree fs0 vs
  base : ∀ t, (∀ i o, ops[i]? = some o → listed.getD i false = true → o.dst ≠ some t) → a.tmps[t]? = a0.tmps[t]?
  done : ∀ i o d, ops[i]? = some o → listed.getD i false = true → o.dst = some d → a.tmps[d]? = some (vs i)
  facts : ∀ (i : Nat) (q : Value → World → Prop) (hq : _), fs0[i]? = some (Fact.ex q hq) → listed.getD i false = true → q (vs i) w

theorem wpAny_of_facts7 {Q : Exit → Act → World → Prop} {fs0 : List (Fact G)} {a0 : Act} (hB : factsB7 ops a0.tmps.size = true)
    (h : fsteps P ops C G (Q .normal) 0 ops.toList fs0 a0 []) : ∀ (fuel : Nat) (listed : Array Bool) (a : Act) (w : World) (vs : Nat → Value), FInv7 ops C fs0 a0 listed a w vs →
    ((List.range ops.size).filter fun i => !listed.getD i false).length ≤ fuel → wpAny P .any ops Q fuel listed a w := by
  have hsel : Region.noSelect ops = true := by simp only [factsB7, Bool.and_eq_true] at hB; exact hB.1
  -- all have come up
  have fin : ∀ (listed : Array Bool) (a : Act) (w : World) (vs : Nat → Value), FInv7 ops C fs0 a0 listed a w vs → (∀ i, i < ops.size → listed.getD i false = true) → Q .normal a w := by
    intro listed a w vs I hall
    obtain ⟨r1, r2⟩ := fsteps_use (ops := ops) I.agree ops.toList 0 fs0 a0 [] (by simp) (by simp) h
    have ea : a = putsFrom vs 0 ops.toList a0 := by
      obtain ⟨ts, ds⟩ := a
      have e1 : ds = (putsFrom vs 0 ops.toList a0).defers := by rw [putsFrom_defers]; exact I.defers
      have e2 : ts = (putsFrom vs 0 ops.toList a0).tmps := by
        apply Array.ext_getElem?
        intro t
        by_cases hex : ∃ (j : Nat) (o : Oper), ops[j]? = some o ∧ o.dst = some t
        · obtain ⟨j, o, hj, hd⟩ := hex
          have hjl := (Array.getElem?_eq_some_iff.1 hj).1
          have h1 := I.done j o t hj (hall j hjl) hd
          obtain ⟨_, hlt, _⟩ := factsOk7_of _ hB hj
          rw [putsFrom_at vs t ops.toList 0 a0 j o (by simpa using hj) hd (hlt t hd) (fun i o' hi hij => by
            obtain ⟨_, _, h3⟩ := factsOk7_of _ hB (show ops[i]? = some o' by simpa using hi)
            exact (h3 j o t hj hd).1 (Ne.symm hij))]
          simpa using h1
        · rw [putsFrom_other vs t ops.toList 0 a0 (fun o ho hd => hex (by
            obtain ⟨i, hi, rfl⟩ := List.mem_iff_getElem.1 ho
            exact ⟨i, _, by rw [← Array.getElem?_toList]; exact List.getElem?_eq_getElem hi, hd⟩))]
          exact I.base t (fun i o hi _ hd => hex ⟨i, o, hi, hd⟩)
      rw [e1, e2]
    rw [ea]
    refine r2 w I.cls fun i q hq hi => I.facts i q hq hi ?_
    -- a fact's number is an operation's
    have hl : fs0.length = ops.size := by
      have : ∀ (os : List Oper) (k : Nat) (fs : List (Fact G)) (a : Act) (hs : List (Nat × (World → Prop))), fsteps P ops C G (Q .normal) k os fs a hs → fs.length = os.length := by
        intro os
        induction os with
        | nil => intro k fs a hs h; cases fs with
          | nil => rfl
          | cons f fs => exact h.elim
        | cons o os ih => intro k fs a hs h; cases fs with
          | nil => exact h.elim
          | cons f fs =>
            cases f with
            | val c => simp [ih _ _ _ _ h.2]
            | ex p hp => simp [ih _ _ _ _ (h.2 undef)]
      simpa using this _ _ _ _ _ h
    have := (List.getElem?_eq_some_iff.1 hi).1
    exact hall i (by omega)
  -- if none can come up, all have
  have none_ready : ∀ (listed : Array Bool), listed.size = ops.size → Region.ready .any ops listed = [] → ∀ i, i < ops.size → listed.getD i false = true := by
    intro listed hs hr i
    induction i using Nat.strongRecOn with
    | _ i ih =>
      intro hi
      by_cases hl : listed.getD i false = true
      · exact hl
      · exfalso
        have hl' : listed.getD i true = false := by
          have : i < listed.size := by omega
          simp [this] at hl ⊢
          exact hl
        have hm : i ∈ Region.ready .any ops listed := by
          refine mem_ready.2 ⟨hl', ops[i], by simp [hi], fun e he hb => ?_⟩
          obtain ⟨h1, _, _⟩ := factsOk7_of _ hB (show ops[i]? = some ops[i] by simp [hi])
          have := h1 e he hb
          exact ih e.on this (by omega)
        rw [hr] at hm
        cases hm
  intro fuel
  induction fuel with
  | zero =>
    intro listed a w vs I hc
    have hall : ∀ i, i < ops.size → listed.getD i false = true := by
      intro i hi
      have : (List.range ops.size).filter (fun i => !listed.getD i false) = [] := List.length_eq_zero_iff.1 (by omega)
      rw [List.filter_eq_nil_iff] at this
      have := this i (by simp [hi])
      simpa using this
    refine ⟨?_, fin listed a w vs I hall⟩
    cases hr : Region.ready .any ops listed with
    | nil => rfl
    | cons j js =>
      exfalso
      have hj : j ∈ Region.ready .any ops listed := by rw [hr]; simp
      obtain ⟨h0, o, ho, _⟩ := mem_ready.1 hj
      have := hall j (Array.getElem?_eq_some_iff.1 ho).1
      have hlt : j < listed.size := by rw [I.size]; exact (Array.getElem?_eq_some_iff.1 ho).1
      simp [hlt] at h0 this
      rw [h0] at this; cases this
  | succ fuel ih =>
    intro listed a w vs I hc
    refine ⟨fun hr => fin listed a w vs I (none_ready listed I.size hr), fun i hi => ?_⟩
    obtain ⟨h0, o, ho, hall⟩ := mem_ready.1 hi
    have hil := (Array.getElem?_eq_some_iff.1 ho).1
    have hls : i < listed.size := by rw [I.size]; exact hil
    have hun : listed.getD i false = false := by simp [hls] at h0 ⊢; exact h0
    obtain ⟨g1, g2, g3⟩ := factsOk7_of _ hB ho
    obtain ⟨r1, _⟩ := fsteps_use (ops := ops) I.agree ops.toList 0 fs0 a0 [] (by simp) (by simp) h
    obtain ⟨f, hf, hok⟩ := r1 i o (by simpa using ho)
    rw [Nat.zero_add] at hf
    have hpre : ∀ j ∈ predsOf o, listed.getD j false = true := by
      intro j hj
      simp only [predsOf, List.mem_map, List.mem_filter] at hj
      obtain ⟨e, ⟨he, hb⟩, rfl⟩ := hj
      exact hall e (by simpa using he) hb
    have hok := hok w I.cls fun j hj q hq hjf => I.facts j q hq hjf (hpre j hj)
    -- the two states are alike at what the operation looks at
    have same : ∀ t ∈ o.looksAt ops, (putsFrom vs 0 (ops.toList.take i) a0).tmps[t]? = a.tmps[t]? := by
      intro t ht
      by_cases hex : ∃ (j : Nat) (o' : Oper), ops[j]? = some o' ∧ o'.dst = some t
      · obtain ⟨j, o', hj, hd⟩ := hex
        rcases (g3 j o' t hj hd).2 ht with hjp | ⟨hlate, hwait⟩
        · have hjl := hpre j hjp
          have hji : j < i := by
            simp only [predsOf, List.mem_map, List.mem_filter] at hjp
            obtain ⟨e, ⟨he, hb⟩, rfl⟩ := hjp
            exact g1 e (by simpa using he) hb
          obtain ⟨_, hlt, _⟩ := factsOk7_of _ hB hj
          rw [putsFrom_at vs t (ops.toList.take i) 0 a0 j o' (by rw [List.getElem?_take, if_pos hji]; simpa using hj) hd (hlt t hd) (fun k ok hk hkj => by
            rw [List.getElem?_take] at hk
            split at hk
            · obtain ⟨_, _, h3⟩ := factsOk7_of _ hB (show ops[k]? = some ok by simpa using hk)
              exact (h3 j o' t hj hd).1 (Ne.symm hkj)
            · cases hk)]
          rw [I.done j o' t hj hjl hd, Nat.zero_add]
        · have honly : ∀ k ok, ops[k]? = some ok → ok.dst = some t → k = j := fun k ok hk hkd => by
            by_cases hkj : k = j
            · exact hkj
            · obtain ⟨_, _, h3⟩ := factsOk7_of _ hB hk
              exact absurd hkd ((h3 j o' t hj hd).1 (Ne.symm hkj))
          rw [putsFrom_other vs t (ops.toList.take i) 0 a0 (fun ok hok' hkd => by
            obtain ⟨k, hk, rfl⟩ := List.mem_iff_getElem.1 hok'
            have hk2 : k < i := by have := hk; simp at this; omega
            have hk3 : ops[k]? = some (ops.toList.take i)[k] := by
              rw [List.getElem_take, ← Array.getElem?_toList]; exact List.getElem?_eq_getElem _
            have := honly k _ hk3 hkd
            omega)]
          exact (I.base t (fun k ok hk hkl hkd => by
            have := honly k ok hk hkd
            subst this
            rw [hj] at hk; injection hk with hk; subst hk
            have := I.closed k o' hj hkl i hwait
            rw [hun] at this; cases this)).symm
      · rw [putsFrom_other vs t (ops.toList.take i) 0 a0 (fun o' ho' hd => hex (by
          obtain ⟨k, hk, rfl⟩ := List.mem_iff_getElem.1 (List.mem_of_mem_take ho')
          exact ⟨k, _, by rw [← Array.getElem?_toList]; exact List.getElem?_eq_getElem hk, hd⟩))]
        exact (I.base t (fun k ok hk _ hd => hex ⟨k, ok, hk, hd⟩)).symm
    have hok : opok P ops C G o f a w := by
      refine opok_congr ?_ ?_ hok
      · refine execOp_congr o (fun cs b => Region.noSelect_spec hsel i o cs b ho) fun x hx => ?_
        cases x with
        | tmp t =>
          have := same t (List.mem_append_left _ (List.mem_filterMap.2 ⟨.tmp t, by simpa using hx, rfl⟩))
          simp only [Act.eval, Array.getD_eq_getD_getElem?, this]
        | _ => rfl
      · unfold Region.wanted
        cases hg : o.guard with
        | none => rfl
        | some gw =>
          obtain ⟨g, want⟩ := gw
          have : yielded ops (putsFrom vs 0 (ops.toList.take i) a0).tmps g = yielded ops a.tmps g := by
            unfold yielded
            cases ht : (ops[g]?).bind (·.dst) with
            | none => rfl
            | some t => rw [Option.bind_some, Option.bind_some, same t (by simp [Oper.looksAt, hg, ht])]
          simp only [this]
    refine wpOp_of_opok ho I.cls hok fun v w' hv hC' hG => ?_
    refine ih _ _ _ (fun j => if j = i then v else vs j) ⟨by simp [I.size], hC', ?_, ?_, ?_, ?_, ?_, ?_, ?_⟩ ?_
    · intro j oj hj hl k hk
      by_cases hji : j = i
      · subst hji
        rw [ho] at hj; injection hj with hj; subst hj
        exact getD_set_true (hpre k hk)
      · rw [getD_set_ne false (Ne.symm hji)] at hl
        exact getD_set_true (I.closed j oj hj hl k hk)
    · cases hd : o.dst <;> simpa [Act.put] using I.defers
    · cases hd : o.dst <;> simpa [Act.put] using I.tsize
    · intro j c hj
      by_cases hji : j = i
      · subst hji
        rw [hf] at hj
        injection hj with hj
        subst hj
        simpa [Fact.holds] using hv
      · simpa [hji] using I.agree j c hj
    · intro t ht
      have hne : o.dst ≠ some t := ht i o ho (by simp [hls])
      have : (a.put o.dst v).tmps[t]? = a.tmps[t]? := by
        cases hd : o.dst with
        | none => rfl
        | some d =>
          have hne' : d ≠ t := fun e => hne (by rw [hd, e])
          simp [Act.put, Array.getElem?_setIfInBounds_ne hne']
      rw [this]
      exact I.base t fun j oj hj hl => ht j oj hj (getD_set_true hl)
    · intro j oj d hj hl hd
      by_cases hji : j = i
      · subst hji
        rw [ho] at hj
        injection hj with hj
        subst hj
        have := g2 d hd
        rw [← I.tsize] at this
        simp [Act.put, hd, this]
      · rw [getD_set_ne false (Ne.symm hji)] at hl
        have h1 := I.done j oj d hj hl hd
        have hne : o.dst ≠ some d := (g3 j oj d hj hd).1 hji
        have : (a.put o.dst v).tmps[d]? = a.tmps[d]? := by
          cases hd' : o.dst with
          | none => rfl
          | some d' =>
            have hne' : d' ≠ d := fun e => hne (by rw [hd', e])
            simp [Act.put, Array.getElem?_setIfInBounds_ne hne']
        rw [this, h1]
        simp [hji]
    · intro j q hq hj hl
      by_cases hji : j = i
      · subst hji
        rw [hf] at hj
        injection hj with hj
        subst hj
        simpa [Fact.holds] using hv
      · rw [getD_set_ne false (Ne.symm hji)] at hl
        simp only [hji, if_false]
        exact hq _ _ _ hG (I.facts j q hq hj hl)
    · -- one less
      have hlen : ((List.range ops.size).filter fun j => !(listed.setIfInBounds i true).getD j false).length < ((List.range ops.size).filter fun j => !listed.getD j false).length := by
        have e1 : ((List.range ops.size).filter fun j => !(listed.setIfInBounds i true).getD j false) = ((List.range ops.size).filter fun j => !listed.getD j false).filter (fun j => j != i) := by
          rw [List.filter_filter]
          refine List.filter_congr fun j hj => ?_
          by_cases hji : j = i
          · subst hji; simp [hls]
          · rw [getD_set_ne false (Ne.symm hji)]; simp [hji]
        rw [e1]
        refine List.length_filter_lt_length_iff_exists.2 ⟨i, ?_, by simp⟩
        simp [List.mem_filter, hil]
        simpa [hls] using hun
      omega

theorem wp_region_facts7 {id : Nat} {Q : Exit → Act → World → Prop} {a : Act} {w : World} (fs : List (Fact G)) (hm : P.follows .mixedOrders = true) (hB : factsB7 ops a.tmps.size = true) (hC : C w.drew)
    (h : fsteps P ops C G (Q .normal) 0 ops.toList fs a []) : (Code.region id ops true).wp P Q a w := by
  refine wp_region_any hm (wpAny_of_facts7 hB h _ _ _ _ (fun i => match fs[i]? with | some (.val c) => c | _ => undef) ⟨by simp, hC, ?_, rfl, rfl, ?_, ?_, ?_, ?_⟩ ?_)
  · intro j oj hj hl; exfalso
    by_cases h' : j < ops.size <;> simp [h'] at hl
  · intro i c hi; simp [hi]
  · intro t _; rfl
  · intro i o d hi hl; exfalso
    by_cases h' : i < ops.size <;> simp [h'] at hl
  · intro i q hq hi hl; exfalso
    by_cases h' : i < ops.size <;> simp [h'] at hl
  · refine Nat.le_trans (List.length_filter_le _ _) (by simp)

theorem wp_region_facts7_lit {id : Nat} {Q : Exit → Act → World → Prop} {a : Act} {w : World} {l : List Oper} (fs : List (Fact G)) (hm : P.follows .mixedOrders = true) (hB : factsB7 l.toArray a.tmps.size = true) (hC : C w.drew)
    (h : fsteps P l.toArray C G (Q .normal) 0 l fs a []) : (Code.region id l.toArray true).wp P Q a w :=
  wp_region_facts7 fs hm hB hC (by simpa using h)

end
end Go.Proofs.YtckmihjekgbcmaaDoor

/- What the law CodecBack does. -/
namespace Go.Proofs.YtckmihjekgbcmaaDoor
open Go.RowKit Go.WideShapes Go.ChangeShapes
set_option linter.unusedSimpArgs false
set_option linter.unusedVariables false

theorem zb_run_call_11_0 {o : Oper} {a : Act}  {ts : Array TypeId} (ho : o.op = .call { callee := .value (.func 11), args := #[], argTypes := ts })  (W : World) : (execOp a.eval o).run Tryd.prog W = .ok (.enter 11 #[]) W := by
  unfold execOp
  simp only [ho]
  go_simp
theorem zb_run_call_19_1 {o : Oper} {a : Act} (x0 : Operand) {ts : Array TypeId} (ho : o.op = .call { callee := .value (.func 19), args := #[x0], argTypes := ts }) {v0 : Value} (h0 : a.eval x0 = v0) (W : World) : (execOp a.eval o).run Tryd.prog W = .ok (.enter 19 #[v0]) W := by
  unfold execOp
  simp only [ho]
  subst h0
  go_simp
theorem zb_run_call_20_1 {o : Oper} {a : Act} (x0 : Operand) {ts : Array TypeId} (ho : o.op = .call { callee := .value (.func 20), args := #[x0], argTypes := ts }) {v0 : Value} (h0 : a.eval x0 = v0) (W : World) : (execOp a.eval o).run Tryd.prog W = .ok (.enter 20 #[v0]) W := by
  unfold execOp
  simp only [ho]
  subst h0
  go_simp
theorem zb_run_call_21_1 {o : Oper} {a : Act} (x0 : Operand) {ts : Array TypeId} (ho : o.op = .call { callee := .value (.func 21), args := #[x0], argTypes := ts }) {v0 : Value} (h0 : a.eval x0 = v0) (W : World) : (execOp a.eval o).run Tryd.prog W = .ok (.enter 21 #[v0]) W := by
  unfold execOp
  simp only [ho]
  subst h0
  go_simp
theorem zb_run_call_23_2 {o : Oper} {a : Act} (x0 : Operand) (x1 : Operand) {ts : Array TypeId} (ho : o.op = .call { callee := .value (.func 23), args := #[x0, x1], argTypes := ts }) {v0 : Value} (h0 : a.eval x0 = v0) {v1 : Value} (h1 : a.eval x1 = v1) (W : World) : (execOp a.eval o).run Tryd.prog W = .ok (.enter 23 #[v0, v1]) W := by
  unfold execOp
  simp only [ho]
  subst h0 h1
  go_simp
theorem zb_run_call_22_1 {o : Oper} {a : Act} (x0 : Operand) {ts : Array TypeId} (ho : o.op = .call { callee := .value (.func 22), args := #[x0], argTypes := ts }) {v0 : Value} (h0 : a.eval x0 = v0) (W : World) : (execOp a.eval o).run Tryd.prog W = .ok (.enter 22 #[v0]) W := by
  unfold execOp
  simp only [ho]
  subst h0
  go_simp

attribute [local irreducible] Go.wpList Go.Code.wp
set_option maxRecDepth 100000 in
set_option maxHeartbeats 4000000 in
theorem backLaw_bad {A B C : Option Addr} {xs ys : List TEvt} {bs : List UInt8} {ca cb cc : Nat} (hoka : ∀ q ∈ xs, okEvt q) (hokb : ∀ q ∈ ys, okEvt q) (hgd : ¬ (fvA (bs.take 400)).2 = -1) (w : World) (hca : xs.length ≤ ca) (hcb : ys.length ≤ cb) (hcc : bs.length ≤ cc) (ha : Reads w A (eEvt.all xs)) (hb : Reads w B (eEvt.all ys)) (hc : Reads w C (eByte.all bs)) (hT : Tab w) : Calls Tryd.prog 6 #[.slice A xs.length ca, .slice B ys.length cb, .slice C bs.length cc] w fun e w' => e = .returned (.bool true) ∧ Below w.heap.size w w' := by
  have bel : Below w.heap.size w w := Below.refl _ _
  go_enter Tryd.func6, Tryd.ntmps6
  refine wp_seq ?_
  refine wp_region_lit ?_
  refine st_mv (.bool false) ?_
  simp only [nf0, nf1, nf2, nf3, nf4]
  refine wpList_nil ?_
  show Code.wp _ _ _ _ _
  refine wp_seq ?_
  refine wp_region_facts7_lit (C := Abv w) (G := G0) [.val (.slice A xs.length ca), .val (.slice A xs.length ca), .val (.int .i64 (xs.length : Int)), .val (.int .i64 (min (xs.length : Int) 40)), .val (.slice A (xs.take 40).length ca), .val (.slice B ys.length cb), .val (.slice B ys.length cb), .val (.int .i64 (ys.length : Int)), .val (.int .i64 (min (ys.length : Int) 40)), .val (.slice B (ys.take 40).length cb), .val (.slice C bs.length cc), .val (.slice C bs.length cc), .val (.int .i64 (bs.length : Int)), .val (.int .i64 (min (bs.length : Int) 400)), .val (.slice C (bs.take 400).length cc), .val (.slice A (xs.take 40).length ca), .val (.slice B (ys.take 40).length cb), .val (.slice C (bs.take 400).length cc)] (by kernel_rfl) (by kernel_rfl) (Abv.start _) ?_
  refine fsteps_val (fun W hC hh => opok_value (v := (.slice A xs.length ca)) (by rfl) (by rfl) rfl hC (G0.refl _)) ?_
  simp only [nf0, nf1, nf2, nf3, nf4]
  refine fsteps_val (fun W hC hh => opok_value (v := (.slice A xs.length ca)) (by rfl) (by rfl) rfl hC (G0.refl _)) ?_
  simp only [nf0, nf1, nf2, nf3, nf4]
  refine fsteps_val (fun W hC hh => opok_value (v := (.int .i64 (xs.length : Int))) (by rfl) (run_len (.tmp 15) rfl ⟨_, Tryd.underlying39⟩ rfl W) rfl hC (G0.refl _)) ?_
  simp only [nf0, nf1, nf2, nf3, nf4]
  refine fsteps_val (fun W hC hh => opok_value (v := (.int .i64 (min (xs.length : Int) 40))) (by rfl) (run_min2 (.tmp 16) (.const (.int .i64 40)) rfl rfl rfl W) rfl hC (G0.refl _)) ?_
  simp only [nf0, nf1, nf2, nf3, nf4]
  have R1 := ha.takeE 40
  refine fsteps_val (fun W hC hh => opok_value (v := (.slice A (xs.take 40).length ca)) (by rfl) (run_cut_take (.tmp 14) (.tmp 17) rfl Tryd.underlying39 slEvt.sz rfl 40 rfl rfl hca W) rfl hC (G0.refl _)) ?_
  simp only [nf0, nf1, nf2, nf3, nf4]
  refine fsteps_val (fun W hC hh => opok_value (v := (.slice B ys.length cb)) (by rfl) (by rfl) rfl hC (G0.refl _)) ?_
  simp only [nf0, nf1, nf2, nf3, nf4]
  refine fsteps_val (fun W hC hh => opok_value (v := (.slice B ys.length cb)) (by rfl) (by rfl) rfl hC (G0.refl _)) ?_
  simp only [nf0, nf1, nf2, nf3, nf4]
  refine fsteps_val (fun W hC hh => opok_value (v := (.int .i64 (ys.length : Int))) (by rfl) (run_len (.tmp 20) rfl ⟨_, Tryd.underlying39⟩ rfl W) rfl hC (G0.refl _)) ?_
  simp only [nf0, nf1, nf2, nf3, nf4]
  refine fsteps_val (fun W hC hh => opok_value (v := (.int .i64 (min (ys.length : Int) 40))) (by rfl) (run_min2 (.tmp 21) (.const (.int .i64 40)) rfl rfl rfl W) rfl hC (G0.refl _)) ?_
  simp only [nf0, nf1, nf2, nf3, nf4]
  have R2 := hb.takeE 40
  refine fsteps_val (fun W hC hh => opok_value (v := (.slice B (ys.take 40).length cb)) (by rfl) (run_cut_take (.tmp 19) (.tmp 22) rfl Tryd.underlying39 slEvt.sz rfl 40 rfl rfl hcb W) rfl hC (G0.refl _)) ?_
  simp only [nf0, nf1, nf2, nf3, nf4]
  refine fsteps_val (fun W hC hh => opok_value (v := (.slice C bs.length cc)) (by rfl) (by rfl) rfl hC (G0.refl _)) ?_
  simp only [nf0, nf1, nf2, nf3, nf4]
  refine fsteps_val (fun W hC hh => opok_value (v := (.slice C bs.length cc)) (by rfl) (by rfl) rfl hC (G0.refl _)) ?_
  simp only [nf0, nf1, nf2, nf3, nf4]
  refine fsteps_val (fun W hC hh => opok_value (v := (.int .i64 (bs.length : Int))) (by rfl) (run_len (.tmp 25) rfl ⟨_, Tryd.underlying22⟩ rfl W) rfl hC (G0.refl _)) ?_
  simp only [nf0, nf1, nf2, nf3, nf4]
  refine fsteps_val (fun W hC hh => opok_value (v := (.int .i64 (min (bs.length : Int) 400))) (by rfl) (run_min2 (.tmp 26) (.const (.int .i64 400)) rfl rfl rfl W) rfl hC (G0.refl _)) ?_
  simp only [nf0, nf1, nf2, nf3, nf4]
  have R3 := hc.takeB 400
  refine fsteps_val (fun W hC hh => opok_value (v := (.slice C (bs.take 400).length cc)) (by rfl) (run_cut_take (.tmp 24) (.tmp 27) rfl Tryd.underlying22 slByte.sz rfl 400 rfl rfl hcc W) rfl hC (G0.refl _)) ?_
  simp only [nf0, nf1, nf2, nf3, nf4]
  refine fsteps_val (fun W hC hh => opok_value (v := (.slice A (xs.take 40).length ca)) (by rfl) (by rfl) rfl hC (G0.refl _)) ?_
  simp only [nf0, nf1, nf2, nf3, nf4]
  refine fsteps_val (fun W hC hh => opok_value (v := (.slice B (ys.take 40).length cb)) (by rfl) (by rfl) rfl hC (G0.refl _)) ?_
  simp only [nf0, nf1, nf2, nf3, nf4]
  refine fsteps_val (fun W hC hh => opok_value (v := (.slice C (bs.take 400).length cc)) (by rfl) (by rfl) rfl hC (G0.refl _)) ?_
  simp only [nf0, nf1, nf2, nf3, nf4]
  refine fsteps_nil fun w4 hC _ => ?_
  replace hC : Below w.heap.size w w4 := hC
  replace bel := bl_step bel hC
  clear hC
  show Code.wp _ _ _ _ _
  refine wp_seq ?_
  have hlzs : (xs.take 40).length ≤ 40 := by rw [List.length_take]; omega
  have okzs : ∀ q ∈ xs.take 40, okEvt q := fun q hq => hoka q (List.mem_of_mem_take hq)
  have cpzs : (xs.take 40).length ≤ ca := by rw [List.length_take]; omega
  generalize hzzs : xs.take 40 = zs at *
  clear hzzs
  have hlms : (ys.take 40).length ≤ 40 := by rw [List.length_take]; omega
  have okms : ∀ q ∈ ys.take 40, okEvt q := fun q hq => hokb q (List.mem_of_mem_take hq)
  have cpms : (ys.take 40).length ≤ cb := by rw [List.length_take]; omega
  generalize hzms : ys.take 40 = ms at *
  clear hzms
  have hlcs : (bs.take 400).length ≤ 400 := by rw [List.length_take]; omega
  have cpcs : (bs.take 400).length ≤ cc := by rw [List.length_take]; omega
  generalize hzcs : bs.take 400 = cs at *
  clear hzcs
  have hvz := ev_take_len (E := evL) okzs (fun x hx => evL_I64 hx) evL5 zs.length
  rw [List.take_length] at hvz
  have hfl := fvR_len cs
  have hbd := fvA_bad cs
  have hem : ((fvR cs).map enOf).length = (fvR cs).length := List.length_map _
  have hcs : ¬ (fvA cs).2 = -1 := by omega
  have hR : fvR cs = [] := by unfold fvR; rw [if_neg hcs]
  refine wp_region_lit ?_
  refine st_mv (.slice A zs.length ca) ?_
  simp only [nf0, nf1, nf2, nf3, nf4]
  refine st_call (by rfl) (zb_run_call_21_1 (.tmp 29) rfl rfl _) (putEvents_calls A zs ca cpzs (by omega) okzs w4 (R1.same bel)) ?_
  rintro v5 w7 ⟨O6, hf8⟩
  simp only [nf0, nf1, nf2, nf3, nf4]
  have O6_ := fun k hk => (O6.lt k hk).1
  replace O6 := O6.lower bel.size
  replace bel := bl_step bel hf8
  clear hf8
  refine st_mv (.slice B ms.length cb) ?_
  simp only [nf0, nf1, nf2, nf3, nf4]
  refine st_call (by rfl) (zb_run_call_21_1 (.tmp 31) rfl rfl _) (putEvents_calls B ms cb cpms (by omega) okms w7 (R2.same bel)) ?_
  rintro v9 w11 ⟨O10, hf12⟩
  simp only [nf0, nf1, nf2, nf3, nf4]
  have n13 := O10.offLow2 O6
  have O10_ := fun k hk => (O10.lt k hk).1
  replace O10 := O10.lower bel.size
  replace O6 := O6.same hf12
  replace bel := bl_step bel hf12
  clear hf12
  refine st_mv v5 ?_
  simp only [nf0, nf1, nf2, nf3, nf4]
  refine st_mv v9 ?_
  simp only [nf0, nf1, nf2, nf3, nf4]
  refine wpList_nil ?_
  show Code.wp _ _ _ _ _
  refine wp_seq ?_
  obtain ⟨A14, c15, hv16, h17, h18, h19, R20⟩ := O6.reads
  subst hv16
  clear O6
  refine wp_region_lit ?_
  refine st_mv (.slice A14 (vbs (zs.flatMap evL)).length c15) ?_
  simp only [nf0, nf1, nf2, nf3, nf4]
  have hc21 := parseEvents_calls A14 (vbs (zs.flatMap evL)) c15 h17 (by omega) w11 R20
  rw [fvA_fwd okzs, fvR_fwd okzs] at hc21
  refine st_call (by rfl) (zb_run_call_19_1 (.tmp 34) rfl rfl _) hc21 ?_
  rintro _ w24 ⟨v22, rfl, O23, hf25⟩
  simp only [nf0, nf1, nf2, nf3, nf4]
  have n26 := O23.offLow2 O10
  replace O23 := O23.lower bel.size
  replace R20 := R20.same hf25
  replace O10 := O10.same hf25
  replace bel := bl_step bel hf25
  clear hf25
  refine st_mv (.tuple #[v22, .int .i64 (-1)]) ?_
  simp only [nf0, nf1, nf2, nf3, nf4]
  refine st_mv v22 ?_
  simp only [nf0, nf1, nf2, nf3, nf4]
  refine st_mv (.int .i64 (-1)) ?_
  simp only [nf0, nf1, nf2, nf3, nf4]
  refine st_mv v22 ?_
  simp only [nf0, nf1, nf2, nf3, nf4]
  refine st_mv (.int .i64 (-1)) ?_
  simp only [nf0, nf1, nf2, nf3, nf4]
  refine wpList_nil ?_
  show Code.wp _ _ _ _ _
  refine wp_seq ?_
  refine wp_seq ?_
  obtain ⟨A27, c28, hv29, h30, h31, h32, R33⟩ := O23.reads
  subst hv29
  clear O23
  obtain ⟨A34, c35, hv36, h37, h38, h39, R40⟩ := O10.reads
  subst hv36
  clear O10
  refine wp_region_facts2_lit (C := Abv w24) 19 [.val (.int .i64 (-1)), .val (.bool false), .val (.bool false), .val (.slice A27 zs.length c28), .val (.slice A zs.length ca), .val (.bool true), .val (.bool false), .val (.bool false), .val (.bool false), .val (.slice A14 (vbs (zs.flatMap evL)).length c15), .val (.string (str (vbs (zs.flatMap evL)))), .val (.slice A34 (vbs (ms.flatMap evL)).length c35), .val (.string (str (vbs (ms.flatMap evL)))), .val (.bool (decide (zs = ms))), .val (.slice A zs.length ca), .val (.slice B ms.length cb), .val (.bool (decide (zs = ms))), .val (.bool false), .val (.bool false)] w24.heap.size (by kernel_rfl) (by simp) (by kernel_rfl) (by kernel_rfl) (fun _ h => h.size) (Abv.start _) ?_
  simp only [List.take_succ_cons, List.take_zero, List.drop_succ_cons, List.drop_zero]
  refine fst2_val (fun W hC hh => ok2_value (v := (.int .i64 (-1))) (by rfl) (by rfl) rfl hC (G0.refl _)) ?_
  simp only [nf0, nf1, nf2, nf3, nf4]
  refine fst2_val (fun W hC hh => ok2_value (v := (.bool false)) (by rfl) (run_neq_int_t (.tmp 38) (.const (.int .i64 (-1))) rfl rfl rfl rfl W) rfl hC (G0.refl _)) ?_
  simp only [nf0, nf1, nf2, nf3, nf4]
  refine fst2_val (fun W hC hh => ok2_value (v := (.bool false)) (by rfl) (by rfl) rfl hC (G0.refl _)) ?_
  simp only [nf0, nf1, nf2, nf3, nf4]
  refine fst2_val (fun W hC hh => ok2_value (v := (.slice A27 zs.length c28)) (by rfl) (by rfl) rfl hC (G0.refl _)) ?_
  simp only [nf0, nf1, nf2, nf3, nf4]
  refine fst2_val (fun W hC hh => ok2_value (v := (.slice A zs.length ca)) (by rfl) (by rfl) rfl hC (G0.refl _)) ?_
  simp only [nf0, nf1, nf2, nf3, nf4]
  refine fst2_val (fun W hC hh => ok2_call (by rfl) (zb_run_call_23_2 (.tmp 41) (.tmp 42) rfl rfl rfl W) (((show Calls _ _ _ _ fun e w' => e = .returned (.bool true) ∧ Below W.heap.size W w' from by have h := sameEvents_calls A27 A zs zs c28 ca h30 cpzs (by first | omega | (rw [List.length_map]; omega)) (by first | omega | (rw [List.length_map]; omega)) W (R33.same hC) (R1.same (bl_step bel hC)); rw [decide_eq_true rfl] at h; exact h)).mono fun e W' ⟨h1, h2⟩ => ⟨h1, hC.step h2, h2⟩)) ?_
  simp only [nf0, nf1, nf2, nf3, nf4]
  refine fst2_val (fun W hC hh => ok2_value (v := (.bool false)) (by rfl) (run_not (.tmp 43) rfl (b := true) rfl W) rfl hC (G0.refl _)) ?_
  simp only [nf0, nf1, nf2, nf3, nf4]
  refine fst2_val (fun W hC hh => ok2_value (v := (.bool false)) (by rfl) (by rfl) rfl hC (G0.refl _)) ?_
  simp only [nf0, nf1, nf2, nf3, nf4]
  refine fst2_val (fun W hC hh => ok2_value (v := (.bool false)) (by rfl) (by rfl) rfl hC (G0.refl _)) ?_
  simp only [nf0, nf1, nf2, nf3, nf4]
  refine fst2_val (fun W hC hh => ok2_value (v := (.slice A14 (vbs (zs.flatMap evL)).length c15)) (by rfl) (by rfl) rfl hC (G0.refl _)) ?_
  simp only [nf0, nf1, nf2, nf3, nf4]
  refine fst2_val (fun W hC hh => ok2_value (v := (.string (str (vbs (zs.flatMap evL))))) (by rfl) (run_convR (.tmp 47) rfl rfl (R20.same hC)) rfl hC (G0.refl _)) ?_
  simp only [nf0, nf1, nf2, nf3, nf4]
  refine fst2_val (fun W hC hh => ok2_value (v := (.slice A34 (vbs (ms.flatMap evL)).length c35)) (by rfl) (by rfl) rfl hC (G0.refl _)) ?_
  simp only [nf0, nf1, nf2, nf3, nf4]
  refine fst2_val (fun W hC hh => ok2_value (v := (.string (str (vbs (ms.flatMap evL))))) (by rfl) (run_convR (.tmp 49) rfl rfl (R40.same hC)) rfl hC (G0.refl _)) ?_
  simp only [nf0, nf1, nf2, nf3, nf4]
  refine fst2_val (fun W hC hh => ok2_value (v := (.bool (decide (zs = ms)))) (by rfl) ((run_eql_text (.tmp 48) (.tmp 50) rfl (l := (vbs (zs.flatMap evL))) (m := (vbs (ms.flatMap evL))) rfl rfl W).trans (by rw [vbs_inj okzs okms])) rfl hC (G0.refl _)) ?_
  simp only [nf0, nf1, nf2, nf3, nf4]
  refine fst2_val (fun W hC hh => ok2_value (v := (.slice A zs.length ca)) (by rfl) (by rfl) rfl hC (G0.refl _)) ?_
  simp only [nf0, nf1, nf2, nf3, nf4]
  refine fst2_val (fun W hC hh => ok2_value (v := (.slice B ms.length cb)) (by rfl) (by rfl) rfl hC (G0.refl _)) ?_
  simp only [nf0, nf1, nf2, nf3, nf4]
  refine fst2_val (fun W hC hh => ok2_call (by rfl) (zb_run_call_23_2 (.tmp 52) (.tmp 53) rfl rfl rfl W) ((sameEvents_calls A B zs ms ca cb cpzs cpms (by first | omega | (rw [List.length_map]; omega)) (by first | omega | (rw [List.length_map]; omega)) W (R1.same (bl_step bel hC)) (R2.same (bl_step bel hC))).mono fun e W' ⟨h1, h2⟩ => ⟨h1, hC.step h2, h2⟩)) ?_
  simp only [nf0, nf1, nf2, nf3, nf4]
  refine fst2_val (fun W hC hh => ok2_value (v := (.bool false)) (by rfl) ((runm_neq_bool (.tmp 51) (.tmp 54) rfl Tryd.underlying4 (b := decide (zs = ms)) (c := decide (zs = ms)) rfl rfl W).trans (by rw [bne_self_eq_false])) rfl hC (G0.refl _)) ?_
  simp only [nf0, nf1, nf2, nf3, nf4]
  refine fst2_val (fun W hC hh => ok2_value (v := (.bool false)) (by rfl) (by rfl) rfl hC (G0.refl _)) ?_
  simp only [nf0, nf1, nf2, nf3, nf4]
  refine fst2_nil fun w41 hC hh hnd => ?_
  replace hC : Below w24.heap.size w24 w41 := hC
  clear hh hnd
  replace R20 := R20.same hC
  replace R40 := R40.same hC
  replace R33 := R33.same hC
  replace bel := bl_step bel hC
  clear hC
  refine wpList_nil ?_
  show Code.wp _ _ _ _ _
  refine wp_cond_false rfl ?_
  refine wp_skip ?_
  show Code.wp _ _ _ _ _
  refine wp_seq ?_
  refine wp_region_lit ?_
  refine st_mv (.slice C cs.length cc) ?_
  simp only [nf0, nf1, nf2, nf3, nf4]
  refine st_call (by rfl) (zb_run_call_19_1 (.tmp 58) rfl rfl _) (parseEvents_calls C cs cc cpcs (by omega) w41 (R3.same bel)) ?_
  rintro _ w44 ⟨v42, rfl, O43, hf45⟩
  simp only [nf0, nf1, nf2, nf3, nf4]
  replace O43 := O43.lower bel.size
  replace R20 := R20.same hf45
  replace R40 := R40.same hf45
  replace R33 := R33.same hf45
  replace bel := bl_step bel hf45
  clear hf45
  refine st_mv (.tuple #[v42, .int .i64 ((fvA cs).2)]) ?_
  simp only [nf0, nf1, nf2, nf3, nf4]
  refine st_mv v42 ?_
  simp only [nf0, nf1, nf2, nf3, nf4]
  refine st_mv (.int .i64 ((fvA cs).2)) ?_
  simp only [nf0, nf1, nf2, nf3, nf4]
  refine st_mv v42 ?_
  simp only [nf0, nf1, nf2, nf3, nf4]
  refine st_mv (.int .i64 ((fvA cs).2)) ?_
  simp only [nf0, nf1, nf2, nf3, nf4]
  refine wpList_nil ?_
  show Code.wp _ _ _ _ _
  refine wp_seq ?_
  refine wp_region_lit ?_
  refine st_mv (.slice C cs.length cc) ?_
  simp only [nf0, nf1, nf2, nf3, nf4]
  refine st_call (by rfl) (zb_run_call_20_1 (.tmp 63) rfl rfl _) (parseEntries_calls C cs cc cpcs (by omega) w44 (R3.same bel)) ?_
  rintro _ w48 ⟨v46, rfl, O47, hf49⟩
  simp only [nf0, nf1, nf2, nf3, nf4]
  have n50 := O47.offLow2 O43
  replace O47 := O47.lower bel.size
  replace R20 := R20.same hf49
  replace R40 := R40.same hf49
  replace R33 := R33.same hf49
  replace O43 := O43.same hf49
  replace bel := bl_step bel hf49
  clear hf49
  refine st_mv (.tuple #[v46, .int .i64 ((fvA cs).2)]) ?_
  simp only [nf0, nf1, nf2, nf3, nf4]
  refine st_mv v46 ?_
  simp only [nf0, nf1, nf2, nf3, nf4]
  refine st_mv (.int .i64 ((fvA cs).2)) ?_
  simp only [nf0, nf1, nf2, nf3, nf4]
  refine st_mv v46 ?_
  simp only [nf0, nf1, nf2, nf3, nf4]
  refine st_mv (.int .i64 ((fvA cs).2)) ?_
  simp only [nf0, nf1, nf2, nf3, nf4]
  refine wpList_nil ?_
  show Code.wp _ _ _ _ _
  refine wp_seq ?_
  refine wp_seq ?_
  refine wp_region_lit ?_
  refine st_mv (.int .i64 ((fvA cs).2)) ?_
  simp only [nf0, nf1, nf2, nf3, nf4]
  refine st_mv (.int .i64 ((fvA cs).2)) ?_
  simp only [nf0, nf1, nf2, nf3, nf4]
  refine st_value (v := (.bool false)) (by rfl) (run_neq_int_t (.tmp 67) (.tmp 68) rfl rfl rfl rfl w48) ?_
  simp only [nf0, nf1, nf2, nf3, nf4]
  refine wpList_nil ?_
  show Code.wp _ _ _ _ _
  refine wp_cond_false rfl ?_
  refine wp_skip ?_
  show Code.wp _ _ _ _ _
  refine wp_seq ?_
  refine wp_seq ?_
  refine wp_region_lit ?_
  refine st_mv (.int .i64 ((fvA cs).2)) ?_
  simp only [nf0, nf1, nf2, nf3, nf4]
  refine st_value (v := (.bool true)) (by rfl) ((run_geq (.tmp 70) (.const (.int .i64 0)) rfl rfl rfl w48).trans (by rw [decide_eq_true (by omega)])) ?_
  simp only [nf0, nf1, nf2, nf3, nf4]
  refine wpList_nil ?_
  show Code.wp _ _ _ _ _
  refine wp_cond_true rfl ?_
  refine wp_seq ?_
  refine wp_region_lit ?_
  refine st_mv v42 ?_
  simp only [nf0, nf1, nf2, nf3, nf4]
  obtain ⟨A51, c52, hv53, h54, h55, h56, R57⟩ := O43.reads
  refine st_value (v := (.int .i64 ((fvR cs).length : Int))) (by rfl) (run_len (.tmp 72) rfl ⟨_, Tryd.underlying39⟩ (by exact hv53) w48) ?_
  simp only [nf0, nf1, nf2, nf3, nf4]
  refine st_mv v46 ?_
  simp only [nf0, nf1, nf2, nf3, nf4]
  obtain ⟨A58, c59, hv60, h61, h62, h63, R64⟩ := O47.reads
  refine st_value (v := (.int .i64 (((fvR cs).map enOf).length : Int))) (by rfl) (run_len (.tmp 74) rfl ⟨_, Tryd.underlying40⟩ (by exact hv60) w48) ?_
  simp only [nf0, nf1, nf2, nf3, nf4]
  refine st_value (v := (.int .i64 (((fvR cs).length : Int) + (((fvR cs).map enOf).length : Int)))) (by rfl) (run_add_in (.tmp 73) (.tmp 75) rfl rfl rfl (by omega) w48) ?_
  simp only [nf0, nf1, nf2, nf3, nf4]
  refine st_value (v := (.bool true)) (by rfl) ((run_eql_int (.tmp 76) (.const (.int .i64 0)) rfl rfl rfl w48).trans (by rw [decide_eq_true (by rw [hR]; rfl)])) ?_
  simp only [nf0, nf1, nf2, nf3, nf4]
  refine st_mv (.bool true) ?_
  simp only [nf0, nf1, nf2, nf3, nf4]
  refine st_mv (.int .i64 ((fvA cs).2)) ?_
  simp only [nf0, nf1, nf2, nf3, nf4]
  refine st_mv (.slice C cs.length cc) ?_
  simp only [nf0, nf1, nf2, nf3, nf4]
  refine st_value (v := (.int .i64 (cs.length : Int))) (by rfl) (run_len (.tmp 80) rfl ⟨_, Tryd.underlying22⟩ rfl w48) ?_
  simp only [nf0, nf1, nf2, nf3, nf4]
  refine st_value (v := (.bool true)) (by rfl) ((run_lss (.tmp 79) (.tmp 81) rfl rfl rfl w48).trans (by rw [decide_eq_true (by omega)])) ?_
  simp only [nf0, nf1, nf2, nf3, nf4]
  refine st_mv (.bool true) ?_
  simp only [nf0, nf1, nf2, nf3, nf4]
  refine st_mv (.bool true) ?_
  simp only [nf0, nf1, nf2, nf3, nf4]
  refine st_call1 (v := (.bool true)) (by rfl) (zb_run_call_11_0  rfl  _) (codeLives_calls w48 (hT.same bel)) ?_
  intro w65 hb66
  simp only [nf0, nf1, nf2, nf3, nf4]
  replace R20 := R20.same hb66
  replace R40 := R40.same hb66
  replace R33 := R33.same hb66
  replace O43 := O43.same hb66
  replace O47 := O47.same hb66
  replace bel := bl_step bel hb66
  clear hb66
  refine st_mv (.bool true) ?_
  simp only [nf0, nf1, nf2, nf3, nf4]
  refine st_mv (.bool true) ?_
  simp only [nf0, nf1, nf2, nf3, nf4]
  refine wpList_nil ?_
  show Code.wp _ _ _ _ _
  refine wp_ret ?_
  first | show bodyPost _ _ _ _ _ _ | (simp only [Exit.then, Exit.inBlock]; show bodyPost _ _ _ _ _ _)
  exact bodyPost_ret (results_tmp rfl _ _ _) rfl ⟨rfl, bel⟩
set_option maxRecDepth 100000 in
set_option maxHeartbeats 4000000 in
theorem backLaw_good {A B C : Option Addr} {xs ys : List TEvt} {bs : List UInt8} {ca cb cc : Nat} (hoka : ∀ q ∈ xs, okEvt q) (hokb : ∀ q ∈ ys, okEvt q) (hgd : (fvA (bs.take 400)).2 = -1) (w : World) (hca : xs.length ≤ ca) (hcb : ys.length ≤ cb) (hcc : bs.length ≤ cc) (ha : Reads w A (eEvt.all xs)) (hb : Reads w B (eEvt.all ys)) (hc : Reads w C (eByte.all bs)) (hT : Tab w) : Calls Tryd.prog 6 #[.slice A xs.length ca, .slice B ys.length cb, .slice C bs.length cc] w fun e w' => e = .returned (.bool true) ∧ Below w.heap.size w w' := by
  have bel : Below w.heap.size w w := Below.refl _ _
  go_enter Tryd.func6, Tryd.ntmps6
  refine wp_seq ?_
  refine wp_region_lit ?_
  refine st_mv (.bool false) ?_
  simp only [nf0, nf1, nf2, nf3, nf4]
  refine wpList_nil ?_
  show Code.wp _ _ _ _ _
  refine wp_seq ?_
  refine wp_region_facts7_lit (C := Abv w) (G := G0) [.val (.slice A xs.length ca), .val (.slice A xs.length ca), .val (.int .i64 (xs.length : Int)), .val (.int .i64 (min (xs.length : Int) 40)), .val (.slice A (xs.take 40).length ca), .val (.slice B ys.length cb), .val (.slice B ys.length cb), .val (.int .i64 (ys.length : Int)), .val (.int .i64 (min (ys.length : Int) 40)), .val (.slice B (ys.take 40).length cb), .val (.slice C bs.length cc), .val (.slice C bs.length cc), .val (.int .i64 (bs.length : Int)), .val (.int .i64 (min (bs.length : Int) 400)), .val (.slice C (bs.take 400).length cc), .val (.slice A (xs.take 40).length ca), .val (.slice B (ys.take 40).length cb), .val (.slice C (bs.take 400).length cc)] (by kernel_rfl) (by kernel_rfl) (Abv.start _) ?_
  refine fsteps_val (fun W hC hh => opok_value (v := (.slice A xs.length ca)) (by rfl) (by rfl) rfl hC (G0.refl _)) ?_
  simp only [nf0, nf1, nf2, nf3, nf4]
  refine fsteps_val (fun W hC hh => opok_value (v := (.slice A xs.length ca)) (by rfl) (by rfl) rfl hC (G0.refl _)) ?_
  simp only [nf0, nf1, nf2, nf3, nf4]
  refine fsteps_val (fun W hC hh => opok_value (v := (.int .i64 (xs.length : Int))) (by rfl) (run_len (.tmp 15) rfl ⟨_, Tryd.underlying39⟩ rfl W) rfl hC (G0.refl _)) ?_
  simp only [nf0, nf1, nf2, nf3, nf4]
  refine fsteps_val (fun W hC hh => opok_value (v := (.int .i64 (min (xs.length : Int) 40))) (by rfl) (run_min2 (.tmp 16) (.const (.int .i64 40)) rfl rfl rfl W) rfl hC (G0.refl _)) ?_
  simp only [nf0, nf1, nf2, nf3, nf4]
  have R1 := ha.takeE 40
  refine fsteps_val (fun W hC hh => opok_value (v := (.slice A (xs.take 40).length ca)) (by rfl) (run_cut_take (.tmp 14) (.tmp 17) rfl Tryd.underlying39 slEvt.sz rfl 40 rfl rfl hca W) rfl hC (G0.refl _)) ?_
  simp only [nf0, nf1, nf2, nf3, nf4]
  refine fsteps_val (fun W hC hh => opok_value (v := (.slice B ys.length cb)) (by rfl) (by rfl) rfl hC (G0.refl _)) ?_
  simp only [nf0, nf1, nf2, nf3, nf4]
  refine fsteps_val (fun W hC hh => opok_value (v := (.slice B ys.length cb)) (by rfl) (by rfl) rfl hC (G0.refl _)) ?_
  simp only [nf0, nf1, nf2, nf3, nf4]
  refine fsteps_val (fun W hC hh => opok_value (v := (.int .i64 (ys.length : Int))) (by rfl) (run_len (.tmp 20) rfl ⟨_, Tryd.underlying39⟩ rfl W) rfl hC (G0.refl _)) ?_
  simp only [nf0, nf1, nf2, nf3, nf4]
  refine fsteps_val (fun W hC hh => opok_value (v := (.int .i64 (min (ys.length : Int) 40))) (by rfl) (run_min2 (.tmp 21) (.const (.int .i64 40)) rfl rfl rfl W) rfl hC (G0.refl _)) ?_
  simp only [nf0, nf1, nf2, nf3, nf4]
  have R2 := hb.takeE 40
  refine fsteps_val (fun W hC hh => opok_value (v := (.slice B (ys.take 40).length cb)) (by rfl) (run_cut_take (.tmp 19) (.tmp 22) rfl Tryd.underlying39 slEvt.sz rfl 40 rfl rfl hcb W) rfl hC (G0.refl _)) ?_
  simp only [nf0, nf1, nf2, nf3, nf4]
  refine fsteps_val (fun W hC hh => opok_value (v := (.slice C bs.length cc)) (by rfl) (by rfl) rfl hC (G0.refl _)) ?_
  simp only [nf0, nf1, nf2, nf3, nf4]
  refine fsteps_val (fun W hC hh => opok_value (v := (.slice C bs.length cc)) (by rfl) (by rfl) rfl hC (G0.refl _)) ?_
  simp only [nf0, nf1, nf2, nf3, nf4]
  refine fsteps_val (fun W hC hh => opok_value (v := (.int .i64 (bs.length : Int))) (by rfl) (run_len (.tmp 25) rfl ⟨_, Tryd.underlying22⟩ rfl W) rfl hC (G0.refl _)) ?_
  simp only [nf0, nf1, nf2, nf3, nf4]
  refine fsteps_val (fun W hC hh => opok_value (v := (.int .i64 (min (bs.length : Int) 400))) (by rfl) (run_min2 (.tmp 26) (.const (.int .i64 400)) rfl rfl rfl W) rfl hC (G0.refl _)) ?_
  simp only [nf0, nf1, nf2, nf3, nf4]
  have R3 := hc.takeB 400
  refine fsteps_val (fun W hC hh => opok_value (v := (.slice C (bs.take 400).length cc)) (by rfl) (run_cut_take (.tmp 24) (.tmp 27) rfl Tryd.underlying22 slByte.sz rfl 400 rfl rfl hcc W) rfl hC (G0.refl _)) ?_
  simp only [nf0, nf1, nf2, nf3, nf4]
  refine fsteps_val (fun W hC hh => opok_value (v := (.slice A (xs.take 40).length ca)) (by rfl) (by rfl) rfl hC (G0.refl _)) ?_
  simp only [nf0, nf1, nf2, nf3, nf4]
  refine fsteps_val (fun W hC hh => opok_value (v := (.slice B (ys.take 40).length cb)) (by rfl) (by rfl) rfl hC (G0.refl _)) ?_
  simp only [nf0, nf1, nf2, nf3, nf4]
  refine fsteps_val (fun W hC hh => opok_value (v := (.slice C (bs.take 400).length cc)) (by rfl) (by rfl) rfl hC (G0.refl _)) ?_
  simp only [nf0, nf1, nf2, nf3, nf4]
  refine fsteps_nil fun w4 hC _ => ?_
  replace hC : Below w.heap.size w w4 := hC
  replace bel := bl_step bel hC
  clear hC
  show Code.wp _ _ _ _ _
  refine wp_seq ?_
  have hlzs : (xs.take 40).length ≤ 40 := by rw [List.length_take]; omega
  have okzs : ∀ q ∈ xs.take 40, okEvt q := fun q hq => hoka q (List.mem_of_mem_take hq)
  have cpzs : (xs.take 40).length ≤ ca := by rw [List.length_take]; omega
  generalize hzzs : xs.take 40 = zs at *
  clear hzzs
  have hlms : (ys.take 40).length ≤ 40 := by rw [List.length_take]; omega
  have okms : ∀ q ∈ ys.take 40, okEvt q := fun q hq => hokb q (List.mem_of_mem_take hq)
  have cpms : (ys.take 40).length ≤ cb := by rw [List.length_take]; omega
  generalize hzms : ys.take 40 = ms at *
  clear hzms
  have hlcs : (bs.take 400).length ≤ 400 := by rw [List.length_take]; omega
  have cpcs : (bs.take 400).length ≤ cc := by rw [List.length_take]; omega
  generalize hzcs : bs.take 400 = cs at *
  clear hzcs
  have hvz := ev_take_len (E := evL) okzs (fun x hx => evL_I64 hx) evL5 zs.length
  rw [List.take_length] at hvz
  have hfl := fvR_len cs
  have hbd := fvA_bad cs
  have hem : ((fvR cs).map enOf).length = (fvR cs).length := List.length_map _
  have htx := fvR_text hgd
  refine wp_region_lit ?_
  refine st_mv (.slice A zs.length ca) ?_
  simp only [nf0, nf1, nf2, nf3, nf4]
  refine st_call (by rfl) (zb_run_call_21_1 (.tmp 29) rfl rfl _) (putEvents_calls A zs ca cpzs (by omega) okzs w4 (R1.same bel)) ?_
  rintro v5 w7 ⟨O6, hf8⟩
  simp only [nf0, nf1, nf2, nf3, nf4]
  have O6_ := fun k hk => (O6.lt k hk).1
  replace O6 := O6.lower bel.size
  replace bel := bl_step bel hf8
  clear hf8
  refine st_mv (.slice B ms.length cb) ?_
  simp only [nf0, nf1, nf2, nf3, nf4]
  refine st_call (by rfl) (zb_run_call_21_1 (.tmp 31) rfl rfl _) (putEvents_calls B ms cb cpms (by omega) okms w7 (R2.same bel)) ?_
  rintro v9 w11 ⟨O10, hf12⟩
  simp only [nf0, nf1, nf2, nf3, nf4]
  have n13 := O10.offLow2 O6
  have O10_ := fun k hk => (O10.lt k hk).1
  replace O10 := O10.lower bel.size
  replace O6 := O6.same hf12
  replace bel := bl_step bel hf12
  clear hf12
  refine st_mv v5 ?_
  simp only [nf0, nf1, nf2, nf3, nf4]
  refine st_mv v9 ?_
  simp only [nf0, nf1, nf2, nf3, nf4]
  refine wpList_nil ?_
  show Code.wp _ _ _ _ _
  refine wp_seq ?_
  obtain ⟨A14, c15, hv16, h17, h18, h19, R20⟩ := O6.reads
  subst hv16
  clear O6
  refine wp_region_lit ?_
  refine st_mv (.slice A14 (vbs (zs.flatMap evL)).length c15) ?_
  simp only [nf0, nf1, nf2, nf3, nf4]
  have hc21 := parseEvents_calls A14 (vbs (zs.flatMap evL)) c15 h17 (by omega) w11 R20
  rw [fvA_fwd okzs, fvR_fwd okzs] at hc21
  refine st_call (by rfl) (zb_run_call_19_1 (.tmp 34) rfl rfl _) hc21 ?_
  rintro _ w24 ⟨v22, rfl, O23, hf25⟩
  simp only [nf0, nf1, nf2, nf3, nf4]
  have n26 := O23.offLow2 O10
  replace O23 := O23.lower bel.size
  replace R20 := R20.same hf25
  replace O10 := O10.same hf25
  replace bel := bl_step bel hf25
  clear hf25
  refine st_mv (.tuple #[v22, .int .i64 (-1)]) ?_
  simp only [nf0, nf1, nf2, nf3, nf4]
  refine st_mv v22 ?_
  simp only [nf0, nf1, nf2, nf3, nf4]
  refine st_mv (.int .i64 (-1)) ?_
  simp only [nf0, nf1, nf2, nf3, nf4]
  refine st_mv v22 ?_
  simp only [nf0, nf1, nf2, nf3, nf4]
  refine st_mv (.int .i64 (-1)) ?_
  simp only [nf0, nf1, nf2, nf3, nf4]
  refine wpList_nil ?_
  show Code.wp _ _ _ _ _
  refine wp_seq ?_
  refine wp_seq ?_
  obtain ⟨A27, c28, hv29, h30, h31, h32, R33⟩ := O23.reads
  subst hv29
  clear O23
  obtain ⟨A34, c35, hv36, h37, h38, h39, R40⟩ := O10.reads
  subst hv36
  clear O10
  refine wp_region_facts2_lit (C := Abv w24) 19 [.val (.int .i64 (-1)), .val (.bool false), .val (.bool false), .val (.slice A27 zs.length c28), .val (.slice A zs.length ca), .val (.bool true), .val (.bool false), .val (.bool false), .val (.bool false), .val (.slice A14 (vbs (zs.flatMap evL)).length c15), .val (.string (str (vbs (zs.flatMap evL)))), .val (.slice A34 (vbs (ms.flatMap evL)).length c35), .val (.string (str (vbs (ms.flatMap evL)))), .val (.bool (decide (zs = ms))), .val (.slice A zs.length ca), .val (.slice B ms.length cb), .val (.bool (decide (zs = ms))), .val (.bool false), .val (.bool false)] w24.heap.size (by kernel_rfl) (by simp) (by kernel_rfl) (by kernel_rfl) (fun _ h => h.size) (Abv.start _) ?_
  simp only [List.take_succ_cons, List.take_zero, List.drop_succ_cons, List.drop_zero]
  refine fst2_val (fun W hC hh => ok2_value (v := (.int .i64 (-1))) (by rfl) (by rfl) rfl hC (G0.refl _)) ?_
  simp only [nf0, nf1, nf2, nf3, nf4]
  refine fst2_val (fun W hC hh => ok2_value (v := (.bool false)) (by rfl) (run_neq_int_t (.tmp 38) (.const (.int .i64 (-1))) rfl rfl rfl rfl W) rfl hC (G0.refl _)) ?_
  simp only [nf0, nf1, nf2, nf3, nf4]
  refine fst2_val (fun W hC hh => ok2_value (v := (.bool false)) (by rfl) (by rfl) rfl hC (G0.refl _)) ?_
  simp only [nf0, nf1, nf2, nf3, nf4]
  refine fst2_val (fun W hC hh => ok2_value (v := (.slice A27 zs.length c28)) (by rfl) (by rfl) rfl hC (G0.refl _)) ?_
  simp only [nf0, nf1, nf2, nf3, nf4]
  refine fst2_val (fun W hC hh => ok2_value (v := (.slice A zs.length ca)) (by rfl) (by rfl) rfl hC (G0.refl _)) ?_
  simp only [nf0, nf1, nf2, nf3, nf4]
  refine fst2_val (fun W hC hh => ok2_call (by rfl) (zb_run_call_23_2 (.tmp 41) (.tmp 42) rfl rfl rfl W) (((show Calls _ _ _ _ fun e w' => e = .returned (.bool true) ∧ Below W.heap.size W w' from by have h := sameEvents_calls A27 A zs zs c28 ca h30 cpzs (by first | omega | (rw [List.length_map]; omega)) (by first | omega | (rw [List.length_map]; omega)) W (R33.same hC) (R1.same (bl_step bel hC)); rw [decide_eq_true rfl] at h; exact h)).mono fun e W' ⟨h1, h2⟩ => ⟨h1, hC.step h2, h2⟩)) ?_
  simp only [nf0, nf1, nf2, nf3, nf4]
  refine fst2_val (fun W hC hh => ok2_value (v := (.bool false)) (by rfl) (run_not (.tmp 43) rfl (b := true) rfl W) rfl hC (G0.refl _)) ?_
  simp only [nf0, nf1, nf2, nf3, nf4]
  refine fst2_val (fun W hC hh => ok2_value (v := (.bool false)) (by rfl) (by rfl) rfl hC (G0.refl _)) ?_
  simp only [nf0, nf1, nf2, nf3, nf4]
  refine fst2_val (fun W hC hh => ok2_value (v := (.bool false)) (by rfl) (by rfl) rfl hC (G0.refl _)) ?_
  simp only [nf0, nf1, nf2, nf3, nf4]
  refine fst2_val (fun W hC hh => ok2_value (v := (.slice A14 (vbs (zs.flatMap evL)).length c15)) (by rfl) (by rfl) rfl hC (G0.refl _)) ?_
  simp only [nf0, nf1, nf2, nf3, nf4]
  refine fst2_val (fun W hC hh => ok2_value (v := (.string (str (vbs (zs.flatMap evL))))) (by rfl) (run_convR (.tmp 47) rfl rfl (R20.same hC)) rfl hC (G0.refl _)) ?_
  simp only [nf0, nf1, nf2, nf3, nf4]
  refine fst2_val (fun W hC hh => ok2_value (v := (.slice A34 (vbs (ms.flatMap evL)).length c35)) (by rfl) (by rfl) rfl hC (G0.refl _)) ?_
  simp only [nf0, nf1, nf2, nf3, nf4]
  refine fst2_val (fun W hC hh => ok2_value (v := (.string (str (vbs (ms.flatMap evL))))) (by rfl) (run_convR (.tmp 49) rfl rfl (R40.same hC)) rfl hC (G0.refl _)) ?_
  simp only [nf0, nf1, nf2, nf3, nf4]
  refine fst2_val (fun W hC hh => ok2_value (v := (.bool (decide (zs = ms)))) (by rfl) ((run_eql_text (.tmp 48) (.tmp 50) rfl (l := (vbs (zs.flatMap evL))) (m := (vbs (ms.flatMap evL))) rfl rfl W).trans (by rw [vbs_inj okzs okms])) rfl hC (G0.refl _)) ?_
  simp only [nf0, nf1, nf2, nf3, nf4]
  refine fst2_val (fun W hC hh => ok2_value (v := (.slice A zs.length ca)) (by rfl) (by rfl) rfl hC (G0.refl _)) ?_
  simp only [nf0, nf1, nf2, nf3, nf4]
  refine fst2_val (fun W hC hh => ok2_value (v := (.slice B ms.length cb)) (by rfl) (by rfl) rfl hC (G0.refl _)) ?_
  simp only [nf0, nf1, nf2, nf3, nf4]
  refine fst2_val (fun W hC hh => ok2_call (by rfl) (zb_run_call_23_2 (.tmp 52) (.tmp 53) rfl rfl rfl W) ((sameEvents_calls A B zs ms ca cb cpzs cpms (by first | omega | (rw [List.length_map]; omega)) (by first | omega | (rw [List.length_map]; omega)) W (R1.same (bl_step bel hC)) (R2.same (bl_step bel hC))).mono fun e W' ⟨h1, h2⟩ => ⟨h1, hC.step h2, h2⟩)) ?_
  simp only [nf0, nf1, nf2, nf3, nf4]
  refine fst2_val (fun W hC hh => ok2_value (v := (.bool false)) (by rfl) ((runm_neq_bool (.tmp 51) (.tmp 54) rfl Tryd.underlying4 (b := decide (zs = ms)) (c := decide (zs = ms)) rfl rfl W).trans (by rw [bne_self_eq_false])) rfl hC (G0.refl _)) ?_
  simp only [nf0, nf1, nf2, nf3, nf4]
  refine fst2_val (fun W hC hh => ok2_value (v := (.bool false)) (by rfl) (by rfl) rfl hC (G0.refl _)) ?_
  simp only [nf0, nf1, nf2, nf3, nf4]
  refine fst2_nil fun w41 hC hh hnd => ?_
  replace hC : Below w24.heap.size w24 w41 := hC
  clear hh hnd
  replace R20 := R20.same hC
  replace R40 := R40.same hC
  replace R33 := R33.same hC
  replace bel := bl_step bel hC
  clear hC
  refine wpList_nil ?_
  show Code.wp _ _ _ _ _
  refine wp_cond_false rfl ?_
  refine wp_skip ?_
  show Code.wp _ _ _ _ _
  refine wp_seq ?_
  refine wp_region_lit ?_
  refine st_mv (.slice C cs.length cc) ?_
  simp only [nf0, nf1, nf2, nf3, nf4]
  refine st_call (by rfl) (zb_run_call_19_1 (.tmp 58) rfl rfl _) (parseEvents_calls C cs cc cpcs (by omega) w41 (R3.same bel)) ?_
  rintro _ w44 ⟨v42, rfl, O43, hf45⟩
  simp only [nf0, nf1, nf2, nf3, nf4]
  replace O43 := O43.lower bel.size
  replace R20 := R20.same hf45
  replace R40 := R40.same hf45
  replace R33 := R33.same hf45
  replace bel := bl_step bel hf45
  clear hf45
  refine st_mv (.tuple #[v42, .int .i64 ((fvA cs).2)]) ?_
  simp only [nf0, nf1, nf2, nf3, nf4]
  refine st_mv v42 ?_
  simp only [nf0, nf1, nf2, nf3, nf4]
  refine st_mv (.int .i64 ((fvA cs).2)) ?_
  simp only [nf0, nf1, nf2, nf3, nf4]
  refine st_mv v42 ?_
  simp only [nf0, nf1, nf2, nf3, nf4]
  refine st_mv (.int .i64 ((fvA cs).2)) ?_
  simp only [nf0, nf1, nf2, nf3, nf4]
  refine wpList_nil ?_
  show Code.wp _ _ _ _ _
  refine wp_seq ?_
  refine wp_region_lit ?_
  refine st_mv (.slice C cs.length cc) ?_
  simp only [nf0, nf1, nf2, nf3, nf4]
  refine st_call (by rfl) (zb_run_call_20_1 (.tmp 63) rfl rfl _) (parseEntries_calls C cs cc cpcs (by omega) w44 (R3.same bel)) ?_
  rintro _ w48 ⟨v46, rfl, O47, hf49⟩
  simp only [nf0, nf1, nf2, nf3, nf4]
  have n50 := O47.offLow2 O43
  replace O47 := O47.lower bel.size
  replace R20 := R20.same hf49
  replace R40 := R40.same hf49
  replace R33 := R33.same hf49
  replace O43 := O43.same hf49
  replace bel := bl_step bel hf49
  clear hf49
  refine st_mv (.tuple #[v46, .int .i64 ((fvA cs).2)]) ?_
  simp only [nf0, nf1, nf2, nf3, nf4]
  refine st_mv v46 ?_
  simp only [nf0, nf1, nf2, nf3, nf4]
  refine st_mv (.int .i64 ((fvA cs).2)) ?_
  simp only [nf0, nf1, nf2, nf3, nf4]
  refine st_mv v46 ?_
  simp only [nf0, nf1, nf2, nf3, nf4]
  refine st_mv (.int .i64 ((fvA cs).2)) ?_
  simp only [nf0, nf1, nf2, nf3, nf4]
  refine wpList_nil ?_
  show Code.wp _ _ _ _ _
  refine wp_seq ?_
  refine wp_seq ?_
  refine wp_region_lit ?_
  refine st_mv (.int .i64 ((fvA cs).2)) ?_
  simp only [nf0, nf1, nf2, nf3, nf4]
  refine st_mv (.int .i64 ((fvA cs).2)) ?_
  simp only [nf0, nf1, nf2, nf3, nf4]
  refine st_value (v := (.bool false)) (by rfl) (run_neq_int_t (.tmp 67) (.tmp 68) rfl rfl rfl rfl w48) ?_
  simp only [nf0, nf1, nf2, nf3, nf4]
  refine wpList_nil ?_
  show Code.wp _ _ _ _ _
  refine wp_cond_false rfl ?_
  refine wp_skip ?_
  show Code.wp _ _ _ _ _
  refine wp_seq ?_
  refine wp_seq ?_
  refine wp_region_lit ?_
  refine st_mv (.int .i64 ((fvA cs).2)) ?_
  simp only [nf0, nf1, nf2, nf3, nf4]
  refine st_value (v := (.bool false)) (by rfl) ((run_geq (.tmp 70) (.const (.int .i64 0)) rfl rfl rfl w48).trans (by rw [decide_eq_false (by omega)])) ?_
  simp only [nf0, nf1, nf2, nf3, nf4]
  refine wpList_nil ?_
  show Code.wp _ _ _ _ _
  refine wp_cond_false rfl ?_
  refine wp_skip ?_
  show Code.wp _ _ _ _ _
  refine wp_seq ?_
  obtain ⟨A51, c52, hv53, h54, h55, h56, R57⟩ := O43.reads
  subst hv53
  clear O43
  obtain ⟨A58, c59, hv60, h61, h62, h63, R64⟩ := O47.reads
  subst hv60
  clear O47
  refine wp_region_facts2_lit (C := Abv w48) 18 [.val (.slice A51 (fvR cs).length c52), .ex (fun v_ z_ => OwnR z_ w48.heap.size 5 eByte v_ (vbs ((fvR cs).flatMap evL))) (fun v_ z_ y_ hG h => h.same hG), .val (.string (str (vbs ((fvR cs).flatMap evL)))), .val (.slice C cs.length cc), .val (.string (str cs)), .val (.bool true), .val (.bool true), .val (.slice A58 ((fvR cs).map enOf).length c59), .ex (fun v_ z_ => OwnR z_ w48.heap.size 5 eByte v_ (vbs (((fvR cs).map enOf).flatMap enL))) (fun v_ z_ y_ hG h => h.same hG), .val (.string (str (vbs (((fvR cs).map enOf).flatMap enL)))), .val (.slice C cs.length cc), .val (.string (str cs)), .val (.bool true), .val (.bool true), .val (.bool true), .val (.bool true), .val (.bool true), .val (.bool true)] w48.heap.size (by kernel_rfl) (by simp) (by kernel_rfl) (by kernel_rfl) (fun _ h => h.size) (Abv.start _) ?_
  simp only [List.take_succ_cons, List.take_zero, List.drop_succ_cons, List.drop_zero]
  refine fst2_val (fun W hC hh => ok2_value (v := (.slice A51 (fvR cs).length c52)) (by rfl) (by rfl) rfl hC (G0.refl _)) ?_
  simp only [nf0, nf1, nf2, nf3, nf4]
  refine fst2_ex (fun W hC hh => ok2_callex (by rfl) (zb_run_call_21_1 (.tmp 87) rfl rfl W) ((putEvents_calls A51 (fvR cs) c52 h54 (by omega) (fvR_ok cs) W (R57.same hC)).mono fun e W' ⟨v_, h1_, h2_, h3_⟩ => ⟨v_, h1_, h2_.lower hC.size, hC.step h3_, h3_⟩)) fun v67 => ?_
  simp only [nf0, nf1, nf2, nf3, nf4]
  refine fst2_val (fun W hC hh => ok2_value (v := (.string (str (vbs ((fvR cs).flatMap evL))))) (by rfl) (run_convB (.tmp 88) rfl rfl (hh _ (.head _) (by show (1 : Nat) ∈ _; decide))) rfl hC (G0.refl _)) ?_
  simp only [nf0, nf1, nf2, nf3, nf4]
  refine fst2_val (fun W hC hh => ok2_value (v := (.slice C cs.length cc)) (by rfl) (by rfl) rfl hC (G0.refl _)) ?_
  simp only [nf0, nf1, nf2, nf3, nf4]
  refine fst2_val (fun W hC hh => ok2_value (v := (.string (str cs))) (by rfl) (run_convR (.tmp 90) rfl rfl (R3.same (bl_step bel hC))) rfl hC (G0.refl _)) ?_
  simp only [nf0, nf1, nf2, nf3, nf4]
  refine fst2_val (fun W hC hh => ok2_value (v := (.bool true)) (by rfl) (run_eql_text_t (.tmp 89) (.tmp 91) (l := (vbs ((fvR cs).flatMap evL))) (m := cs) rfl rfl rfl htx W) rfl hC (G0.refl _)) ?_
  simp only [nf0, nf1, nf2, nf3, nf4]
  refine fst2_val (fun W hC hh => ok2_value (v := (.bool true)) (by rfl) (by rfl) rfl hC (G0.refl _)) ?_
  simp only [nf0, nf1, nf2, nf3, nf4]
  refine fst2_val (fun W hC hh => ok2_value (v := (.slice A58 ((fvR cs).map enOf).length c59)) (by rfl) (by rfl) rfl hC (G0.refl _)) ?_
  simp only [nf0, nf1, nf2, nf3, nf4]
  refine fst2_ex (fun W hC hh => ok2_callex (by rfl) (zb_run_call_22_1 (.tmp 94) rfl rfl W) ((putEntries_calls A58 ((fvR cs).map enOf) c59 h61 (by omega) (enR_ok cs) W (R64.same hC)).mono fun e W' ⟨v_, h1_, h2_, h3_⟩ => ⟨v_, h1_, h2_.lower hC.size, hC.step h3_, h3_⟩)) fun v70 => ?_
  simp only [nf0, nf1, nf2, nf3, nf4]
  refine fst2_val (fun W hC hh => ok2_value (v := (.string (str (vbs (((fvR cs).map enOf).flatMap enL))))) (by rfl) (run_convB (.tmp 95) rfl rfl (hh _ (.head _) (by show (8 : Nat) ∈ _; decide))) rfl hC (G0.refl _)) ?_
  simp only [nf0, nf1, nf2, nf3, nf4]
  refine fst2_val (fun W hC hh => ok2_value (v := (.slice C cs.length cc)) (by rfl) (by rfl) rfl hC (G0.refl _)) ?_
  simp only [nf0, nf1, nf2, nf3, nf4]
  refine fst2_val (fun W hC hh => ok2_value (v := (.string (str cs))) (by rfl) (run_convR (.tmp 97) rfl rfl (R3.same (bl_step bel hC))) rfl hC (G0.refl _)) ?_
  simp only [nf0, nf1, nf2, nf3, nf4]
  refine fst2_val (fun W hC hh => ok2_value (v := (.bool true)) (by rfl) (run_eql_text_t (.tmp 96) (.tmp 98) (l := (vbs (((fvR cs).map enOf).flatMap enL))) (m := cs) rfl rfl rfl (by rw [enR_text]; exact htx) W) rfl hC (G0.refl _)) ?_
  simp only [nf0, nf1, nf2, nf3, nf4]
  refine fst2_val (fun W hC hh => ok2_value (v := (.bool true)) (by rfl) (by rfl) rfl hC (G0.refl _)) ?_
  simp only [nf0, nf1, nf2, nf3, nf4]
  refine fst2_val (fun W hC hh => ok2_value (v := (.bool true)) (by rfl) (by rfl) rfl hC (G0.refl _)) ?_
  simp only [nf0, nf1, nf2, nf3, nf4]
  refine fst2_val (fun W hC hh => ok2_call (by rfl) (zb_run_call_11_0  rfl  W) ((codeLives_calls W (hT.same (bl_step bel hC))).mono fun e W' ⟨h1, h2⟩ => ⟨h1, hC.step h2, h2⟩)) ?_
  simp only [nf0, nf1, nf2, nf3, nf4]
  refine fst2_val (fun W hC hh => ok2_value (v := (.bool true)) (by rfl) (by rfl) rfl hC (G0.refl _)) ?_
  simp only [nf0, nf1, nf2, nf3, nf4]
  refine fst2_val (fun W hC hh => ok2_value (v := (.bool true)) (by rfl) (by rfl) rfl hC (G0.refl _)) ?_
  simp only [nf0, nf1, nf2, nf3, nf4]
  refine fst2_nil fun w71 hC hh hnd => ?_
  replace hC : Below w48.heap.size w48 w71 := hC
  clear hh hnd
  replace R20 := R20.same hC
  replace R40 := R40.same hC
  replace R33 := R33.same hC
  replace R57 := R57.same hC
  replace R64 := R64.same hC
  replace bel := bl_step bel hC
  clear hC
  refine wpList_nil ?_
  show Code.wp _ _ _ _ _
  refine wp_ret ?_
  first | show bodyPost _ _ _ _ _ _ | (simp only [Exit.then, Exit.inBlock]; show bodyPost _ _ _ _ _ _)
  exact bodyPost_ret (results_tmp rfl _ _ _) rfl ⟨rfl, bel⟩
end Go.Proofs.YtckmihjekgbcmaaDoor

/- The law CodecBack, at any arguments. -/
namespace Go.Proofs.YtckmihjekgbcmaaDoor
open Go.RowKit Go.WideShapes Go.ChangeShapes

theorem codecBack_law {H : Type} {enc : TypeId × Value → H} {W : World} {v0 v1 v2 : Value} {d0 d1 d2 : DataW H} {p0 p1 p2 : List MemPlace} {b0 b1 b2 : Nat} (o0 : Value.okWide Tryd.prog W .any b0 39 v0) (o1 : Value.okWide Tryd.prog W .any b1 39 v1) (o2 : Value.okWide Tryd.prog W .any b2 22 v2) (h0 : DataW.Trod enc Tryd.prog W 0 (fun _ => true) true 39 v0 d0 p0) (h1 : DataW.Trod enc Tryd.prog W 0 (fun _ => true) true 39 v1 d1 p1) (h2 : DataW.Trod enc Tryd.prog W 0 (fun _ => true) true 22 v2 d2 p2) (hT : Tab W) :
    Calls Tryd.prog 6 #[v0, v1, v2] W fun e W' => e = .returned (.bool true) ∧ Below W.heap.size W W' := by
  obtain ⟨A, xs, ca, rfl, hla, _, oka, ha⟩ := openEvts o0 h0
  obtain ⟨B, ys, cb, rfl, hlb, _, okb, hb⟩ := openEvts o1 h1
  obtain ⟨C, bs, cc, rfl, hlc, _, hc⟩ := open_bytes o2 h2
  by_cases hgd : (fvA (bs.take 400)).2 = -1
  · exact backLaw_good oka okb hgd W hla hlb hlc ha hb hc hT
  · exact backLaw_bad oka okb hgd W hla hlb hlc ha hb hc hT
end Go.Proofs.YtckmihjekgbcmaaDoor

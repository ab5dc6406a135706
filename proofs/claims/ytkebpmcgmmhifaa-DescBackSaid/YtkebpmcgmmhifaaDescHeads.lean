/- Whether two rows of tokens are the same; the document's examples. -/
import Derived.Test.YtkebpmcgmmhifaaDescRefs
namespace Go.Proofs.Ytkebpmcgmmhifaa
open Go.RowKit Go.WideShapes Go.ChangeShapes
set_option linter.unusedSimpArgs false
set_option linter.unusedVariables false

theorem g_fld_33_0 : FieldAt Try.prog 33 0 0 := fieldAt_of (s := 0) Try.underlying33 (by kernel_rfl)
theorem g_one_3 : One Try.prog 3 := one_of Try.underlying3 rfl (by kernel_rfl)
theorem g_fld_33_1 : FieldAt Try.prog 33 1 1 := fieldAt_of (s := 0) Try.underlying33 (by kernel_rfl)
theorem g_one_9 : One Try.prog 9 := one_of Try.underlying9 rfl (by kernel_rfl)
theorem g_zero_26 : ZeroOf Try.prog 26 #[.int .i64 0, .int .i64 0, .int .i64 0] := zeroOf (z := .agg #[.int .i64 0, .int .i64 0, .int .i64 0]) (by kernel_rfl) rfl
theorem g_fld_26_0 : FieldAt Try.prog 26 0 0 := fieldAt_of (s := 0) Try.underlying26 (by kernel_rfl)
theorem g_run_call_9_1 {o : Oper} {a : Act} (x0 : Operand) {ts : Array TypeId} (ho : o.op = .call { callee := .value (.func 9), args := #[x0], argTypes := ts }) {v0 : Value} (h0 : a.eval x0 = v0) (W : World) : (execOp a.eval o).run Try.prog W = .ok (.enter 9 #[v0]) W := by
  unfold execOp
  simp only [ho]
  subst h0
  go_simp
def alikeB (xs ys : List TTok) : Bool := decide (xs.map (fun t => (t.1, t.2.1)) = ys.map (fun t => (t.1, t.2.1)))
theorem alikeB_self (xs : List TTok) : alikeB xs xs = true := decide_eq_true rfl
theorem alikeB_len {xs ys : List TTok} (h : xs.length ≠ ys.length) : alikeB xs ys = false := decide_eq_false fun e => h (by have := congrArg List.length e; simpa using this)
theorem alikeB_yes {xs ys : List TTok} (hl : xs.length = ys.length) (h : ∀ j, j < xs.length → (tokAt xs j).1 = (tokAt ys j).1 ∧ (tokAt xs j).2.1 = (tokAt ys j).2.1) : alikeB xs ys = true := by
  refine decide_eq_true (List.ext_getElem (by simpa using hl) fun i h1 h2 => ?_)
  simp only [List.length_map] at h1 h2
  obtain ⟨a, b⟩ := h i h1
  have e1 := tokAt_get h1
  have e2 := tokAt_get h2
  rw [List.getElem?_eq_getElem h1] at e1
  rw [List.getElem?_eq_getElem h2] at e2
  injection e1 with e1; injection e2 with e2
  rw [List.getElem_map, List.getElem_map, e1, e2, a, b]
theorem alikeB_no {xs ys : List TTok} {k : Nat} (hk : k < xs.length) (hk' : k < ys.length) (h : ¬ ((tokAt xs k).1 = (tokAt ys k).1 ∧ (tokAt xs k).2.1 = (tokAt ys k).2.1)) : alikeB xs ys = false := by
  refine decide_eq_false fun e => h ?_
  have := congrArg (fun l => l[k]?) e
  simp only [List.getElem?_map, tokAt_get hk, tokAt_get hk', Option.map_some, Option.some.injEq, Prod.mk.injEq] at this
  exact this
def lv1r : List TTok := [(1, [100, 111, 109, 97, 105, 110], (0, 1, 1)), (1, [99, 48], (7, 1, 8)), (1, [99, 112, 117, 115], (10, 1, 11)), (2, [48, 45, 51, 44, 56], (15, 1, 16)), (3, [59], (20, 1, 21))]
theorem lv1 : (desA [100, 111, 109, 97, 105, 110, 32, 99, 48, 32, 99, 112, 117, 115, 32, 48, 45, 51, 44, 56, 59]).2.1 = 0 ∧ desR [100, 111, 109, 97, 105, 110, 32, 99, 48, 32, 99, 112, 117, 115, 32, 48, 45, 51, 44, 56, 59] = lv1r ∧ desP [100, 111, 109, 97, 105, 110, 32, 99, 48, 32, 99, 112, 117, 115, 32, 48, 45, 51, 44, 56, 59] = (0, 0, 0) := by
  have h : desA [100, 111, 109, 97, 105, 110, 32, 99, 48, 32, 99, 112, 117, 115, 32, 48, 45, 51, 44, 56, 59] = (lv1r, 0, 0) := by rw [desA_F (by decide)]; decide +kernel
  unfold desR desP; rw [h]; exact ⟨rfl, rfl, rfl⟩
theorem lv2 : (desA [97, 32, 65]).2.1 = 20 ∧ desR [97, 32, 65] = [] ∧ desP [97, 32, 65] = (2, 1, 3) := by
  have h : (desA [97, 32, 65]).2 = (20, 2) := by rw [desA_F (by decide)]; decide +kernel
  unfold desR desP; rw [h]; exact ⟨rfl, rfl, by decide +kernel⟩

attribute [local irreducible] Go.wpList Go.Code.wp
set_option maxRecDepth 100000 in
set_option maxHeartbeats 4000000 in
theorem sameT_calls (A B : Option Addr) (xs ys : List TTok) (cap cap' : Nat) (hcap : xs.length ≤ cap) (hcap' : ys.length ≤ cap') (hl : xs.length ≤ 1000000) (hl' : ys.length ≤ 1000000) (w : World) (hr : Reads w A (eTok.all xs)) (hr' : Reads w B (eTok.all ys)) : Calls Try.prog 11 #[.slice A xs.length cap, .slice B ys.length cap'] w fun e w' => e = .returned (.bool (alikeB xs ys)) ∧ Below w.heap.size w w' := by
  have bel : Below w.heap.size w w := Below.refl _ _
  go_enter Try.func11, Try.ntmps11
  refine wp_seq ?_
  refine wp_region_lit ?_
  refine st_mv (.bool false) ?_
  simp only [nf0, nf1, nf2, nf3, nf4]
  refine wpList_nil ?_
  show Code.wp _ _ _ _ _
  refine wp_seq ?_
  refine wp_seq ?_
  refine wp_region_lit ?_
  refine st_mv (.slice A xs.length cap) ?_
  simp only [nf0, nf1, nf2, nf3, nf4]
  refine st_value (v := (.int .i64 (xs.length : Int))) (by rfl) (run_len (.tmp 6) rfl ⟨_, Try.underlying23⟩ rfl w) ?_
  simp only [nf0, nf1, nf2, nf3, nf4]
  refine st_mv (.slice B ys.length cap') ?_
  simp only [nf0, nf1, nf2, nf3, nf4]
  refine st_value (v := (.int .i64 (ys.length : Int))) (by rfl) (run_len (.tmp 8) rfl ⟨_, Try.underlying23⟩ rfl w) ?_
  simp only [nf0, nf1, nf2, nf3, nf4]
  refine st_value (v := (.bool (!decide ((xs.length : Int) = (ys.length : Int))))) (by rfl) (run_neq_int (.tmp 7) (.tmp 9) rfl rfl rfl w) ?_
  simp only [nf0, nf1, nf2, nf3, nf4]
  refine wpList_nil ?_
  show Code.wp _ _ _ _ _
  cases hg1 : decide ((xs.length : Int) = (ys.length : Int))
  · have hp2 := of_decide_eq_false hg1
    refine wp_cond_true rfl ?_
    refine wp_seq ?_
    refine wp_region_lit ?_
    refine st_mv (.bool false) ?_
    simp only [nf0, nf1, nf2, nf3, nf4]
    refine wpList_nil ?_
    show Code.wp _ _ _ _ _
    refine wp_ret ?_
    first | show bodyPost _ _ _ _ _ _ | (simp only [Exit.then, Exit.inBlock]; show bodyPost _ _ _ _ _ _)
    have hE : alikeB xs ys = false := alikeB_len (by omega)
    exact bodyPost_ret (results_tmp rfl _ _ _) rfl ⟨by rw [hE]; rfl, bel⟩
  have hp3 := of_decide_eq_true hg1
  refine wp_cond_false rfl ?_
  refine wp_skip ?_
  show Code.wp _ _ _ _ _
  refine wp_seq ?_
  refine wp_seq ?_
  refine wp_region_lit ?_
  refine st_mv (.slice A xs.length cap) ?_
  simp only [nf0, nf1, nf2, nf3, nf4]
  refine st_value (v := (.int .i64 (xs.length : Int))) (by rfl) (run_len (.tmp 11) rfl ⟨_, Try.underlying23⟩ rfl w) ?_
  simp only [nf0, nf1, nf2, nf3, nf4]
  refine st_mv (.int .i64 0) ?_
  simp only [nf0, nf1, nf2, nf3, nf4]
  refine wpList_nil ?_
  show Code.wp _ _ _ _ _
  refine wp_block ?_
  refine wp_loop_left (fun n_ a_ wr_ => (fun J4 => ∃ (k : Nat), n_ = xs.length - k ∧ a_ = ⟨#[.slice A xs.length cap, .slice B ys.length cap', J4 2, J4 3, J4 4, J4 5, J4 6, J4 7, J4 8, J4 9, J4 10, .slice A xs.length cap, .int .i64 (xs.length : Int), .int .i64 (k : Int), J4 14, J4 15, J4 16, J4 17, J4 18, J4 19, J4 20, J4 21, J4 22, J4 23, J4 24, J4 25, J4 26, J4 27, J4 28, J4 29, J4 30, J4 31, J4 32, J4 33, J4 34, J4 35, J4 36, J4 37, J4 38, J4 39, J4 40], []⟩ ∧ Below w.heap.size w wr_ ∧ (k ≤ xs.length) ∧ (∀ j, j < k → (tokAt xs j).1 = (tokAt ys j).1 ∧ (tokAt xs j).2.1 = (tokAt ys j).2.1)) (jk a_)) (xs.length - 0) ⟨0, rfl, rfl, bel, (Nat.zero_le _), (fun j h => absurd h (Nat.not_lt_zero _))⟩ ?_
  clear bel
  intro n_ a_ w5 h_
  revert h_
  generalize jk a_ = J4
  rintro ⟨k, hms, rfl, bel, hk, hS⟩
  refine wp_seq ?_
  refine wp_region_lit ?_
  refine st_value (v := (.bool (decide ((k : Int) < (xs.length : Int))))) (by rfl) (run_lss (.tmp 13) (.tmp 12) rfl rfl rfl w5) ?_
  simp only [nf0, nf1, nf2, nf3, nf4]
  refine wpList_nil ?_
  show Code.wp _ _ _ _ _
  refine wp_seq ?_
  cases hg6 : decide ((k : Int) < (xs.length : Int))
  · have hp7 := of_decide_eq_false hg6
    refine wp_cond_false rfl ?_
    refine wp_exit ?_
    show Code.wp _ _ _ _ _
    refine wp_seq ?_
    refine wp_region_lit ?_
    refine st_mv (.bool true) ?_
    simp only [nf0, nf1, nf2, nf3, nf4]
    refine wpList_nil ?_
    show Code.wp _ _ _ _ _
    refine wp_ret ?_
    first | show bodyPost _ _ _ _ _ _ | (simp only [Exit.then, Exit.inBlock]; show bodyPost _ _ _ _ _ _)
    have hE : alikeB xs ys = true := alikeB_yes (by omega) fun j hj => hS j (by omega)
    exact bodyPost_ret (results_tmp rfl _ _ _) rfl ⟨by rw [hE]; rfl, bel⟩
  have hp8 := of_decide_eq_true hg6
  refine wp_cond_true rfl ?_
  refine wp_skip ?_
  show Code.wp _ _ _ _ _
  refine wp_seq ?_
  refine wp_block ?_
  refine wp_seq ?_
  refine wp_region_lit ?_
  refine st_mv (.int .i64 (k : Int)) ?_
  simp only [nf0, nf1, nf2, nf3, nf4]
  refine st_mv (.int .i64 (k : Int)) ?_
  simp only [nf0, nf1, nf2, nf3, nf4]
  refine wpList_nil ?_
  show Code.wp _ _ _ _ _
  refine wp_seq ?_
  cases hg13 : decide (((tokAt xs k).1) = ((tokAt ys k).1))
  · have hp14 := of_decide_eq_false hg13
    obtain ⟨b15, o16, rfl, _⟩ := (hr.same bel).at_ (by rw [Enc.all_length]; exact Nat.mul_pos (by omega) (by decide))
    obtain ⟨b17, o18, rfl, _⟩ := (hr'.same bel).at_ (by rw [Enc.all_length]; exact Nat.mul_pos (by omega) (by decide))
    refine wp_region_facts_lit (C := Abv w5) (G := G0) [.val (.slice (some ⟨b15, o16, none⟩) xs.length cap), .val (.int .i64 (k : Int)), .val (.pointer (some ⟨b15, o16 + k * 5, none⟩)), .val (.pointer (some ⟨b15, o16 + k * 5 + 0, none⟩)), .val (.int .i64 ((tokAt xs k).1)), .val (.slice (some ⟨b17, o18, none⟩) ys.length cap'), .val (.int .i64 (k : Int)), .val (.pointer (some ⟨b17, o18 + k * 5, none⟩)), .val (.pointer (some ⟨b17, o18 + k * 5 + 0, none⟩)), .val (.int .i64 ((tokAt ys k).1)), .val (.bool true), .val (.bool true), .val undef, .val undef, .val undef, .val undef, .val undef, .val undef, .val undef, .val undef, .val undef, .val undef, .val undef, .val (.bool true)] (by kernel_rfl) (by kernel_rfl) (Abv.start _) ?_
    refine fsteps_val (fun W hC hh => opok_value (v := (.slice (some ⟨b15, o16, none⟩) xs.length cap)) (by rfl) (by rfl) rfl hC (G0.refl _)) ?_
    simp only [nf0, nf1, nf2, nf3, nf4]
    refine fsteps_val (fun W hC hh => opok_value (v := (.int .i64 (k : Int))) (by rfl) (by rfl) rfl hC (G0.refl _)) ?_
    simp only [nf0, nf1, nf2, nf3, nf4]
    refine fsteps_val (fun W hC hh => opok_value (v := (.pointer (some ⟨b15, o16 + k * 5, none⟩))) (by rfl) (run_indexAddrN (.tmp 16) (.tmp 17) rfl Try.underlying23 slTok.sz (i := k) rfl rfl (by omega) W) rfl hC (G0.refl _)) ?_
    simp only [nf0, nf1, nf2, nf3, nf4]
    refine fsteps_val (fun W hC hh => opok_value (v := (.pointer (some ⟨b15, o16 + k * 5 + 0, none⟩))) (by rfl) (run_fieldA (.tmp 18) rfl g_fld_33_0 rfl rfl W) rfl hC (G0.refl _)) ?_
    simp only [nf0, nf1, nf2, nf3, nf4]
    refine fsteps_val (fun W hC hh => opok_value (v := (.int .i64 ((tokAt xs k).1))) (by rfl) (run_loadC (.tmp 19) rfl g_one_3 rfl (Reads.cellE (E := eTok) (j := 0) (hr.same (bl_step bel hC)) (tokAt_get (l := xs) (i := k) (by omega)) (by rfl))) rfl hC (G0.refl _)) ?_
    simp only [nf0, nf1, nf2, nf3, nf4]
    refine fsteps_val (fun W hC hh => opok_value (v := (.slice (some ⟨b17, o18, none⟩) ys.length cap')) (by rfl) (by rfl) rfl hC (G0.refl _)) ?_
    simp only [nf0, nf1, nf2, nf3, nf4]
    refine fsteps_val (fun W hC hh => opok_value (v := (.int .i64 (k : Int))) (by rfl) (by rfl) rfl hC (G0.refl _)) ?_
    simp only [nf0, nf1, nf2, nf3, nf4]
    refine fsteps_val (fun W hC hh => opok_value (v := (.pointer (some ⟨b17, o18 + k * 5, none⟩))) (by rfl) (run_indexAddrN (.tmp 21) (.tmp 22) rfl Try.underlying23 slTok.sz (i := k) rfl rfl (by omega) W) rfl hC (G0.refl _)) ?_
    simp only [nf0, nf1, nf2, nf3, nf4]
    refine fsteps_val (fun W hC hh => opok_value (v := (.pointer (some ⟨b17, o18 + k * 5 + 0, none⟩))) (by rfl) (run_fieldA (.tmp 23) rfl g_fld_33_0 rfl rfl W) rfl hC (G0.refl _)) ?_
    simp only [nf0, nf1, nf2, nf3, nf4]
    refine fsteps_val (fun W hC hh => opok_value (v := (.int .i64 ((tokAt ys k).1))) (by rfl) (run_loadC (.tmp 24) rfl g_one_3 rfl (Reads.cellE (E := eTok) (j := 0) (hr'.same (bl_step bel hC)) (tokAt_get (l := ys) (i := k) (by omega)) (by rfl))) rfl hC (G0.refl _)) ?_
    simp only [nf0, nf1, nf2, nf3, nf4]
    refine fsteps_val (fun W hC hh => opok_value (v := (.bool true)) (by rfl) ((run_neq_int (.tmp 20) (.tmp 25) rfl rfl rfl W).trans (by rw [hg13]; rfl)) rfl hC (G0.refl _)) ?_
    simp only [nf0, nf1, nf2, nf3, nf4]
    refine fsteps_val (fun W hC hh => opok_value (v := (.bool true)) (by rfl) (by rfl) rfl hC (G0.refl _)) ?_
    simp only [nf0, nf1, nf2, nf3, nf4]
    refine fsteps_val (fun W hC hh => opok_not (by rfl) rfl (G0.refl _)) ?_
    simp only [nf0, nf1, nf2, nf3, nf4]
    refine fsteps_val (fun W hC hh => opok_not (by rfl) rfl (G0.refl _)) ?_
    simp only [nf0, nf1, nf2, nf3, nf4]
    refine fsteps_val (fun W hC hh => opok_not (by rfl) rfl (G0.refl _)) ?_
    simp only [nf0, nf1, nf2, nf3, nf4]
    refine fsteps_val (fun W hC hh => opok_not (by rfl) rfl (G0.refl _)) ?_
    simp only [nf0, nf1, nf2, nf3, nf4]
    refine fsteps_val (fun W hC hh => opok_not (by rfl) rfl (G0.refl _)) ?_
    simp only [nf0, nf1, nf2, nf3, nf4]
    refine fsteps_val (fun W hC hh => opok_not (by rfl) rfl (G0.refl _)) ?_
    simp only [nf0, nf1, nf2, nf3, nf4]
    refine fsteps_val (fun W hC hh => opok_not (by rfl) rfl (G0.refl _)) ?_
    simp only [nf0, nf1, nf2, nf3, nf4]
    refine fsteps_val (fun W hC hh => opok_not (by rfl) rfl (G0.refl _)) ?_
    simp only [nf0, nf1, nf2, nf3, nf4]
    refine fsteps_val (fun W hC hh => opok_not (by rfl) rfl (G0.refl _)) ?_
    simp only [nf0, nf1, nf2, nf3, nf4]
    refine fsteps_val (fun W hC hh => opok_not (by rfl) rfl (G0.refl _)) ?_
    simp only [nf0, nf1, nf2, nf3, nf4]
    refine fsteps_val (fun W hC hh => opok_not (by rfl) rfl (G0.refl _)) ?_
    simp only [nf0, nf1, nf2, nf3, nf4]
    refine fsteps_val (fun W hC hh => opok_value (v := (.bool true)) (by rfl) (by rfl) rfl hC (G0.refl _)) ?_
    simp only [nf0, nf1, nf2, nf3, nf4]
    refine fsteps_nil fun w19 hC _ => ?_
    replace hC : Below w5.heap.size w5 w19 := hC
    replace bel := bl_step bel hC
    clear hC
    show Code.wp _ _ _ _ _
    refine wp_cond_true rfl ?_
    refine wp_seq ?_
    refine wp_region_lit ?_
    refine st_mv (.bool false) ?_
    simp only [nf0, nf1, nf2, nf3, nf4]
    refine wpList_nil ?_
    show Code.wp _ _ _ _ _
    refine wp_ret ?_
    first | show bodyPost _ _ _ _ _ _ | (simp only [Exit.then, Exit.inBlock]; show bodyPost _ _ _ _ _ _)
    have hE : alikeB xs ys = false := alikeB_no (k := k) (by omega) (by omega) (by intro h; obtain ⟨h1, h2⟩ := h; first | contradiction | exact absurd h2 (by assumption) | exact absurd h1 (by assumption))
    exact bodyPost_ret (results_tmp rfl _ _ _) rfl ⟨by rw [hE]; rfl, bel⟩
  have hp20 := of_decide_eq_true hg13
  obtain ⟨b21, o22, rfl, _⟩ := (hr.same bel).at_ (by rw [Enc.all_length]; exact Nat.mul_pos (by omega) (by decide))
  obtain ⟨b23, o24, rfl, _⟩ := (hr'.same bel).at_ (by rw [Enc.all_length]; exact Nat.mul_pos (by omega) (by decide))
  refine wp_region_facts_lit (C := Abv w5) (G := G0) [.val (.slice (some ⟨b21, o22, none⟩) xs.length cap), .val (.int .i64 (k : Int)), .val (.pointer (some ⟨b21, o22 + k * 5, none⟩)), .val (.pointer (some ⟨b21, o22 + k * 5 + 0, none⟩)), .val (.int .i64 ((tokAt xs k).1)), .val (.slice (some ⟨b23, o24, none⟩) ys.length cap'), .val (.int .i64 (k : Int)), .val (.pointer (some ⟨b23, o24 + k * 5, none⟩)), .val (.pointer (some ⟨b23, o24 + k * 5 + 0, none⟩)), .val (.int .i64 ((tokAt ys k).1)), .val (.bool false), .val (.bool false), .val (.slice (some ⟨b21, o22, none⟩) xs.length cap), .val (.int .i64 (k : Int)), .val (.pointer (some ⟨b21, o22 + k * 5, none⟩)), .val (.pointer (some ⟨b21, o22 + k * 5 + 1, none⟩)), .val (.string (str ((tokAt xs k).2.1))), .val (.slice (some ⟨b23, o24, none⟩) ys.length cap'), .val (.int .i64 (k : Int)), .val (.pointer (some ⟨b23, o24 + k * 5, none⟩)), .val (.pointer (some ⟨b23, o24 + k * 5 + 1, none⟩)), .val (.string (str ((tokAt ys k).2.1))), .val (.bool (!decide (((tokAt xs k).2.1) = ((tokAt ys k).2.1)))), .val (.bool (!decide (((tokAt xs k).2.1) = ((tokAt ys k).2.1))))] (by kernel_rfl) (by kernel_rfl) (Abv.start _) ?_
  refine fsteps_val (fun W hC hh => opok_value (v := (.slice (some ⟨b21, o22, none⟩) xs.length cap)) (by rfl) (by rfl) rfl hC (G0.refl _)) ?_
  simp only [nf0, nf1, nf2, nf3, nf4]
  refine fsteps_val (fun W hC hh => opok_value (v := (.int .i64 (k : Int))) (by rfl) (by rfl) rfl hC (G0.refl _)) ?_
  simp only [nf0, nf1, nf2, nf3, nf4]
  refine fsteps_val (fun W hC hh => opok_value (v := (.pointer (some ⟨b21, o22 + k * 5, none⟩))) (by rfl) (run_indexAddrN (.tmp 16) (.tmp 17) rfl Try.underlying23 slTok.sz (i := k) rfl rfl (by omega) W) rfl hC (G0.refl _)) ?_
  simp only [nf0, nf1, nf2, nf3, nf4]
  refine fsteps_val (fun W hC hh => opok_value (v := (.pointer (some ⟨b21, o22 + k * 5 + 0, none⟩))) (by rfl) (run_fieldA (.tmp 18) rfl g_fld_33_0 rfl rfl W) rfl hC (G0.refl _)) ?_
  simp only [nf0, nf1, nf2, nf3, nf4]
  refine fsteps_val (fun W hC hh => opok_value (v := (.int .i64 ((tokAt xs k).1))) (by rfl) (run_loadC (.tmp 19) rfl g_one_3 rfl (Reads.cellE (E := eTok) (j := 0) (hr.same (bl_step bel hC)) (tokAt_get (l := xs) (i := k) (by omega)) (by rfl))) rfl hC (G0.refl _)) ?_
  simp only [nf0, nf1, nf2, nf3, nf4]
  refine fsteps_val (fun W hC hh => opok_value (v := (.slice (some ⟨b23, o24, none⟩) ys.length cap')) (by rfl) (by rfl) rfl hC (G0.refl _)) ?_
  simp only [nf0, nf1, nf2, nf3, nf4]
  refine fsteps_val (fun W hC hh => opok_value (v := (.int .i64 (k : Int))) (by rfl) (by rfl) rfl hC (G0.refl _)) ?_
  simp only [nf0, nf1, nf2, nf3, nf4]
  refine fsteps_val (fun W hC hh => opok_value (v := (.pointer (some ⟨b23, o24 + k * 5, none⟩))) (by rfl) (run_indexAddrN (.tmp 21) (.tmp 22) rfl Try.underlying23 slTok.sz (i := k) rfl rfl (by omega) W) rfl hC (G0.refl _)) ?_
  simp only [nf0, nf1, nf2, nf3, nf4]
  refine fsteps_val (fun W hC hh => opok_value (v := (.pointer (some ⟨b23, o24 + k * 5 + 0, none⟩))) (by rfl) (run_fieldA (.tmp 23) rfl g_fld_33_0 rfl rfl W) rfl hC (G0.refl _)) ?_
  simp only [nf0, nf1, nf2, nf3, nf4]
  refine fsteps_val (fun W hC hh => opok_value (v := (.int .i64 ((tokAt ys k).1))) (by rfl) (run_loadC (.tmp 24) rfl g_one_3 rfl (Reads.cellE (E := eTok) (j := 0) (hr'.same (bl_step bel hC)) (tokAt_get (l := ys) (i := k) (by omega)) (by rfl))) rfl hC (G0.refl _)) ?_
  simp only [nf0, nf1, nf2, nf3, nf4]
  refine fsteps_val (fun W hC hh => opok_value (v := (.bool false)) (by rfl) ((run_neq_int (.tmp 20) (.tmp 25) rfl rfl rfl W).trans (by rw [hg13]; rfl)) rfl hC (G0.refl _)) ?_
  simp only [nf0, nf1, nf2, nf3, nf4]
  refine fsteps_val (fun W hC hh => opok_value (v := (.bool false)) (by rfl) (by rfl) rfl hC (G0.refl _)) ?_
  simp only [nf0, nf1, nf2, nf3, nf4]
  refine fsteps_val (fun W hC hh => opok_value (v := (.slice (some ⟨b21, o22, none⟩) xs.length cap)) (by rfl) (by rfl) rfl hC (G0.refl _)) ?_
  simp only [nf0, nf1, nf2, nf3, nf4]
  refine fsteps_val (fun W hC hh => opok_value (v := (.int .i64 (k : Int))) (by rfl) (by rfl) rfl hC (G0.refl _)) ?_
  simp only [nf0, nf1, nf2, nf3, nf4]
  refine fsteps_val (fun W hC hh => opok_value (v := (.pointer (some ⟨b21, o22 + k * 5, none⟩))) (by rfl) (run_indexAddrN (.tmp 28) (.tmp 29) rfl Try.underlying23 slTok.sz (i := k) rfl rfl (by omega) W) rfl hC (G0.refl _)) ?_
  simp only [nf0, nf1, nf2, nf3, nf4]
  refine fsteps_val (fun W hC hh => opok_value (v := (.pointer (some ⟨b21, o22 + k * 5 + 1, none⟩))) (by rfl) (run_fieldA (.tmp 30) rfl g_fld_33_1 rfl rfl W) rfl hC (G0.refl _)) ?_
  simp only [nf0, nf1, nf2, nf3, nf4]
  refine fsteps_val (fun W hC hh => opok_value (v := (.string (str ((tokAt xs k).2.1)))) (by rfl) (run_loadC (.tmp 31) rfl g_one_9 rfl (Reads.cellE (E := eTok) (j := 1) (hr.same (bl_step bel hC)) (tokAt_get (l := xs) (i := k) (by omega)) (by rfl))) rfl hC (G0.refl _)) ?_
  simp only [nf0, nf1, nf2, nf3, nf4]
  refine fsteps_val (fun W hC hh => opok_value (v := (.slice (some ⟨b23, o24, none⟩) ys.length cap')) (by rfl) (by rfl) rfl hC (G0.refl _)) ?_
  simp only [nf0, nf1, nf2, nf3, nf4]
  refine fsteps_val (fun W hC hh => opok_value (v := (.int .i64 (k : Int))) (by rfl) (by rfl) rfl hC (G0.refl _)) ?_
  simp only [nf0, nf1, nf2, nf3, nf4]
  refine fsteps_val (fun W hC hh => opok_value (v := (.pointer (some ⟨b23, o24 + k * 5, none⟩))) (by rfl) (run_indexAddrN (.tmp 33) (.tmp 34) rfl Try.underlying23 slTok.sz (i := k) rfl rfl (by omega) W) rfl hC (G0.refl _)) ?_
  simp only [nf0, nf1, nf2, nf3, nf4]
  refine fsteps_val (fun W hC hh => opok_value (v := (.pointer (some ⟨b23, o24 + k * 5 + 1, none⟩))) (by rfl) (run_fieldA (.tmp 35) rfl g_fld_33_1 rfl rfl W) rfl hC (G0.refl _)) ?_
  simp only [nf0, nf1, nf2, nf3, nf4]
  refine fsteps_val (fun W hC hh => opok_value (v := (.string (str ((tokAt ys k).2.1)))) (by rfl) (run_loadC (.tmp 36) rfl g_one_9 rfl (Reads.cellE (E := eTok) (j := 1) (hr'.same (bl_step bel hC)) (tokAt_get (l := ys) (i := k) (by omega)) (by rfl))) rfl hC (G0.refl _)) ?_
  simp only [nf0, nf1, nf2, nf3, nf4]
  refine fsteps_val (fun W hC hh => opok_value (v := (.bool (!decide (((tokAt xs k).2.1) = ((tokAt ys k).2.1))))) (by rfl) (run_neq_text (.tmp 32) (.tmp 37) (l := ((tokAt xs k).2.1)) (m := ((tokAt ys k).2.1)) rfl rfl rfl W) rfl hC (G0.refl _)) ?_
  simp only [nf0, nf1, nf2, nf3, nf4]
  refine fsteps_val (fun W hC hh => opok_value (v := (.bool (!decide (((tokAt xs k).2.1) = ((tokAt ys k).2.1))))) (by rfl) (by rfl) rfl hC (G0.refl _)) ?_
  simp only [nf0, nf1, nf2, nf3, nf4]
  refine fsteps_nil fun w25 hC _ => ?_
  replace hC : Below w5.heap.size w5 w25 := hC
  replace bel := bl_step bel hC
  clear hC
  show Code.wp _ _ _ _ _
  cases hg26 : decide (((tokAt xs k).2.1) = ((tokAt ys k).2.1))
  · have hp27 := of_decide_eq_false hg26
    refine wp_cond_true rfl ?_
    refine wp_seq ?_
    refine wp_region_lit ?_
    refine st_mv (.bool false) ?_
    simp only [nf0, nf1, nf2, nf3, nf4]
    refine wpList_nil ?_
    show Code.wp _ _ _ _ _
    refine wp_ret ?_
    first | show bodyPost _ _ _ _ _ _ | (simp only [Exit.then, Exit.inBlock]; show bodyPost _ _ _ _ _ _)
    have hE : alikeB xs ys = false := alikeB_no (k := k) (by omega) (by omega) (by intro h; obtain ⟨h1, h2⟩ := h; first | contradiction | exact absurd h2 (by assumption) | exact absurd h1 (by assumption))
    exact bodyPost_ret (results_tmp rfl _ _ _) rfl ⟨by rw [hE]; rfl, bel⟩
  have hp28 := of_decide_eq_true hg26
  refine wp_cond_false rfl ?_
  refine wp_skip ?_
  show Code.wp _ _ _ _ _
  refine wp_region_lit ?_
  refine st_value (v := (.int .i64 ((k : Int) + 1))) (by rfl) (run_add_in (.tmp 13) (.const (.int .i64 1)) rfl rfl rfl (by omega) w25) ?_
  simp only [nf0, nf1, nf2, nf3, nf4]
  refine st_mv (.int .i64 ((k : Int) + 1)) ?_
  simp only [nf0, nf1, nf2, nf3, nf4]
  refine wpList_nil ?_
  show ∃ m, m < _ ∧ _
  exact ⟨_, (by omega), (k + 1), rfl, rfl, bel, (by omega), (fun j h => by rcases Nat.lt_or_ge j k with g | g; exact hS j g; obtain rfl : j = k := (by omega); exact ⟨by assumption, by assumption⟩)⟩
set_option maxRecDepth 100000 in
set_option maxHeartbeats 4000000 in
theorem cut_calls (l : List UInt8) (w : World) : Calls Try.prog 8 #[.string (str l)] w fun e w' => e = .returned (.string (str (l.take 2000))) ∧ Below w.heap.size w w' := by
  have bel : Below w.heap.size w w := Below.refl _ _
  go_enter Try.func8, Try.ntmps8
  refine wp_seq ?_
  refine wp_region_lit ?_
  refine st_mv (.string (str [])) ?_
  simp only [nf0, nf1, nf2, nf3, nf4]
  refine wpList_nil ?_
  show Code.wp _ _ _ _ _
  refine wp_seq ?_
  refine wp_region_lit ?_
  refine st_mv (.string (str l)) ?_
  simp only [nf0, nf1, nf2, nf3, nf4]
  refine st_mv (.string (str l)) ?_
  simp only [nf0, nf1, nf2, nf3, nf4]
  refine st_value (v := (.int .i64 (l.length : Int))) (by rfl) (run_len_text (.tmp 4) rfl Try.underlying9 (l := l) rfl w) ?_
  simp only [nf0, nf1, nf2, nf3, nf4]
  refine st_value (v := (.int .i64 (min (l.length : Int) 2000))) (by rfl) (run_min2 (.tmp 5) (.const (.int .i64 2000)) rfl rfl rfl w) ?_
  simp only [nf0, nf1, nf2, nf3, nf4]
  refine st_value (v := (.string (str (l.take 2000)))) (by rfl) (run_cut_text (.tmp 3) (.tmp 6) rfl Try.underlying9 (l := l) rfl 2000 rfl rfl w) ?_
  simp only [nf0, nf1, nf2, nf3, nf4]
  refine st_mv (.string (str (l.take 2000))) ?_
  simp only [nf0, nf1, nf2, nf3, nf4]
  refine wpList_nil ?_
  show Code.wp _ _ _ _ _
  refine wp_ret ?_
  first | show bodyPost _ _ _ _ _ _ | (simp only [Exit.then, Exit.inBlock]; show bodyPost _ _ _ _ _ _)
  exact bodyPost_ret (results_tmp rfl _ _ _) rfl ⟨rfl, bel⟩
set_option maxRecDepth 100000 in
set_option maxHeartbeats 4000000 in
theorem descLives_calls (w : World) : Calls Try.prog 13 #[] w fun e w' => e = .returned (.bool true) ∧ Below w.heap.size w w' := by
  have bel : Below w.heap.size w w := Below.refl _ _
  have hln : lv1r.length = 5 := rfl
  go_enter Try.func13, Try.ntmps13
  refine wp_seq ?_
  refine wp_region_lit ?_
  refine st_mv (.bool false) ?_
  simp only [nf0, nf1, nf2, nf3, nf4]
  refine wpList_nil ?_
  show Code.wp _ _ _ _ _
  refine wp_seq ?_
  refine wp_region_lit ?_
  have hc4 := all_calls (l := [100, 111, 109, 97, 105, 110, 32, 99, 48, 32, 99, 112, 117, 115, 32, 48, 45, 51, 44, 56, 59]) (by decide) w
  rw [lv1.1, lv1.2.1, lv1.2.2] at hc4
  refine st_call (by rfl) (g_run_call_9_1 (.const (.string ⟨#[100, 111, 109, 97, 105, 110, 32, 99, 48, 32, 99, 112, 117, 115, 32, 48, 45, 51, 44, 56, 59]⟩)) rfl rfl _) hc4 ?_
  rintro _ w5 ⟨v1, rfl, O2, hf6⟩
  simp only [nf0, nf1, nf2, nf3, nf4]
  replace O2 := O2.lower bel.size
  replace bel := bl_step bel hf6
  clear hf6
  refine st_mv (.tuple #[v1, .int .i64 0, .agg #[.int .i64 (((0, 0, 0) : TPl).1), .int .i64 (((0, 0, 0) : TPl).2.1), .int .i64 (((0, 0, 0) : TPl).2.2)]]) ?_
  simp only [nf0, nf1, nf2, nf3, nf4]
  refine st_mv v1 ?_
  simp only [nf0, nf1, nf2, nf3, nf4]
  refine st_mv (.int .i64 0) ?_
  simp only [nf0, nf1, nf2, nf3, nf4]
  refine st_mv (.agg #[.int .i64 (((0, 0, 0) : TPl).1), .int .i64 (((0, 0, 0) : TPl).2.1), .int .i64 (((0, 0, 0) : TPl).2.2)]) ?_
  simp only [nf0, nf1, nf2, nf3, nf4]
  refine st_new (cs := #[.int .i64 0, .int .i64 0, .int .i64 0]) (t := 26) (by rfl) (run_allocV rfl g_zero_26 _) ?_
  intro g7 w8 B9 hb10 lo11
  simp only [nf0, nf1, nf2, nf3, nf4]
  have n12 := O2.off lo11
  replace lo11 := low_le bel lo11
  replace O2 := O2.same hb10
  replace bel := bl_step bel hb10
  clear hb10
  refine st_mv v1 ?_
  simp only [nf0, nf1, nf2, nf3, nf4]
  refine st_mv (.int .i64 0) ?_
  simp only [nf0, nf1, nf2, nf3, nf4]
  refine st_row (by rfl) (run_storeW (.tmp 3) (.tmp 11) rfl (cs := #[.int .i64 (((0, 0, 0) : TPl).1), .int .i64 (((0, 0, 0) : TPl).2.1), .int .i64 (((0, 0, 0) : TPl).2.2)]) aggPl rfl rfl B9 rfl (by simp [Value.oneCell'])) B9 ?_
  intro w13 B15 hg14
  simp only [nf0, nf1, nf2, nf3, nf4]
  replace O2 := O2.keptB hg14 n12
  replace bel := bl_kept0 bel hg14 lo11
  clear hg14
  clear B9
  refine wpList_nil ?_
  show Code.wp _ _ _ _ _
  refine wp_seq ?_
  refine wp_region_lit ?_
  have hc19 := all_calls (l := [97, 32, 65]) (by decide) w13
  rw [lv2.1, lv2.2.1, lv2.2.2] at hc19
  refine st_call (by rfl) (g_run_call_9_1 (.const (.string ⟨#[97, 32, 65]⟩)) rfl rfl _) hc19 ?_
  rintro _ w20 ⟨v16, rfl, O17, hf21⟩
  simp only [nf0, nf1, nf2, nf3, nf4]
  have n22 := O17.offLow2 O2
  have n23 := O17.offLow B15
  replace O17 := O17.lower bel.size
  replace O2 := O2.same hf21
  replace B15 := B15.below hf21
  replace bel := bl_step bel hf21
  clear hf21
  refine st_mv (.tuple #[v16, .int .i64 20, .agg #[.int .i64 (((2, 1, 3) : TPl).1), .int .i64 (((2, 1, 3) : TPl).2.1), .int .i64 (((2, 1, 3) : TPl).2.2)]]) ?_
  simp only [nf0, nf1, nf2, nf3, nf4]
  refine st_mv v16 ?_
  simp only [nf0, nf1, nf2, nf3, nf4]
  refine st_mv (.int .i64 20) ?_
  simp only [nf0, nf1, nf2, nf3, nf4]
  refine st_mv (.agg #[.int .i64 (((2, 1, 3) : TPl).1), .int .i64 (((2, 1, 3) : TPl).2.1), .int .i64 (((2, 1, 3) : TPl).2.2)]) ?_
  simp only [nf0, nf1, nf2, nf3, nf4]
  refine st_new (cs := #[.int .i64 0, .int .i64 0, .int .i64 0]) (t := 26) (by rfl) (run_allocV rfl g_zero_26 _) ?_
  intro g24 w25 B26 hb27 lo28
  simp only [nf0, nf1, nf2, nf3, nf4]
  have n29 := O2.off lo28
  have n30 := B15.ne lo28
  have n31 := O17.off lo28
  replace lo28 := low_le bel lo28
  replace O2 := O2.same hb27
  replace B15 := B15.below hb27
  replace O17 := O17.same hb27
  replace bel := bl_step bel hb27
  clear hb27
  refine st_mv v16 ?_
  simp only [nf0, nf1, nf2, nf3, nf4]
  refine st_mv (.int .i64 20) ?_
  simp only [nf0, nf1, nf2, nf3, nf4]
  refine st_row (by rfl) (run_storeW (.tmp 6) (.tmp 16) rfl (cs := #[.int .i64 (((2, 1, 3) : TPl).1), .int .i64 (((2, 1, 3) : TPl).2.1), .int .i64 (((2, 1, 3) : TPl).2.2)]) aggPl rfl rfl B26 rfl (by simp [Value.oneCell'])) B26 ?_
  intro w32 B34 hg33
  simp only [nf0, nf1, nf2, nf3, nf4]
  replace O2 := O2.keptB hg33 n29
  replace B15 := B15.kept hg33 n30
  replace O17 := O17.keptB hg33 n31
  replace bel := bl_kept0 bel hg33 lo28
  clear hg33
  clear B26
  refine wpList_nil ?_
  show Code.wp _ _ _ _ _
  refine wp_seq ?_
  obtain ⟨A35, c36, hv37, h38, h39, h40, R41⟩ := O2.reads
  subst hv37
  clear O2
  obtain ⟨b42, o43, rfl, _⟩ := R41.at_ (by rw [Enc.all_length, hln]; decide)
  refine wp_region_lit ?_
  refine st_mv (.int .i64 0) ?_
  simp only [nf0, nf1, nf2, nf3, nf4]
  refine st_value (v := (.bool true)) (by rfl) (run_eql_int_t (.tmp 17) (.const (.int .i64 0)) rfl rfl rfl rfl w32) ?_
  simp only [nf0, nf1, nf2, nf3, nf4]
  refine st_mv (.bool true) ?_
  simp only [nf0, nf1, nf2, nf3, nf4]
  refine st_mv (.slice (some ⟨b42, o43, none⟩) lv1r.length c36) ?_
  simp only [nf0, nf1, nf2, nf3, nf4]
  refine st_value (v := (.int .i64 (lv1r.length : Int))) (by rfl) (run_len (.tmp 20) rfl ⟨_, Try.underlying23⟩ rfl w32) ?_
  simp only [nf0, nf1, nf2, nf3, nf4]
  refine st_value (v := (.bool true)) (by rfl) (run_eql_int_t (.tmp 21) (.const (.int .i64 5)) rfl rfl rfl rfl w32) ?_
  simp only [nf0, nf1, nf2, nf3, nf4]
  refine st_mv (.bool true) ?_
  simp only [nf0, nf1, nf2, nf3, nf4]
  refine st_mv (.bool true) ?_
  simp only [nf0, nf1, nf2, nf3, nf4]
  refine st_mv (.slice (some ⟨b42, o43, none⟩) lv1r.length c36) ?_
  simp only [nf0, nf1, nf2, nf3, nf4]
  refine st_value (v := (.pointer (some ⟨b42, o43 + 3 * 5, none⟩))) (by rfl) (run_indexAddrN (.tmp 25) (.const (.int .i64 3)) rfl Try.underlying23 slTok.sz (i := 3) rfl (by exact (congrArg (Value.int .i64) (show 3 = ((3 : Nat) : Int) by omega))) (by omega) w32) ?_
  simp only [nf0, nf1, nf2, nf3, nf4]
  refine st_value (v := (.pointer (some ⟨b42, o43 + 3 * 5 + 0, none⟩))) (by rfl) (run_fieldA (.tmp 26) rfl g_fld_33_0 rfl rfl w32) ?_
  simp only [nf0, nf1, nf2, nf3, nf4]
  refine st_value (v := (.int .i64 ((tokAt lv1r 3).1))) (by rfl) (run_loadC (.tmp 27) rfl g_one_3 rfl (Reads.cellE (E := eTok) (j := 0) R41 (tokAt_get (l := lv1r) (i := 3) (by omega)) (by rfl))) ?_
  simp only [nf0, nf1, nf2, nf3, nf4]
  refine st_value (v := (.bool true)) (by rfl) (run_eql_int_t (.tmp 28) (.const (.int .i64 2)) rfl rfl rfl rfl w32) ?_
  simp only [nf0, nf1, nf2, nf3, nf4]
  refine st_mv (.bool true) ?_
  simp only [nf0, nf1, nf2, nf3, nf4]
  refine st_mv (.bool true) ?_
  simp only [nf0, nf1, nf2, nf3, nf4]
  refine st_mv (.slice (some ⟨b42, o43, none⟩) lv1r.length c36) ?_
  simp only [nf0, nf1, nf2, nf3, nf4]
  refine st_value (v := (.pointer (some ⟨b42, o43 + 3 * 5, none⟩))) (by rfl) (run_indexAddrN (.tmp 32) (.const (.int .i64 3)) rfl Try.underlying23 slTok.sz (i := 3) rfl (by exact (congrArg (Value.int .i64) (show 3 = ((3 : Nat) : Int) by omega))) (by omega) w32) ?_
  simp only [nf0, nf1, nf2, nf3, nf4]
  refine st_value (v := (.pointer (some ⟨b42, o43 + 3 * 5 + 1, none⟩))) (by rfl) (run_fieldA (.tmp 33) rfl g_fld_33_1 rfl rfl w32) ?_
  simp only [nf0, nf1, nf2, nf3, nf4]
  refine st_value (v := (.string (str ((tokAt lv1r 3).2.1)))) (by rfl) (run_loadC (.tmp 34) rfl g_one_9 rfl (Reads.cellE (E := eTok) (j := 1) R41 (tokAt_get (l := lv1r) (i := 3) (by omega)) (by rfl))) ?_
  simp only [nf0, nf1, nf2, nf3, nf4]
  refine st_value (v := (.bool true)) (by rfl) (run_eql_text_t (.tmp 35) (.const (.string ⟨#[48, 45, 51, 44, 56]⟩)) (l := ((tokAt lv1r 3).2.1)) (m := [48, 45, 51, 44, 56]) rfl rfl rfl rfl w32) ?_
  simp only [nf0, nf1, nf2, nf3, nf4]
  refine st_mv (.bool true) ?_
  simp only [nf0, nf1, nf2, nf3, nf4]
  refine st_mv (.bool true) ?_
  simp only [nf0, nf1, nf2, nf3, nf4]
  refine st_mv (.slice (some ⟨b42, o43, none⟩) lv1r.length c36) ?_
  simp only [nf0, nf1, nf2, nf3, nf4]
  refine st_value (v := (.pointer (some ⟨b42, o43 + 4 * 5, none⟩))) (by rfl) (run_indexAddrN (.tmp 39) (.const (.int .i64 4)) rfl Try.underlying23 slTok.sz (i := 4) rfl (by exact (congrArg (Value.int .i64) (show 4 = ((4 : Nat) : Int) by omega))) (by omega) w32) ?_
  simp only [nf0, nf1, nf2, nf3, nf4]
  refine st_value (v := (.pointer (some ⟨b42, o43 + 4 * 5 + 1, none⟩))) (by rfl) (run_fieldA (.tmp 40) rfl g_fld_33_1 rfl rfl w32) ?_
  simp only [nf0, nf1, nf2, nf3, nf4]
  refine st_value (v := (.string (str ((tokAt lv1r 4).2.1)))) (by rfl) (run_loadC (.tmp 41) rfl g_one_9 rfl (Reads.cellE (E := eTok) (j := 1) R41 (tokAt_get (l := lv1r) (i := 4) (by omega)) (by rfl))) ?_
  simp only [nf0, nf1, nf2, nf3, nf4]
  refine st_value (v := (.bool true)) (by rfl) (run_eql_text_t (.tmp 42) (.const (.string ⟨#[59]⟩)) (l := ((tokAt lv1r 4).2.1)) (m := [59]) rfl rfl rfl rfl w32) ?_
  simp only [nf0, nf1, nf2, nf3, nf4]
  refine st_mv (.bool true) ?_
  simp only [nf0, nf1, nf2, nf3, nf4]
  refine st_mv (.bool true) ?_
  simp only [nf0, nf1, nf2, nf3, nf4]
  refine st_mv (.int .i64 20) ?_
  simp only [nf0, nf1, nf2, nf3, nf4]
  refine st_value (v := (.bool true)) (by rfl) (run_eql_int_t (.tmp 46) (.const (.int .i64 20)) rfl rfl rfl rfl w32) ?_
  simp only [nf0, nf1, nf2, nf3, nf4]
  refine st_mv (.bool true) ?_
  simp only [nf0, nf1, nf2, nf3, nf4]
  refine st_mv (.bool true) ?_
  simp only [nf0, nf1, nf2, nf3, nf4]
  refine st_value (v := (.pointer (some ⟨g24, 0, none⟩))) (by rfl) (run_fieldA (.tmp 6) rfl g_fld_26_0 rfl rfl w32) ?_
  simp only [nf0, nf1, nf2, nf3, nf4]
  refine st_value (v := (.int .i64 (((2, 1, 3) : TPl).1))) (by rfl) (run_loadB (.tmp 50) rfl g_one_3 rfl B34 rfl) ?_
  simp only [nf0, nf1, nf2, nf3, nf4]
  refine st_value (v := (.bool true)) (by rfl) (run_eql_int_t (.tmp 51) (.const (.int .i64 2)) rfl rfl rfl rfl w32) ?_
  simp only [nf0, nf1, nf2, nf3, nf4]
  refine st_mv (.bool true) ?_
  simp only [nf0, nf1, nf2, nf3, nf4]
  refine st_mv (.bool true) ?_
  simp only [nf0, nf1, nf2, nf3, nf4]
  refine wpList_nil ?_
  show Code.wp _ _ _ _ _
  refine wp_ret ?_
  first | show bodyPost _ _ _ _ _ _ | (simp only [Exit.then, Exit.inBlock]; show bodyPost _ _ _ _ _ _)
  exact bodyPost_ret (results_tmp rfl _ _ _) rfl ⟨rfl, bel⟩
end Go.Proofs.Ytkebpmcgmmhifaa

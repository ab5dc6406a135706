/- What desc.Print does. -/
import Derived.Test.YtkebpmcgmmhifaaDescHeads
import Derived.Test.YtkebpmcgmmhifaaBldW
import Derived.Test.YtkebpmcgmmhifaaBldS
namespace Go.Proofs.Ytkebpmcgmmhifaa
open Go.RowKit Go.WideShapes Go.ChangeShapes
set_option linter.unusedSimpArgs false
set_option linter.unusedVariables false

theorem n_zero_53 : ZeroOf Try.prog 53 #[.pointer none, .slice none 0 0] := zeroOf (z := .agg #[.pointer none, .slice none 0 0]) (by kernel_rfl) rfl
theorem n_zero_33 : ZeroOf Try.prog 33 #[.int .i64 0, .string ⟨#[]⟩, .int .i64 0, .int .i64 0, .int .i64 0] := zeroOf (z := .agg #[.int .i64 0, .string ⟨#[]⟩, .int .i64 0, .int .i64 0, .int .i64 0]) (by kernel_rfl) rfl
theorem n_fld_33_1 : FieldAt Try.prog 33 1 1 := fieldAt_of (s := 0) Try.underlying33 (by kernel_rfl)
theorem n_one_9 : One Try.prog 9 := one_of Try.underlying9 rfl (by kernel_rfl)
theorem n_run_call_27_2 {o : Oper} {a : Act} (x0 : Operand) (x1 : Operand) {ts : Array TypeId} (ho : o.op = .call { callee := .value (.func 27), args := #[x0, x1], argTypes := ts }) {v0 : Value} (h0 : a.eval x0 = v0) {v1 : Value} (h1 : a.eval x1 = v1) (W : World) : (execOp a.eval o).run Try.prog W = .ok (.enter 27 #[v0, v1]) W := by
  unfold execOp
  simp only [ho]
  subst h0 h1
  go_simp
theorem n_run_call_28_2 {o : Oper} {a : Act} (x0 : Operand) (x1 : Operand) {ts : Array TypeId} (ho : o.op = .call { callee := .value (.func 28), args := #[x0, x1], argTypes := ts }) {v0 : Value} (h0 : a.eval x0 = v0) {v1 : Value} (h1 : a.eval x1 = v1) (W : World) : (execOp a.eval o).run Try.prog W = .ok (.enter 28 #[v0, v1]) W := by
  unfold execOp
  simp only [ho]
  subst h0 h1
  go_simp
theorem n_run_call_29_1 {o : Oper} {a : Act} (x0 : Operand) {ts : Array TypeId} (ho : o.op = .call { callee := .value (.func 29), args := #[x0], argTypes := ts }) {v0 : Value} (h0 : a.eval x0 = v0) (W : World) : (execOp a.eval o).run Try.prog W = .ok (.enter 29 #[v0]) W := by
  unfold execOp
  simp only [ho]
  subst h0
  go_simp
theorem write32_calls {w : World} {base g : Nat} {p v : Value} {xs : List UInt8} (hp : Bp g p) (hB : Blk w g #[p, v] 53) (hO : OwnR w base 5 eByte v xs) (n0 : Off v g) (hbase : base ≤ w.heap.size) (hl : xs.length + 1 ≤ 140737488355328) :
    Calls Try.prog 27 #[.pointer (some ⟨g, 0, none⟩), .int .u8 32] w fun e w' => ∃ u, e = .returned u ∧ u = .nilIface ∧ BldOut w w' base g v (xs ++ [32]) := writeByte_calls 32 hp hB hO n0 hbase hl
theorem spaced_snoc : ∀ (ys : List TTok) (t : TTok), ys ≠ [] → spaced (ys ++ [t]) = spaced ys ++ [32] ++ t.2.1
  | [], t, h => absurd rfl h
  | [x], t, _ => by simp [spaced]
  | x :: y :: ys, t, _ => by
    have ih := spaced_snoc (y :: ys) t (by simp)
    show x.2.1 ++ 32 :: spaced (y :: ys ++ [t]) = _
    rw [ih]
    simp [spaced]
theorem take_tok {xs : List TTok} {k : Nat} (hk : k < xs.length) : xs.take (k + 1) = xs.take k ++ [tokAt xs k] := by
  rw [List.take_add_one, tokAt_get hk]; rfl
theorem spaced_more {xs : List TTok} {k : Nat} (h0 : 0 < k) (hk : k < xs.length) : spaced (xs.take (k + 1)) = spaced (xs.take k) ++ [32] ++ (tokAt xs k).2.1 := by
  rw [take_tok hk, spaced_snoc]
  intro h
  have := congrArg List.length h
  rw [List.length_take, List.length_nil] at this
  omega
theorem spaced_one {xs : List TTok} {k : Nat} (h0 : k = 0) (hk : k < xs.length) : spaced (xs.take (k + 1)) = spaced (xs.take k) ++ (tokAt xs k).2.1 := by
  subst h0
  rw [take_tok hk]; rfl
theorem spaced_le_succ {xs : List TTok} {k : Nat} (hk : k < xs.length) : (spaced (xs.take k)).length + (tokAt xs k).2.1.length ≤ (spaced (xs.take (k + 1))).length := by
  by_cases h0 : k = 0
  · rw [spaced_one h0 hk, List.length_append]; omega
  · rw [spaced_more (by omega) hk]; simp only [List.length_append]; omega
theorem spaced_take (xs : List TTok) (k : Nat) : (spaced (xs.take k)).length ≤ (spaced xs).length := by
  have key : ∀ d, (spaced (xs.take k)).length ≤ (spaced (xs.take (k + d))).length := by
    intro d
    induction d with
    | zero => exact Nat.le_refl _
    | succ d ih =>
      by_cases h : k + d < xs.length
      · have := spaced_le_succ h; rw [show k + (d + 1) = k + d + 1 from rfl]; omega
      · rw [List.take_of_length_le (by omega : xs.length ≤ k + (d + 1))]
        rw [List.take_of_length_le (by omega : xs.length ≤ k + d)] at ih
        exact ih
  by_cases h : k ≤ xs.length
  · have := key (xs.length - k)
    rw [show k + (xs.length - k) = xs.length by omega, List.take_length] at this
    exact this
  · rw [List.take_of_length_le (by omega)]; exact Nat.le_refl _
theorem tok_len {xs : List TTok} {k : Nat} (hk : k < xs.length) : (tokAt xs k).2.1.length ≤ (spaced xs).length := by
  have h1 := spaced_le_succ hk
  have h2 := spaced_take xs (k + 1)
  omega

attribute [local irreducible] Go.wpList Go.Code.wp
set_option maxRecDepth 100000 in
set_option maxHeartbeats 4000000 in
theorem print_calls (A : Option Addr) (xs : List TTok) (cap : Nat) (hcap : xs.length ≤ cap) (hl : xs.length ≤ 1000000) (hsp : (spaced xs).length ≤ 1000000) (w : World) (hr : Reads w A (eTok.all xs)) : Calls Try.prog 19 #[.slice A xs.length cap] w fun e w' => e = .returned (.string (str (spaced xs))) ∧ Below w.heap.size w w' := by
  have bel : Below w.heap.size w w := Below.refl _ _
  go_enter Try.func19, Try.ntmps19
  refine wp_seq ?_
  refine wp_region_lit ?_
  refine st_mv (.string (str [])) ?_
  simp only [nf0, nf1, nf2, nf3, nf4]
  refine wpList_nil ?_
  show Code.wp _ _ _ _ _
  refine wp_seq ?_
  refine wp_region_lit ?_
  refine st_new (cs := #[.pointer none, .slice none 0 0]) (t := 53) (by rfl) (run_allocV rfl n_zero_53 _) ?_
  intro g1 w2 B3 hb4 lo5
  simp only [nf0, nf1, nf2, nf3, nf4]
  replace lo5 := low_le bel lo5
  replace bel := bl_step bel hb4
  clear hb4
  refine wpList_nil ?_
  show Code.wp _ _ _ _ _
  refine wp_seq ?_
  refine wp_seq ?_
  refine wp_region_lit ?_
  refine st_mv (.slice A xs.length cap) ?_
  simp only [nf0, nf1, nf2, nf3, nf4]
  refine st_value (v := (.int .i64 (xs.length : Int))) (by rfl) (run_len (.tmp 6) rfl ⟨_, Try.underlying23⟩ rfl w2) ?_
  simp only [nf0, nf1, nf2, nf3, nf4]
  refine st_mv (.int .i64 0) ?_
  simp only [nf0, nf1, nf2, nf3, nf4]
  refine wpList_nil ?_
  show Code.wp _ _ _ _ _
  refine wp_block ?_
  have O6 : OwnR w2 w.heap.size 5 eByte (.slice none 0 0) [] := OwnR.nil _ _ _ _
  have n7 : Off (.slice none 0 0) g1 := Off.nil _
  refine wp_loop_left (fun n_ a_ wr_ => (fun J9 => ∃ (k : Nat) (pp : Value) (vv : Value), n_ = xs.length - k ∧ a_ = ⟨#[.slice A xs.length cap, J9 1, .string (str []), .pointer (some ⟨g1, 0, none⟩), J9 4, J9 5, .slice A xs.length cap, .int .i64 (xs.length : Int), .int .i64 (k : Int), J9 9, J9 10, J9 11, J9 12, J9 13, J9 14, J9 15, J9 16, J9 17, J9 18, J9 19, J9 20], []⟩ ∧ Blk wr_ g1 #[pp, vv] 53 ∧ OwnR wr_ w.heap.size 5 eByte vv (spaced (xs.take k)) ∧ Off vv g1 ∧ Below w.heap.size w wr_ ∧ (k ≤ xs.length) ∧ (Bp g1 pp)) (jk a_)) (xs.length - 0) ⟨0, (.pointer none), (.slice none 0 0), rfl, rfl, B3, O6, n7, bel, (Nat.zero_le _), (.inl rfl)⟩ ?_
  clear B3
  clear O6
  clear n7
  clear bel
  intro n_ a_ w11 h_
  revert h_
  generalize jk a_ = J9
  rintro ⟨k, pp, vv, hms, rfl, B3, O6, n10, bel, hk, hpp⟩
  refine wp_seq ?_
  refine wp_region_lit ?_
  refine st_value (v := (.bool (decide ((k : Int) < (xs.length : Int))))) (by rfl) (run_lss (.tmp 8) (.tmp 7) rfl rfl rfl w11) ?_
  simp only [nf0, nf1, nf2, nf3, nf4]
  refine wpList_nil ?_
  show Code.wp _ _ _ _ _
  refine wp_seq ?_
  cases hg12 : decide ((k : Int) < (xs.length : Int))
  · have hp13 := of_decide_eq_false hg12
    refine wp_cond_false rfl ?_
    refine wp_exit ?_
    show Code.wp _ _ _ _ _
    refine wp_seq ?_
    obtain rfl : k = xs.length := by omega
    have O14 := O6
    rw [List.take_length] at O14
    clear O6
    refine wp_region_lit ?_
    refine st_call (by rfl) (n_run_call_29_1 (.tmp 3) rfl rfl _) (bString_bel B3 O14 bel) ?_
    rintro _ w15 ⟨rfl, hf16⟩
    simp only [nf0, nf1, nf2, nf3, nf4]
    replace bel := hf16
    clear B3
    clear O14
    refine st_mv (.string (str (spaced xs))) ?_
    simp only [nf0, nf1, nf2, nf3, nf4]
    refine wpList_nil ?_
    show Code.wp _ _ _ _ _
    refine wp_ret ?_
    first | show bodyPost _ _ _ _ _ _ | (simp only [Exit.then, Exit.inBlock]; show bodyPost _ _ _ _ _ _)
    exact bodyPost_ret (results_tmp rfl _ _ _) rfl ⟨rfl, bel⟩
  have hp17 := of_decide_eq_true hg12
  refine wp_cond_true rfl ?_
  refine wp_skip ?_
  show Code.wp _ _ _ _ _
  refine wp_seq ?_
  refine wp_block ?_
  refine wp_seq ?_
  obtain ⟨b18, o19, rfl, _⟩ := (hr.same bel).at_ (by rw [Enc.all_length]; exact Nat.mul_pos (by omega) (by decide))
  refine wp_region_lit ?_
  refine st_mv (.int .i64 (k : Int)) ?_
  simp only [nf0, nf1, nf2, nf3, nf4]
  refine st_value (v := (.pointer (some ⟨b18, o19 + k * 5, none⟩))) (by rfl) (run_indexAddrN (.tmp 6) (.tmp 8) rfl Try.underlying23 slTok.sz (i := k) rfl rfl (by omega) w11) ?_
  simp only [nf0, nf1, nf2, nf3, nf4]
  refine st_value (v := (.agg #[.int .i64 ((tokAt xs k).1), .string (str ((tokAt xs k).2.1)), .int .i64 ((tokAt xs k).2.2.1), .int .i64 ((tokAt xs k).2.2.2.1), .int .i64 ((tokAt xs k).2.2.2.2)])) (by rfl) (run_loadE (E := eTok) (.tmp 11) rfl aggTok rfl (hr.same bel) (tokAt_get (by omega))) ?_
  simp only [nf0, nf1, nf2, nf3, nf4]
  refine st_new (cs := #[.int .i64 0, .string ⟨#[]⟩, .int .i64 0, .int .i64 0, .int .i64 0]) (t := 33) (by rfl) (run_allocV rfl n_zero_33 _) ?_
  intro g20 w21 B22 hb23 lo24
  simp only [nf0, nf1, nf2, nf3, nf4]
  have n25 := B3.ne lo24
  have n26 := O6.off lo24
  replace lo24 := low_le bel lo24
  replace B3 := B3.below hb23
  replace O6 := O6.same hb23
  replace bel := bl_step bel hb23
  clear hb23
  refine st_mv (.int .i64 (k : Int)) ?_
  simp only [nf0, nf1, nf2, nf3, nf4]
  refine st_row (by rfl) (run_storeW (.tmp 5) (.tmp 12) rfl (cs := #[.int .i64 ((tokAt xs k).1), .string (str ((tokAt xs k).2.1)), .int .i64 ((tokAt xs k).2.2.1), .int .i64 ((tokAt xs k).2.2.2.1), .int .i64 ((tokAt xs k).2.2.2.2)]) aggTok rfl rfl B22 rfl (by simp [Value.oneCell'])) B22 ?_
  intro w27 B29 hg28
  simp only [nf0, nf1, nf2, nf3, nf4]
  replace B3 := B3.kept hg28 n25
  replace O6 := O6.keptB hg28 n26
  replace bel := bl_kept0 bel hg28 lo24
  clear hg28
  clear B22
  refine wpList_nil ?_
  show Code.wp _ _ _ _ _
  refine wp_seq ?_
  refine wp_seq ?_
  refine wp_region_lit ?_
  refine st_mv (.int .i64 (k : Int)) ?_
  simp only [nf0, nf1, nf2, nf3, nf4]
  refine st_value (v := (.bool (decide (0 < (k : Int))))) (by rfl) (run_gtr (.tmp 13) (.const (.int .i64 0)) rfl rfl rfl w27) ?_
  simp only [nf0, nf1, nf2, nf3, nf4]
  refine wpList_nil ?_
  show Code.wp _ _ _ _ _
  cases hg30 : decide (0 < (k : Int))
  · have hp31 := of_decide_eq_false hg30
    refine wp_cond_false rfl ?_
    refine wp_skip ?_
    show Code.wp _ _ _ _ _
    refine wp_region_lit ?_
    refine st_value (v := (.pointer (some ⟨g20, 1, none⟩))) (by rfl) (run_fieldA (.tmp 5) rfl n_fld_33_1 rfl rfl w27) ?_
    simp only [nf0, nf1, nf2, nf3, nf4]
    refine st_value (v := (.string (str ((tokAt xs k).2.1)))) (by rfl) (run_loadB (.tmp 16) rfl n_one_9 rfl B29 rfl) ?_
    simp only [nf0, nf1, nf2, nf3, nf4]
    refine st_call (by rfl) (n_run_call_28_2 (.tmp 3) (.tmp 17) rfl rfl rfl _) (writeString_calls ((tokAt xs k).2.1) hpp B3 O6 n10 bel.size (by (try simp only [List.length_append, List.length_cons, List.length_nil]); have := spaced_take xs k; have := tok_len (xs := xs) (k := k) (by omega); omega)) ?_
    rintro _ w38 ⟨rfl, v35, B32, O33, n34, hat36, hf39⟩
    simp only [nf0, nf1, nf2, nf3, nf4]
    have n40 : Off v35 g20 := (n26 : Off _ _).hatB B29.lt hat36
    replace B29 := B29.fr hf39 (nib n25.symm n26)
    replace bel := bl_b bel hf39 bel.size lo5 (fun j hj => (O6.lt j hj).1)
    clear hf39
    clear B3
    clear O6
    clear hat36
    refine wpList_nil ?_
    show Code.wp _ _ _ _ _
    refine wp_region_lit ?_
    refine st_value (v := (.int .i64 ((k : Int) + 1))) (by rfl) (run_add_in (.tmp 8) (.const (.int .i64 1)) rfl rfl rfl (by omega) w38) ?_
    simp only [nf0, nf1, nf2, nf3, nf4]
    refine st_mv (.int .i64 ((k : Int) + 1)) ?_
    simp only [nf0, nf1, nf2, nf3, nf4]
    refine wpList_nil ?_
    show ∃ m, m < _ ∧ _
    exact ⟨_, (by omega), (k + 1), _, _, rfl, rfl, B32, (by have h_ := O33; rw [← spaced_one (by omega) (by omega)] at h_; exact h_), n34, bel, (by omega), (.inr rfl)⟩
  have hp41 := of_decide_eq_true hg30
  refine wp_cond_true rfl ?_
  refine wp_region_lit ?_
  refine st_call (by rfl) (n_run_call_27_2 (.tmp 3) (.const (.int .u8 32)) rfl rfl rfl _) (write32_calls hpp B3 O6 n10 bel.size (by (try simp only [List.length_append, List.length_cons, List.length_nil]); have := spaced_take xs k; have := tok_len (xs := xs) (k := k) (by omega); omega)) ?_
  rintro _ w48 ⟨rfl, v45, B42, O43, n44, hat46, hf49⟩
  simp only [nf0, nf1, nf2, nf3, nf4]
  have n50 : Off v45 g20 := (n26 : Off _ _).hatB B29.lt hat46
  replace B29 := B29.fr hf49 (nib n25.symm n26)
  replace bel := bl_b bel hf49 bel.size lo5 (fun j hj => (O6.lt j hj).1)
  clear hf49
  clear B3
  clear O6
  clear hat46
  refine wpList_nil ?_
  show Code.wp _ _ _ _ _
  refine wp_region_lit ?_
  refine st_value (v := (.pointer (some ⟨g20, 1, none⟩))) (by rfl) (run_fieldA (.tmp 5) rfl n_fld_33_1 rfl rfl w48) ?_
  simp only [nf0, nf1, nf2, nf3, nf4]
  refine st_value (v := (.string (str ((tokAt xs k).2.1)))) (by rfl) (run_loadB (.tmp 16) rfl n_one_9 rfl B29 rfl) ?_
  simp only [nf0, nf1, nf2, nf3, nf4]
  refine st_call (by rfl) (n_run_call_28_2 (.tmp 3) (.tmp 17) rfl rfl rfl _) (writeString_calls ((tokAt xs k).2.1) (.inr rfl) B42 O43 n44 bel.size (by (try simp only [List.length_append, List.length_cons, List.length_nil]); have := spaced_take xs k; have := tok_len (xs := xs) (k := k) (by omega); omega)) ?_
  rintro _ w57 ⟨rfl, v54, B51, O52, n53, hat55, hf58⟩
  simp only [nf0, nf1, nf2, nf3, nf4]
  have n59 : Off v54 g20 := (n50 : Off _ _).hatB B29.lt hat55
  replace B29 := B29.fr hf58 (nib n25.symm n50)
  replace bel := bl_b bel hf58 bel.size lo5 (fun j hj => (O43.lt j hj).1)
  clear hf58
  clear B42
  clear O43
  clear hat55
  refine wpList_nil ?_
  show Code.wp _ _ _ _ _
  refine wp_region_lit ?_
  refine st_value (v := (.int .i64 ((k : Int) + 1))) (by rfl) (run_add_in (.tmp 8) (.const (.int .i64 1)) rfl rfl rfl (by omega) w57) ?_
  simp only [nf0, nf1, nf2, nf3, nf4]
  refine st_mv (.int .i64 ((k : Int) + 1)) ?_
  simp only [nf0, nf1, nf2, nf3, nf4]
  refine wpList_nil ?_
  show ∃ m, m < _ ∧ _
  exact ⟨_, (by omega), (k + 1), _, _, rfl, rfl, B51, (by have h_ := O52; rw [← spaced_more (by omega) (by omega)] at h_; exact h_), n53, bel, (by omega), (.inr rfl)⟩
end Go.Proofs.Ytkebpmcgmmhifaa

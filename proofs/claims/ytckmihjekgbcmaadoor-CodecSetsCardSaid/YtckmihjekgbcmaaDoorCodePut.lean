/- codec's PutInt. -/
import Derived.Test.YtckmihjekgbcmaaDoorCodeFold
namespace Go.Proofs.YtckmihjekgbcmaaDoor
open Go.RowKit Go.WideShapes Go.ChangeShapes
set_option linter.unusedSimpArgs false
set_option linter.unusedVariables false

theorem c0_run_lit_22_0 {o : Oper} {a : Act}  (ho : o.op = .buildSlice 22 0 #[])  (W : World) : (execOp a.eval o).run Tryd.prog W = .ok (.value (.slice (some ⟨W.heap.size, 0, none⟩) 0 0)) (W.alloc (.cells #[] 5)) := by
  unfold execOp
  simp only [ho, List.map_toArray, List.map_cons, List.map_nil]
  go_simp
theorem d_run_call_25_1 {o : Oper} {a : Act} (x0 : Operand) {ts : Array TypeId} (ho : o.op = .call { callee := .value (.func 25), args := #[x0], argTypes := ts }) {v0 : Value} (h0 : a.eval x0 = v0) (W : World) : (execOp a.eval o).run Tryd.prog W = .ok (.enter 25 #[v0]) W := by
  unfold execOp
  simp only [ho]
  subst h0
  go_simp
theorem d_run_call_26_1 {o : Oper} {a : Act} (x0 : Operand) {ts : Array TypeId} (ho : o.op = .call { callee := .value (.func 26), args := #[x0], argTypes := ts }) {v0 : Value} (h0 : a.eval x0 = v0) (W : World) : (execOp a.eval o).run Tryd.prog W = .ok (.enter 26 #[v0]) W := by
  unfold execOp
  simp only [ho]
  subst h0
  go_simp
theorem d_run_lit_22_1 {o : Oper} {a : Act} (x0 : Operand) (ho : o.op = .buildSlice 22 1 #[(0, x0)]) {m0 : Int} (h0 : a.eval x0 = (.int .u8 m0)) (W : World) : (execOp a.eval o).run Tryd.prog W = .ok (.value (.slice (some ⟨W.heap.size, 0, none⟩) 1 1)) (W.alloc (.cells #[(.int .u8 m0)] 5)) := by
  unfold execOp
  simp only [ho, List.map_toArray, List.map_cons, List.map_nil, h0]
  go_simp
theorem eqIn_slice_nil {P : Program} (d : Nat) {t e : TypeId} (ht : P.underlying t = some (.slice e)) (A : Option Addr) (n c n' c' : Nat) (W : World) : (Op.equalIn (d + 1) t (.slice A n c) (.slice none n' c')).run P W = .ok A.isNone W := by
  cases A <;> simp [Op.equalIn, run_underlying ht]
theorem run_eqnilS {P : Program} {o : Oper} {a : Act} (x y : Operand) {t t' : TypeId} (ho : o.op = .binOp .eql t x y t') {e : TypeId} (ht : P.underlying t = some (.slice e)) {A : Option Addr} {n c n' c' : Nat} {b : Bool} (hx : a.eval x = .slice A n c) (hy : a.eval y = .slice none n' c') (hb : A.isNone = b) (W : World) : (execOp a.eval o).run P W = .ok (.value (.bool b)) W := by
  subst hb
  have e : binOp .eql t (.slice A n c) (.slice none n' c') = (do pure (.bool (← Op.equal t (.slice A n c) (.slice none n' c')))) := rfl
  have r := eqIn_slice_nil (P := P) 9999 ht A n c n' c' W
  unfold execOp
  simp only [ho, hx, hy, e]
  simp [eqGuard, Op.equal, Op.maxDepth, r]
theorem vb_len_aux : ∀ (k u : Nat), u < 128 ^ k → 0 < k → (vb u).length ≤ k
  | 0, _, _, h => absurd h (Nat.lt_irrefl _)
  | k + 1, u, hu, _ => by
    by_cases h : u < 128
    · rw [vb_low h]; simp
    · rw [vb_high (by omega), List.length_cons]
      have hk : 0 < k := by
        rcases Nat.eq_zero_or_pos k with rfl | hk
        · simp at hu; omega
        · exact hk
      have := vb_len_aux k (u / 128) (by rw [Nat.div_lt_iff_lt_mul (by omega), ← Nat.pow_succ]; exact hu) hk
      omega
theorem vb_len {u : Nat} (h : u < 2 ^ 64) : (vb u).length ≤ 10 := vb_len_aux 10 u (Nat.lt_of_lt_of_le h (by decide)) (by omega)

attribute [local irreducible] Go.wpList Go.Code.wp
set_option maxRecDepth 100000 in
set_option maxHeartbeats 4000000 in
theorem clone_nil (w : World) : Calls Tryd.prog 25 #[.slice none 0 0] w fun e w' => ∃ v, e = .returned v ∧ OwnR w' w.heap.size 5 eByte v [] ∧ Below w.heap.size w w' := by
  have bel : Below w.heap.size w w := Below.refl _ _
  go_enter Tryd.func25, Tryd.ntmps25
  refine wp_seq ?_
  refine wp_region_lit ?_
  refine st_mv (.slice none 0 0) ?_
  simp only [nf0, nf1, nf2, nf3, nf4]
  refine wpList_nil ?_
  show Code.wp _ _ _ _ _
  refine wp_seq ?_
  refine wp_seq ?_
  refine wp_region_lit ?_
  refine st_mv (.slice none 0 0) ?_
  simp only [nf0, nf1, nf2, nf3, nf4]
  refine st_value (v := (.bool true)) (by rfl) (run_eqnilS (.tmp 3) (.const (.slice none 0 0)) rfl Tryd.underlying22 (A := none) (b := true) rfl rfl rfl w) ?_
  simp only [nf0, nf1, nf2, nf3, nf4]
  refine wpList_nil ?_
  show Code.wp _ _ _ _ _
  refine wp_cond_true rfl ?_
  refine wp_seq ?_
  refine wp_region_lit ?_
  refine st_mv (.slice none 0 0) ?_
  simp only [nf0, nf1, nf2, nf3, nf4]
  refine wpList_nil ?_
  show Code.wp _ _ _ _ _
  refine wp_ret ?_
  first | show bodyPost _ _ _ _ _ _ | (simp only [Exit.then, Exit.inBlock]; show bodyPost _ _ _ _ _ _)
  exact bodyPost_ret (results_tmp rfl _ _ _) rfl ⟨_, rfl, OwnR.nil _ _ _ _, bel⟩
set_option maxRecDepth 100000 in
set_option maxHeartbeats 4000000 in
theorem clone_some (ad : Addr) (l : List UInt8) (cap : Nat) (w : World) (hr : Reads w (some ad) (eByte.all l)) (hl : l.length ≤ 100000000) : Calls Tryd.prog 25 #[.slice (some ad) l.length cap] w fun e w' => ∃ v, e = .returned v ∧ OwnR w' w.heap.size 5 eByte v l ∧ Below w.heap.size w w' := by
  have bel : Below w.heap.size w w := Below.refl _ _
  go_enter Tryd.func25, Tryd.ntmps25
  refine wp_seq ?_
  refine wp_region_lit ?_
  refine st_mv (.slice none 0 0) ?_
  simp only [nf0, nf1, nf2, nf3, nf4]
  refine wpList_nil ?_
  show Code.wp _ _ _ _ _
  refine wp_seq ?_
  refine wp_seq ?_
  refine wp_region_lit ?_
  refine st_mv (.slice (some ad) l.length cap) ?_
  simp only [nf0, nf1, nf2, nf3, nf4]
  refine st_value (v := (.bool false)) (by rfl) (run_eqnilS (.tmp 3) (.const (.slice none 0 0)) rfl Tryd.underlying22 (A := some ad) (b := false) rfl rfl rfl w) ?_
  simp only [nf0, nf1, nf2, nf3, nf4]
  refine wpList_nil ?_
  show Code.wp _ _ _ _ _
  refine wp_cond_false rfl ?_
  refine wp_skip ?_
  show Code.wp _ _ _ _ _
  refine wp_seq ?_
  refine wp_region_lit ?_
  refine st_lit (by rfl) (c0_run_lit_22_0  rfl  _) ?_
  intro g1 w2 B3 hb4 lo5
  simp only [nf0, nf1, nf2, nf3, nf4]
  replace lo5 := low_le bel lo5
  replace bel := bl_step bel hb4
  clear hb4
  have O6 : OwnR w2 w.heap.size 5 eByte (.slice (some ⟨g1, 0, none⟩) 0 0) [] := OwnR.built B3 rfl lo5 (by simp) rfl
  refine st_mv (.slice (some ad) l.length cap) ?_
  simp only [nf0, nf1, nf2, nf3, nf4]
  refine st_appends slByte rfl (.tmp 5) (.tmp 6) rfl rfl O6 l rfl rfl (hr.same bel) (by simp only [List.length_nil]; omega) bel.size ?_
  intro v7 w8 O9 hg10 hat11
  simp only [nf0, nf1, nf2, nf3, nf4]
  replace bel := bl_app bel O6 hg10
  clear O6 hg10 hat11
  replace O9 : OwnR w8 w.heap.size 5 eByte v7 l := by rw [List.nil_append] at O9; exact O9
  refine st_mv v7 ?_
  simp only [nf0, nf1, nf2, nf3, nf4]
  refine wpList_nil ?_
  show Code.wp _ _ _ _ _
  refine wp_ret ?_
  first | show bodyPost _ _ _ _ _ _ | (simp only [Exit.then, Exit.inBlock]; show bodyPost _ _ _ _ _ _)
  exact bodyPost_ret (results_tmp rfl _ _ _) rfl ⟨_, rfl, by have h := O9; simpa using h, bel⟩
theorem clone_calls (A : Option Addr) (l : List UInt8) (cap : Nat) (w : World) (hr : Reads w A (eByte.all l)) (hl : l.length ≤ 100000000) (hA : A = none → cap = 0) : Calls Tryd.prog 25 #[.slice A l.length cap] w fun e w' => ∃ v, e = .returned v ∧ OwnR w' w.heap.size 5 eByte v l ∧ Below w.heap.size w w' := by
  cases A with
  | some ad => exact clone_some ad l cap w hr hl
  | none =>
    obtain rfl := hA rfl
    cases l with
    | nil => exact clone_nil w
    | cons c l => exact absurd (hr.at_ (by rw [eByte_all]; simp)) (by rintro ⟨_, _, h, _⟩; cases h)
set_option maxRecDepth 100000 in
set_option maxHeartbeats 4000000 in
theorem putInt_calls (A : Option Addr) (l : List UInt8) (cap : Nat) (n : Int) (hn : -9223372036854775808 ≤ n ∧ n ≤ 9223372036854775807) (w : World) (hr : Reads w A (eByte.all l)) (hl : l.length ≤ 10000000) (hA : A = none → cap = 0) : Calls Tryd.prog 7 #[.slice A l.length cap, .int .i64 n] w fun e w' => ∃ v, e = .returned v ∧ OwnR w' w.heap.size 5 eByte v (l ++ vb (zig n)) ∧ Below w.heap.size w w' := by
  have bel : Below w.heap.size w w := Below.refl _ _
  have hzl := zig_lt hn
  have hvl := vb_len hzl
  go_enter Tryd.func7, Tryd.ntmps7
  refine wp_seq ?_
  refine wp_region_lit ?_
  refine st_mv (.slice none 0 0) ?_
  simp only [nf0, nf1, nf2, nf3, nf4]
  refine wpList_nil ?_
  show Code.wp _ _ _ _ _
  refine wp_seq ?_
  refine wp_region_lit ?_
  refine st_mv (.slice A l.length cap) ?_
  simp only [nf0, nf1, nf2, nf3, nf4]
  refine st_call (by rfl) (d_run_call_25_1 (.tmp 7) rfl rfl _) (clone_calls A l cap w (hr.same bel) (by omega) hA) ?_
  rintro v1 w3 ⟨O2, hf4⟩
  simp only [nf0, nf1, nf2, nf3, nf4]
  have O2_ := fun k hk => (O2.lt k hk).1
  replace O2 := O2.lower bel.size
  replace bel := bl_step bel hf4
  clear hf4
  refine st_mv v1 ?_
  simp only [nf0, nf1, nf2, nf3, nf4]
  refine wpList_nil ?_
  show Code.wp _ _ _ _ _
  refine wp_seq ?_
  refine wp_region_lit ?_
  refine st_mv (.int .i64 n) ?_
  simp only [nf0, nf1, nf2, nf3, nf4]
  refine st_call1 (v := (.int .u64 ((zig n : Nat) : Int))) (by rfl) (d_run_call_26_1 (.tmp 9) rfl rfl _) (fold_calls (n := n) hn w3) ?_
  intro w5 hb6
  simp only [nf0, nf1, nf2, nf3, nf4]
  replace O2 := O2.same hb6
  replace bel := bl_step bel hb6
  clear hb6
  refine st_mv (.int .u64 ((zig n : Nat) : Int)) ?_
  simp only [nf0, nf1, nf2, nf3, nf4]
  refine wpList_nil ?_
  show Code.wp _ _ _ _ _
  refine wp_seq ?_
  refine wp_block ?_
  refine wp_loop_left (fun n_ a_ wr_ => (fun J7 => ∃ (m : Nat) (ys : List UInt8) (v : Value), n_ = m ∧ a_ = ⟨#[.slice A l.length cap, .int .i64 n, J7 2, J7 3, .slice none 0 0, v, .int .u64 ((m : Nat) : Int), J7 7, J7 8, J7 9, J7 10, J7 11, J7 12, J7 13, J7 14, J7 15, J7 16, J7 17, J7 18, J7 19, J7 20, J7 21, J7 22, J7 23, J7 24, J7 25], []⟩ ∧ OwnR wr_ w.heap.size 5 eByte v ys ∧ Below w.heap.size w wr_ ∧ (m < 2 ^ 64) ∧ (ys ++ vb m = l ++ vb (zig n))) (jk a_)) (zig n) ⟨zig n, l, v1, rfl, rfl, O2, bel, hzl, rfl⟩ ?_
  clear O2
  clear bel
  intro n_ a_ w8 h_
  revert h_
  generalize jk a_ = J7
  rintro ⟨m, ys, v, hms, rfl, O2, bel, hm, he⟩
  have hyl : ys.length ≤ l.length + 10 := by have := congrArg List.length he; simp only [List.length_append] at this; omega
  refine wp_seq ?_
  refine wp_seq ?_
  refine wp_region_lit ?_
  refine st_mv (.int .u64 ((m : Nat) : Int)) ?_
  simp only [nf0, nf1, nf2, nf3, nf4]
  refine st_value (v := (.bool (decide ((128 : Int) ≤ (m : Int))))) (by rfl) (run_geq (.tmp 11) (.const (.int .u64 128)) rfl rfl rfl w8) ?_
  simp only [nf0, nf1, nf2, nf3, nf4]
  refine wpList_nil ?_
  show Code.wp _ _ _ _ _
  cases hg9 : decide ((128 : Int) ≤ (m : Int))
  · have hp10 := of_decide_eq_false hg9
    refine wp_cond_false rfl ?_
    refine wp_exit ?_
    show Code.wp _ _ _ _ _
    refine wp_seq ?_
    refine wp_region_lit ?_
    refine st_mv v ?_
    simp only [nf0, nf1, nf2, nf3, nf4]
    refine st_mv (.int .u64 ((m : Nat) : Int)) ?_
    simp only [nf0, nf1, nf2, nf3, nf4]
    refine st_value (v := (.int .u8 ((UInt8.ofNat m).toNat : Int))) (by rfl) (run_conv_u64_u8 (.tmp 22) rfl Tryd.underlying31 Tryd.underlying5 (z := (m : Int)) (z' := ((UInt8.ofNat m).toNat : Int)) rfl (by rw [wrap_u8, ofNat_toNat (by omega)]; omega) w8) ?_
    simp only [nf0, nf1, nf2, nf3, nf4]
    refine st_lit (by rfl) (d_run_lit_22_1 (.tmp 23) rfl rfl _) ?_
    intro g11 w12 B13 hb14 lo15
    simp only [nf0, nf1, nf2, nf3, nf4]
    have n16 := O2.off lo15
    replace lo15 := low_le bel lo15
    replace O2 := O2.same hb14
    replace bel := bl_step bel hb14
    clear hb14
    refine st_append slByte rfl (.tmp 21) (.tmp 24) rfl rfl O2 ([UInt8.ofNat m] : List UInt8) rfl rfl B13 (by simp [Enc.all, eByte]) (by simp only [List.length_cons, List.length_nil]; omega) bel.size ?_
    intro v17 w18 O19 hg20 hat21
    simp only [nf0, nf1, nf2, nf3, nf4]
    replace bel := bl_app bel O2 hg20
    clear O2 hg20 hat21
    refine st_mv v17 ?_
    simp only [nf0, nf1, nf2, nf3, nf4]
    refine wpList_nil ?_
    show Code.wp _ _ _ _ _
    refine wp_ret ?_
    first | show bodyPost _ _ _ _ _ _ | (simp only [Exit.then, Exit.inBlock]; show bodyPost _ _ _ _ _ _)
    exact bodyPost_ret (results_tmp rfl _ _ _) rfl ⟨_, rfl, by have h := O19; rw [← vb_low (by omega), he] at h; exact h, bel⟩
  have hp22 := of_decide_eq_true hg9
  refine wp_cond_true rfl ?_
  refine wp_skip ?_
  show Code.wp _ _ _ _ _
  refine wp_block ?_
  refine wp_seq ?_
  refine wp_region_lit ?_
  refine st_mv v ?_
  simp only [nf0, nf1, nf2, nf3, nf4]
  refine st_mv (.int .u64 ((m : Nat) : Int)) ?_
  simp only [nf0, nf1, nf2, nf3, nf4]
  refine st_value (v := (.int .u8 ((m % 256 : Nat) : Int))) (by rfl) (run_conv_u64_u8 (.tmp 14) rfl Tryd.underlying31 Tryd.underlying5 (z := (m : Int)) (z' := ((m % 256 : Nat) : Int)) rfl (by rw [wrap_u8]; omega) w8) ?_
  simp only [nf0, nf1, nf2, nf3, nf4]
  refine st_value (v := (.int .u8 ((UInt8.ofNat (m % 128 + 128)).toNat : Int))) (by rfl) (run_or8 (.tmp 15) (.const (.int .u8 128)) rfl (m := m % 256) (n := 128) rfl rfl (by omega) (by omega) (r := (UInt8.ofNat (m % 128 + 128)).toNat) (by rw [or_mark (by omega), ofNat_toNat (by omega)]; omega) w8) ?_
  simp only [nf0, nf1, nf2, nf3, nf4]
  refine st_lit (by rfl) (d_run_lit_22_1 (.tmp 16) rfl rfl _) ?_
  intro g23 w24 B25 hb26 lo27
  simp only [nf0, nf1, nf2, nf3, nf4]
  have n28 := O2.off lo27
  replace lo27 := low_le bel lo27
  replace O2 := O2.same hb26
  replace bel := bl_step bel hb26
  clear hb26
  refine st_append slByte rfl (.tmp 13) (.tmp 17) rfl rfl O2 ([UInt8.ofNat (m % 128 + 128)] : List UInt8) rfl rfl B25 (by simp [Enc.all, eByte]) (by simp only [List.length_cons, List.length_nil]; omega) bel.size ?_
  intro v29 w30 O31 hg32 hat33
  simp only [nf0, nf1, nf2, nf3, nf4]
  replace bel := bl_app bel O2 hg32
  clear O2 hg32 hat33
  refine st_mv v29 ?_
  simp only [nf0, nf1, nf2, nf3, nf4]
  refine wpList_nil ?_
  show Code.wp _ _ _ _ _
  refine wp_region_lit ?_
  refine st_mv (.int .u64 ((m : Nat) : Int)) ?_
  simp only [nf0, nf1, nf2, nf3, nf4]
  refine st_value (v := (.int .u64 ((m >>> 7 : Nat) : Int))) (by rfl) (run_shrW (.tmp 19) (.const (.int .u64 7)) rfl (m := m) (n := 7) rfl rfl (by omega) w30) ?_
  simp only [nf0, nf1, nf2, nf3, nf4]
  refine st_mv (.int .u64 ((m >>> 7 : Nat) : Int)) ?_
  simp only [nf0, nf1, nf2, nf3, nf4]
  refine wpList_nil ?_
  show ∃ m, m < _ ∧ _
  exact ⟨_, (by rw [Nat.shiftRight_eq_div_pow]; omega), (m >>> 7), _, v29, rfl, rfl, O31, bel, (by rw [Nat.shiftRight_eq_div_pow]; omega), (by rw [← he, vb_high (u := m) (by omega), List.append_assoc, Nat.shiftRight_eq_div_pow]; rfl)⟩
end Go.Proofs.YtckmihjekgbcmaaDoor

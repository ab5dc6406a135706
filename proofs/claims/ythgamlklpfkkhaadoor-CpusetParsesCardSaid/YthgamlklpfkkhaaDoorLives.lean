/- The document's examples (law01's lives). -/
import Derived.Test.YthgamlklpfkkhaaDoorParse
import Derived.Test.YthgamlklpfkkhaaDoorEqs
namespace Go.Proofs.YthgamlklpfkkhaaDoor
open Go.RowKit Go.WideShapes Go.ChangeShapes

theorem p1 : parse [48, 45, 51, 44, 56] = (271, 0, 0) := by kernel_rfl
theorem p2 : parse [51, 45, 49] = (0, 26, 2) := by kernel_rfl
theorem p3 : parse [49, 44] = (0, 22, 2) := by kernel_rfl
theorem p4 : parse [49, 44, 48, 45, 49] = (0, 9, 2) := by kernel_rfl
theorem q1 : mk [0, 1, 2, 3, 8] = 271 := by kernel_rfl
theorem q2 : prt 271 = [48, 45, 51, 44, 56] := by kernel_rfl

theorem sm271 : Sm 271 := fun k hk => Nat.testBit_lt_two_pow (Nat.lt_of_lt_of_le (show 271 < 2 ^ 10 by decide) (Nat.pow_le_pow_right (by decide) (by omega)))
theorem parse_at (l : List UInt8) (hl : l.length ≤ 1000000) (w : World) {S e a : Nat} (h : parse l = (S, e, a)) :
    Calls Tryd.prog 10 #[.string (str l)] w fun r w' => r = .returned (.tuple #[.agg (setA S), .int .i64 e, .int .i64 a]) ∧ Below w.heap.size w w' :=
  (parse_calls l hl w).mono (by rw [h]; rintro r w' ⟨h1, h2⟩; exact ⟨h1, h2⟩)
theorem five_calls (w : World) (g : Nat) (h : Blk w g #[.int .i64 0, .int .i64 1, .int .i64 2, .int .i64 3, .int .i64 8] 3) (cap : Nat) :
    Calls Tryd.prog 22 #[.slice (some ⟨g, 0, none⟩) 5 cap] w fun e w' => e = .returned (.agg (setA 271)) ∧ Below w.heap.size w w' := by
  have := make_calls (some ⟨g, 0, none⟩) [0, 1, 2, 3, 8] cap w (fun j u hj => ⟨g, 0, rfl, by
    rw [Nat.zero_add, h.cell j]
    simpa using hj⟩) (by simp)
  rwa [q1] at this

def LC (w : World) (b : Nat) (W : World) : Prop := Blk W b (setA 271) 24 ∧ Below w.heap.size w W
theorem LC.step {w : World} {b : Nat} {W W' : World} (h : LC w b W) (k : G0 W W') : LC w b W' := ⟨h.1.below k, bl_step h.2 k⟩

set_option maxRecDepth 100000 in
set_option linter.unusedSimpArgs false in
set_option maxHeartbeats 16000000 in
theorem lives_calls (w : World) (hT : Tab w) :
    Calls Tryd.prog 12 #[] w fun e w' => e = .returned (.bool true) ∧ Below w.heap.size w w' := by
  have HT := Lib.hid hT
  clear hT
  have Z1 : Hid (∀ w, Calls Tryd.prog 10 #[.string ⟨#[48, 45, 51, 44, 56]⟩] w fun r w' => r = .returned (.tuple #[.agg (setA 271), .int .i64 0, .int .i64 0]) ∧ Below w.heap.size w w') := Lib.hid (fun w => parse_at [48, 45, 51, 44, 56] (by simp) w p1)
  have Z2 : Hid (∀ w, Calls Tryd.prog 10 #[.string ⟨#[51, 45, 49]⟩] w fun r w' => r = .returned (.tuple #[.agg (setA 0), .int .i64 26, .int .i64 2]) ∧ Below w.heap.size w w') := Lib.hid (fun w => parse_at [51, 45, 49] (by simp) w p2)
  have Z3 : Hid (∀ w, Calls Tryd.prog 10 #[.string ⟨#[49, 44]⟩] w fun r w' => r = .returned (.tuple #[.agg (setA 0), .int .i64 22, .int .i64 2]) ∧ Below w.heap.size w w') := Lib.hid (fun w => parse_at [49, 44] (by simp) w p3)
  have Z4 : Hid (∀ w, Calls Tryd.prog 10 #[.string ⟨#[49, 44, 48, 45, 49]⟩] w fun r w' => r = .returned (.tuple #[.agg (setA 0), .int .i64 9, .int .i64 2]) ∧ Below w.heap.size w w') := Lib.hid (fun w => parse_at [49, 44, 48, 45, 49] (by simp) w p4)
  go_enter Tryd.func12, Tryd.ntmps12
  go_wp2_with (first
    | (go_at_call 10; first
        | ((with_reducible refine (Z1.out _).mono ?_); rintro r w1 ⟨rfl, hb1⟩; have bel1 := hb1)
        | ((with_reducible refine (Z2.out _).mono ?_); rintro r w2 ⟨rfl, hb2⟩; have B2 := Lib.hid (B1.out.below hb2); have bel2 := bl_step bel1' hb2)
        | ((with_reducible refine (Z3.out _).mono ?_); rintro r w3 ⟨rfl, hb3⟩; have B3 := Lib.hid (B2'.out.below hb3); have bel3 := bl_step bel2' hb3)
        | ((with_reducible refine (Z4.out _).mono ?_); rintro r w4 ⟨rfl, hb4⟩; have B4 := Lib.hid (B3'.out.below hb4); have bel4 := bl_step bel3' hb4))
    | (refine wpl_store_set (.tmp 1) (.tmp 15) rfl rfl _ rfl 271 rfl (heap_alloc_new _ _) rfl ?_; have B1 := Lib.hid ((Blk.new w1 (setA 0) 24 _ rfl).row (setA 271)); have bel1' := bl_setRow (bl_alloc bel1 (.cells (setA 0) 24)) w1.heap.size bel1.size (setA 271))
    | (refine wpl_store_set (.tmp 4) (.tmp 20) rfl rfl _ rfl 0 rfl (heap_alloc_new _ _) rfl ?_; have B2' := Lib.hid ((B2.out.alloc (.cells (setA 0) 24)).rowFar w2.heap.size (setA 0) (by have := B2.out.lt; omega)); have bel2' := bl_setRow (bl_alloc bel2 (.cells (setA 0) 24)) w2.heap.size bel2.size (setA 0))
    | (refine wpl_store_set (.tmp 7) (.tmp 25) rfl rfl _ rfl 0 rfl (heap_alloc_new _ _) rfl ?_; have B3' := Lib.hid ((B3.out.alloc (.cells (setA 0) 24)).rowFar w3.heap.size (setA 0) (by have := B3.out.lt; omega)); have bel3' := bl_setRow (bl_alloc bel3 (.cells (setA 0) 24)) w3.heap.size bel3.size (setA 0))
    | (refine wpl_store_set (.tmp 10) (.tmp 30) rfl rfl _ rfl 0 rfl (heap_alloc_new _ _) rfl ?_; have B4' := Lib.hid ((B4.out.alloc (.cells (setA 0) 24)).rowFar w4.heap.size (setA 0) (by have := B4.out.lt; omega)); have bel4' := bl_setRow (bl_alloc bel4 (.cells (setA 0) 24)) w4.heap.size bel4.size (setA 0)))
  refine (fun (H : ∀ W, Blk W w1.heap.size (setA 271) 24 → Below w.heap.size w W → Code.wp _ _ _ _ W) => H _ B4'.out bel4') ?_
  clear B1 B2 B2' B3 B3' B4 B4' bel1 bel1' bel2 bel2' bel3 bel3' bel4 bel4' hb1 hb2 hb3 hb4 Z1 Z2 Z3 Z4
  intro W hB bel
  have HB := Lib.hid hB
  clear hB
  have five := five_calls
  have ld : ∀ (o : Oper) (a : Act) (W : World) (x : Operand) (g : Nat) (t : TypeId), o.op = .load 24 x → a.eval x = .pointer (some ⟨g, 0, none⟩) → Blk W g (setA 271) t → (execOp a.eval o).run Tryd.prog W = .ok (.value (.agg (setA 271))) W := fun o a W x g t ho hx hg => run_load_set x ho g hx 271 hg
  have eqs : ∀ (o : Oper) (a : Act) (x y : Operand) (t' : TypeId), o.op = .binOp .eql 24 x y t' → a.eval x = .agg (setA 271) → a.eval y = .agg (setA 271) → ∀ W, (execOp a.eval o).run Tryd.prog W = .ok (.value (.bool true)) W := fun o a x y t' ho hx hy W => by
    rw [run_eql_set x y ho hx hy sm271 sm271 W]; simp
  have pr : ∀ W, Below w.heap.size w W → Calls Tryd.prog 13 #[.agg (setA 271)] W fun e W' => e = .returned (.string (str [48, 45, 51, 44, 56])) ∧ Below W.heap.size W W' := fun W hW => by
    have := print_calls 271 sm271 W (HT.out.same hW)
    rwa [q2] at this
  have HP := Lib.hid pr
  have H5 := Lib.hid five
  have HL := Lib.hid ld
  have HE := Lib.hid eqs
  clear pr five ld eqs
  have HC : Hid (∀ W, LC w w1.heap.size W ↔ (Blk W w1.heap.size (setA 271) 24 ∧ Below w.heap.size w W)) := Lib.hid fun W => Iff.rfl
  generalize setA 271 = s at *
  refine wp_region_facts_lit (C := LC w w1.heap.size) (G := G0) [
    Fact.val (.int .i64 0),
    Fact.val (.bool true),
    Fact.val (.bool true),
    Fact.val (.agg s),
    Fact.ex (fun v w => ∃ g cap, v = .slice (some ⟨g, 0, none⟩) 5 cap ∧ Blk w g #[.int .i64 0, .int .i64 1, .int .i64 2, .int .i64 3, .int .i64 8] 3) (fun v w w' h ⟨g, cap, h1, h2⟩ => ⟨g, cap, h1, h2.below h⟩),
    Fact.val (.agg s),
    Fact.val (.bool true),
    Fact.val (.bool true),
    Fact.val (.bool true),
    Fact.val (.agg s),
    Fact.val (.string (str [48, 45, 51, 44, 56])),
    Fact.val (.bool true),
    Fact.val (.bool true),
    Fact.val (.bool true),
    Fact.val (.int .i64 26),
    Fact.val (.bool true),
    Fact.val (.bool true),
    Fact.val (.bool true),
    Fact.val (.int .i64 2),
    Fact.val (.bool true),
    Fact.val (.bool true),
    Fact.val (.bool true),
    Fact.val (.int .i64 22),
    Fact.val (.bool true),
    Fact.val (.bool true),
    Fact.val (.bool true),
    Fact.val (.int .i64 2),
    Fact.val (.bool true),
    Fact.val (.bool true),
    Fact.val (.bool true),
    Fact.val (.int .i64 9),
    Fact.val (.bool true),
    Fact.val (.bool true),
    Fact.val (.bool true),
    Fact.val (.int .i64 2),
    Fact.val (.bool true),
    Fact.val (.bool true),
    Fact.val (.bool true)] (by kernel_rfl) (by kernel_rfl) ((HC.out _).2 ⟨HB.out.drew, bl_drew bel⟩) ?_
  refine fsteps_val (fun W hC _ => opok_value (by rfl) (by rfl) rfl hC (G0.refl _)) ?_
  simp only [Act.put, List.setIfInBounds_toArray, List.set_cons_zero, List.set_cons_succ]
  refine fsteps_val (fun W hC _ => opok_value (by rfl) (by rfl) rfl hC (G0.refl _)) ?_
  simp only [Act.put, List.setIfInBounds_toArray, List.set_cons_zero, List.set_cons_succ]
  refine fsteps_val (fun W hC _ => opok_value (by rfl) (by rfl) rfl hC (G0.refl _)) ?_
  simp only [Act.put, List.setIfInBounds_toArray, List.set_cons_zero, List.set_cons_succ]
  refine fsteps_val (fun W hC _ => opok_value (by rfl) (HL.out _ _ _ (.tmp 1) _ _ rfl rfl ((HC.out _).1 hC).1) rfl hC (G0.refl _)) ?_
  simp only [Act.put, List.setIfInBounds_toArray, List.set_cons_zero, List.set_cons_succ]
  refine fsteps_ex (fun W hC _ => opok_value (v := .slice (some ⟨W.heap.size, 0, none⟩) 5 5) (w' := W.alloc (.cells #[.int .i64 0, .int .i64 1, .int .i64 2, .int .i64 3, .int .i64 8] 3)) (by rfl) (by go_simp) ⟨_, _, rfl, Blk.new _ _ _ _ rfl⟩ (hC.step (bl_alloc (Below.refl _ _) _)) (bl_alloc (Below.refl _ _) _)) fun v4 => ?_
  simp only [Act.put, List.setIfInBounds_toArray, List.set_cons_zero, List.set_cons_succ]
  refine fsteps_val (fun W hC hh => ?_) ?_
  · obtain ⟨g, cap, rfl, hb⟩ := hh (4, _) List.mem_cons_self (show 4 ∈ predsOf _ from by decide)
    exact opok_call (by rfl) (by go_simp) ((H5.out W g hb cap).mono fun e W' ⟨h1, h2⟩ => ⟨_, h1, rfl, hC.step h2, h2⟩)
  simp only [Act.put, List.setIfInBounds_toArray, List.set_cons_zero, List.set_cons_succ]
  refine fsteps_val (fun W hC _ => opok_value (by rfl) (HE.out _ _ (.tmp 36) (.tmp 38) _ rfl rfl rfl W) rfl hC (G0.refl _)) ?_
  simp only [Act.put, List.setIfInBounds_toArray, List.set_cons_zero, List.set_cons_succ]
  refine fsteps_val (fun W hC _ => opok_value (by rfl) (by rfl) rfl hC (G0.refl _)) ?_
  simp only [Act.put, List.setIfInBounds_toArray, List.set_cons_zero, List.set_cons_succ]
  refine fsteps_val (fun W hC _ => opok_value (by rfl) (by rfl) rfl hC (G0.refl _)) ?_
  simp only [Act.put, List.setIfInBounds_toArray, List.set_cons_zero, List.set_cons_succ]
  refine fsteps_val (fun W hC _ => opok_value (by rfl) (HL.out _ _ _ (.tmp 1) _ _ rfl rfl ((HC.out _).1 hC).1) rfl hC (G0.refl _)) ?_
  simp only [Act.put, List.setIfInBounds_toArray, List.set_cons_zero, List.set_cons_succ]
  refine fsteps_val (fun W hC hh => opok_call (by rfl) (by go_simp) ((HP.out W ((HC.out _).1 hC).2).mono fun e W' ⟨h1, h2⟩ => ⟨_, h1, rfl, hC.step h2, h2⟩)) ?_
  simp only [Act.put, List.setIfInBounds_toArray, List.set_cons_zero, List.set_cons_succ]
  refine fsteps_val (fun W hC _ => opok_value (by rfl) (run_eql_text (.tmp 43) (.const (.string ⟨#[48, 45, 51, 44, 56]⟩)) (l := [48, 45, 51, 44, 56]) (m := [48, 45, 51, 44, 56]) rfl rfl rfl W) rfl hC (G0.refl _)) ?_
  simp only [Act.put, List.setIfInBounds_toArray, List.set_cons_zero, List.set_cons_succ]
  refine fsteps_val (fun W hC _ => opok_value (by rfl) (by rfl) rfl hC (G0.refl _)) ?_
  simp only [Act.put, List.setIfInBounds_toArray, List.set_cons_zero, List.set_cons_succ]
  refine fsteps_val (fun W hC _ => opok_value (by rfl) (by rfl) rfl hC (G0.refl _)) ?_
  simp only [Act.put, List.setIfInBounds_toArray, List.set_cons_zero, List.set_cons_succ]
  refine fsteps_val (fun W hC _ => opok_value (by rfl) (by rfl) rfl hC (G0.refl _)) ?_
  simp only [Act.put, List.setIfInBounds_toArray, List.set_cons_zero, List.set_cons_succ]
  refine fsteps_val (fun W hC _ => opok_value (by rfl) (by rfl) rfl hC (G0.refl _)) ?_
  simp only [Act.put, List.setIfInBounds_toArray, List.set_cons_zero, List.set_cons_succ]
  refine fsteps_val (fun W hC _ => opok_value (by rfl) (by rfl) rfl hC (G0.refl _)) ?_
  simp only [Act.put, List.setIfInBounds_toArray, List.set_cons_zero, List.set_cons_succ]
  refine fsteps_val (fun W hC _ => opok_value (by rfl) (by rfl) rfl hC (G0.refl _)) ?_
  simp only [Act.put, List.setIfInBounds_toArray, List.set_cons_zero, List.set_cons_succ]
  refine fsteps_val (fun W hC _ => opok_value (by rfl) (by rfl) rfl hC (G0.refl _)) ?_
  simp only [Act.put, List.setIfInBounds_toArray, List.set_cons_zero, List.set_cons_succ]
  refine fsteps_val (fun W hC _ => opok_value (by rfl) (by rfl) rfl hC (G0.refl _)) ?_
  simp only [Act.put, List.setIfInBounds_toArray, List.set_cons_zero, List.set_cons_succ]
  refine fsteps_val (fun W hC _ => opok_value (by rfl) (by rfl) rfl hC (G0.refl _)) ?_
  simp only [Act.put, List.setIfInBounds_toArray, List.set_cons_zero, List.set_cons_succ]
  refine fsteps_val (fun W hC _ => opok_value (by rfl) (by rfl) rfl hC (G0.refl _)) ?_
  simp only [Act.put, List.setIfInBounds_toArray, List.set_cons_zero, List.set_cons_succ]
  refine fsteps_val (fun W hC _ => opok_value (by rfl) (by rfl) rfl hC (G0.refl _)) ?_
  simp only [Act.put, List.setIfInBounds_toArray, List.set_cons_zero, List.set_cons_succ]
  refine fsteps_val (fun W hC _ => opok_value (by rfl) (by rfl) rfl hC (G0.refl _)) ?_
  simp only [Act.put, List.setIfInBounds_toArray, List.set_cons_zero, List.set_cons_succ]
  refine fsteps_val (fun W hC _ => opok_value (by rfl) (by rfl) rfl hC (G0.refl _)) ?_
  simp only [Act.put, List.setIfInBounds_toArray, List.set_cons_zero, List.set_cons_succ]
  refine fsteps_val (fun W hC _ => opok_value (by rfl) (by rfl) rfl hC (G0.refl _)) ?_
  simp only [Act.put, List.setIfInBounds_toArray, List.set_cons_zero, List.set_cons_succ]
  refine fsteps_val (fun W hC _ => opok_value (by rfl) (by rfl) rfl hC (G0.refl _)) ?_
  simp only [Act.put, List.setIfInBounds_toArray, List.set_cons_zero, List.set_cons_succ]
  refine fsteps_val (fun W hC _ => opok_value (by rfl) (by rfl) rfl hC (G0.refl _)) ?_
  simp only [Act.put, List.setIfInBounds_toArray, List.set_cons_zero, List.set_cons_succ]
  refine fsteps_val (fun W hC _ => opok_value (by rfl) (by rfl) rfl hC (G0.refl _)) ?_
  simp only [Act.put, List.setIfInBounds_toArray, List.set_cons_zero, List.set_cons_succ]
  refine fsteps_val (fun W hC _ => opok_value (by rfl) (by rfl) rfl hC (G0.refl _)) ?_
  simp only [Act.put, List.setIfInBounds_toArray, List.set_cons_zero, List.set_cons_succ]
  refine fsteps_val (fun W hC _ => opok_value (by rfl) (by rfl) rfl hC (G0.refl _)) ?_
  simp only [Act.put, List.setIfInBounds_toArray, List.set_cons_zero, List.set_cons_succ]
  refine fsteps_val (fun W hC _ => opok_value (by rfl) (by rfl) rfl hC (G0.refl _)) ?_
  simp only [Act.put, List.setIfInBounds_toArray, List.set_cons_zero, List.set_cons_succ]
  refine fsteps_val (fun W hC _ => opok_value (by rfl) (by rfl) rfl hC (G0.refl _)) ?_
  simp only [Act.put, List.setIfInBounds_toArray, List.set_cons_zero, List.set_cons_succ]
  refine fsteps_val (fun W hC _ => opok_value (by rfl) (by rfl) rfl hC (G0.refl _)) ?_
  simp only [Act.put, List.setIfInBounds_toArray, List.set_cons_zero, List.set_cons_succ]
  refine fsteps_val (fun W hC _ => opok_value (by rfl) (by rfl) rfl hC (G0.refl _)) ?_
  simp only [Act.put, List.setIfInBounds_toArray, List.set_cons_zero, List.set_cons_succ]
  refine fsteps_val (fun W hC _ => opok_value (by rfl) (by rfl) rfl hC (G0.refl _)) ?_
  simp only [Act.put, List.setIfInBounds_toArray, List.set_cons_zero, List.set_cons_succ]
  refine fsteps_val (fun W hC _ => opok_value (by rfl) (by rfl) rfl hC (G0.refl _)) ?_
  simp only [Act.put, List.setIfInBounds_toArray, List.set_cons_zero, List.set_cons_succ]
  refine fsteps_val (fun W hC _ => opok_value (by rfl) (by rfl) rfl hC (G0.refl _)) ?_
  simp only [Act.put, List.setIfInBounds_toArray, List.set_cons_zero, List.set_cons_succ]
  refine fsteps_nil fun W hC _ => ?_
  have hb := ((HC.out _).1 hC).2
  go_wp2
  go_ret
  exact ⟨rfl, hb⟩
end Go.Proofs.YthgamlklpfkkhaaDoor

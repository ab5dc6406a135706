/- math/bits.OnesCount64. -/
import Derived.Test.YthgamlklpfkkhaaDoorPop
import Derived.Test.YthgamlklpfkkhaaDoorWords
import Derived.Test.YthgamlklpfkkhaaDoorClass
namespace Go.Proofs.YthgamlklpfkkhaaDoor
open Go.RowKit Go.WideShapes Go.ChangeShapes


set_option linter.unusedSimpArgs false in
set_option linter.unusedVariables false in
set_option maxRecDepth 100000 in
set_option maxHeartbeats 4000000 in
theorem shr_lt {x : Nat} (hx : x < 2 ^ 64) (k : Nat) : x >>> k < 2 ^ 64 := by rw [Nat.shiftRight_eq_div_pow]; exact Nat.lt_of_le_of_lt (Nat.div_le_self _ _) hx
theorem pop_tail (V e0 e1 e2 e3 e4 e5 e6 e7 : Nat) (p0 : e0 ≤ 8) (p1 : e1 ≤ 8) (p2 : e2 ≤ 8) (p3 : e3 ≤ 8) (p4 : e4 ≤ 8) (p5 : e5 ≤ 8) (p6 : e6 ≤ 8) (p7 : e7 ≤ 8) (h : V = e0 + 2 ^ 8 * (e1 + 2 ^ 8 * (e2 + 2 ^ 8 * (e3 + 2 ^ 8 * (e4 + 2 ^ 8 * (e5 + 2 ^ 8 * (e6 + 2 ^ 8 * e7))))))) :
    V + (V >>> 8) < 2 ^ 64 ∧ (V + (V >>> 8)) + ((V + (V >>> 8)) >>> 16) < 2 ^ 64 ∧ ((V + (V >>> 8)) + ((V + (V >>> 8)) >>> 16)) + (((V + (V >>> 8)) + ((V + (V >>> 8)) >>> 16)) >>> 32) < 2 ^ 63 ∧
      (((V + (V >>> 8)) + ((V + (V >>> 8)) >>> 16)) + (((V + (V >>> 8)) + ((V + (V >>> 8)) >>> 16)) >>> 32)) % 128 = e0 + e1 + e2 + e3 + e4 + e5 + e6 + e7 := by
  obtain ⟨R7, h7⟩ : ∃ R, R = e7 := ⟨_, rfl⟩
  obtain ⟨R6, h6⟩ : ∃ R, R = e6 + 2 ^ 8 * R7 := ⟨_, rfl⟩
  obtain ⟨R5, h5⟩ : ∃ R, R = e5 + 2 ^ 8 * R6 := ⟨_, rfl⟩
  obtain ⟨R4, h4⟩ : ∃ R, R = e4 + 2 ^ 8 * R5 := ⟨_, rfl⟩
  obtain ⟨R3, h3⟩ : ∃ R, R = e3 + 2 ^ 8 * R4 := ⟨_, rfl⟩
  obtain ⟨R2, h2⟩ : ∃ R, R = e2 + 2 ^ 8 * R3 := ⟨_, rfl⟩
  obtain ⟨R1, h1⟩ : ∃ R, R = e1 + 2 ^ 8 * R2 := ⟨_, rfl⟩
  rw [← h7, ← h6, ← h5, ← h4, ← h3, ← h2, ← h1] at h
  have b6 : R6 ≤ 8 + 256 * 8 := by omega
  have b5 : R5 ≤ 8 + 256 * (8 + 256 * 8) := by omega
  have b4 : R4 ≤ 8 + 256 * (8 + 256 * (8 + 256 * 8)) := by omega
  have b3 : R3 ≤ 8 + 256 * (8 + 256 * (8 + 256 * (8 + 256 * 8))) := by omega
  have b2 : R2 ≤ 8 + 256 * (8 + 256 * (8 + 256 * (8 + 256 * (8 + 256 * 8)))) := by omega
  have b1 : R1 ≤ 8 + 256 * (8 + 256 * (8 + 256 * (8 + 256 * (8 + 256 * (8 + 256 * 8))))) := by omega
  have bV : V ≤ 8 + 256 * (8 + 256 * (8 + 256 * (8 + 256 * (8 + 256 * (8 + 256 * (8 + 256 * 8)))))) := by omega
  have a1 : V >>> 8 = R1 := by rw [Nat.shiftRight_eq_div_pow]; omega
  rw [a1]
  have a2 : (V + R1) >>> 16 = R2 + R3 := by
    rw [Nat.shiftRight_eq_div_pow, show V + R1 = (e0 + e1) + 2 ^ 8 * (e1 + e2) + 2 ^ 16 * (R2 + R3) by omega]
    omega
  rw [a2]
  have a3 : (V + R1 + (R2 + R3)) >>> 32 = R4 + R5 + R6 + R7 := by
    have q1 : V + R1 + (R2 + R3) = (e0 + e1 + e2 + e3) + 2 ^ 8 * (e1 + e2 + e3 + e4) + 2 ^ 16 * (R2 + R3 + R4 + R5) := by omega
    have q2 : R2 + R3 + R4 + R5 = (e2 + e3 + e4 + e5) + 2 ^ 8 * (e3 + e4 + e5 + e6) + 2 ^ 16 * (R4 + R5 + R6 + R7) := by omega
    have q3 : e0 + e1 + e2 + e3 ≤ 32 := by omega
    have q4 : e1 + e2 + e3 + e4 ≤ 32 := by omega
    have q5 : e2 + e3 + e4 + e5 ≤ 32 := by omega
    have q6 : e3 + e4 + e5 + e6 ≤ 32 := by omega
    rw [Nat.shiftRight_eq_div_pow, q1, q2]
    generalize e0 + e1 + e2 + e3 = u0 at *
    generalize e1 + e2 + e3 + e4 = u1 at *
    generalize e2 + e3 + e4 + e5 = u2 at *
    generalize e3 + e4 + e5 + e6 = u3 at *
    generalize R4 + R5 + R6 + R7 = T at *
    clear q1 q2 h h1 h2 h3 h4 h5 h6 h7 a1 a2 b1 b2 b3 b4 b5 b6 bV
    omega
  rw [a3]
  refine ⟨by omega, by omega, by omega, ?_⟩
  have q0 : V + R1 + (R2 + R3) + (R4 + R5 + R6 + R7) = (e0 + e1 + e2 + e3 + e4 + e5 + e6 + e7) + 128 * (2 * (R1 + R2 + R3 + R4 + R5 + R6 + R7)) := by omega
  rw [q0, Nat.add_mul_mod_self_left, Nat.mod_eq_of_lt (by omega)]
theorem ones_calls (x : Nat) (hx : x < 2 ^ 64) (w : World) : Calls Tryd.prog 39 #[.int .u64 (x : Int)] w fun e w' => e = .returned (.int .i64 ((pop x : Nat) : Int)) ∧ Below w.heap.size w w' := by
  obtain ⟨e0, e1, e2, e3, e4, e5, e6, e7, p0, p1, p2, p3, p4, p5, p6, p7, hp, y, z, rfl, hy, rfl, hz, hv, he⟩ := pop_eight x hx
  have bel : Below w.heap.size w w := Below.refl _ _
  go_enter Tryd.func39, Tryd.ntmps39
  refine wp_seq ?_
  refine wp_region_lit ?_
  refine st_value (v := (.int .i64 0)) (by rfl) (by rfl) ?_
  simp only [Act.put, List.setIfInBounds_toArray, List.set_cons_zero, List.set_cons_succ]
  refine wpList_nil ?_
  show Code.wp _ _ _ _ _
  refine wp_seq ?_
  refine wp_region_lit ?_
  refine st_value (v := (.int .u64 ((x : Nat) : Int))) (by rfl) (by rfl) ?_
  simp only [Act.put, List.setIfInBounds_toArray, List.set_cons_zero, List.set_cons_succ]
  refine st_value (v := (.int .u64 ((x >>> 1 : Nat) : Int))) (by rfl) (run_shrW (.tmp 3) (.const (.int .u64 1)) (m := x) (n := 1) rfl rfl rfl (by omega) w) ?_
  simp only [Act.put, List.setIfInBounds_toArray, List.set_cons_zero, List.set_cons_succ]
  refine st_value (v := (.int .u64 (((x >>> 1) &&& 6148914691236517205 : Nat) : Int))) (by rfl) (run_andW (.tmp 4) (.const (.int .u64 6148914691236517205)) (m := (x >>> 1)) (n := 6148914691236517205) rfl rfl rfl (shr_lt hx 1) (by decide) w) ?_
  simp only [Act.put, List.setIfInBounds_toArray, List.set_cons_zero, List.set_cons_succ]
  refine st_value (v := (.int .u64 ((x : Nat) : Int))) (by rfl) (by rfl) ?_
  simp only [Act.put, List.setIfInBounds_toArray, List.set_cons_zero, List.set_cons_succ]
  refine st_value (v := (.int .u64 ((x &&& 6148914691236517205 : Nat) : Int))) (by rfl) (run_andW (.tmp 6) (.const (.int .u64 6148914691236517205)) (m := x) (n := 6148914691236517205) rfl rfl rfl (by assumption) (by decide) w) ?_
  simp only [Act.put, List.setIfInBounds_toArray, List.set_cons_zero, List.set_cons_succ]
  refine st_value (v := (.int .u64 ((((x >>> 1) &&& 6148914691236517205) + (x &&& 6148914691236517205) : Nat) : Int))) (by rfl) (run_addW (.tmp 5) (.tmp 7) (m := ((x >>> 1) &&& 6148914691236517205)) (n := (x &&& 6148914691236517205)) rfl rfl rfl hy w) ?_
  simp only [Act.put, List.setIfInBounds_toArray, List.set_cons_zero, List.set_cons_succ]
  refine st_value (v := (.int .u64 ((((x >>> 1) &&& 6148914691236517205) + (x &&& 6148914691236517205) : Nat) : Int))) (by rfl) (by rfl) ?_
  simp only [Act.put, List.setIfInBounds_toArray, List.set_cons_zero, List.set_cons_succ]
  refine wpList_nil ?_
  show Code.wp _ _ _ _ _
  refine wp_seq ?_
  refine wp_region_lit ?_
  refine st_value (v := (.int .u64 ((((x >>> 1) &&& 6148914691236517205) + (x &&& 6148914691236517205) : Nat) : Int))) (by rfl) (by rfl) ?_
  simp only [Act.put, List.setIfInBounds_toArray, List.set_cons_zero, List.set_cons_succ]
  refine st_value (v := (.int .u64 (((((x >>> 1) &&& 6148914691236517205) + (x &&& 6148914691236517205)) >>> 2 : Nat) : Int))) (by rfl) (run_shrW (.tmp 9) (.const (.int .u64 2)) (m := (((x >>> 1) &&& 6148914691236517205) + (x &&& 6148914691236517205))) (n := 2) rfl rfl rfl (by omega) w) ?_
  simp only [Act.put, List.setIfInBounds_toArray, List.set_cons_zero, List.set_cons_succ]
  refine st_value (v := (.int .u64 ((((((x >>> 1) &&& 6148914691236517205) + (x &&& 6148914691236517205)) >>> 2) &&& 3689348814741910323 : Nat) : Int))) (by rfl) (run_andW (.tmp 10) (.const (.int .u64 3689348814741910323)) (m := ((((x >>> 1) &&& 6148914691236517205) + (x &&& 6148914691236517205)) >>> 2)) (n := 3689348814741910323) rfl rfl rfl (shr_lt hy 2) (by decide) w) ?_
  simp only [Act.put, List.setIfInBounds_toArray, List.set_cons_zero, List.set_cons_succ]
  refine st_value (v := (.int .u64 ((((x >>> 1) &&& 6148914691236517205) + (x &&& 6148914691236517205) : Nat) : Int))) (by rfl) (by rfl) ?_
  simp only [Act.put, List.setIfInBounds_toArray, List.set_cons_zero, List.set_cons_succ]
  refine st_value (v := (.int .u64 (((((x >>> 1) &&& 6148914691236517205) + (x &&& 6148914691236517205)) &&& 3689348814741910323 : Nat) : Int))) (by rfl) (run_andW (.tmp 12) (.const (.int .u64 3689348814741910323)) (m := (((x >>> 1) &&& 6148914691236517205) + (x &&& 6148914691236517205))) (n := 3689348814741910323) rfl rfl rfl hy (by decide) w) ?_
  simp only [Act.put, List.setIfInBounds_toArray, List.set_cons_zero, List.set_cons_succ]
  refine st_value (v := (.int .u64 (((((((x >>> 1) &&& 6148914691236517205) + (x &&& 6148914691236517205)) >>> 2) &&& 3689348814741910323) + ((((x >>> 1) &&& 6148914691236517205) + (x &&& 6148914691236517205)) &&& 3689348814741910323) : Nat) : Int))) (by rfl) (run_addW (.tmp 11) (.tmp 13) (m := (((((x >>> 1) &&& 6148914691236517205) + (x &&& 6148914691236517205)) >>> 2) &&& 3689348814741910323)) (n := ((((x >>> 1) &&& 6148914691236517205) + (x &&& 6148914691236517205)) &&& 3689348814741910323)) rfl rfl rfl hz w) ?_
  simp only [Act.put, List.setIfInBounds_toArray, List.set_cons_zero, List.set_cons_succ]
  refine st_value (v := (.int .u64 (((((((x >>> 1) &&& 6148914691236517205) + (x &&& 6148914691236517205)) >>> 2) &&& 3689348814741910323) + ((((x >>> 1) &&& 6148914691236517205) + (x &&& 6148914691236517205)) &&& 3689348814741910323) : Nat) : Int))) (by rfl) (by rfl) ?_
  simp only [Act.put, List.setIfInBounds_toArray, List.set_cons_zero, List.set_cons_succ]
  refine wpList_nil ?_
  show Code.wp _ _ _ _ _
  refine wp_seq ?_
  refine wp_region_lit ?_
  refine st_value (v := (.int .u64 (((((((x >>> 1) &&& 6148914691236517205) + (x &&& 6148914691236517205)) >>> 2) &&& 3689348814741910323) + ((((x >>> 1) &&& 6148914691236517205) + (x &&& 6148914691236517205)) &&& 3689348814741910323) : Nat) : Int))) (by rfl) (by rfl) ?_
  simp only [Act.put, List.setIfInBounds_toArray, List.set_cons_zero, List.set_cons_succ]
  refine st_value (v := (.int .u64 ((((((((x >>> 1) &&& 6148914691236517205) + (x &&& 6148914691236517205)) >>> 2) &&& 3689348814741910323) + ((((x >>> 1) &&& 6148914691236517205) + (x &&& 6148914691236517205)) &&& 3689348814741910323)) >>> 4 : Nat) : Int))) (by rfl) (run_shrW (.tmp 15) (.const (.int .u64 4)) (m := ((((((x >>> 1) &&& 6148914691236517205) + (x &&& 6148914691236517205)) >>> 2) &&& 3689348814741910323) + ((((x >>> 1) &&& 6148914691236517205) + (x &&& 6148914691236517205)) &&& 3689348814741910323))) (n := 4) rfl rfl rfl (by omega) w) ?_
  simp only [Act.put, List.setIfInBounds_toArray, List.set_cons_zero, List.set_cons_succ]
  refine st_value (v := (.int .u64 (((((((x >>> 1) &&& 6148914691236517205) + (x &&& 6148914691236517205)) >>> 2) &&& 3689348814741910323) + ((((x >>> 1) &&& 6148914691236517205) + (x &&& 6148914691236517205)) &&& 3689348814741910323) : Nat) : Int))) (by rfl) (by rfl) ?_
  simp only [Act.put, List.setIfInBounds_toArray, List.set_cons_zero, List.set_cons_succ]
  refine st_value (v := (.int .u64 (((((((((x >>> 1) &&& 6148914691236517205) + (x &&& 6148914691236517205)) >>> 2) &&& 3689348814741910323) + ((((x >>> 1) &&& 6148914691236517205) + (x &&& 6148914691236517205)) &&& 3689348814741910323)) >>> 4) + ((((((x >>> 1) &&& 6148914691236517205) + (x &&& 6148914691236517205)) >>> 2) &&& 3689348814741910323) + ((((x >>> 1) &&& 6148914691236517205) + (x &&& 6148914691236517205)) &&& 3689348814741910323)) : Nat) : Int))) (by rfl) (run_addW (.tmp 16) (.tmp 17) (m := (((((((x >>> 1) &&& 6148914691236517205) + (x &&& 6148914691236517205)) >>> 2) &&& 3689348814741910323) + ((((x >>> 1) &&& 6148914691236517205) + (x &&& 6148914691236517205)) &&& 3689348814741910323)) >>> 4)) (n := ((((((x >>> 1) &&& 6148914691236517205) + (x &&& 6148914691236517205)) >>> 2) &&& 3689348814741910323) + ((((x >>> 1) &&& 6148914691236517205) + (x &&& 6148914691236517205)) &&& 3689348814741910323))) rfl rfl rfl hv w) ?_
  simp only [Act.put, List.setIfInBounds_toArray, List.set_cons_zero, List.set_cons_succ]
  refine st_value (v := (.int .u64 ((((((((((x >>> 1) &&& 6148914691236517205) + (x &&& 6148914691236517205)) >>> 2) &&& 3689348814741910323) + ((((x >>> 1) &&& 6148914691236517205) + (x &&& 6148914691236517205)) &&& 3689348814741910323)) >>> 4) + ((((((x >>> 1) &&& 6148914691236517205) + (x &&& 6148914691236517205)) >>> 2) &&& 3689348814741910323) + ((((x >>> 1) &&& 6148914691236517205) + (x &&& 6148914691236517205)) &&& 3689348814741910323))) &&& 1085102592571150095 : Nat) : Int))) (by rfl) (run_andW (.tmp 18) (.const (.int .u64 1085102592571150095)) (m := ((((((((x >>> 1) &&& 6148914691236517205) + (x &&& 6148914691236517205)) >>> 2) &&& 3689348814741910323) + ((((x >>> 1) &&& 6148914691236517205) + (x &&& 6148914691236517205)) &&& 3689348814741910323)) >>> 4) + ((((((x >>> 1) &&& 6148914691236517205) + (x &&& 6148914691236517205)) >>> 2) &&& 3689348814741910323) + ((((x >>> 1) &&& 6148914691236517205) + (x &&& 6148914691236517205)) &&& 3689348814741910323)))) (n := 1085102592571150095) rfl rfl rfl hv (by decide) w) ?_
  simp only [Act.put, List.setIfInBounds_toArray, List.set_cons_zero, List.set_cons_succ]
  refine st_value (v := (.int .u64 ((((((((((x >>> 1) &&& 6148914691236517205) + (x &&& 6148914691236517205)) >>> 2) &&& 3689348814741910323) + ((((x >>> 1) &&& 6148914691236517205) + (x &&& 6148914691236517205)) &&& 3689348814741910323)) >>> 4) + ((((((x >>> 1) &&& 6148914691236517205) + (x &&& 6148914691236517205)) >>> 2) &&& 3689348814741910323) + ((((x >>> 1) &&& 6148914691236517205) + (x &&& 6148914691236517205)) &&& 3689348814741910323))) &&& 1085102592571150095 : Nat) : Int))) (by rfl) (by rfl) ?_
  simp only [Act.put, List.setIfInBounds_toArray, List.set_cons_zero, List.set_cons_succ]
  refine wpList_nil ?_
  show Code.wp _ _ _ _ _
  refine wp_seq ?_
  generalize hV : (((((((((x >>> 1) &&& 6148914691236517205) + (x &&& 6148914691236517205)) >>> 2) &&& 3689348814741910323) + ((((x >>> 1) &&& 6148914691236517205) + (x &&& 6148914691236517205)) &&& 3689348814741910323)) >>> 4) + ((((((x >>> 1) &&& 6148914691236517205) + (x &&& 6148914691236517205)) >>> 2) &&& 3689348814741910323) + ((((x >>> 1) &&& 6148914691236517205) + (x &&& 6148914691236517205)) &&& 3689348814741910323))) &&& 1085102592571150095) = V at *
  have g := pop_tail V e0 e1 e2 e3 e4 e5 e6 e7 p0 p1 p2 p3 p4 p5 p6 p7 he
  obtain ⟨g1, g2, g3, g4⟩ := g
  refine wp_region_lit ?_
  refine st_value (v := (.int .u64 ((V : Nat) : Int))) (by rfl) (by rfl) ?_
  simp only [Act.put, List.setIfInBounds_toArray, List.set_cons_zero, List.set_cons_succ]
  refine st_value (v := (.int .u64 ((V : Nat) : Int))) (by rfl) (by rfl) ?_
  simp only [Act.put, List.setIfInBounds_toArray, List.set_cons_zero, List.set_cons_succ]
  refine st_value (v := (.int .u64 ((V >>> 8 : Nat) : Int))) (by rfl) (run_shrW (.tmp 21) (.const (.int .u64 8)) (m := V) (n := 8) rfl rfl rfl (by omega) w) ?_
  simp only [Act.put, List.setIfInBounds_toArray, List.set_cons_zero, List.set_cons_succ]
  refine st_value (v := (.int .u64 ((V + (V >>> 8) : Nat) : Int))) (by rfl) (run_addW (.tmp 20) (.tmp 22) (m := V) (n := (V >>> 8)) rfl rfl rfl g1 w) ?_
  simp only [Act.put, List.setIfInBounds_toArray, List.set_cons_zero, List.set_cons_succ]
  refine st_value (v := (.int .u64 ((V + (V >>> 8) : Nat) : Int))) (by rfl) (by rfl) ?_
  simp only [Act.put, List.setIfInBounds_toArray, List.set_cons_zero, List.set_cons_succ]
  refine wpList_nil ?_
  show Code.wp _ _ _ _ _
  refine wp_seq ?_
  refine wp_region_lit ?_
  refine st_value (v := (.int .u64 ((V + (V >>> 8) : Nat) : Int))) (by rfl) (by rfl) ?_
  simp only [Act.put, List.setIfInBounds_toArray, List.set_cons_zero, List.set_cons_succ]
  refine st_value (v := (.int .u64 ((V + (V >>> 8) : Nat) : Int))) (by rfl) (by rfl) ?_
  simp only [Act.put, List.setIfInBounds_toArray, List.set_cons_zero, List.set_cons_succ]
  refine st_value (v := (.int .u64 (((V + (V >>> 8)) >>> 16 : Nat) : Int))) (by rfl) (run_shrW (.tmp 25) (.const (.int .u64 16)) (m := (V + (V >>> 8))) (n := 16) rfl rfl rfl (by omega) w) ?_
  simp only [Act.put, List.setIfInBounds_toArray, List.set_cons_zero, List.set_cons_succ]
  refine st_value (v := (.int .u64 (((V + (V >>> 8)) + ((V + (V >>> 8)) >>> 16) : Nat) : Int))) (by rfl) (run_addW (.tmp 24) (.tmp 26) (m := (V + (V >>> 8))) (n := ((V + (V >>> 8)) >>> 16)) rfl rfl rfl g2 w) ?_
  simp only [Act.put, List.setIfInBounds_toArray, List.set_cons_zero, List.set_cons_succ]
  refine st_value (v := (.int .u64 (((V + (V >>> 8)) + ((V + (V >>> 8)) >>> 16) : Nat) : Int))) (by rfl) (by rfl) ?_
  simp only [Act.put, List.setIfInBounds_toArray, List.set_cons_zero, List.set_cons_succ]
  refine wpList_nil ?_
  show Code.wp _ _ _ _ _
  refine wp_seq ?_
  refine wp_region_lit ?_
  refine st_value (v := (.int .u64 (((V + (V >>> 8)) + ((V + (V >>> 8)) >>> 16) : Nat) : Int))) (by rfl) (by rfl) ?_
  simp only [Act.put, List.setIfInBounds_toArray, List.set_cons_zero, List.set_cons_succ]
  refine st_value (v := (.int .u64 (((V + (V >>> 8)) + ((V + (V >>> 8)) >>> 16) : Nat) : Int))) (by rfl) (by rfl) ?_
  simp only [Act.put, List.setIfInBounds_toArray, List.set_cons_zero, List.set_cons_succ]
  refine st_value (v := (.int .u64 ((((V + (V >>> 8)) + ((V + (V >>> 8)) >>> 16)) >>> 32 : Nat) : Int))) (by rfl) (run_shrW (.tmp 29) (.const (.int .u64 32)) (m := ((V + (V >>> 8)) + ((V + (V >>> 8)) >>> 16))) (n := 32) rfl rfl rfl (by omega) w) ?_
  simp only [Act.put, List.setIfInBounds_toArray, List.set_cons_zero, List.set_cons_succ]
  refine st_value (v := (.int .u64 ((((V + (V >>> 8)) + ((V + (V >>> 8)) >>> 16)) + (((V + (V >>> 8)) + ((V + (V >>> 8)) >>> 16)) >>> 32) : Nat) : Int))) (by rfl) (run_addW (.tmp 28) (.tmp 30) (m := ((V + (V >>> 8)) + ((V + (V >>> 8)) >>> 16))) (n := (((V + (V >>> 8)) + ((V + (V >>> 8)) >>> 16)) >>> 32)) rfl rfl rfl (by omega) w) ?_
  simp only [Act.put, List.setIfInBounds_toArray, List.set_cons_zero, List.set_cons_succ]
  refine st_value (v := (.int .u64 ((((V + (V >>> 8)) + ((V + (V >>> 8)) >>> 16)) + (((V + (V >>> 8)) + ((V + (V >>> 8)) >>> 16)) >>> 32) : Nat) : Int))) (by rfl) (by rfl) ?_
  simp only [Act.put, List.setIfInBounds_toArray, List.set_cons_zero, List.set_cons_succ]
  refine wpList_nil ?_
  show Code.wp _ _ _ _ _
  refine wp_seq ?_
  refine wp_region_lit ?_
  refine st_value (v := (.int .u64 ((((V + (V >>> 8)) + ((V + (V >>> 8)) >>> 16)) + (((V + (V >>> 8)) + ((V + (V >>> 8)) >>> 16)) >>> 32) : Nat) : Int))) (by rfl) (by rfl) ?_
  simp only [Act.put, List.setIfInBounds_toArray, List.set_cons_zero, List.set_cons_succ]
  refine st_value (v := (.int .i64 ((((V + (V >>> 8)) + ((V + (V >>> 8)) >>> 16)) + (((V + (V >>> 8)) + ((V + (V >>> 8)) >>> 16)) >>> 32) : Nat) : Int))) (by rfl) (run_convWI (.tmp 32) rfl Tryd.underlying22 Tryd.underlying3 (m := (((V + (V >>> 8)) + ((V + (V >>> 8)) >>> 16)) + (((V + (V >>> 8)) + ((V + (V >>> 8)) >>> 16)) >>> 32))) rfl g3 w) ?_
  simp only [Act.put, List.setIfInBounds_toArray, List.set_cons_zero, List.set_cons_succ]
  refine st_value (v := (.int .i64 (((((V + (V >>> 8)) + ((V + (V >>> 8)) >>> 16)) + (((V + (V >>> 8)) + ((V + (V >>> 8)) >>> 16)) >>> 32)) &&& 127 : Nat) : Int))) (by rfl) (run_andI (.tmp 33) (.const (.int .i64 127)) (m := (((V + (V >>> 8)) + ((V + (V >>> 8)) >>> 16)) + (((V + (V >>> 8)) + ((V + (V >>> 8)) >>> 16)) >>> 32))) (n := 127) rfl rfl rfl g3 (by decide) w) ?_
  simp only [Act.put, List.setIfInBounds_toArray, List.set_cons_zero, List.set_cons_succ]
  refine st_value (v := (.int .i64 (((((V + (V >>> 8)) + ((V + (V >>> 8)) >>> 16)) + (((V + (V >>> 8)) + ((V + (V >>> 8)) >>> 16)) >>> 32)) &&& 127 : Nat) : Int))) (by rfl) (by rfl) ?_
  simp only [Act.put, List.setIfInBounds_toArray, List.set_cons_zero, List.set_cons_succ]
  refine wpList_nil ?_
  show Code.wp _ _ _ _ _
  refine wp_ret ?_
  show bodyPost _ _ _ _ _ _
  refine bodyPost_ret (results_tmp rfl _ _ _) rfl ⟨?_, bel⟩
  show Ending.returned (.int .i64 (((((V + (V >>> 8)) + ((V + (V >>> 8)) >>> 16)) + (((V + (V >>> 8)) + ((V + (V >>> 8)) >>> 16)) >>> 32)) &&& 127 : Nat) : Int)) = _
  rw [show (127 : Nat) = 2 ^ 7 - 1 from rfl, Nat.and_two_pow_sub_one_eq_mod, show (2 ^ 7 : Nat) = 128 from rfl, g4, hp]
end Go.Proofs.YthgamlklpfkkhaaDoor

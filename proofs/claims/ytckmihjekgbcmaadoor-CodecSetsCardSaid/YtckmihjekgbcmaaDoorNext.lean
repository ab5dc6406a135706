/- What math/bits.TrailingZeros64 and cpuset's Next and First do. -/
import Derived.Test.YtckmihjekgbcmaaDoorMake
import Derived.Lib.TrailingZeros
import Derived.Laws.Bits64b
namespace Go.Proofs.YtckmihjekgbcmaaDoor
open Go.RowKit Go.WideShapes Go.ChangeShapes

/-- The table of math/bits as its initialiser lays it. -/
def Tab (w : World) : Prop := ∀ j, j < 64 → w.cell? ⟨0, j, none⟩ = some (.int .u8 ((Lib.deBruijn64tab.getD j 0 : Nat) : Int))
theorem Tab.same {w w' : World} (h : Tab w) (hb : Below w.heap.size w w') : Tab w' := fun j hj => (hb.cell (World.block_lt_of_cell? w _ (h j hj))).trans (h j hj)
theorem Tab.low {w w' : World} {B : Nat} (h : Tab w) (hb : Below B w w') (hB : w.heap.size ≤ B) : Tab w' := h.same (hb.mono hB)
theorem Tab.alloc {w : World} (h : Tab w) (o : Obj) : Tab (w.alloc o) := h.same (bl_alloc (Below.refl _ _) o)
theorem Tab.drewN {w : World} (h : Tab w) (n : Nat) : Tab (w.drewN n) := h

theorem tz_low {x k : Nat} (hk : x.testBit k = true) (hlow : ∀ j, j < k → x.testBit j = false) (hx : x < 2 ^ 64) : x ≠ 0 ∧ k < 64 ∧ x &&& (2 ^ 64 - x) = 2 ^ k := by
  have h0 : x ≠ 0 := by rintro rfl; simp at hk
  obtain ⟨a, b⟩ := Lib.lowest_bit 64 x h0 hx
  refine ⟨h0, ?_⟩
  have e : Lib.ctz 64 x = k := by
    have h1 : x.testBit (Lib.ctz 64 x) = true := by
      have := congrArg (fun y => y.testBit (Lib.ctz 64 x)) a
      simp only [Nat.testBit_and, Nat.testBit_two_pow_self, Bool.and_eq_true] at this
      exact this.1
    have h2 : ∀ j, j < Lib.ctz 64 x → x.testBit j = false := by
      intro j hj
      have hc : Lib.ctz 64 x = Lib.ctzFrom 64 x := by rw [Lib.ctz, if_neg h0]
      obtain ⟨m, hm, _⟩ := Lib.ctzFrom_spec 64 x (by omega) hx
      rw [hm, Nat.testBit_two_pow_mul]
      rw [hc] at hj
      simp; omega
    rcases Nat.lt_trichotomy (Lib.ctz 64 x) k with h | h | h
    · rw [hlow _ h] at h1; cases h1
    · exact h
    · rw [h2 _ h] at hk; cases hk
  rw [e] at a b
  exact ⟨b, a⟩

theorem tz_key (x k : Nat) (hx : x < 2 ^ 64) (hx0 : x ≠ 0) (hlow : x &&& (2 ^ 64 - x) = 2 ^ k) :
    IntKind.u64.wrap (bits BinOp.and IntKind.u64 (x : Int) (IntKind.u64.wrap (-(x : Int))) * 285870213051353865) / 288230376151711744 = ((2 ^ k * 285870213051353865 % 18446744073709551616 / 288230376151711744 : Nat) : Int) := by
  have ew : ∀ n : Int, IntKind.u64.wrap n = n % 18446744073709551616 := fun n => by simp [IntKind.wrap, IntKind.bits, IntKind.signed]
  have e1 : IntKind.u64.wrap (-(x : Int)) = ((2 ^ 64 - x : Nat) : Int) := by rw [ew]; omega
  rw [e1, (bits64 x _ hx (by omega)).1, hlow, ew]
  omega

set_option maxHeartbeats 1000000 in
theorem tz_core (x k idx : Nat) (w : World) (hx0 : ((x : Int) == 0) = false)
    (key : IntKind.u64.wrap (bits BinOp.and IntKind.u64 (x : Int) (IntKind.u64.wrap (-(x : Int))) * 285870213051353865) / 288230376151711744 = (idx : Int))
    (hi : idx < 64) (hk : k < 64) (hcell : w.cell? ⟨0, idx, none⟩ = some (.int .u8 k)) :
    Calls Tryd.prog 40 #[.int .u64 x] w fun e w' => e = .returned (.int .i64 k) ∧ w = w' := by
  go_enter Tryd.func40, Tryd.ntmps40
  go_wp2_with (simp only [key])
  go_ret
  exact ⟨rfl, rfl⟩

theorem tz_calls (x k : Nat) (w : World) (hx : x < 2 ^ 64) (hk : x.testBit k = true) (hlow : ∀ j, j < k → x.testBit j = false) (hT : Tab w) :
    Calls Tryd.prog 40 #[.int .u64 x] w fun e w' => e = .returned (.int .i64 k) ∧ w = w' := by
  obtain ⟨h0, hk64, ha⟩ := tz_low hk hlow hx
  obtain ⟨hi, htab⟩ := Lib.deBruijn64_at _ hk64
  have hcell := hT _ hi
  rw [htab] at hcell
  exact tz_core x k _ w (by simp; omega) (tz_key x k hx h0 ha) hi hk64 hcell

/-- m is the next worker of the set from n on. -/
def IsNext (S : Nat) (n : Int) (m : Nat) : Prop := n ≤ m ∧ S.testBit m = true ∧ ∀ j : Nat, n ≤ j → j < m → S.testBit j = false
/-- There is none. -/
def NoNext (S : Nat) (n : Int) : Prop := ∀ j : Nat, n ≤ j → S.testBit j = false
theorem next_or (S : Nat) (hS : Sm S) (n : Int) : (∃ m, m < 1024 ∧ IsNext S n m) ∨ NoNext S n := by
  by_cases h : ∃ m : Nat, n ≤ m ∧ S.testBit m = true
  · obtain ⟨m, h1, h2⟩ := h
    have key : ∀ k, (∃ m : Nat, m ≤ k ∧ n ≤ m ∧ S.testBit m = true) → ∃ m, IsNext S n m := by
      intro k
      induction k with
      | zero => rintro ⟨m, a, b, c⟩; obtain rfl : m = 0 := (by omega); exact ⟨0, b, c, fun j _ hj => absurd hj (Nat.not_lt_zero j)⟩
      | succ k ih =>
        rintro ⟨m, a, b, c⟩
        by_cases g : ∃ m : Nat, m ≤ k ∧ n ≤ m ∧ S.testBit m = true
        · exact ih g
        · refine ⟨m, b, c, fun j h1 h2 => ?_⟩
          cases hb : S.testBit j with
          | false => rfl
          | true => exact absurd ⟨j, by omega, h1, hb⟩ g
    obtain ⟨m', hm'⟩ := key m ⟨m, Nat.le_refl _, h1, h2⟩
    refine .inl ⟨m', ?_, hm'⟩
    rcases Nat.lt_or_ge m' 1024 with g | g
    · exact g
    · have := hS m' g; rw [hm'.2.1] at this; cases this
  · refine .inr fun j hj => ?_
    cases hb : S.testBit j with
    | false => rfl
    | true => exact absurd ⟨j, hj, hb⟩ h

theorem testBit_shr (v k j : Nat) : (v / 2 ^ k).testBit j = v.testBit (k + j) := by rw [← Nat.shiftRight_eq_div_pow, Nat.testBit_shiftRight]
theorem zero_of_bits {x : Nat} (hx : x < 2 ^ 64) (h : ∀ j, j < 64 → x.testBit j = false) : x = 0 := by
  refine Nat.eq_of_testBit_eq fun j => ?_
  rw [Nat.zero_testBit]
  by_cases hj : j < 64
  · exact h j hj
  · exact Nat.testBit_lt_two_pow (Nat.lt_of_lt_of_le hx (Nat.pow_le_pow_right (by decide) (by omega)))

/-- The words between are empty. -/
theorem wd_zero {S : Nat} {i : Nat} (h : ∀ j, 64 * i ≤ j → j < 64 * i + 64 → S.testBit j = false) : wd S i = 0 :=
  zero_of_bits (wd_lt S i) fun j hj => by rw [testBit_wd, h _ (by omega) (by omega), Bool.and_false]

set_option maxRecDepth 100000 in
set_option maxHeartbeats 400000 in
theorem next_here (S f m : Nat) (n : Int) (w : World) (hn : max n 0 = (f : Int)) (hf : f < 1024) (h : IsNext S f m) (hm : m / 64 = f / 64) (hT : Tab w) :
    Calls Tryd.prog 37 #[.agg (setA S), .int .i64 n] w fun e w' => e = .returned (.tuple #[.int .i64 m, .bool true]) ∧ Below w.heap.size w w' := by
  have hg := setA_get S (f / 64) (by omega)
  obtain ⟨h1, h2, h3⟩ := h
  obtain ⟨q, hq⟩ : ∃ q, q = wd S (f / 64) / 2 ^ (f % 64) := ⟨_, rfl⟩
  have hqe : ((wd S (f / 64) : Nat) : Int) / 2 ^ (f % 64) = ((q : Nat) : Int) := by rw [hq]; simp
  have hql : q < 2 ^ 64 := by rw [hq]; exact div_lt64 (wd_lt _ _) _
  have hb : ∀ j, j < 64 - f % 64 → q.testBit j = S.testBit (f + j) := by
    intro j hj
    rw [hq, testBit_shr, testBit_wd, show 64 * (f / 64) + (f % 64 + j) = f + j from by omega]
    simp; omega
  have hk : q.testBit (m - f) = true := by rw [hb _ (by omega), show f + (m - f) = m from by omega, h2]
  have hlow : ∀ j, j < m - f → q.testBit j = false := fun j hj => by rw [hb _ (by omega)]; exact h3 _ (by omega) (by omega)
  have hq0 : ((q : Int) == 0) = false := by
    rw [beq_eq_false_iff_ne]; intro e
    have : q = 0 := by omega
    rw [this] at hk; simp at hk
  have hq1 : ((q : Int) != 0) = true := by rw [bne, hq0]; rfl
  have HL := Lib.hid hlow
  have HK := Lib.hid hk
  have HQ := Lib.hid hql
  have HT := Lib.hid hT
  have hmf : ((m - f : Nat) : Int) = (m : Int) - f := by omega
  have HM := Lib.hid hmf
  have hfm : (f : Int) ≤ m := by omega
  have hm2 : m < 1024 := by omega
  clear hlow hk hql hT hb hq h3 h1 h2 hmf
  go_enter Tryd.func37, Tryd.ntmps37
  go_wp2_with (go_at_call 40; refine (tz_calls _ _ _ HQ.out HK.out HL.out (HT.out.alloc _)).mono ?_; rintro e w' ⟨rfl, rfl⟩; rw [HM.out])
  go_ret2
  refine ⟨?_, bl_alloc (Below.refl _ _) _⟩
  simp
  omega

/-- What the loop over the later words keeps. -/
def LaterRel (f b : Nat) (n : Value) : Prop := ∃ i : Nat, f / 64 < i ∧ i ≤ b ∧ n = .int .i64 i

theorem word_shift_zero {S f : Nat} (h : ∀ j, f ≤ j → j < 64 * (f / 64) + 64 → S.testBit j = false) : wd S (f / 64) / 2 ^ (f % 64) = 0 :=
  zero_of_bits (div_lt64 (wd_lt _ _) _) fun j hj => by
    rw [testBit_shr, testBit_wd]
    by_cases g : f % 64 + j < 64
    · rw [h _ (by omega) (by omega), Bool.and_false]
    · simp; omega

set_option maxRecDepth 100000 in
set_option maxHeartbeats 400000 in
theorem next_later (S f m : Nat) (n : Int) (w : World) (hn : max n 0 = (f : Int)) (hf : f < 1024) (hm1 : m < 1024) (h : IsNext S f m) (hm : f / 64 < m / 64) (hT : Tab w) :
    Calls Tryd.prog 37 #[.agg (setA S), .int .i64 n] w fun e w' => e = .returned (.tuple #[.int .i64 m, .bool true]) ∧ Below w.heap.size w w' := by
  have hg := setA_get S (f / 64) (by omega)
  obtain ⟨h1, h2, h3⟩ := h
  have hq0 : wd S (f / 64) / 2 ^ (f % 64) = 0 := word_shift_zero fun j a b => h3 j (by omega) (by omega)
  have hqe : ((wd S (f / 64) : Nat) : Int) / 2 ^ (f % 64) = 0 := by
    have := congrArg (fun x : Nat => (x : Int)) hq0
    simpa using this
  have hz : ∀ i, f / 64 < i → i < m / 64 → wd S i = 0 := fun i a b => wd_zero fun j c d => h3 j (by omega) (by omega)
  have hk : (wd S (m / 64)).testBit (m % 64) = true := by rw [testBit_wd, show 64 * (m / 64) + m % 64 = m from by omega, h2]; simp; omega
  have hlow : ∀ j, j < m % 64 → (wd S (m / 64)).testBit j = false := fun j hj => by rw [testBit_wd, h3 _ (by omega) (by omega), Bool.and_false]
  have HZ := Lib.hid hz
  have HL := Lib.hid hlow
  have HK := Lib.hid hk
  have HT := Lib.hid hT
  have HQ := Lib.hid hqe
  clear hz hlow hk hT h1 h2 h3 hq0
  go_enter Tryd.func37, Tryd.ntmps37
  go_wp2
  go_loop [7] (LaterRel f (m / 64)) (fun n => 16 - (intOf n).toNat)
  case atStart => exact ⟨f / 64 + 1, by omega, by omega, by go_num⟩
  case round =>
    obtain ⟨i, hi1, hi2, rfl⟩ := hrel
    have hg2 := setA_get S i (by omega)
    by_cases hlt : i < m / 64
    · have hw : wd S i = 0 := HZ.out i hi1 hlt
      rw [hw] at hg2
      clear hw
      go_wp2
      go_round
      case rel => exact ⟨i + 1, by omega, by omega, by go_num⟩
      case measure => simp [intOf]; omega
    · obtain rfl : i = m / 64 := (by omega)
      have hv0 : ((wd S (m / 64) : Int) == 0) = false := by
        rw [beq_eq_false_iff_ne]; intro e
        have : wd S (m / 64) = 0 := by omega
        have k := HK.out
        rw [this] at k; simp at k
      have hv1 : ((wd S (m / 64) : Int) != 0) = true := by rw [bne, hv0]; rfl
      have HV := Lib.hid (wd_lt S (m / 64))
      generalize wd S (m / 64) = v at *
      go_wp2_with (go_at_call 40; refine (tz_calls _ _ _ HV.out HK.out HL.out (HT.out.alloc _)).mono ?_; rintro e w' ⟨rfl, rfl⟩)
      go_ret2
      refine ⟨?_, bl_alloc (Below.refl _ _) _⟩
      simp
      omega

set_option maxRecDepth 100000 in
set_option maxHeartbeats 400000 in
theorem next_none (S f : Nat) (n : Int) (w : World) (hn : max n 0 = (f : Int)) (hf : f < 1024) (h : NoNext S f) :
    Calls Tryd.prog 37 #[.agg (setA S), .int .i64 n] w fun e w' => e = .returned (.tuple #[.int .i64 0, .bool false]) ∧ Below w.heap.size w w' := by
  have hg := setA_get S (f / 64) (by omega)
  have hq0 : wd S (f / 64) / 2 ^ (f % 64) = 0 := word_shift_zero fun j a b => h j (by omega)
  have hqe : ((wd S (f / 64) : Nat) : Int) / 2 ^ (f % 64) = 0 := by
    have := congrArg (fun x : Nat => (x : Int)) hq0
    simpa using this
  have HZ := Lib.hid (fun i (a : f / 64 < i) => (wd_zero fun j c _ => h j (by omega) : wd S i = 0))
  have H := Lib.hid h
  clear h hq0
  go_enter Tryd.func37, Tryd.ntmps37
  go_wp2
  go_loop [7] (LaterRel f 16) (fun n => 16 - (intOf n).toNat)
  case atStart => exact ⟨f / 64 + 1, by omega, by omega, by go_num⟩
  case round =>
    obtain ⟨i, hi1, hi2, rfl⟩ := hrel
    by_cases hlt : i < 16
    · have hg2 := setA_get S i (by omega)
      have hw : wd S i = 0 := HZ.out i hi1
      rw [hw] at hg2
      clear hw
      go_wp2
      go_round
      case rel => exact ⟨i + 1, by omega, by omega, by go_num⟩
      case measure => simp [intOf]; omega
    · go_wp2
      go_ret2
      exact ⟨rfl, bl_alloc (Below.refl _ _) _⟩

theorem next_big (S : Nat) (n : Int) (w : World) (h : 1024 ≤ n) :
    Calls Tryd.prog 37 #[.agg (setA S), .int .i64 n] w fun e w' => e = .returned (.tuple #[.int .i64 0, .bool false]) ∧ Below w.heap.size w w' := by
  have hn : max n 0 = n := by omega
  go_enter Tryd.func37, Tryd.ntmps37
  go_wp2
  go_ret2
  exact ⟨rfl, bl_alloc (Below.refl _ _) _⟩

/-- The next worker, if there is one. -/
theorem next_yes (S m : Nat) (n : Int) (w : World) (hS : Sm S) (h : IsNext S n m) (hT : Tab w) :
    Calls Tryd.prog 37 #[.agg (setA S), .int .i64 n] w fun e w' => e = .returned (.tuple #[.int .i64 m, .bool true]) ∧ Below w.heap.size w w' := by
  have hm : m < 1024 := by
    rcases Nat.lt_or_ge m 1024 with g | g
    · exact g
    · have := hS m g; rw [h.2.1] at this; cases this
  obtain ⟨f, hf⟩ : ∃ f : Nat, max n 0 = f := ⟨(max n 0).toNat, by omega⟩
  have h1 := h.1
  have h' : IsNext S f m := ⟨by omega, h.2.1, fun j a b => h.2.2 j (by omega) b⟩
  by_cases g : m / 64 = f / 64
  · exact next_here S f m n w hf (by omega) h' g hT
  · exact next_later S f m n w hf (by omega) hm h' (by omega) hT
theorem next_no (S : Nat) (n : Int) (w : World) (h : NoNext S n) :
    Calls Tryd.prog 37 #[.agg (setA S), .int .i64 n] w fun e w' => e = .returned (.tuple #[.int .i64 0, .bool false]) ∧ Below w.heap.size w w' := by
  obtain ⟨f, hf⟩ : ∃ f : Nat, max n 0 = f := ⟨(max n 0).toNat, by omega⟩
  by_cases g : f < 1024
  · exact next_none S f n w hf g fun j a => h j (by omega)
  · exact next_big S n w (by omega)
end Go.Proofs.YtckmihjekgbcmaaDoor

/- What cpuset's Of, Range, Within and Meets and the reference's List do. -/
import Derived.Test.YthgamlklpfkkhaaDoorList
namespace Go.Proofs.YthgamlklpfkkhaaDoor
open Go.RowKit Go.WideShapes Go.ChangeShapes

def OfRel (xs : List Int) (w : World) (i : Value) (wr : World) : Prop :=
  ∃ k : Nat, k ≤ xs.length ∧ i = .int .i64 k ∧ Blk wr w.heap.size (setA (mk (xs.take k))) 24 ∧ Below w.heap.size w wr

set_option maxRecDepth 100000 in
set_option maxHeartbeats 400000 in
theorem of_calls (A : Option Addr) (xs : List Int) (cap : Nat) (w : World) (hr : Reads w A (xs.map (Value.int .i64))) (hl : xs.length ≤ 9223372036854775807) :
    Calls Tryd.prog 21 #[.slice A xs.length cap] w fun e w' => e = .returned (.agg (setA (mk xs))) ∧ Below w.heap.size w w' := by
  go_enter Tryd.func21, Tryd.ntmps21
  go_wp2
  go_loopw [4, 7] (fun _ i wr => OfRel xs w i wr) (fun _ i _ => xs.length - (intOf i).toNat)
  case atStart =>
    refine ⟨0, Nat.zero_le _, rfl, ?_, bl_alloc (Below.refl _ _) _⟩
    rw [List.take_zero, show mk [] = 0 from rfl, setA_zero]
    exact heap_alloc_new _ _
  case round =>
    obtain ⟨k, hk, rfl, hA, bel⟩ := hrel
    have HA := Lib.hid hA
    clear hA
    by_cases hlt : k < xs.length
    · obtain ⟨b, off, rfl, hc⟩ := (hr.same bel).at_ (by simp; omega)
      have hcell := Reads.int_at hc k hlt
      have HT := Lib.hid (mk_take xs k hlt)
      have hz := bel.size
      clear hc
      generalize mk (xs.take k) = S at *
      generalize nth xs k = n at *
      go_wp2_with (first
        | (refine wpl_load_set (.tmp 2) rfl rfl _ rfl S HA.out ?_)
        | (go_at_call 23; refine (put_calls S n _).mono ?_; rintro e w1 ⟨rfl, hb1⟩; have HA1 := Lib.hid (HA.out.below hb1))
        | (refine wpl_store_set (.tmp 2) (.tmp 13) rfl rfl _ rfl (put S n) rfl HA1.out (setA_size S) ?_))
      go_roundw
      case rel => exact ⟨k + 1, by omega, by go_num, by rw [HT.out]; exact HA1.out.row _, bl_setRow (bl_step bel hb1) _ (Nat.le_refl _) _⟩
      case measure => simp [intOf]; omega
    · obtain rfl : k = xs.length := by omega
      rw [List.take_length] at HA
      go_wp2_with (first
        | (refine wpl_load_set (.tmp 2) rfl rfl _ rfl _ HA.out ?_)
        | (refine wpl_store_set (.tmp 2) (.tmp 15) rfl rfl _ rfl _ rfl HA.out (setA_size _) ?_))
      exact bodyPost_ret (res_set rfl _ _ _ (mk xs) rfl (setRow_heap _ _ _ _ _ _ HA.out)) rfl ⟨rfl, bl_setRow bel _ (Nat.le_refl _) _⟩

/-- The workers from one number to another one. -/
def rng (f t : Int) : Nat := mk (((List.range 1024).map fun (n : Nat) => (n : Int)).filter fun n => f ≤ n && n ≤ t)
theorem testBit_rng (f t : Int) (m : Nat) : (rng f t).testBit m = decide (m < 1024 ∧ f ≤ m ∧ (m : Int) ≤ t) := by
  rw [rng, testBit_mk, decide_eq_decide]
  simp only [List.mem_filter, List.mem_map, List.mem_range, Bool.and_eq_true, decide_eq_true_eq]
  constructor
  · rintro ⟨h1, ⟨a, h2, h3⟩, h4⟩; exact ⟨h1, h4⟩
  · rintro ⟨h1, h2⟩; exact ⟨h1, ⟨m, h1, rfl⟩, h2⟩
theorem rng_sm (f t : Int) : Sm (rng f t) := mk_sm _

def RangeRel (f t : Int) (w : World) (i : Value) (wr : World) : Prop :=
  ∃ (n : Int) (S : Nat), max f 0 ≤ n ∧ (n ≤ max (max f 0) (min t 1023 + 1)) ∧ i = .int .i64 n ∧ (∀ m, S.testBit m = decide (max f 0 ≤ m ∧ (m : Int) < n)) ∧ Blk wr w.heap.size (setA S) 24 ∧ Below w.heap.size w wr

set_option maxRecDepth 100000 in
set_option maxHeartbeats 400000 in
theorem range_calls (f t : Int) (w : World) (hf : f ≤ 9223372036854775807) :
    Calls Tryd.prog 27 #[.int .i64 f, .int .i64 t] w fun e w' => e = .returned (.agg (setA (rng f t))) ∧ Below w.heap.size w w' := by
  go_enter Tryd.func27, Tryd.ntmps27
  go_wp2
  go_loopw [5] (fun i wr => RangeRel f t w i wr) (fun i _ => (1024 - intOf i).toNat)
  case atStart =>
    refine ⟨max f 0, 0, Int.le_refl _, by omega, rfl, fun m => ?_, ?_, bl_alloc (Below.refl _ _) _⟩
    · rw [Nat.zero_testBit, eq_comm, decide_eq_false_iff_not]; omega
    · rw [setA_zero]; exact heap_alloc_new _ _
  case round =>
    obtain ⟨n, S, h1, h2, rfl, hS, hA, bel⟩ := hrel
    have HA := Lib.hid hA
    have HS := Lib.hid hS
    clear hA hS
    by_cases hlt : n ≤ min t 1023
    · have hz := bel.size
      have h3 : n ≤ 1023 := by omega
      have h4 : 0 ≤ n := by omega
      go_wp2_with (first
        | (refine wpl_load_set (.tmp 4) rfl rfl _ rfl S HA.out ?_)
        | (go_at_call 23; refine (put_calls S n _).mono ?_; rintro e w1 ⟨rfl, hb1⟩; have HA1 := Lib.hid (HA.out.below hb1))
        | (refine wpl_store_set (.tmp 4) (.tmp 16) rfl rfl _ rfl (put S n) rfl HA1.out (setA_size S) ?_))
      go_roundw
      case rel =>
        refine ⟨n + 1, put S n, by omega, by omega, rfl, fun m => ?_, HA1.out.row _, bl_setRow (bl_step bel hb1) _ (Nat.le_refl _) _⟩
        rw [testBit_put, HS.out m, ← Bool.decide_or, decide_eq_decide]
        omega
      case measure => simp [intOf]; omega
    · have e : S = rng f t := by
        refine Nat.eq_of_testBit_eq fun m => ?_
        rw [HS.out m, testBit_rng, decide_eq_decide]
        omega
      subst e
      clear HS
      go_wp2_with (first
        | (refine wpl_load_set (.tmp 4) rfl rfl _ rfl _ HA.out ?_)
        | (refine wpl_store_set (.tmp 4) (.tmp 17) rfl rfl _ rfl _ rfl HA.out (setA_size _) ?_))
      exact bodyPost_ret (res_set rfl _ _ _ (rng f t) rfl (setRow_heap _ _ _ _ _ _ HA.out)) rfl ⟨rfl, bl_setRow bel _ (Nat.le_refl _) _⟩

theorem within_calls (S T : Nat) (hS : Sm S) (w : World) :
    Calls Tryd.prog 19 #[.agg (setA S), .agg (setA T)] w fun e w' => e = .returned (.bool (decide (minus S T = 0))) ∧ Below w.heap.size w w' := by
  have he := run_eqS0 (minus_sm T hS)
  go_enter Tryd.func19, Tryd.ntmps19
  go_wp2_with (first
    | (refine wpl_load_set (.tmp 2) rfl rfl _ rfl S (heap_alloc2_old _ _ _) ?_)
    | (refine wpl_load_set (.tmp 3) rfl rfl _ rfl T (heap_alloc2_new _ _ _) ?_)
    | (go_at_call 18; refine (minus_calls S T _).mono ?_; rintro e w1 ⟨rfl, hb1⟩))
  go_ret
  exact ⟨rfl, bl_step (bl_alloc (bl_alloc (Below.refl _ _) _) _) hb1⟩
theorem meets_calls (S T : Nat) (hS : Sm S) (w : World) :
    Calls Tryd.prog 20 #[.agg (setA S), .agg (setA T)] w fun e w' => e = .returned (.bool (!decide (S &&& T = 0))) ∧ Below w.heap.size w w' := by
  have he := run_eqS0 (and_sm T hS)
  go_enter Tryd.func20, Tryd.ntmps20
  go_wp2_with (first
    | (refine wpl_load_set (.tmp 2) rfl rfl _ rfl S (heap_alloc2_old _ _ _) ?_)
    | (refine wpl_load_set (.tmp 3) rfl rfl _ rfl T (heap_alloc2_new _ _ _) ?_)
    | (go_at_call 16; refine (and_calls S T _).mono ?_; rintro e w1 ⟨rfl, hb1⟩))
  go_ret
  exact ⟨rfl, bl_step (bl_alloc (bl_alloc (Below.refl _ _) _) _) hb1⟩

def RefListRel (S : Nat) (w : World) (l n : Value) (wr : World) : Prop :=
  ∃ k : Nat, k ≤ 1024 ∧ n = .int .i64 k ∧ OwnR wr (w.heap.size + 1) 3 (eInt .i64) l (ints (mem S k)) ∧ Blk wr w.heap.size (setA S) 24 ∧ Below w.heap.size w wr

set_option maxRecDepth 100000 in
set_option maxHeartbeats 400000 in
theorem refList_calls (S : Nat) (hS : Sm S) (w : World) :
    Calls Tryd.prog 29 #[.agg (setA S)] w fun e w' => ∃ v, e = .returned v ∧ OwnR w' w.heap.size 3 (eInt .i64) v (ints (mem S 1024)) ∧ Below w.heap.size w w' := by
  go_enter Tryd.func29, Tryd.ntmps29
  go_wp2
  go_loopw [3, 4] (fun l n wr => RefListRel S w l n wr) (fun _ n _ => 1024 - (intOf n).toNat)
  case atStart => exact ⟨0, by omega, rfl, OwnR.nil _ _ _ _, heap_alloc_new _ _, bl_alloc (Below.refl _ _) _⟩
  case round =>
    obtain ⟨k, hk, rfl, hown, hblk, bel⟩ := hrel
    have HB := Lib.hid hblk
    have hz := bel.size
    have hzz := hblk.lt
    clear hblk
    by_cases hlt : k < 1024
    · have hlen : (ints (mem S k)).length ≤ 1024 := by have := mem_len S k; rw [ints_len]; omega
      have HL := Lib.hid hlen
      clear hlen
      have hms := mem_succ S k
      rw [← has_nat] at hms
      cases hh : has S k
      all_goals
        rw [hh] at hms
        have HH := Lib.hid hh
        have HM := Lib.hid hms
        clear hh hms
        go_wp2_with (first
          | (refine wpl_load_set (.tmp 1) rfl rfl _ rfl S HB.out ?_)
          | (go_at_call 26; refine (refHas_calls S hS k _).mono ?_; rintro e w1 ⟨rfl, rfl⟩; rw [HH.out])
          | (at_builtin; refine own_append slInt rfl (.tmp 12) (.tmp 14) rfl (w.heap.size + 1) _ (ints (mem S k)) rfl ((hown.alloc _).alloc _) ⟨wr.heap.size + 1, 0, none⟩ 1 1 [(k : Int)] rfl rfl (news_at _ _ _ _ (by simp)) (by have := HL.out; simp; omega) (by simp; omega) ?_; intro v' w1 hown1 hgrow hat; have HB1 := Lib.hid (((hown.alloc _).alloc _).blk hgrow ((HB.out.alloc _).alloc _) (by omega)); have bel1 := bl_grown (bl_alloc (bl_alloc bel _) _) ((hown.alloc _).alloc _) hgrow (by omega) (by simp; omega); clear hgrow hat))
        go_roundw
        case rel =>
          first
            | exact ⟨k + 1, by omega, by go_num, by rw [HM.out]; simpa [ints_snoc] using hown1, HB1.out, bel1⟩
            | exact ⟨k + 1, by omega, by go_num, by rw [HM.out]; simpa using hown.alloc _, HB.out.alloc _, bl_alloc bel _⟩
        case measure => simp [intOf]; omega
    · obtain rfl : k = 1024 := by omega
      go_wp2
      go_ret
      exact ⟨_, rfl, hown.lower (by omega), bel⟩
end Go.Proofs.YthgamlklpfkkhaaDoor

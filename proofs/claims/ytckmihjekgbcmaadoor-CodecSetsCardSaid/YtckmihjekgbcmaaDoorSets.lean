/- What cpuset's Of, Range, Within and Meets and the reference's List do. -/
import Derived.Test.YtckmihjekgbcmaaDoorList
namespace Go.Proofs.YtckmihjekgbcmaaDoor
open Go.RowKit Go.WideShapes Go.ChangeShapes

def OfRel (xs : List Int) (w : World) (i : Value) (wr : World) : Prop :=
  ∃ k : Nat, k ≤ xs.length ∧ i = .int .i64 k ∧ Blk wr w.heap.size (setA (mk (xs.take k))) 33 ∧ Below w.heap.size w wr

/-- The workers from one number to another one. -/
def rng (f t : Int) : Nat := mk (((List.range 1024).map fun (n : Nat) => (n : Int)).filter fun n => f ≤ n && n ≤ t)
theorem testBit_rng (f t : Int) (m : Nat) : (rng f t).testBit m = decide (m < 1024 ∧ f ≤ m ∧ (m : Int) ≤ t) := by
  rw [rng, testBit_mk, decide_eq_decide]
  simp only [List.mem_filter, List.mem_map, List.mem_range, Bool.and_eq_true, decide_eq_true_eq]
  constructor
  · rintro ⟨h1, ⟨a, h2, h3⟩, h4⟩; exact ⟨h1, h4⟩
  · rintro ⟨h1, h2⟩; exact ⟨h1, ⟨m, h1, rfl⟩, h2⟩
theorem rng_sm (f t : Int) : Sm (rng f t) := mk_sm _

def RangeRel (f t : Int) (w : World) (i : Value) (wr : World) : Prop :=
  ∃ (n : Int) (S : Nat), max f 0 ≤ n ∧ (n ≤ max (max f 0) (min t 1023 + 1)) ∧ i = .int .i64 n ∧ (∀ m, S.testBit m = decide (max f 0 ≤ m ∧ (m : Int) < n)) ∧ Blk wr w.heap.size (setA S) 33 ∧ Below w.heap.size w wr

set_option maxRecDepth 100000 in
set_option maxHeartbeats 400000 in
theorem range_calls (f t : Int) (w : World) (hf : f ≤ 9223372036854775807) :
    Calls Tryd.prog 32 #[.int .i64 f, .int .i64 t] w fun e w' => e = .returned (.agg (setA (rng f t))) ∧ Below w.heap.size w w' := by
  go_enter Tryd.func32, Tryd.ntmps32
  go_wp2
  go_loopw [5] (fun i wr => RangeRel f t w i wr) (fun i _ => (1024 - intOf i).toNat)
  case atStart =>
    refine ⟨max f 0, 0, Int.le_refl _, by omega, rfl, fun m => ?_, ?_, bl_alloc (Below.refl _ _) _⟩
    · rw [Nat.zero_testBit, eq_comm, decide_eq_false_iff_not]; omega
    · rw [setA_zero]; exact heap_alloc_new _ _
  case round =>
    obtain ⟨n, S, h1, h2, rfl, hS, hA, bel⟩ := hrel
    have HA := Lib.hid hA
    have HS := Lib.hid hS
    clear hA hS
    by_cases hlt : n ≤ min t 1023
    · have hz := bel.size
      have h3 : n ≤ 1023 := by omega
      have h4 : 0 ≤ n := by omega
      go_wp2_with (first
        | (refine wpl_load_set (.tmp 4) rfl rfl _ rfl S HA.out ?_)
        | (go_at_call 39; refine (put_calls S n _).mono ?_; rintro e w1 ⟨rfl, hb1⟩; have HA1 := Lib.hid (HA.out.below hb1))
        | (refine wpl_store_set (.tmp 4) (.tmp 16) rfl rfl _ rfl (put S n) rfl HA1.out (setA_size S) ?_))
      go_roundw
      case rel =>
        refine ⟨n + 1, put S n, by omega, by omega, rfl, fun m => ?_, HA1.out.row _, bl_setRow (bl_step bel hb1) _ (Nat.le_refl _) _⟩
        rw [testBit_put, HS.out m, ← Bool.decide_or, decide_eq_decide]
        omega
      case measure => simp [intOf]; omega
    · have e : S = rng f t := by
        refine Nat.eq_of_testBit_eq fun m => ?_
        rw [HS.out m, testBit_rng, decide_eq_decide]
        omega
      subst e
      clear HS
      go_wp2_with (first
        | (refine wpl_load_set (.tmp 4) rfl rfl _ rfl _ HA.out ?_)
        | (refine wpl_store_set (.tmp 4) (.tmp 17) rfl rfl _ rfl _ rfl HA.out (setA_size _) ?_))
      exact bodyPost_ret (res_set rfl _ _ _ (rng f t) rfl (setRow_heap _ _ _ _ _ _ HA.out)) rfl ⟨rfl, bl_setRow bel _ (Nat.le_refl _) _⟩

def RefListRel (S : Nat) (w : World) (l n : Value) (wr : World) : Prop :=
  ∃ k : Nat, k ≤ 1024 ∧ n = .int .i64 k ∧ OwnR wr (w.heap.size + 1) 3 (eInt .i64) l (lints (mem S k)) ∧ Blk wr w.heap.size (setA S) 33 ∧ Below w.heap.size w wr

end Go.Proofs.YtckmihjekgbcmaaDoor

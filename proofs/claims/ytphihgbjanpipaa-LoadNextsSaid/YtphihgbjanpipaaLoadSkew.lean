/- What load.Skew, its reference and Next's reference do: the first of the busiest and the first of the idlest. -/
import Derived.Test.YtphihgbjanpipaaLoad
import Derived.Test.YtphihgbjanpipaaRow
namespace Go.Proofs.Ytphihgbjanpipaa
open Go.RowKit Go.Joins Go.WideShapes Go.ChangeShapes

/-- A domain's load; 0 of a number that is none's. -/
def atL (xs : List Int) (d : Int) : Int := if 0 ≤ d ∧ d < xs.length then nth xs d.toNat else 0

set_option maxHeartbeats 400000 in
theorem at_calls (A : Option Addr) (xs : List Int) (cap : Nat) (d : Int) (w : World) (hr : Reads w A (xs.map (Value.int .i64))) (hl : xs.length ≤ 9223372036854775807) :
    Calls Try.prog 23 #[.slice A xs.length cap, .int .i64 d] w fun e w' => e = .returned (.int .i64 (atL xs d)) ∧ w = w' := by
  by_cases h0 : 0 ≤ d
  · by_cases h1 : d < xs.length
    · obtain ⟨n, rfl⟩ := Int.eq_ofNat_of_zero_le h0
      obtain ⟨b, off, rfl, hc⟩ := hr.at_ (by simp; omega)
      have hcell := Reads.int_at hc n (by omega)
      have hv : atL xs n = nth xs n := by unfold atL; rw [if_pos ⟨h0, h1⟩]; rfl
      have HV := Lib.hid hv
      clear hc hr hv
      go_enter Try.func23, Try.ntmps23
      go_wp2
      go_ret
      exact ⟨by rw [HV.out]; rfl, rfl⟩
    · have hv : atL xs d = 0 := by unfold atL; rw [if_neg (by omega)]
      rw [hv]
      clear hr hv
      go_enter Try.func23, Try.ntmps23
      go_wp2
      go_ret
      exact ⟨rfl, rfl⟩
  · have hv : atL xs d = 0 := by unfold atL; rw [if_neg (by omega)]
    rw [hv]
    clear hr hv
    go_enter Try.func23, Try.ntmps23
    go_wp2
    go_ret
    exact ⟨rfl, rfl⟩

/-- i is the first of those that have the most of g, among the first k (of none: the very first). -/
def IsHi (g : Nat → Int) (k i : Nat) : Prop := i < max 1 k ∧ ∀ j, j < k → g j ≤ g i ∧ (g j = g i → i ≤ j)
theorem isHi_zero (g : Nat → Int) : IsHi g 0 0 := ⟨by omega, fun j h => by omega⟩
theorem isHi_new {g : Nat → Int} {k i : Nat} (h : IsHi g k i) (hg : g i < g k) : IsHi g (k + 1) k := by
  refine ⟨by omega, fun j hj => ?_⟩
  by_cases e : j = k
  · subst e; exact ⟨by omega, fun _ => by omega⟩
  · have := h.2 j (by omega); exact ⟨by omega, fun _ => by omega⟩
theorem isHi_old {g : Nat → Int} {k i : Nat} (h : IsHi g k i) (hg : ¬ g i < g k) : IsHi g (k + 1) i := by
  have h1 := h.1
  refine ⟨by omega, fun j hj => ?_⟩
  by_cases e : j = k
  · subst e; exact ⟨by omega, fun _ => by omega⟩
  · exact h.2 j (by omega)
theorem isHi_one {g : Nat → Int} {k i j : Nat} (hk : 0 < k) (h : IsHi g k i) (h' : IsHi g k j) : i = j := by
  have h1 := h.1; have h2 := h'.1
  have a := h.2 j (by omega); have b := h'.2 i (by omega)
  have := a.2 (by omega); have := b.2 (by omega)
  omega

/-- A row's thing at a place, by the load it has. -/
def gl (xs ks : List Int) (j : Nat) : Int := atL xs (nth ks j)

/-- What Skew answers. -/
def skewR (xs ks : List Int) (i l : Nat) : Value :=
  if gl xs ks i = gl xs ks l then .tuple #[.int .i64 0, .int .i64 0, .bool false] else .tuple #[.int .i64 (nth ks i), .int .i64 (nth ks l), .bool true]

def SkewPost (xs ks : List Int) (e : Ending) : Prop :=
  (ks = [] ∧ e = .returned (.tuple #[.int .i64 0, .int .i64 0, .bool false])) ∨
    ∃ i l, 0 < ks.length ∧ IsHi (gl xs ks) ks.length i ∧ IsHi (fun j => - gl xs ks j) ks.length l ∧ e = .returned (skewR xs ks i l)

def SkewRel (xs ks : List Int) (hi lo n : Value) : Prop :=
  ∃ k i l : Nat, k ≤ ks.length ∧ n = .int .i64 k ∧ hi = .int .i64 (nth ks i) ∧ lo = .int .i64 (nth ks l) ∧ IsHi (gl xs ks) k i ∧ IsHi (fun j => - gl xs ks j) k l

theorem skewRel_step {xs ks : List Int} {k i l : Nat} {hi lo : Value} (hlt : k < ks.length) (Hi : IsHi (gl xs ks) k i) (Lo : IsHi (fun j => - gl xs ks j) k l)
    (h1 : (hi = .int .i64 (nth ks k) ∧ gl xs ks i < gl xs ks k) ∨ (hi = .int .i64 (nth ks i) ∧ gl xs ks k ≤ gl xs ks i))
    (h2 : (lo = .int .i64 (nth ks k) ∧ gl xs ks k < gl xs ks l) ∨ (lo = .int .i64 (nth ks l) ∧ gl xs ks l ≤ gl xs ks k)) : SkewRel xs ks hi lo (.int .i64 (k + 1)) := by
  rcases h1 with ⟨rfl, h1⟩ | ⟨rfl, h1⟩ <;> rcases h2 with ⟨rfl, h2⟩ | ⟨rfl, h2⟩
  · exact ⟨k + 1, k, k, hlt, by go_num, rfl, rfl, isHi_new Hi h1, isHi_new Lo (by omega)⟩
  · exact ⟨k + 1, k, l, hlt, by go_num, rfl, rfl, isHi_new Hi h1, isHi_old Lo (by omega)⟩
  · exact ⟨k + 1, i, k, hlt, by go_num, rfl, rfl, isHi_old Hi (by omega), isHi_new Lo (by omega)⟩
  · exact ⟨k + 1, i, l, hlt, by go_num, rfl, rfl, isHi_old Hi (by omega), isHi_old Lo (by omega)⟩

theorem skewPost_mk {xs ks : List Int} {i l : Nat} {v : Value} (h0 : 0 < ks.length) (Hi : IsHi (gl xs ks) ks.length i) (Lo : IsHi (fun j => - gl xs ks j) ks.length l)
    (h : v = skewR xs ks i l) : SkewPost xs ks (.returned v) := .inr ⟨i, l, h0, Hi, Lo, by rw [h]⟩

set_option maxHeartbeats 400000 in
theorem skew_calls (A B : Option Addr) (xs ks : List Int) (capA capB : Nat) (w : World) (hr : Reads w A (xs.map (Value.int .i64))) (hl : xs.length ≤ 9223372036854775807)
    (hr2 : Reads w B (ks.map (Value.int .i64))) (hl2 : ks.length ≤ 9223372036854775807) :
    Calls Try.prog 10 #[.slice A xs.length capA, .slice B ks.length capB] w fun e w' => SkewPost xs ks e ∧ ∃ n, w' = w.drewN n := by
  by_cases h0 : 0 < ks.length
  · obtain ⟨b, off, rfl, hc⟩ := hr2.at_ (by simpa using h0)
    have hc0 : w.cell? ⟨b, off, none⟩ = some (.int .i64 (nth ks 0)) := by simpa using Reads.int_at hc 0 h0
    have hb : (ks.length == 0) = false := beq_eq_false_iff_ne.2 (by omega)
    have hb' : ((ks.length : Int) == 0) = false := beq_eq_false_iff_ne.2 (by omega)
    go_enter Try.func10, Try.ntmps10
    go_wp2
    go_quiet (fail)
    go_wp2
    rename_i n0 _
    go_loop [4, 5, 20] (SkewRel xs ks) (fun _ _ i => ks.length - (intOf i).toNat)
    case atStart => exact ⟨0, 0, 0, Nat.zero_le _, rfl, rfl, rfl, isHi_zero _, isHi_zero _⟩
    case round =>
      obtain ⟨k, i, l, hk, rfl, rfl, rfl, hi, lo⟩ := hrel
      by_cases hlt : k < ks.length
      · have hcell := Reads.int_at hc k hlt
        clear hc hc0
        have Hi := Lib.hid hi
        have Lo := Lib.hid lo
        clear hi lo
        go_wp2_with (go_at_call 23; refine (at_calls _ _ _ _ _ (hr.drewN _) hl).mono ?_; rintro e w' ⟨rfl, rfl⟩)
        all_goals
          go_round
          case rel => exact skewRel_step hlt Hi.out Lo.out (by first | exact .inl ⟨rfl, ‹_›⟩ | exact .inr ⟨rfl, ‹_›⟩) (by first | exact .inl ⟨rfl, ‹_›⟩ | exact .inr ⟨rfl, ‹_›⟩)
          case measure => simp [intOf]; omega
      · obtain rfl : k = ks.length := by omega
        have Hi := Lib.hid hi
        have Lo := Lib.hid lo
        clear hi lo hc hc0
        go_wp2_with (go_at_call 23; refine (at_calls _ _ _ _ _ (hr.drewN _) hl).mono ?_; rintro e w' ⟨rfl, rfl⟩)
        all_goals
          go_ret3
          refine ⟨skewPost_mk h0 Hi.out Lo.out ?_, _, rfl⟩
          unfold skewR gl
          first
            | (rw [if_pos (eq_of_beq (by assumption))]; rfl)
            | (rw [if_neg (ne_of_beq_false (by assumption))]; rfl)
  · have hb : (ks.length == 0) = true := beq_iff_eq.2 (by omega)
    have hb' : ((ks.length : Int) == 0) = true := beq_iff_eq.2 (by omega)
    have hk : ks = [] := List.length_eq_zero_iff.1 (by omega)
    have HK := Lib.hid hk
    clear hk h0 hr2
    go_enter Try.func10, Try.ntmps10
    go_wp2
    go_ret3
    exact ⟨.inl ⟨HK.out, rfl⟩, 0, rfl⟩
end Go.Proofs.Ytphihgbjanpipaa

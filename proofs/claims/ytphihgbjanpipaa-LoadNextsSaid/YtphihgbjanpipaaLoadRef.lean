/- What the reference of package load does where it only computes and reads: cut, Next, At, Skew. -/
import Derived.Test.YtphihgbjanpipaaLoadSkew
namespace Go.Proofs.Ytphihgbjanpipaa
open Go.RowKit Go.Joins Go.WideShapes Go.ChangeShapes

theorem cut_calls (n most : Int) (w : World) (h : 0 ≤ most) :
    Calls Try.prog 24 #[.int .i64 n, .int .i64 most] w fun e w' => e = .returned (.int .i64 (wth n most)) ∧ w = w' := by
  go_enter Try.func24, Try.ntmps24
  go_wp2
  all_goals
    go_ret
    exact ⟨congrArg (fun x => Ending.returned (.int .i64 x)) (by unfold wth; omega), rfl⟩

theorem refNext_calls (old now : Int) (w : World) :
    Calls Try.prog 12 #[.int .i64 old, .int .i64 now] w fun e w' => e = .returned (.int .i64 (nxt old now)) ∧ w = w' := by
  have h1 := wth_bd old 1048576 (by omega)
  have h2 := wth_bd now 16384 (by omega)
  have h5 : wth (wth old 1048576 - wth old 1048576 / 4 + 64 * wth now 16384) 1048576 = nxt old now := by unfold nxt wth; omega
  have H5 := Lib.hid h5
  clear h5
  obtain ⟨h1, h3⟩ := h1
  obtain ⟨h2, h4⟩ := h2
  go_enter Try.func12, Try.ntmps12
  go_wp2_with (go_at_call 24; refine (cut_calls _ _ _ (by omega)).mono ?_; rintro e w' ⟨rfl, rfl⟩)
  go_ret
  exact ⟨by rw [← H5.out]; rfl, rfl⟩

set_option maxHeartbeats 400000 in
theorem refAt_calls (A : Option Addr) (xs : List Int) (cap : Nat) (d : Int) (w : World) (hr : Reads w A (xs.map (Value.int .i64))) (hl : xs.length ≤ 9223372036854775807) :
    Calls Try.prog 21 #[.slice A xs.length cap, .int .i64 d] w fun e w' => e = .returned (.int .i64 (atL xs d)) ∧ w = w' := by
  by_cases h0 : 0 ≤ d
  · by_cases h1 : d < xs.length
    · obtain ⟨n, rfl⟩ := Int.eq_ofNat_of_zero_le h0
      obtain ⟨b, off, rfl, hc⟩ := hr.at_ (by simp; omega)
      have hcell := Reads.int_at hc n (by omega)
      have hv : atL xs n = nth xs n := by unfold atL; rw [if_pos ⟨h0, h1⟩]; rfl
      have HV := Lib.hid hv
      clear hc hr hv
      go_enter Try.func21, Try.ntmps21
      go_wp2
      go_ret
      exact ⟨by rw [HV.out]; rfl, rfl⟩
    · have hv : atL xs d = 0 := by unfold atL; rw [if_neg (by omega)]
      rw [hv]
      clear hr hv
      go_enter Try.func21, Try.ntmps21
      go_wp2
      go_ret
      exact ⟨rfl, rfl⟩
  · have hv : atL xs d = 0 := by unfold atL; rw [if_neg (by omega)]
    rw [hv]
    clear hr hv
    go_enter Try.func21, Try.ntmps21
    go_wp2
    go_ret
    exact ⟨rfl, rfl⟩

/-- Is no one of the first m ahead of number i: more, or as much and earlier? -/
def mostB (g : Nat → Int) (i : Nat) : Nat → Bool
  | 0 => true
  | m + 1 => mostB g i m && !(decide (g i < g m) || (decide (g m = g i) && decide (m < i)))
theorem mostB_iff (g : Nat → Int) (i m : Nat) : mostB g i m = true ↔ ∀ j, j < m → g j ≤ g i ∧ (g j = g i → i ≤ j) := by
  induction m with
  | zero => simp [mostB]
  | succ m ih =>
    simp only [mostB, Bool.and_eq_true, ih, Bool.not_eq_true', Bool.or_eq_false_iff, Bool.and_eq_false_iff, decide_eq_false_iff_not]
    constructor
    · rintro ⟨h, h1, h2⟩ j hj
      by_cases e : j = m
      · subst e; exact ⟨by omega, fun q => by omega⟩
      · exact h j (by omega)
    · intro h
      have hm := h m (by omega)
      exact ⟨fun j hj => h j (by omega), by omega, by by_cases e : g m = g i <;> omega⟩
theorem isHi_of_most {g : Nat → Int} {i n : Nat} (hi : i < n) (h : mostB g i n = true) : IsHi g n i := ⟨by omega, (mostB_iff g i n).1 h⟩
theorem exists_isHi (g : Nat → Int) : ∀ n, ∃ i, IsHi g n i
  | 0 => ⟨0, isHi_zero g⟩
  | n + 1 => by
    obtain ⟨i, h⟩ := exists_isHi g n
    by_cases hg : g i < g n
    · exact ⟨n, isHi_new h hg⟩
    · exact ⟨i, isHi_old h hg⟩

/-- What the outer loop holds in hi (or lo) after k rounds. -/
def Found (g : Nat → Int) (n k : Nat) (h : Int) : Prop := (h = -1 ∧ ∀ i, i < k → mostB g i n = false) ∨ ∃ i : Nat, i < k ∧ h = i ∧ mostB g i n = true
theorem Found.keep {g : Nat → Int} {n k : Nat} {h : Int} (f : Found g n k h) (hm : mostB g k n = false) : Found g n (k + 1) h := by
  rcases f with ⟨e, f⟩ | ⟨i, hi, e, f⟩
  · exact .inl ⟨e, fun i hi => by by_cases q : i = k; (· subst q; exact hm); exact f i (by omega)⟩
  · exact .inr ⟨i, by omega, e, f⟩
theorem Found.new {g : Nat → Int} {n k : Nat} (hm : mostB g k n = true) : Found g n (k + 1) k := .inr ⟨k, by omega, rfl, hm⟩
theorem Found.end_ {g : Nat → Int} {n : Nat} {h : Int} (f : Found g n n h) (hn : 0 < n) : ∃ i : Nat, i < n ∧ h = i ∧ IsHi g n i := by
  rcases f with ⟨_, f⟩ | ⟨i, hi, e, f⟩
  · obtain ⟨i, h1⟩ := exists_isHi g n
    have hi : i < n := by have := h1.1; omega
    have := f i hi
    rw [(mostB_iff g i n).2 h1.2] at this
    cases this
  · exact ⟨i, hi, e, isHi_of_most hi f⟩

def RefRel (xs ks : List Int) (hi lo n : Value) : Prop :=
  ∃ (k : Nat) (h l : Int), k ≤ ks.length ∧ n = .int .i64 k ∧ hi = .int .i64 h ∧ lo = .int .i64 l ∧ Found (gl xs ks) ks.length k h ∧ Found (fun j => - gl xs ks j) ks.length k l

/-- One step of the inner loop. -/
theorem most_same {g : Nat → Int} {i m : Nat} (h : ¬ g i < g m) (h2 : ¬ (g m = g i ∧ m < i)) : mostB g i (m + 1) = mostB g i m := by
  by_cases e : g m = g i <;> simp [mostB, h] <;> intro _ <;> omega
theorem most_no {g : Nat → Int} {i m : Nat} (h : g i < g m ∨ (g m = g i ∧ m < i)) : mostB g i (m + 1) = false := by
  rcases h with h | ⟨h, h2⟩ <;> simp [mostB, *]

set_option maxRecDepth 100000 in
set_option maxHeartbeats 1000000 in
theorem refSkew_calls (A B : Option Addr) (xs ks : List Int) (capA capB : Nat) (w : World) (hr : Reads w A (xs.map (Value.int .i64))) (hl : xs.length ≤ 9223372036854775807)
    (hr2 : Reads w B (ks.map (Value.int .i64))) (hl2 : ks.length ≤ 9223372036854775807) :
    Calls Try.prog 11 #[.slice A xs.length capA, .slice B ks.length capB] w fun e w' => SkewPost xs ks e ∧ ∃ n, w' = w.drewN n := by
  go_enter Try.func11, Try.ntmps11
  go_wp2
  go_loop [7, 8, 17] (RefRel xs ks) (fun _ _ i => ks.length - (intOf i).toNat)
  case atStart => exact ⟨0, -1, -1, Nat.zero_le _, rfl, rfl, rfl, .inl ⟨rfl, fun i h => by omega⟩, .inl ⟨rfl, fun i h => by omega⟩⟩
  case round =>
    obtain ⟨k, h, l, hk, rfl, rfl, rfl, fh, fl⟩ := hrel
    have FH := Lib.hid fh
    have FL := Lib.hid fl
    clear fh fl
    by_cases hlt : k < ks.length
    · obtain ⟨b, off, rfl, hc⟩ := hr2.at_ (by simp; omega)
      have hcell := Reads.int_at hc k hlt
      have HC := Lib.hid hc
      clear hc
      go_wp2
      go_loop [11, 12, 24] (fun m n j => ∃ q : Nat, q ≤ ks.length ∧ j = .int .i64 q ∧ m = .bool (mostB (gl xs ks) k q) ∧ n = .bool (mostB (fun j => - gl xs ks j) k q)) (fun _ _ i => ks.length - (intOf i).toNat)
      case atStart => exact ⟨0, Nat.zero_le _, rfl, rfl, rfl⟩
      case round =>
        obtain ⟨q, hq, rfl, rfl, rfl⟩ := hrel
        by_cases hlt2 : q < ks.length
        · have hcell2 := Reads.int_at HC.out q hlt2
          obtain ⟨p, hp⟩ : ∃ p, p = mostB (gl xs ks) k q := ⟨_, rfl⟩
          obtain ⟨p2, hp2⟩ : ∃ p, p = mostB (fun j => - gl xs ks j) k q := ⟨_, rfl⟩
          rw [← hp, ← hp2]
          have HP := Lib.hid hp
          have HP2 := Lib.hid hp2
          clear hp hp2
          rcases Int.lt_trichotomy (atL xs (nth ks k)) (atL xs (nth ks q)) with HX | HX | HX
          · have d1 : decide (atL xs (nth ks k) < atL xs (nth ks q)) = true := decide_eq_true (by omega)
            have d2 : decide (atL xs (nth ks q) < atL xs (nth ks k)) = false := decide_eq_false (by omega)
            have d3 : (atL xs (nth ks q) == atL xs (nth ks k)) = false := by first | exact beq_iff_eq.2 (by omega) | exact beq_eq_false_iff_ne.2 (by omega)
            have HS := Lib.hid (most_no (by simp only [gl]; omega) : mostB (gl xs ks) k (q + 1) = false)
            have HT := Lib.hid (most_same (g := fun j => - gl xs ks j) (i := k) (m := q) (by simp only [gl]; omega) (by simp only [gl]; omega))
            clear HX
            go_wp2_with (go_at_call 21; refine (refAt_calls _ _ _ _ _ hr hl).mono ?_; rintro e w' ⟨rfl, rfl⟩)
            go_round
            case rel => exact ⟨q + 1, by omega, by go_num, by rw [HS.out], by rw [HT.out, HP2.out]⟩
            case measure => simp [intOf]; omega
          · by_cases c3 : q < k
            · have d1 : decide (atL xs (nth ks k) < atL xs (nth ks q)) = false := decide_eq_false (by omega)
              have d2 : decide (atL xs (nth ks q) < atL xs (nth ks k)) = false := decide_eq_false (by omega)
              have d3 : (atL xs (nth ks q) == atL xs (nth ks k)) = true := by first | exact beq_iff_eq.2 (by omega) | exact beq_eq_false_iff_ne.2 (by omega)
              have HS := Lib.hid (most_no (by simp only [gl]; omega) : mostB (gl xs ks) k (q + 1) = false)
              have HT := Lib.hid (most_no (by simp only [gl]; omega) : mostB (fun j => - gl xs ks j) k (q + 1) = false)
              clear HX
              go_wp2_with (go_at_call 21; refine (refAt_calls _ _ _ _ _ hr hl).mono ?_; rintro e w' ⟨rfl, rfl⟩)
              go_round
              case rel => exact ⟨q + 1, by omega, by go_num, by rw [HS.out], by rw [HT.out]⟩
              case measure => simp [intOf]; omega
            · have d1 : decide (atL xs (nth ks k) < atL xs (nth ks q)) = false := decide_eq_false (by omega)
              have d2 : decide (atL xs (nth ks q) < atL xs (nth ks k)) = false := decide_eq_false (by omega)
              have d3 : (atL xs (nth ks q) == atL xs (nth ks k)) = true := by first | exact beq_iff_eq.2 (by omega) | exact beq_eq_false_iff_ne.2 (by omega)
              have HS := Lib.hid (most_same (g := gl xs ks) (i := k) (m := q) (by simp only [gl]; omega) (by simp only [gl]; omega))
              have HT := Lib.hid (most_same (g := fun j => - gl xs ks j) (i := k) (m := q) (by simp only [gl]; omega) (by simp only [gl]; omega))
              clear HX
              go_wp2_with (go_at_call 21; refine (refAt_calls _ _ _ _ _ hr hl).mono ?_; rintro e w' ⟨rfl, rfl⟩)
              go_round
              case rel => exact ⟨q + 1, by omega, by go_num, by rw [HS.out, HP.out], by rw [HT.out, HP2.out]⟩
              case measure => simp [intOf]; omega
          · have d1 : decide (atL xs (nth ks k) < atL xs (nth ks q)) = false := decide_eq_false (by omega)
            have d2 : decide (atL xs (nth ks q) < atL xs (nth ks k)) = true := decide_eq_true (by omega)
            have d3 : (atL xs (nth ks q) == atL xs (nth ks k)) = false := by first | exact beq_iff_eq.2 (by omega) | exact beq_eq_false_iff_ne.2 (by omega)
            have HS := Lib.hid (most_same (g := gl xs ks) (i := k) (m := q) (by simp only [gl]; omega) (by simp only [gl]; omega))
            have HT := Lib.hid (most_no (by simp only [gl]; omega) : mostB (fun j => - gl xs ks j) k (q + 1) = false)
            clear HX
            go_wp2_with (go_at_call 21; refine (refAt_calls _ _ _ _ _ hr hl).mono ?_; rintro e w' ⟨rfl, rfl⟩)
            go_round
            case rel => exact ⟨q + 1, by omega, by go_num, by rw [HS.out, HP.out], by rw [HT.out]⟩
            case measure => simp [intOf]; omega
        · obtain rfl : q = ks.length := by omega
          cases hp : mostB (gl xs ks) k ks.length
          all_goals cases hp2 : mostB (fun j => - gl xs ks j) k ks.length
          all_goals
            have HP := Lib.hid hp
            have HP2 := Lib.hid hp2
            clear hp hp2
            go_wp2
            go_round
            case rel => exact ⟨k + 1, _, _, by omega, by go_num, rfl, rfl, by first | exact FH.out.keep HP.out | exact Found.new HP.out, by first | exact FL.out.keep HP2.out | exact Found.new HP2.out⟩
            case measure => simp [intOf]; omega
    · obtain rfl : k = ks.length := by omega
      by_cases h0 : 0 < ks.length
      · obtain ⟨b, off, rfl, hc⟩ := hr2.at_ (by simpa using h0)
        obtain ⟨i, hi, rfl, Hi⟩ := FH.out.end_ h0
        obtain ⟨j, hj, rfl, Hj⟩ := FL.out.end_ h0
        have hci := Reads.int_at hc i hi
        have hcj := Reads.int_at hc j hj
        clear hc hr2
        have Hi' := Lib.hid Hi
        have Hj' := Lib.hid Hj
        clear Hi Hj
        have d0 : decide ((i : Int) < 0) = false := decide_eq_false (by omega)
        by_cases c : atL xs (nth ks i) = atL xs (nth ks j)
        · have C : Hid (gl xs ks i = gl xs ks j) := Lib.hid c
          have c' : (atL xs (nth ks i) == atL xs (nth ks j)) = true := beq_iff_eq.2 c
          clear c
          go_wp2
          go_quiet ((go_at_call 21; exact quiet_same (refAt_calls _ _ _ _ _ (hr.drewN _) hl)))
          go_wp2
          go_ret3
          exact ⟨skewPost_mk h0 Hi'.out Hj'.out (by unfold skewR; rw [if_pos C.out]; rfl), _, rfl⟩
        · have C : Hid (¬ gl xs ks i = gl xs ks j) := Lib.hid c
          have c' : (atL xs (nth ks i) == atL xs (nth ks j)) = false := beq_eq_false_iff_ne.2 c
          clear c
          go_wp2
          go_quiet ((go_at_call 21; exact quiet_same (refAt_calls _ _ _ _ _ (hr.drewN _) hl)))
          go_wp2
          go_quiet (fail)
          go_wp2
          go_ret3
          exact ⟨skewPost_mk h0 Hi'.out Hj'.out (by unfold skewR; rw [if_neg C.out]; rfl), by rw [World.drewN_drewN]; exact ⟨_, rfl⟩⟩
      · have hk0 : ks = [] := List.length_eq_zero_iff.1 (by omega)
        have hh : h = -1 := by
          rcases FH.out with ⟨e, _⟩ | ⟨i, hi, _⟩
          · exact e
          · omega
        subst hh
        have HK := Lib.hid hk0
        clear hk0 hr2 FH FL
        go_wp2
        go_quiet (fail)
        go_wp2
        go_ret3
        exact ⟨.inl ⟨HK.out, rfl⟩, _, rfl⟩
end Go.Proofs.Ytphihgbjanpipaa

/- A set's bytes, read: plain laws. -/
import Derived.Test.YtckmihjekgbcmaaDoorCodePutSet
import Derived.Test.YtckmihjekgbcmaaDoorOpenBytes
namespace Go.Proofs.YtckmihjekgbcmaaDoor
open Go.RowKit Go.WideShapes Go.ChangeShapes

/-! ### what is read stands so -/
theorem gi_canon : ∀ {cs : List UInt8} {i u r k : Nat}, gi cs i u = some (r, k) → ∃ x, r = u + x * 2 ^ (7 * i) ∧ vb x = cs.take (k - i) ∧ (x ≠ 0 ∨ i = 0)
  | [], i, u, r, k, h => by simp [gi] at h
  | c :: cs, i, u, r, k, h => by
    have hc : c.toNat < 256 := UInt8.toNat_lt c
    have hcc : UInt8.ofNat c.toNat = c := by simp
    rw [gi] at h
    split at h
    · have hk := gi_len h
      obtain ⟨x, h1, h2, h3⟩ := gi_canon h
      have hx : x ≠ 0 := by rcases h3 with h3 | h3; exact h3; omega
      refine ⟨c.toNat % 128 + 128 * x, ?_, ?_, .inl (by omega)⟩
      · rw [h1, show 7 * (i + 1) = 7 * i + 7 by omega, Nat.pow_add, Nat.add_assoc, Nat.add_mul]
        congr 2
        rw [show (2 : Nat) ^ 7 = 128 from rfl, Nat.mul_comm 128 x, Nat.mul_assoc, Nat.mul_comm 128 (2 ^ (7 * i))]
      · rw [vb_high (by omega), show (c.toNat % 128 + 128 * x) % 128 + 128 = c.toNat by omega, show (c.toNat % 128 + 128 * x) / 128 = x by omega, hcc, h2, show k - i = (k - (i + 1)) + 1 by omega, List.take_succ_cons]
    · split at h
      · cases h
      · rename_i h4 h5
        injection h with h; injection h with h1 h2
        refine ⟨c.toNat, h1.symm, ?_, by omega⟩
        rw [vb_low (by omega), hcc, ← h2, Nat.add_sub_cancel_left]; rfl
theorem getAt_canon {l : List UInt8} {p u m : Nat} (h : getAt l p = some (u, m)) : vb u = (l.drop p).take m := by
  have hl := getAt_len h
  obtain ⟨x, h1, h2, _⟩ := gi_canon h
  have : x = u := by simp at h1; omega
  rw [← this, h2, List.take_take, Nat.sub_zero, Nat.min_eq_left (by omega)]
theorem getAt_vbr {u : Nat} (h : u < 2 ^ 64) (l r : List UInt8) : getAt (l ++ (vb u ++ r)) l.length = some (u, (vb u).length) := by
  unfold getAt
  rw [List.drop_left]
  have := gi_vb u 0 0 r (by omega) (by simpa using h) (.inr rfl)
  simpa using this

/-! ### rows of neighbours -/
theorem nextFrom_is {S m : Nat} : ∀ {f n : Nat}, n ≤ m → m < n + f → S.testBit m = true → (∀ j, n ≤ j → j < m → S.testBit j = false) → nextFrom S f n = some m
  | 0, n, h1, h2, _, _ => by omega
  | f + 1, n, h1, h2, h3, h4 => by
    rw [nextFrom]
    by_cases e : n = m
    · subst e; rw [if_pos h3]
    · rw [if_neg (by rw [h4 n (Nat.le_refl _) (by omega)]; simp)]
      exact nextFrom_is (by omega) (by omega) h3 fun j hj => h4 j (by omega)
theorem nextFrom_isnone {S : Nat} : ∀ {f n : Nat}, (∀ j, n ≤ j → S.testBit j = false) → nextFrom S f n = none
  | 0, _, _ => rfl
  | f + 1, n, h => by
    rw [nextFrom, if_neg (by rw [h n (Nat.le_refl _)]; simp)]
    exact nextFrom_isnone fun j hj => h j (by omega)
theorem runFrom_is {S m : Nat} : ∀ {r f : Nat}, r < f → (∀ j, m ≤ j → j < m + r → S.testBit j = true) → S.testBit (m + r) = false → runFrom S f m = r
  | _, 0, h, _, _ => by omega
  | 0, f + 1, _, _, h2 => by rw [runFrom, if_neg (by simpa using h2)]
  | r + 1, f + 1, h, h1, h2 => by
    rw [runFrom, if_pos (h1 m (Nat.le_refl _) (by omega)), runFrom_is (r := r) (by omega) (fun j a b => h1 j (by omega) (by omega)) (by rw [show m + 1 + r = m + (r + 1) by omega]; exact h2)]
theorem run_true {S m : Nat} : ∀ {f j : Nat}, m ≤ j → j < m + runFrom S f m → S.testBit j = true := by
  intro f
  induction f generalizing m with
  | zero => intro j h1 h2; simp [runFrom] at h2; omega
  | succ f ih =>
    intro j h1 h2
    rw [runFrom] at h2
    split at h2
    · by_cases e : j = m
      · subst e; assumption
      · exact ih (m := m + 1) (by omega) (by omega)
    · omega
theorem run_false {S m : Nat} (hS : Sm S) (hm : m ≤ 1024) : S.testBit (m + runFrom S 1025 m) = false := by
  have key : ∀ (f m : Nat), m < 1025 → 1025 ≤ m + f → S.testBit (m + runFrom S f m) = false := by
    intro f
    induction f with
    | zero => intro m h1 h2; omega
    | succ f ih =>
      intro m h1 h2
      rw [runFrom]
      split
      · rename_i hb
        have hm' : m < 1024 := by
          rcases Nat.lt_or_ge m 1024 with g | g
          · exact g
          · have := hS m g; simp_all
        have := ih (m + 1) (by omega) (by omega)
        rwa [show m + 1 + runFrom S f (m + 1) = m + (runFrom S f (m + 1) + 1) by omega] at this
      · rename_i hb; simpa using hb
  exact key 1025 m (by omega) (by omega)

/-! ### reading a set -/
def readRows (l : List UInt8) : Nat → Nat → Nat → Nat → Option (Nat × Nat)
  | 0, p, _, S => some (S, p)
  | c + 1, p, f, S => match getAt l p with
    | none => none
    | some (u1, m1) => match getAt l (p + m1) with
      | none => none
      | some (u2, m2) => if zag u1 < 0 ∨ zag u2 < 0 ∨ 1024 - (f : Int) ≤ zag u1 ∨ 1024 - (f : Int) - zag u1 ≤ zag u2 then none
          else readRows l c (p + m1 + m2) (min (f + (zag u1).toNat + (zag u2).toNat + 2) 1024) (S ||| rng ((f : Int) + zag u1) ((f : Int) + zag u1 + zag u2))
def setAt (l : List UInt8) (p : Nat) : Option (Nat × Nat) := match getAt l p with
  | none => none
  | some (u, m) => if zag u < 0 ∨ 1024 < zag u then none else readRows l (zag u).toNat (p + m) 0 0

theorem rng_bit {a b j : Nat} (h : b < 1024) : (rng (a : Int) (b : Int)).testBit j = decide (a ≤ j ∧ j ≤ b) := by
  rw [testBit_rng, decide_eq_decide]; omega
theorem readRows_sm {l : List UInt8} : ∀ {c p f S Y e : Nat}, Sm S → readRows l c p f S = some (Y, e) → Sm Y
  | 0, p, f, S, Y, e, hS, h => by injection h with h; injection h with h1 h2; subst h1; exact hS
  | c + 1, p, f, S, Y, e, hS, h => by
    rw [readRows] at h
    split at h
    · cases h
    · split at h
      · cases h
      · split at h
        · cases h
        · exact readRows_sm (or_sm hS (rng_sm _ _)) h
/-- What is read is written so. -/
theorem readRows_back {l : List UInt8} : ∀ {c p f S Y e : Nat}, readRows l c p f S = some (Y, e) → p ≤ l.length → f ≤ 1024 →
    ∃ V : Nat, Y = S ||| V ∧ (∀ j, V.testBit j = true → f ≤ j ∧ j < 1024) ∧ p ≤ e ∧ e ≤ l.length ∧
      ∀ (X n q fuel : Nat), Sm X → (∀ j, n ≤ j → X.testBit j = V.testBit j) → (q = f ∨ (1024 ≤ q ∧ f = 1024)) → n ≤ q → q ≤ n + 1 → 1025 ≤ fuel + n →
        (rowsFrom X fuel n q).length = 2 * c ∧ vbs (rowsFrom X fuel n q) = (l.drop p).take (e - p)
  | 0, p, f, S, Y, e, h, hp, hf => by
    injection h with h; injection h with h1 h2
    subst h1 h2
    refine ⟨0, by simp, fun j hj => by simp at hj, Nat.le_refl _, hp, fun X n q fuel hX hx _ _ _ _ => ?_⟩
    rw [rows_end (nextFrom_isnone fun j hj => by rw [hx j hj]; simp), Nat.sub_self, List.take_zero]
    exact ⟨rfl, rfl⟩
  | c + 1, p, f, S, Y, e, h, hp, hf => by
    rw [readRows] at h
    split at h
    · cases h
    · rename_i u1 m1 hg1
      split at h
      · cases h
      · rename_i u2 m2 hg2
        split at h
        · cases h
        · rename_i hz
          obtain ⟨a, ha⟩ : ∃ a : Nat, zag u1 = a := ⟨(zag u1).toNat, by omega⟩
          obtain ⟨b, hb⟩ : ∃ b : Nat, zag u2 = b := ⟨(zag u2).toNat, by omega⟩
          rw [ha, hb] at hz h
          have l1 := getAt_len hg1
          have l2 := getAt_len hg2
          have c1 := getAt_canon hg1
          have c2 := getAt_canon hg2
          have z1 : zig (a : Int) = u1 := by rw [← ha]; exact zig_zag u1
          have z2 : zig (b : Int) = u2 := by rw [← hb]; exact zig_zag u2
          rw [Int.toNat_natCast, Int.toNat_natCast] at h
          obtain ⟨V, h1, h2, h3, h4, h5⟩ := readRows_back h (by omega) (by omega)
          have hr : ∀ j, (rng ((f : Int) + (a : Int)) ((f : Int) + (a : Int) + (b : Int))).testBit j = decide (f + a ≤ j ∧ j ≤ f + a + b) := fun j => by
            rw [show (f : Int) + (a : Int) = ((f + a : Nat) : Int) by omega, show ((f + a : Nat) : Int) + (b : Int) = ((f + a + b : Nat) : Int) by omega]
            exact rng_bit (by omega)
          refine ⟨rng ((f : Int) + (a : Int)) ((f : Int) + (a : Int) + (b : Int)) ||| V, by rw [h1, Nat.or_assoc], ?_, by omega, h4, ?_⟩
          · intro j hj
            rw [Nat.testBit_or, Bool.or_eq_true, hr, decide_eq_true_eq] at hj
            rcases hj with hj | hj
            · omega
            · have := h2 j hj; omega
          · intro X n q fuel hX hx hq hnq hqn hfu
            obtain rfl : q = f := by omega
            have hx' : ∀ j, n ≤ j → X.testBit j = (decide (q + a ≤ j ∧ j ≤ q + a + b) || V.testBit j) := fun j hj => by rw [hx j hj, Nat.testBit_or, hr]
            have hV : ∀ j, j < min (q + a + b + 2) 1024 → V.testBit j = false := fun j hj => by
              cases hv : V.testBit j with
              | false => rfl
              | true => have := h2 j hv; omega
            have hn : nextFrom X 1025 n = some (q + a) := nextFrom_is (by omega) (by omega) (by rw [hx' _ (by omega)]; simp) fun j j1 j2 => by
              rw [hx' j j1, hV j (by omega), decide_eq_false (by omega)]; rfl
            have hru : runFrom X 1025 (q + a) = b + 1 := runFrom_is (by omega) (fun j j1 j2 => by rw [hx' j (by omega), decide_eq_true (by omega)]; rfl) (by
              rcases Nat.lt_or_ge (q + a + (b + 1)) 1024 with g | g
              · rw [hx' _ (by omega), hV _ (by omega), decide_eq_false (by omega)]; rfl
              · exact hX _ g)
            obtain ⟨hf1, hf2⟩ := rows_go (p := q) hX hn hfu
            rw [hru] at hf1 hf2
            obtain ⟨e1, e2⟩ := h5 X (q + a + (b + 1)) (q + a + (b + 1) + 1) (fuel - 1) hX (fun j hj => by rw [hx' j (by omega), decide_eq_false (by omega)]; rfl) (by omega) (by omega) (by omega) hf1
            rw [hf2]
            refine ⟨by simp only [List.length_cons]; omega, ?_⟩
            rw [vbs_cons, vbs_cons, e2, show ((q + a : Nat) : Int) - (q : Int) = (a : Int) by omega, show ((b + 1 : Nat) : Int) - 1 = (b : Int) by omega, z1, z2, c1, c2]
            rw [show e - p = m1 + (m2 + (e - (p + m1 + m2))) by omega, List.take_add, List.take_add, List.drop_drop, List.drop_drop]
theorem setAt_back {l : List UInt8} {Y e : Nat} (h : setAt l 0 = some (Y, e)) : e ≤ l.length ∧ setB Y = l.take e ∧ Sm Y := by
  unfold setAt at h
  split at h
  · cases h
  · rename_i u m hg
    split at h
    · cases h
    · rename_i hz
      obtain ⟨c, hc⟩ : ∃ c : Nat, zag u = c := ⟨(zag u).toNat, by omega⟩
      have hl := getAt_len hg
      have hcan := getAt_canon hg
      have z : zig (c : Int) = u := by rw [← hc]; exact zig_zag u
      rw [hc, Int.toNat_natCast] at h
      have hsm := readRows_sm (S := 0) (fun k hk => by simp) h
      obtain ⟨V, h1, h2, h3, h4, h5⟩ := readRows_back h (by omega) (by omega)
      rw [Nat.zero_or] at h1
      subst h1
      obtain ⟨e1, e2⟩ := h5 Y 0 0 1025 hsm (fun j _ => rfl) (.inl rfl) (by omega) (by omega) (by omega)
      refine ⟨h4, ?_, hsm⟩
      unfold setB rowsL
      rw [e1, show 2 * c / 2 = c by omega, z, hcan, e2, List.drop_zero, Nat.zero_add]
      conv => rhs; rw [show e = m + (e - m) by omega, List.take_add]
theorem zig_I64_lt {n : Int} (h : -1 ≤ n ∧ n ≤ 1024) : zig n < 2 ^ 64 := zig_lt (by omega)
/-- What was written is read. -/
theorem readRows_fwd {S : Nat} (hS : Sm S) : ∀ (fuel n q T : Nat) (l : List UInt8), n ≤ q → q ≤ n + 1 → (∀ j, n ≤ j → j < q → S.testBit j = false) → 1025 ≤ fuel + n →
    ∃ X, readRows (l ++ vbs (rowsFrom S fuel n q)) ((rowsFrom S fuel n q).length / 2) l.length (min q 1024) T = some (X, (l ++ vbs (rowsFrom S fuel n q)).length) ∧ ∀ j, X.testBit j = (T.testBit j || (decide (n ≤ j) && S.testBit j))
  | 0, n, q, T, l, h1, h2, h3, h4 => by
    refine ⟨T, by simp [rowsFrom, readRows, vbs], fun j => ?_⟩
    by_cases hj : n ≤ j
    · rw [hS j (by omega)]; simp
    · simp [hj]
  | fuel + 1, n, q, T, l, h1, h2, h3, h4 => by
    cases hn : nextFrom S 1025 n with
    | none =>
      refine ⟨T, by simp [rows_end hn, readRows, vbs], fun j => ?_⟩
      by_cases hj : n ≤ j
      · rw [noNext_of hS hn j (by omega)]; simp
      · simp [hj]
    | some m =>
      obtain ⟨g1, g2, g3⟩ := next_lt hS hn
      obtain ⟨_, _, _, g4⟩ := nextFrom_some hn
      have hra := run_at hS g3
      have hrl := run_le hS 1025 m (by omega)
      have hrt : ∀ j, m ≤ j → j < m + runFrom S 1025 m → S.testBit j = true := fun j => run_true
      have hrf := run_false hS (m := m) (by omega)
      obtain ⟨hf1, hf2⟩ := rows_go (p := q) hS hn h4
      rw [Nat.add_sub_cancel] at hf1 hf2
      generalize runFrom S 1025 m = r at *
      have hqm : q ≤ m := by
        rcases Nat.lt_or_ge m q with g | g
        · have := h3 m g1 g; rw [this] at g3; cases g3
        · exact g
      obtain ⟨a, rfl⟩ : ∃ a, m = q + a := ⟨m - q, by omega⟩
      obtain ⟨b, rfl⟩ : ∃ b, r = b + 1 := ⟨r - 1, by omega⟩
      rw [show ((q + a : Nat) : Int) - (q : Int) = (a : Int) by omega, show ((b + 1 : Nat) : Int) - 1 = (b : Int) by omega] at hf2
      rw [hf2, vbs_cons, vbs_cons]
      obtain ⟨X, e1, e2⟩ := readRows_fwd hS fuel (q + a + (b + 1)) (q + a + (b + 1) + 1) (T ||| rng ((min q 1024 : Nat) + (a : Int)) ((min q 1024 : Nat) + (a : Int) + (b : Int))) (l ++ (vb (zig a) ++ vb (zig b))) (by omega) (by omega) (fun j j1 j2 => (show j = q + a + (b + 1) by omega) ▸ hrf) hf1
      generalize rowsFrom S fuel (q + a + (b + 1)) (q + a + (b + 1) + 1) = rest at *
      refine ⟨X, ?_, fun j => ?_⟩
      · have k1 : getAt (l ++ (vb (zig a) ++ (vb (zig b) ++ vbs rest))) l.length = some (zig a, (vb (zig a)).length) := getAt_vbr (zig_I64_lt (by omega)) l _
        have k2 : getAt (l ++ (vb (zig a) ++ (vb (zig b) ++ vbs rest))) (l.length + (vb (zig a)).length) = some (zig b, (vb (zig b)).length) := by
          have := getAt_vbr (u := zig b) (zig_I64_lt (by omega)) (l ++ vb (zig a)) (vbs rest)
          rwa [List.append_assoc, List.length_append] at this
        rw [List.append_assoc, List.append_assoc] at e1
        rw [show (((a : Int) :: (b : Int) :: rest).length) / 2 = rest.length / 2 + 1 by simp only [List.length_cons]; omega, readRows, k1]
        dsimp only
        rw [k2]
        dsimp only
        rw [zag_zig, zag_zig, if_neg (by omega), Int.toNat_natCast, Int.toNat_natCast, ← e1]
        rw [show min (q + a + (b + 1) + 1) 1024 = min (min q 1024 + a + b + 2) 1024 by omega]
        congr 1
        simp only [List.length_append]; omega
      · rw [e2, Nat.testBit_or, show ((min q 1024 : Nat) : Int) + (a : Int) = ((q + a : Nat) : Int) by omega, show ((q + a : Nat) : Int) + (b : Int) = ((q + a + b : Nat) : Int) by omega, rng_bit (by omega)]
        rcases Nat.lt_or_ge j n with j1 | j1
        · rw [decide_eq_false (p := q + a ≤ j ∧ j ≤ q + a + b) (by omega), decide_eq_false (p := q + a + (b + 1) ≤ j) (by omega), decide_eq_false (p := n ≤ j) (by omega)]; simp
        · rw [decide_eq_true (p := n ≤ j) j1]
          rcases Nat.lt_or_ge j (q + a) with j2 | j2
          · rw [g4 j j1 j2, decide_eq_false (p := q + a ≤ j ∧ j ≤ q + a + b) (by omega)]; simp
          · rcases Nat.lt_or_ge j (q + a + (b + 1)) with j3 | j3
            · rw [hrt j j2 j3, decide_eq_true (p := q + a ≤ j ∧ j ≤ q + a + b) (by omega)]; simp
            · rw [decide_eq_false (p := q + a ≤ j ∧ j ≤ q + a + b) (by omega), decide_eq_true (p := q + a + (b + 1) ≤ j) j3]; simp
theorem rowsL_even {S : Nat} (hS : Sm S) : (rowsL S).length / 2 ≤ 1024 := by
  have := rowsL_len hS; omega
theorem setAt_fwd {S : Nat} (hS : Sm S) (l : List UInt8) : setAt (l ++ setB S) l.length = some (S, (l ++ setB S).length) := by
  have hle := rowsL_even hS
  unfold setAt setB
  rw [getAt_vbr (zig_lt (by omega)) l]
  dsimp only
  rw [zag_zig, if_neg (by omega), Int.toNat_natCast]
  obtain ⟨X, e1, e2⟩ := readRows_fwd hS 1025 0 0 0 (l ++ vb (zig (((rowsL S).length / 2 : Nat) : Int))) (by omega) (by omega) (fun j _ h => by omega) (by omega)
  have hX : X = S := Nat.eq_of_testBit_eq fun j => by rw [e2]; simp
  subst hX
  rw [List.length_append, List.append_assoc] at e1
  exact e1
end Go.Proofs.YtckmihjekgbcmaaDoor

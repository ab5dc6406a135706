/- What is printed of a set is parsed rs it: plain laws. -/
import Derived.Test.YthgamlklpfkkhaaDoorParse
namespace Go.Proofs.YthgamlklpfkkhaaDoor
open Go.RowKit

abbrev isD (c : UInt8) : Prop := 48 ≤ c.toNat ∧ c.toNat ≤ 57
/-- No digit stands at the front. -/
def Stop (r : List UInt8) : Prop := ∀ c, r.head? = some c → ¬ isD c
theorem scan_append : ∀ (l r : List UInt8) (n : Nat), (∀ c ∈ l, isD c) → Stop r → scan (l ++ r) n = scan l n
  | [], r, n, _, hr => by
    cases r with
    | nil => rfl
    | cons c r =>
      show scan (c :: r) n = (n, 0)
      rw [scan]
      exact if_neg (hr c rfl)
  | c :: l, r, n, h, hr => by
    rw [List.cons_append, scan, scan, if_pos (h c (by simp)), if_pos (h c (by simp)), scan_append l r _ (fun x hx => h x (by simp [hx])) hr]
theorem scan_snoc : ∀ (l : List UInt8) (d : UInt8) (n : Nat), (∀ c ∈ l, isD c) → isD d → scan (l ++ [d]) n = (min (10 * (scan l n).1 + (d.toNat - 48)) 1024, l.length + 1)
  | [], d, n, _, hd => by simp [scan, hd.1, hd.2]
  | c :: l, d, n, h, hd => by
    rw [List.cons_append, scan, scan, if_pos (h c (by simp)), if_pos (h c (by simp)), scan_snoc l d _ (fun x hx => h x (by simp [hx])) hd]
    simp
theorem dg_isD (n : Nat) : isD (dg n) := by unfold isD; rw [dg_val]; omega
theorem dec_isD : ∀ (n : Nat), ∀ c ∈ dec n, isD c := by
  intro n
  induction n using Nat.strongRecOn with
  | _ n ih =>
    intro c hc
    by_cases h : n < 10
    · rw [dec_small h] at hc
      simp at hc
      subst hc
      exact dg_isD n
    · rw [dec_big (by omega)] at hc
      rcases List.mem_append.1 hc with hc | hc
      · exact ih (n / 10) (by omega) c hc
      · simp at hc
        subst hc
        exact dg_isD n
theorem scan_dec : ∀ (n : Nat), n < 1024 → scan (dec n) 0 = (n, (dec n).length) := by
  intro n
  induction n using Nat.strongRecOn with
  | _ n ih =>
    intro hn
    by_cases h : n < 10
    · rw [dec_small h]
      have := scan_snoc [] (dg n) 0 (by simp) (dg_isD n)
      rw [List.nil_append] at this
      rw [this]
      simp [scan, dg_val]
      omega
    · rw [dec_big (by omega), scan_snoc _ _ _ (dec_isD _) (dg_isD n), ih (n / 10) (by omega) (by omega), dg_val]
      simp
      omega
theorem dec_ne (n : Nat) : dec n ≠ [] := by
  by_cases h : n < 10
  · rw [dec_small h]; simp
  · rw [dec_big (by omega)]; simp
theorem dec_head : ∀ n, 0 < n → (dec n).head? ≠ some 48 := by
  intro n
  induction n using Nat.strongRecOn with
  | _ n ih =>
    intro hn
    by_cases h : n < 10
    · rw [dec_small h]
      simp
      intro e
      have := congrArg UInt8.toNat e
      rw [dg_val] at this
      have h48 : (48 : UInt8).toNat = 48 := rfl
      omega
    · rw [dec_big (by omega), List.head?_append]
      have := ih (n / 10) (by omega) (by omega)
      cases hd : dec (n / 10) with
      | nil => exact absurd hd (dec_ne _)
      | cons a l => rw [hd] at this; simpa using this
theorem dec_zero_len {n : Nat} (h : (dec n).head? = some 48) : (dec n).length = 1 := by
  rcases Nat.eq_zero_or_pos n with rfl | h0
  · rw [dec_small (by omega)]; rfl
  · exact absurd h (dec_head n h0)

theorem getD_pre (p r : List UInt8) (h : r ≠ []) : (p ++ r).getD p.length 0 = r.head h := by
  cases r with
  | nil => exact absurd rfl h
  | cons c r => simp
theorem isDig_pre (p r : List UInt8) : isDig (p ++ r) p.length = true ↔ ∃ c, r.head? = some c ∧ isD c := by
  rw [isDig_iff]
  constructor
  · rintro ⟨c, hc, h1, h2⟩
    refine ⟨c, ?_, h1, h2⟩
    rw [List.getElem?_append_right (Nat.le_refl _), Nat.sub_self] at hc
    rw [List.head?_eq_getElem?]; exact hc
  · rintro ⟨c, hc, h1, h2⟩
    refine ⟨c, ?_, h1, h2⟩
    rw [List.getElem?_append_right (Nat.le_refl _), Nat.sub_self, ← List.head?_eq_getElem?]; exact hc
/-- A number that stands. -/
theorem numE_dec (p r : List UInt8) (n : Nat) (hn : n < 1024) (hr : Stop r) : numE (p ++ (dec n ++ r)) p.length = (n, 0, p.length + (dec n).length) := by
  have hne := dec_ne n
  have hlen : 0 < (dec n).length := List.length_pos_iff.2 hne
  have hd : isDig (p ++ (dec n ++ r)) p.length = true := by
    rw [isDig_pre]
    cases h : dec n with
    | nil => exact absurd h hne
    | cons c l => exact ⟨c, rfl, dec_isD n c (by simp [h])⟩
  have hs : scan ((p ++ (dec n ++ r)).drop p.length) 0 = (n, (dec n).length) := by
    rw [List.drop_append_of_le_length (Nat.le_refl _), List.drop_length, List.nil_append, scan_append _ _ _ (dec_isD n) hr, scan_dec n hn]
  rw [numE, if_neg (by simp; omega), if_neg (by simp [hd]), hs]
  have h48 : ¬ ((p ++ (dec n ++ r)).getD p.length 0 = 48 ∧ 1 < (dec n).length ∨ 1024 ≤ n) := by
    rintro (⟨h1, h2⟩ | h)
    · rw [getD_pre _ _ (by simp [hne])] at h1
      have : (dec n).head? = some 48 := by
        cases hdn : dec n with
        | nil => exact absurd hdn hne
        | cons c l => simp only [hdn, List.cons_append, List.head_cons] at h1; rw [h1]; rfl
      have := dec_zero_len this
      omega
    · omega
  rw [if_neg h48]
theorem chr_pre (p r : List UInt8) (c : UInt8) (h : r.head? = some c) : chr (p ++ r) p.length = (c.toNat : Int) := by
  cases r with
  | nil => cases h
  | cons d r => simp at h; subst h; simp [chr]
theorem chr_end (l : List UInt8) (i : Nat) (h : l.length ≤ i) : chr l i = 0 := by
  unfold chr
  rw [List.getD_eq_getElem?_getD, List.getElem?_eq_none h]
  rfl

/-- What stands behind a row: nothing, or a comma. -/
def Tail (r : List UInt8) : Prop := r = [] ∨ r.head? = some 44
theorem Tail.stop {r : List UInt8} (h : Tail r) : Stop r := by
  intro c hc
  rcases h with rfl | h
  · cases hc
  · rw [h] at hc; injection hc with hc; subst hc; unfold isD; decide
theorem itemTail_ok (p r : List UInt8) (n m : Nat) (hr : Tail r) : itemTail (p ++ r) n m p.length = (n, m, 0, 0, p.length) := by
  rw [itemTail, if_neg]
  rintro ⟨h1, h2⟩
  rcases hr with rfl | h
  · simp at h1
  · rw [chr_pre p r 44 h] at h2; exact h2 rfl
theorem itemE_part {S : Nat} (hS : Sm S) (p r : List UInt8) (a : Nat) (ha : S.testBit a = true) (hr : Tail r) :
    itemE (p ++ (part S a ++ r)) p.length = (a, runEnd S a, 0, 0, p.length + (part S a).length) := by
  have ha1 : a < 1024 := by
    rcases Nat.lt_or_ge a 1024 with h | h
    · exact h
    · rw [hS a h] at ha; cases ha
  obtain ⟨e1, e2, _, _⟩ := runEnd_in hS (1024 - a) a ha (by omega)
  unfold part
  by_cases he : runEnd S a = a
  · rw [if_pos he, he]
    have hn := numE_dec p r a ha1 hr.stop
    simp only [itemE, hn]
    have h45 : ¬ (p.length + (dec a).length < (p ++ (dec a ++ r)).length ∧ chr (p ++ (dec a ++ r)) (p.length + (dec a).length) = 45) := by
      rintro ⟨h1, h2⟩
      rw [← List.append_assoc, ← List.length_append] at h2
      rcases hr with rfl | h
      · simp at h1
      · rw [chr_pre _ r 44 h] at h2; exact absurd h2 (by decide)
    rw [if_neg (by simp), if_neg h45]
    have := itemTail_ok (p ++ dec a) r a a hr
    rw [List.append_assoc, List.length_append] at this
    exact this
  · rw [if_neg he]
    have hs45 : Stop (45 :: dec (runEnd S a) ++ r) := by
      intro c hc
      simp at hc
      subst hc
      unfold isD; decide
    have e : p ++ (dec a ++ 45 :: dec (runEnd S a) ++ r) = p ++ (dec a ++ (45 :: dec (runEnd S a) ++ r)) := by simp
    have hn := numE_dec p (45 :: dec (runEnd S a) ++ r) a ha1 hs45
    have hc45 : chr (p ++ (dec a ++ (45 :: dec (runEnd S a) ++ r))) (p.length + (dec a).length) = 45 := by
      rw [← List.append_assoc, ← List.length_append]
      exact chr_pre _ _ 45 rfl
    have hn2 := numE_dec (p ++ dec a ++ [45]) r (runEnd S a) e2 hr.stop
    have e3 : p ++ dec a ++ [45] ++ (dec (runEnd S a) ++ r) = p ++ (dec a ++ (45 :: dec (runEnd S a) ++ r)) := by simp
    have el1 : (p ++ dec a ++ [45]).length = p.length + (dec a).length + 1 := by simp; omega
    rw [e3, el1] at hn2
    rw [e]
    simp only [itemE, hn]
    rw [if_neg (by simp), if_pos ⟨by simp, hc45⟩, hn2]
    simp only
    rw [if_neg (by simp), if_neg (by omega)]
    have := itemTail_ok (p ++ dec a ++ [45] ++ dec (runEnd S a)) r a (runEnd S a) hr
    have el2 : (p ++ dec a ++ [45] ++ dec (runEnd S a)).length = p.length + (dec a).length + 1 + (dec (runEnd S a)).length := by simp; omega
    rw [List.append_assoc (p ++ dec a ++ [45]), e3, el2] at this
    rw [this]
    simp
    omega

/-- The rows that are left, of a set of which T was taken. -/
inductive Rest (S : Nat) : Nat → List Nat → Prop
  | nil : Rest S S []
  | cons {T a : Nat} {rs : List Nat} : S.testBit a = true → T &&& rng a (runEnd S a) = 0 → Rest S (T ||| rng a (runEnd S a)) rs → Rest S T (a :: rs)

theorem rest_nil {S T : Nat} (h : Rest S T []) : T = S := by cases h; rfl
theorem parseE_rest {S : Nat} (hS : Sm S) : ∀ (rs : List Nat) (a T : Nat) (p : List UInt8) (f : Nat), Rest S T (a :: rs) → (Lib.join ((a :: rs).map (part S)) [44]).length + 1 ≤ f →
    parseE (p ++ Lib.join ((a :: rs).map (part S)) [44]) f p.length T = (S, 0, 0)
  | rs, a, T, p, f, h, hf => by
    obtain ⟨f, rfl⟩ : ∃ g, f = g + 1 := ⟨f - 1, by omega⟩
    cases h with
    | cons ha h0 h =>
      cases rs with
      | nil =>
        have hT := rest_nil h
        have hi := itemE_part hS p [] a ha (.inl rfl)
        rw [List.append_nil] at hi
        have hj : Lib.join (([a] : List Nat).map (part S)) [44] = part S a := Lib.join_one _ _
        rw [hj, parseE, hi]
        simp only
        rw [if_neg (by simp), if_neg (by simp [h0]), if_pos (by simp)]
        rw [hT]
      | cons b rs =>
        have hj : Lib.join ((a :: b :: rs).map (part S)) [44] = part S a ++ (44 :: Lib.join ((b :: rs).map (part S)) [44]) := by
          simp [Lib.join, List.intercalate, List.intersperse]
        rw [hj] at hf ⊢
        have hi := itemE_part hS p (44 :: Lib.join ((b :: rs).map (part S)) [44]) a ha (.inr rfl)
        rw [parseE, hi]
        simp only
        rw [if_neg (by simp), if_neg (by simp [h0]), if_neg (by simp)]
        have ih := parseE_rest hS rs b (T ||| rng a (runEnd S a)) (p ++ part S a ++ [44]) f h (by simp at hf ⊢; omega)
        have e : p ++ part S a ++ [44] ++ Lib.join ((b :: rs).map (part S)) [44] = p ++ (part S a ++ (44 :: Lib.join ((b :: rs).map (part S)) [44])) := by simp
        have el : (p ++ part S a ++ [44]).length = p.length + (part S a).length + 1 := by simp; omega
        rw [e, el] at ih
        exact ih

/-- The starts from k on. -/
def stFrom (S k : Nat) : List Nat := (List.range' k (1024 - k)).filter fun a => S.testBit a && (a == 0 || !S.testBit (a - 1))
theorem stFrom_cons {S k : Nat} (h : k < 1024) : stFrom S k = (if (S.testBit k && (k == 0 || !S.testBit (k - 1))) = true then [k] else []) ++ stFrom S (k + 1) := by
  rw [stFrom, show 1024 - k = (1024 - (k + 1)) + 1 from by omega, List.range'_succ, List.filter_cons, stFrom]
  split <;> rfl
theorem stFrom_zero (S : Nat) : stFrom S 0 = starts S 1024 := by rw [stFrom, starts, List.range_eq_range']
theorem stFrom_skip {S k : Nat} : ∀ m, k ≤ m → m ≤ 1024 → (∀ j, k ≤ j → j < m → (S.testBit j && (j == 0 || !S.testBit (j - 1))) = false) → stFrom S k = stFrom S m := by
  intro m hkm hm h
  obtain ⟨d, rfl⟩ : ∃ d, m = k + d := ⟨m - k, by omega⟩
  induction d with
  | zero => rfl
  | succ d ih =>
    rw [ih (by omega) (by omega) (fun j a b => h j a (by omega)), stFrom_cons (by omega), h (k + d) (by omega) (by omega)]
    simp [Nat.add_assoc]
theorem testBit_low (S k i : Nat) : (S % 2 ^ k).testBit i = (decide (i < k) && S.testBit i) := Nat.testBit_mod_two_pow ..
theorem low_all {S : Nat} (hS : Sm S) (K : Nat) (hK : 1024 ≤ K) : S % 2 ^ K = S := by
  refine Nat.eq_of_testBit_eq fun i => ?_
  rw [testBit_low]
  by_cases hi : i < K
  · simp [hi]
  · simp [hi, hS i (by omega)]
theorem rest_from {S : Nat} (hS : Sm S) : ∀ (d k : Nat), d = 1024 - k → k ≤ 1024 → (S.testBit k = true → k = 0 ∨ S.testBit (k - 1) = false) → Rest S (S % 2 ^ k) (stFrom S k) := by
  intro d
  induction d using Nat.strongRecOn with
  | _ d ih =>
    intro k hd hk hin
    rcases Nat.lt_or_ge k 1024 with hlt | hge
    · cases hb : S.testBit k with
      | false =>
        have e1 : stFrom S k = stFrom S (k + 1) := by rw [stFrom_cons hlt, hb]; simp
        have e2 : S % 2 ^ k = S % 2 ^ (k + 1) := by
          refine Nat.eq_of_testBit_eq fun i => ?_
          rw [testBit_low, testBit_low]
          by_cases hi : i = k
          · subst hi; simp [hb]
          · congr 1; rw [decide_eq_decide]; omega
        rw [e1, e2]
        exact ih (1024 - (k + 1)) (by omega) (k + 1) rfl (by omega) (fun _ => .inr (by simpa using hb))
      | true =>
        obtain ⟨r1, r2, r3, r4⟩ := runEnd_in hS (1024 - k) k hb (by omega)
        have hst : (S.testBit k && (k == 0 || !S.testBit (k - 1))) = true := by
          rw [hb]
          rcases hin hb with h | h
          · simp [h]
          · simp [h]
        have e1 : stFrom S k = k :: stFrom S (runEnd S k + 1) := by
          rw [stFrom_cons hlt, if_pos hst, stFrom_skip (runEnd S k + 1) (by omega) (by omega)]
          · rfl
          · intro j h1 h2
            have := r4 (j - 1) (by omega) (by omega)
            rw [this]
            simp; omega
        have hrb : ∀ i, (rng k (runEnd S k)).testBit i = decide (k ≤ i ∧ i ≤ runEnd S k) := by
          intro i
          rw [testBit_rng, decide_eq_decide]
          omega
        rw [e1]
        refine .cons hb ?_ ?_
        · refine Nat.eq_of_testBit_eq fun i => ?_
          rw [Nat.testBit_and, testBit_low, hrb, Nat.zero_testBit]
          by_cases h1 : i < k
          · simp [show ¬ k ≤ i from by omega]
          · simp [h1]
        · have e2 : S % 2 ^ k ||| rng k (runEnd S k) = S % 2 ^ (runEnd S k + 1) := by
            refine Nat.eq_of_testBit_eq fun i => ?_
            rw [Nat.testBit_or, testBit_low, hrb, testBit_low]
            by_cases h1 : i < k
            · simp [h1, show ¬ k ≤ i from by omega, show i < runEnd S k + 1 from by omega]
            · by_cases h2 : i ≤ runEnd S k
              · simp [h1, h2, show k ≤ i from by omega, show i < runEnd S k + 1 from by omega, r4 i (by omega) h2]
              · simp [h1, h2, show ¬ i < runEnd S k + 1 from by omega]
          rw [e2]
          exact ih (1024 - (runEnd S k + 1)) (by omega) (runEnd S k + 1) rfl (by omega) (fun h => by rw [r3] at h; cases h)
    · obtain rfl : k = 1024 := by omega
      have e := low_all hS 1024 (Nat.le_refl _)
      rw [e]
      exact .nil

/-- **The round trip.** -/
theorem parse_prt {S : Nat} (hS : Sm S) : parse (prt S) = (S, 0, 0) := by
  have h := rest_from hS 1024 0 rfl (by omega) (fun _ => .inl rfl)
  rw [stFrom_zero, Nat.pow_zero, Nat.mod_one] at h
  unfold prt parts
  generalize starts S 1024 = rs at *
  cases rs with
  | nil =>
    cases h
    rfl
  | cons a rs =>
    have hne : Lib.join ((a :: rs).map (part 0)) [44] ≠ [] ∨ True := .inr trivial
    have hj : Lib.join ((a :: rs).map (part S)) [44] ≠ [] := by
      have hp : part S a ≠ [] := by
        unfold part
        split
        · exact dec_ne a
        · simp
      cases rs with
      | nil => simp [Lib.join, List.intercalate, hp]
      | cons b rs => simp [Lib.join, List.intercalate, List.intersperse]
    rw [parse, if_neg hj]
    have := parseE_rest hS rs a 0 [] _ h (Nat.le_refl _)
    simpa using this
theorem prt_inj {S T : Nat} (hS : Sm S) (hT : Sm T) (h : prt S = prt T) : S = T := by
  have h1 := parse_prt hS
  rw [h, parse_prt hT] at h1
  exact (congrArg Prod.fst h1).symm
theorem parseE_sm (l : List UInt8) : ∀ (f i S : Nat), Sm S → Sm (parseE l f i S).1
  | 0, _, _, _ => sm_zero
  | f + 1, i, S, h => by
    rw [parseE]
    split
    · exact sm_zero
    · split
      · exact sm_zero
      · split
        · exact or_sm h (rng_sm _ _)
        · exact parseE_sm l f _ _ (or_sm h (rng_sm _ _))
theorem parse_sm (l : List UInt8) : Sm (parse l).1 := by
  unfold parse
  split
  · exact sm_zero
  · exact parseE_sm l _ _ _ sm_zero
theorem parseE_err (l : List UInt8) : ∀ (f i S : Nat), (parseE l f i S).2.1 ≠ 0 → (parseE l f i S).1 = 0
  | 0, _, _, h => by simp [parseE] at h
  | f + 1, i, S, h => by
    rw [parseE] at h ⊢
    split
    · rfl
    · rename_i c1
      rw [if_neg c1] at h
      split
      · rfl
      · rename_i c2
        rw [if_neg c2] at h
        split
        · rename_i c3
          rw [if_pos c3] at h
          exact absurd rfl h
        · rename_i c3
          rw [if_neg c3] at h
          exact parseE_err l f _ _ h
theorem parse_err {l : List UInt8} (h : (parse l).2.1 ≠ 0) : (parse l).1 = 0 := by
  unfold parse at h ⊢
  split
  · rfl
  · rename_i c
    rw [if_neg c] at h
    exact parseE_err l _ _ _ h
end Go.Proofs.YthgamlklpfkkhaaDoor

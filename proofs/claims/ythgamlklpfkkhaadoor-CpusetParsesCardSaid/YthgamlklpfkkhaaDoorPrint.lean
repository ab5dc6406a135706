/- What cpuset's Print and the reference's Print do: the rows of neighbours, as a text. -/
import Derived.Test.YthgamlklpfkkhaaDoorDec
import Derived.Test.YthgamlklpfkkhaaDoorSets
import Derived.Test.YthgamlklpfkkhaaDoorShelf
import Derived.Lib.Join
namespace Go.Proofs.YthgamlklpfkkhaaDoor
open Go.RowKit Go.WideShapes Go.ChangeShapes

/-- The last one of the row of neighbours that goes on from a. -/
def runE (S : Nat) : Nat → Nat → Nat
  | 0, a => a
  | f + 1, a => if S.testBit (a + 1) = true then runE S f (a + 1) else a
def runEnd (S a : Nat) : Nat := runE S 1024 a
theorem runE_more {S : Nat} (hS : Sm S) : ∀ (f g a : Nat), 1024 ≤ a + f + 1 → 1024 ≤ a + g + 1 → runE S f a = runE S g a
  | 0, 0, _, _, _ => rfl
  | 0, g + 1, a, h, _ => by rw [runE, runE, if_neg (by rw [hS (a + 1) (by omega)]; simp)]
  | f + 1, 0, a, _, h => by rw [runE, runE, if_neg (by rw [hS (a + 1) (by omega)]; simp)]
  | f + 1, g + 1, a, h1, h2 => by
    rw [runE, runE]
    split
    · exact runE_more hS f g (a + 1) (by omega) (by omega)
    · rfl
theorem runEnd_step {S : Nat} (hS : Sm S) {a : Nat} (h : S.testBit (a + 1) = true) : runEnd S a = runEnd S (a + 1) := by
  rw [runEnd, runE, if_pos h]
  have ha : a + 1 < 1024 := by
    rcases Nat.lt_or_ge (a + 1) 1024 with g | g
    · exact g
    · rw [hS _ g] at h; cases h
  exact runE_more hS 1023 1024 (a + 1) (by omega) (by omega)
theorem runEnd_stop {S a : Nat} (h : S.testBit (a + 1) = false) : runEnd S a = a := by rw [runEnd, runE, if_neg (by rw [h]; simp)]

/-- The rows' first ones below k. -/
def starts (S k : Nat) : List Nat := (List.range k).filter fun a => S.testBit a && (a == 0 || !S.testBit (a - 1))
theorem starts_succ (S k : Nat) : starts S (k + 1) = starts S k ++ (if (S.testBit k && (k == 0 || !S.testBit (k - 1))) = true then [k] else []) := by
  rw [starts, starts, List.range_succ, List.filter_append]
  congr 1
  by_cases h : (S.testBit k && (k == 0 || !S.testBit (k - 1))) = true <;> simp [h]
theorem starts_same {S k m : Nat} (hkm : k ≤ m) (h : ∀ j, k ≤ j → j < m → (S.testBit j && (j == 0 || !S.testBit (j - 1))) = false) : starts S m = starts S k := by
  obtain ⟨d, rfl⟩ : ∃ d, m = k + d := ⟨m - k, by omega⟩
  induction d with
  | zero => rfl
  | succ d ih =>
    rw [show k + (d + 1) = (k + d) + 1 from rfl, starts_succ, ih (by omega) (fun j a b => h j a (by omega)), h (k + d) (by omega) (by omega)]
    simp
theorem starts_len (S k : Nat) : (starts S k).length ≤ k := by
  have := List.length_filter_le (fun a => S.testBit a && (a == 0 || !S.testBit (a - 1))) (List.range k)
  simpa [starts] using this

/-- A row's text. -/
def part (S a : Nat) : List UInt8 := if runEnd S a = a then dec a else dec a ++ 45 :: dec (runEnd S a)
def parts (S k : Nat) : List (List UInt8) := (starts S k).map (part S)
/-- A set's text. -/
def prt (S : Nat) : List UInt8 := Lib.join (parts S 1024) [44]

theorem runEnd_in {S : Nat} (hS : Sm S) (f : Nat) : ∀ a, S.testBit a = true → a + f = 1024 → a ≤ runEnd S a ∧ runEnd S a < 1024 ∧ S.testBit (runEnd S a + 1) = false ∧ ∀ j, a ≤ j → j ≤ runEnd S a → S.testBit j = true := by
  induction f with
  | zero => intro a h hf; rw [hS a (by omega)] at h; cases h
  | succ f ih =>
    intro a h hf
    cases hb : S.testBit (a + 1) with
    | false => rw [runEnd_stop hb]; exact ⟨Nat.le_refl _, by omega, hb, fun j h1 h2 => by obtain rfl : j = a := (by omega); exact h⟩
    | true =>
      rw [runEnd_step hS hb]
      obtain ⟨a1, a2, a3, a4⟩ := ih (a + 1) hb (by omega)
      exact ⟨by omega, a2, a3, fun j h1 h2 => by by_cases e : j = a; (· subst e; exact h); exact a4 j (by omega) h2⟩
theorem runEnd_spec {S : Nat} (hS : Sm S) {a : Nat} (h : S.testBit a = true) : a ≤ runEnd S a ∧ runEnd S a < 1024 ∧ S.testBit (runEnd S a + 1) = false ∧ ∀ j, a ≤ j → j ≤ runEnd S a → S.testBit j = true := by
  have ha : a < 1024 := by
    rcases Nat.lt_or_ge a 1024 with g | g
    · exact g
    · rw [hS _ g] at h; cases h
  exact runEnd_in hS (1024 - a) a h (by omega)

/-- The next member from a gap on begins a row; behind the row the parts have it. -/
theorem starts_next {S : Nat} (hS : Sm S) {k m : Nat} (hk : k = 0 ∨ S.testBit k = false) (h : IsNext S k m) : starts S (runEnd S m + 1) = starts S k ++ [m] := by
  obtain ⟨h1, h2, h3⟩ := h
  have hkm : k ≤ m := by omega
  obtain ⟨r1, r2, r3, r4⟩ := runEnd_spec hS h2
  have e1 : starts S m = starts S k := starts_same hkm fun j a b => by rw [h3 j (by omega) b]; rfl
  have e2 : starts S (m + 1) = starts S k ++ [m] := by
    rw [starts_succ, e1, if_pos]
    rw [h2, Bool.true_and]
    by_cases hm0 : m = 0
    · simp [hm0]
    · have : S.testBit (m - 1) = false := by
        rcases hk with rfl | hk
        · exact h3 (m - 1) (by omega) (by omega)
        · by_cases e : m = k
          · subst e; rw [hk] at h2; cases h2
          · exact h3 (m - 1) (by omega) (by omega)
      simp [this]
  rw [starts_same (k := m + 1) (by omega) fun j a b => ?_, e2]
  rw [r4 (j - 1) (by omega) (by omega)]
  simp; omega
theorem starts_none {S k : Nat} (hk : k ≤ 1024) (h : NoNext S k) : starts S 1024 = starts S k := starts_same hk fun j a _ => by rw [h j (by omega)]; rfl

theorem slStr : SlT Tryd.prog 57 9 eStr 16 := slT_of Tryd.underlying57 (z := .string ⟨#[]⟩) (by kernel_rfl) rfl Nat.one_pos (by omega)

theorem listM_later {S q : Nat} {n m2 : Int} {b2 : Bool} (hq : q < 1024) (hn : (q : Int) + 1 ≤ n) (h : NextRes S n m2 b2) : listM (.int .i64 m2) (.bool b2) < listM (.int .i64 q) (.bool true) := by
  rcases h with ⟨rfl, k, rfl, hk, hn⟩ | ⟨rfl, _, _⟩
  · have := hn.1; simp [listM, intOf]; omega
  · simp [listM, intOf]; omega
theorem dec_1024 {n : Nat} (h : n < 1024) : (str (dec n)).size ≤ 4 := by rw [str_size]; exact dec_len 3 n (by omega)
theorem parts_next {S : Nat} (hS : Sm S) {k q p : Nat} (hk : k = 0 ∨ S.testBit k = false) (h : IsNext S k q) (hp : runEnd S q = p) : (parts S k).map str ++ [str (part S q)] = (parts S (p + 1)).map str := by
  rw [← hp, parts, parts, starts_next hS hk h]; simp
theorem parts_len (S k : Nat) : ((parts S k).map str).length ≤ k := by simp [parts, starts_len]

theorem lens_le (c : Nat) : ∀ xs : List (List UInt8), (∀ x ∈ xs, x.length ≤ c) → Lib.lens xs ≤ c * xs.length
  | [], _ => by simp [Lib.lens]
  | x :: xs, h => by
    have h1 := lens_le c xs fun y hy => h y (by simp [hy])
    have h2 := h x (by simp)
    simp only [Lib.lens, List.map_cons, List.sum_cons, List.length_cons, Nat.mul_add] at h1 ⊢
    omega
theorem join_len (c : Nat) (xs : List (List UInt8)) (sep : List UInt8) (h : ∀ x ∈ xs, x.length ≤ c) : (Lib.join xs sep).length ≤ (c + sep.length) * xs.length := by
  cases xs with
  | nil => simp [Lib.join_nil]
  | cons x r =>
    rw [Lib.join_cons, List.length_append, Lib.joinTail_length]
    have h1 := lens_le c r fun y hy => h y (by simp [hy])
    have h2 := h x (by simp)
    simp only [List.length_cons, Nat.add_mul, Nat.mul_add]
    omega
/-- strings.Join of a row of the call's own. -/
theorem join_calls {w : World} {base : Nat} {v : Value} {xs : List (List UInt8)} (sep : List UInt8) (h : OwnR w base 9 eStr v (xs.map str)) (h1 : xs.length ≤ 140737488355328) (h2 : (Lib.join xs sep).length ≤ 140737488355328) :
    Calls Tryd.prog 36 #[v, .string (str sep)] w fun e w' => e = .returned (.string (str (Lib.join xs sep))) ∧ Below w.heap.size w w' := by
  have hr := h.reads
  rcases h.2 with ⟨rfl, h0⟩ | ⟨g, cap, cur, rfl, hb, hg, h3, h4, h5⟩
  · obtain rfl : xs = [] := by simpa using h0
    refine (Tryd.strings_Join_none none 0 (str sep) w).mono ?_
    rintro e w' ⟨rfl, rfl⟩
    exact ⟨rfl, Below.refl _ _⟩
  · obtain ⟨A, cap', e1, e2, _, _, hr⟩ := hr
    injection e1 with e1 _ e3
    subst e1 e3
    have hd : (xs.map str).map (·.data.toList) = xs := by rw [List.map_map, show ((fun x : ByteArray => x.data.toList) ∘ str) = id from funext str_data, List.map_id]
    have := Tryd.strings_Join g 0 cap (xs.map str) (str sep) w (fun j x hj => by
      obtain ⟨b', off', e', hc⟩ := hr j (.string x) (by rw [eStr_all, List.getElem?_map, hj]; rfl)
      injection e' with e'
      injection e' with h1 h2
      subst h1 h2
      exact hc) (Array.getElem?_eq_some_iff.1 hg).1 (by simpa using h1) e2 (by rw [hd, str_data]; exact h2)
    rw [hd, str_data] at this
    exact this
theorem part_len {S : Nat} (hS : Sm S) : ∀ x ∈ parts S 1024, x.length ≤ 9 := by
  intro x hx
  obtain ⟨a, ha, rfl⟩ := List.mem_map.1 hx
  rw [starts, List.mem_filter] at ha
  obtain ⟨h1, h2⟩ := ha
  simp only [List.mem_range, Bool.and_eq_true] at h1 h2
  have h3 := runEnd_spec hS h2.1
  have d1 := dec_len 3 a (by omega)
  have d2 := dec_len 3 (runEnd S a) (by omega)
  rw [part]
  split
  · omega
  · simp; omega
theorem prt_len {S : Nat} (hS : Sm S) : (prt S).length ≤ 10240 := by
  have h1 := join_len 9 (parts S 1024) [44] (part_len hS)
  have h2 := parts_len S 1024
  simp at h2
  rw [prt]
  simp only [List.length_singleton] at h1
  omega

def PrintRel (S : Nat) (w : World) (l n ok : Value) (wr : World) : Prop :=
  ∃ (k : Nat) (m : Int) (b : Bool), k ≤ 1024 ∧ (k = 0 ∨ S.testBit k = false) ∧ n = .int .i64 m ∧ ok = .bool b ∧ NextRes S k m b ∧
    OwnR wr (w.heap.size + 1) 9 eStr l ((parts S k).map str) ∧ Blk wr w.heap.size (setA S) 24 ∧ Below w.heap.size w wr

def RunRel (S q : Nat) (wo : World) (w : World) (n : Value) (wr : World) : Prop :=
  ∃ p : Nat, n = .int .i64 p ∧ p < 1024 ∧ q ≤ p ∧ S.testBit p = true ∧ runEnd S q = runEnd S p ∧ Blk wr w.heap.size (setA S) 24 ∧ Up wo wr

set_option maxRecDepth 100000 in
set_option maxHeartbeats 4000000 in
theorem print_calls (S : Nat) (hS : Sm S) (w : World) (hT : Tab w) :
    Calls Tryd.prog 13 #[.agg (setA S)] w fun e w' => e = .returned (.string (str (prt S))) ∧ Below w.heap.size w w' := by
  have HT := Lib.hid hT
  clear hT
  go_enter Tryd.func13, Tryd.ntmps13
  go_wp2_with (first
    | (refine wpl_load_set (.tmp 1) rfl rfl _ rfl S (heap_alloc_new _ _) ?_)
    | (go_at_call 30; refine (next_any S hS 0 _ (HT.out.alloc _)).mono ?_; rintro e w1 ⟨⟨m, b, rfl, hres⟩, hb1⟩))
  go_loopw [3, 4, 5] (fun l n ok wr => PrintRel S w l n ok wr) (fun _ n ok _ => listM n ok)
  case atStart =>
    exact ⟨0, m, b, by omega, .inl rfl, rfl, rfl, hres, OwnR.nil _ _ _ _, Blk.below (heap_alloc_new _ _) hb1, bl_step (bl_alloc (Below.refl _ _) _) hb1⟩
  case round =>
    clear hb1 hres
    obtain ⟨k, m, b, hk, hk0, rfl, rfl, hres, hown, hblk, bel⟩ := hrel
    have HR := Lib.hid hres
    have HB := Lib.hid hblk
    have HK0 := Lib.hid hk0
    have hz := bel.size
    have hzz := hblk.lt
    clear hres hblk hk0
    cases b with
    | true =>
      obtain ⟨_, q, rfl, hq, hn⟩ | ⟨h0, _⟩ := HR.out
      · have HN := Lib.hid hn
        have HQ := Lib.hid hn.2.1
        clear hn HR
        obtain ⟨wo, rfl⟩ : ∃ wo : World, wo = wr := ⟨_, rfl⟩
        go_wp2
        go_loopw [4] (fun n wr => RunRel S q wo w n wr) (fun n _ => 1024 - (intOf n).toNat)
        case atStart => exact ⟨q, rfl, hq, Nat.le_refl _, HQ.out, rfl, HB.out, Up.refl _⟩
        case round =>
          obtain ⟨p, rfl, hp, hqp, hpS, hrun, hblk, hup⟩ := hrel
          have HP := Lib.hid hpS
          have HU := Lib.hid hrun
          have HBp := Lib.hid hblk
          clear hpS hrun hblk
          cases hb : S.testBit (p + 1) with
          | true =>
            have hp1 : p + 1 < 1024 := by
              rcases Nat.lt_or_ge (p + 1) 1024 with g | g
              · exact g
              · rw [hS _ g] at hb; cases hb
            have HH : Hid (has S ((p : Int) + 1) = true) := Lib.hid (by have := has_nat S (p + 1); rw [hb] at this; simpa using this)
            have HB2 := Lib.hid hb
            clear hb
            go_wp2_with (first
              | (refine wpl_load_set (.tmp 1) rfl rfl _ rfl S HBp.out ?_)
              | (go_at_call 25; refine (has_calls S hS _ _).mono ?_; rintro e w1 ⟨rfl, rfl⟩; rw [HH.out]))
            go_roundw
            case rel => exact ⟨p + 1, by go_num, hp1, by omega, HB2.out, by rw [HU.out]; exact runEnd_step hS HB2.out, HBp.out.alloc _, hup.step (bl_alloc (Below.refl _ _) _)⟩
            case measure => simp [intOf]; omega
          | false =>
            have HH : Hid (has S ((p : Int) + 1) = false) := Lib.hid (by have := has_nat S (p + 1); rw [hb] at this; simpa using this)
            have HE : Hid (runEnd S q = p) := Lib.hid (by rw [HU.out]; exact runEnd_stop hb)
            have HB2q := Lib.hid hb
            have HPN := Lib.hid (parts_next hS HK0.out HN.out HE.out)
            have HLN := Lib.hid (parts_len S k)
            have own0 := hown.same hup
            have bel0 := bl_step bel hup
            clear hb
            by_cases hqp2 : q = p
            · subst hqp2
              have HPT : Hid (part S q = dec q) := Lib.hid (by rw [part, if_pos HE.out])
              go_wp2_with (first
                | (refine wpl_load_set (.tmp 1) rfl rfl _ rfl S HBp.out ?_)
                | (go_at_call 25; refine (has_calls S hS _ _).mono ?_; rintro e w1 ⟨rfl, rfl⟩; rw [HH.out])
                | (go_at_call 35; refine (number_calls _ (by omega) _).mono ?_; rintro e w2 ⟨rfl, hb2⟩; have own1 := (own0.alloc _).same hb2; have HB1 := Lib.hid ((HBp.out.alloc _).below hb2); have bel1 := bl_step (bl_alloc bel0 _) hb2; have hz1 := bel1.size; have hz2 := HB1.out.lt)
                | (at_builtin; refine own_append slStr rfl (.tmp 30) (.tmp 33) rfl (w.heap.size + 1) _ ((parts S k).map str) rfl (own1.alloc _) ⟨_, 0, none⟩ 1 1 [str (dec q)] rfl rfl (news_at _ _ _ _ rfl) (by have := HLN.out; simp; simp at this; omega) (by simp; omega) ?_; intro v' w3 own2 hgrow hat; have HB2 := Lib.hid ((own1.alloc _).blk hgrow (HB1.out.alloc _) (by omega)); have bel2 := bl_grown (bl_alloc bel1 _) (own1.alloc _) hgrow (by omega) (by simp; omega); clear hgrow hat)
                | (refine wpl_load_set (.tmp 1) rfl rfl _ rfl S HB2.out ?_)
                | (go_at_call 30; refine (next_any S hS _ _ (HT.out.same bel2)).mono ?_; rintro e w4 ⟨⟨m2, b2, rfl, hres2⟩, hb4⟩))
              go_roundw
              case rel => exact ⟨q + 1, m2, b2, by omega, .inr HB2q.out, rfl, rfl, by simpa using hres2, by have h := own2.same hb4; rw [← HPT.out, HPN.out] at h; exact h, HB2.out.below hb4, bl_step bel2 hb4⟩
              case measure => exact listM_later hq (by omega) hres2
            · have HPT : Hid (part S q = dec q ++ 45 :: dec p) := Lib.hid (by rw [part, HE.out, if_neg (by omega)])
              have HNE := Lib.hid hqp2
              have hne : ((q : Int) == (p : Int)) = false := beq_eq_false_iff_ne.2 (by omega)
              clear hqp2
              have hs1 := dec_1024 (show q < 1024 by omega)
              have hs2 := dec_1024 hp
              go_wp2_with (first
                | (refine wpl_load_set (.tmp 1) rfl rfl _ rfl S HBp.out ?_)
                | (go_at_call 25; refine (has_calls S hS _ _).mono ?_; rintro e w1 ⟨rfl, rfl⟩; rw [HH.out])
                | (go_at_call 35; (with_reducible refine (number_calls q (by omega) _).mono ?_); rintro e w2 ⟨rfl, hb2⟩; have own1 := (own0.alloc _).same hb2; have HB1 := Lib.hid ((HBp.out.alloc _).below hb2); have bel1 := bl_step (bl_alloc bel0 _) hb2; have hz1 := bel1.size; have hz2 := HB1.out.lt)
                | (go_at_call 35; (with_reducible refine (number_calls p (by omega) _).mono ?_); rintro e w3 ⟨rfl, hb3⟩; have own2 := own1.same hb3; have HB2 := Lib.hid (HB1.out.below hb3); have bel2 := bl_step bel1 hb3; have hz3 := bel2.size; have hz4 := HB2.out.lt)
                | (at_builtin; have HXX := (own2.alloc (w := w3) (Obj.cells #[Value.string (str (dec q) ++ (⟨#[45]⟩ : ByteArray) ++ str (dec p))] 9)); refine own_append slStr rfl (.tmp 35) (.tmp 42) rfl (w.heap.size + 1) _ ((parts S k).map str) rfl HXX ⟨_, 0, none⟩ 1 1 [str (dec q) ++ (⟨#[45]⟩ : ByteArray) ++ str (dec p)] rfl rfl (news_at _ _ _ _ rfl) (by have := HLN.out; simp; simp at this; omega) (by simp; omega) ?_; intro v' w4 own3 hgrow hat; have HB3 := Lib.hid ((own2.alloc _).blk hgrow (HB2.out.alloc _) (by omega)); have bel3 := bl_grown (bl_alloc bel2 _) (own2.alloc _) hgrow (by omega) (by simp; omega); clear hgrow hat)
                | (refine wpl_load_set (.tmp 1) rfl rfl _ rfl S HB3.out ?_)
                | (go_at_call 30; refine (next_any S hS _ _ (HT.out.same bel3)).mono ?_; rintro e w5 ⟨⟨m2, b2, rfl, hres2⟩, hb5⟩))
              go_roundw
              case rel =>
                refine ⟨p + 1, m2, b2, by omega, .inr HB2q.out, rfl, rfl, by simpa using hres2, ?_, HB3.out.below hb5, bl_step bel3 hb5⟩
                have h := own3.same hb5
                rw [show str (dec q) ++ (⟨#[45]⟩ : ByteArray) ++ str (dec p) = str (part S q) by rw [HPT.out, show (⟨#[45]⟩ : ByteArray) = str [45] from rfl, str_append, str_append]; simp, HPN.out] at h
                exact h
              case measure => exact listM_later (by omega) (by omega) hres2
      · cases h0
    | false =>
      have hall : parts S k = parts S 1024 := by
        rcases HR.out with ⟨h0, _⟩ | ⟨_, _, hn⟩
        · cases h0
        · rw [parts, parts, starts_none hk hn]
      have HJ := Lib.hid (join_calls (w := wr) [44] hown (by have := parts_len S k; simp at this; omega) (by rw [hall]; have := prt_len hS; rw [prt] at this; omega))
      rw [hall] at HJ
      go_wp2_with (go_at_call 36; refine HJ.out.mono ?_; rintro e w1 ⟨rfl, hb1⟩; have bel1 := bl_step bel hb1)
      exact bodyPost_ret (results_tmp rfl _ _ _) rfl ⟨rfl, bel1⟩
end Go.Proofs.YthgamlklpfkkhaaDoor

/- What slices.Reverse of bytes, cpuset.number and the reference's Dec do: a number's digits. -/
import Derived.Test.YthgamlklpfkkhaaDoorStr
import Derived.Test.YthgamlklpfkkhaaDoorClass
namespace Go.Proofs.YthgamlklpfkkhaaDoor
open Go.RowKit Go.WideShapes Go.ChangeShapes

/-- A digit's byte. -/
def dg (n : Nat) : UInt8 := UInt8.ofNat (48 + n % 10)
theorem dg_val (n : Nat) : (dg n).toNat = 48 + n % 10 := by simp [dg]; omega
/-- A number's digits. -/
def dec (n : Nat) : List UInt8 := if n < 10 then [dg n] else dec (n / 10) ++ [dg n]
theorem dec_small {n : Nat} (h : n < 10) : dec n = [dg n] := by rw [dec, if_pos h]
theorem dec_big {n : Nat} (h : 10 ≤ n) : dec n = dec (n / 10) ++ [dg n] := by rw [dec, if_neg (by omega)]
theorem dec_len : ∀ (k n : Nat), n < 10 ^ (k + 1) → (dec n).length ≤ k + 1
  | 0, n, h => by rw [dec_small (by simpa using h)]; simp
  | k + 1, n, h => by
    by_cases hn : n < 10
    · rw [dec_small hn]; simp
    · rw [dec_big (by omega), List.length_append]
      have := dec_len k (n / 10) (by rw [Nat.pow_succ] at h; omega)
      simp; omega
theorem dec_pos (n : Nat) : 0 < (dec n).length := by
  by_cases h : n < 10
  · rw [dec_small h]; simp
  · rw [dec_big (by omega)]; simp

/-- xs with its first and last i turned round. -/
def rv (xs : List UInt8) (i : Nat) : List UInt8 := (List.range xs.length).map fun j => if j < i ∨ xs.length ≤ j + i then xs.getD (xs.length - 1 - j) 0 else xs.getD j 0
theorem rv_len (xs : List UInt8) (i : Nat) : (rv xs i).length = xs.length := by simp [rv]
theorem rv_zero (xs : List UInt8) : rv xs 0 = xs := by
  apply List.ext_getElem?
  intro j
  by_cases h : j < xs.length
  · simp [rv, h]; omega
  · simp [rv, h]
theorem rv_end (xs : List UInt8) (i : Nat) (h : xs.length ≤ 2 * i + 1) : rv xs i = xs.reverse := by
  apply List.ext_getElem?
  intro j
  by_cases hj : j < xs.length
  · rw [List.getElem?_reverse hj]
    simp only [rv, List.getElem?_map, List.getElem?_range hj, Option.map_some]
    split
    · simp [List.getD_eq_getElem?_getD, List.getElem?_eq_getElem (by omega : xs.length - 1 - j < xs.length)]
    · rw [show xs.length - 1 - j = j from by omega]
      simp [List.getD_eq_getElem?_getD, hj]
  · rw [List.getElem?_eq_none (by rw [rv_len]; omega), List.getElem?_eq_none (by simp; omega)]
theorem rv_get (xs : List UInt8) (i j : Nat) (hj : j < xs.length) (h : i ≤ j) (h2 : j + i < xs.length) : (rv xs i)[j]? = some (xs.getD j 0) := by
  simp only [rv, List.getElem?_map, List.getElem?_range hj, Option.map_some]
  rw [if_neg (by omega)]
theorem rv_step (xs : List UInt8) (i : Nat) (h : 2 * i + 1 < xs.length) : ((rv xs i).set i (xs.getD (xs.length - 1 - i) 0)).set (xs.length - 1 - i) (xs.getD i 0) = rv xs (i + 1) := by
  apply List.ext_getElem?
  intro j
  by_cases hj : j < xs.length
  · rw [List.getElem?_set, List.getElem?_set]
    simp only [List.length_set, rv_len]
    by_cases e1 : xs.length - 1 - i = j
    · rw [if_pos e1, if_pos (by omega)]
      simp only [rv, List.getElem?_map, List.getElem?_range hj, Option.map_some]
      rw [if_pos (by omega), show xs.length - 1 - j = i from by omega]
    · rw [if_neg e1]
      by_cases e2 : i = j
      · rw [if_pos e2, if_pos (by omega)]
        simp only [rv, List.getElem?_map, List.getElem?_range hj, Option.map_some]
        rw [if_pos (by omega), e2]
      · rw [if_neg e2]
        simp only [rv, List.getElem?_map, List.getElem?_range hj, Option.map_some]
        congr 1
        by_cases c : j < i ∨ xs.length ≤ j + i
        · rw [if_pos c, if_pos (by omega)]
        · rw [if_neg c, if_neg (by omega)]
  · rw [List.getElem?_eq_none (by simp [rv_len]; omega), List.getElem?_eq_none (by rw [rv_len]; omega)]

theorem eByte_set (xs : List UInt8) (i : Nat) (b : UInt8) : eByte.all (xs.set i b) = (eByte.all xs).set i (.int .u8 (b.toNat : Int)) := by rw [eByte_all, eByte_all, List.map_set]
theorem eByte_get (xs : List UInt8) (i : Nat) (b : UInt8) (h : xs[i]? = some b) : (eByte.all xs)[i]? = some (.int .u8 (b.toNat : Int)) := by rw [eByte_all, List.getElem?_map, h]; rfl

def RevRel (xs : List UInt8) (base g cap : Nat) (w : World) (i j : Value) (wr : World) : Prop :=
  ∃ k q : Nat, i = .int .i64 k ∧ j = .int .i64 ((q : Int) - 1) ∧ q + k = xs.length ∧ wr.ownsRow base 5 1 (.slice (some ⟨g, 0, none⟩) xs.length cap) xs.length (eByte.all (rv xs k)) ∧ w.grownBy wr (some g)

set_option maxRecDepth 100000 in
set_option maxHeartbeats 400000 in
theorem reverse_calls (xs : List UInt8) (base g cap : Nat) (w : World) (h : OwnR w base 5 eByte (.slice (some ⟨g, 0, none⟩) xs.length cap) xs) (hl : xs.length ≤ 9223372036854775807) :
    Calls Tryd.prog 42 #[.slice (some ⟨g, 0, none⟩) xs.length cap] w fun e w' => e = .returned (.tuple #[]) ∧ OwnR w' base 5 eByte (.slice (some ⟨g, 0, none⟩) xs.length cap) xs.reverse ∧ w.grownBy w' (some g) := by
  go_enter Tryd.func42, Tryd.ntmps42
  go_wp2
  go_loopw [2, 3] (fun i j wr => RevRel xs base g cap w i j wr) (fun i _ _ => xs.length - (intOf i).toNat)
  case atStart => exact ⟨0, xs.length, rfl, rfl, by omega, by rw [rv_zero]; exact h, World.grownBy.refl _ _⟩
  case round =>
    obtain ⟨k, q, rfl, rfl, hq, hown, hg⟩ := hrel
    have HQ := Lib.hid hq
    have HO := Lib.hid hown
    by_cases hlt : k + 1 < q
    · obtain ⟨p, rfl⟩ : ∃ p, q = p + 1 := ⟨q - 1, by omega⟩
      have hkp : k < p := by omega
      have hpl : p < xs.length := by omega
      have hkl : k < xs.length := by omega
      have ep : xs.length - 1 - k = p := by omega
      have c1 : wr.cell? ⟨g, k, none⟩ = some (.int .u8 ((xs.getD k 0).toNat : Int)) := by rw [hown.cellAt k (by omega)]; exact eByte_get _ _ _ (rv_get xs k k hkl (Nat.le_refl _) (by omega))
      have c2 : wr.cell? ⟨g, p, none⟩ = some (.int .u8 ((xs.getD p 0).toNat : Int)) := by rw [hown.cellAt p (by omega)]; exact eByte_get _ _ _ (rv_get xs k p hpl (by omega) (by omega))
      have f1 : wr.frozen? ⟨g, k, none⟩ = false := hown.frozenAt k
      have f2 : wr.frozen? ⟨g, p, none⟩ = false := hown.frozenAt p
      have hstep : ((eByte.all (rv xs k)).set k (.int .u8 ((xs.getD p 0).toNat : Int))).set p (.int .u8 ((xs.getD k 0).toNat : Int)) = eByte.all (rv xs (k + 1)) := by rw [← eByte_set, ← eByte_set, ← rv_step xs k (by omega), ep]
      have HS := Lib.hid hstep
      have hne : k ≠ p := by omega
      generalize xs.getD k 0 = bk at *
      generalize xs.getD p 0 = bp at *
      clear hown hq hstep ep
      go_wp2
      go_region
      go_wp2
      go_roundw
      case rel =>
        refine ⟨k + 1, p, by go_num, by first | rfl | go_num, by have := HQ.out; omega, ?_, ?_⟩
        · rw [← HS.out]; exact (((HO.out.stored k _).1).stored p _).1
        · exact gb_drew (hg.trans (((HO.out.stored k _).2).trans ((((HO.out.stored k _).1).stored p _).2)))
      case measure => simp [intOf]; omega
    · have e : rv xs k = xs.reverse := rv_end xs k (by omega)
      have HE := Lib.hid e
      clear e hown
      by_cases hq0 : q = 0
      · subst hq0
        go_wp2
        go_end0
        exact ⟨rfl, by rw [OwnR, List.length_reverse, ← HE.out]; exact HO.out, hg⟩
      · obtain ⟨p, rfl⟩ : ∃ p, q = p + 1 := ⟨q - 1, by omega⟩
        have hkp : ¬ k < p := by omega
        go_wp2
        go_end0
        exact ⟨rfl, by rw [OwnR, List.length_reverse, ← HE.out]; exact HO.out, hg⟩

/-- What the loop of number keeps. -/
def NumRel (n : Nat) (w : World) (q v : Value) (wr : World) : Prop :=
  ∃ (m : Nat) (l : List UInt8), q = .int .i64 m ∧ m ≤ n ∧ dec n = (if m = 0 then [] else dec m) ++ l.reverse ∧ (m = 0 ∨ 10 * m ≤ n) ∧ 0 < l.length ∧ l.length + m ≤ n + 1 ∧ OwnR wr w.heap.size 5 eByte v l ∧ Below w.heap.size w wr

theorem dec_step {n m : Nat} {l : List UInt8} (h : dec n = (if m = 0 then [] else dec m) ++ l.reverse) (hm : 0 < m) : dec n = (if m / 10 = 0 then [] else dec (m / 10)) ++ (l ++ [dg m]).reverse := by
  rw [h, if_neg (by omega), List.reverse_append]
  by_cases c : m < 10
  · rw [if_pos (by omega), dec_small c]; simp
  · rw [if_neg (by omega), dec_big (by omega)]; simp

theorem own_literal (w : World) (base e : Nat) (b : UInt8) (hb : base ≤ w.heap.size) : OwnR (w.alloc (.cells #[.int .u8 b.toNat] e)) base e eByte (.slice (some ⟨w.heap.size, 0, none⟩) 1 1) [b] := by
  have := World.ownsRow_lit (e := e) (size := 1) w #[.int .u8 b.toNat] 1 hb (by unfold maxLen; omega) rfl
  exact this

theorem dg_int (n : Nat) : ((dg n).toNat : Int) = 48 + (n : Int) % 10 := by rw [dg_val]; omega
theorem own_some {w : World} {base e : Nat} {v : Value} {l : List UInt8} (h : OwnR w base e eByte v l) (hl : 0 < l.length) : ∃ g cap, v = .slice (some ⟨g, 0, none⟩) l.length cap ∧ base ≤ g := by
  rcases h.2 with ⟨_, h0⟩ | ⟨g, cap, _, hv, hb, _⟩
  · omega
  · exact ⟨g, cap, hv, hb⟩

set_option maxRecDepth 100000 in
set_option maxHeartbeats 400000 in
theorem number_calls (n : Nat) (hn : n ≤ 1000000000) (w : World) :
    Calls Tryd.prog 35 #[.int .i64 n] w fun e w' => e = .returned (.string (str (dec n))) ∧ Below w.heap.size w w' := by
  have HD := Lib.hid (dg_int n)
  go_enter Tryd.func35, Tryd.ntmps35
  go_wp2
  go_loopw [0, 3] (fun q v wr => NumRel n w q v wr) (fun q _ _ => (intOf q).toNat)
  case atStart =>
    refine ⟨n / 10, [dg n], by go_num, by omega, ?_, by omega, by simp, by simp; omega, ?_, bl_alloc (Below.refl _ _) _⟩
    · by_cases c : n < 10
      · rw [if_pos (by omega), dec_small c]; rfl
      · rw [if_neg (by omega), dec_big (by omega)]; rfl
    · rw [← HD.out]; exact own_literal w _ _ _ (Nat.le_refl _)
  case round =>
    obtain ⟨m, l, rfl, hmn, hdec, h10, hl, hlm, hown, bel⟩ := hrel
    have HDEC := Lib.hid hdec
    have HM := Lib.hid (dg_int m)
    have hz := bel.size
    clear hdec h10
    by_cases hm : 0 < m
    · go_wp2_with (at_builtin; refine own_append slByte rfl (.tmp 15) (.tmp 20) rfl w.heap.size _ l rfl (hown.alloc _) ⟨wr.heap.size, 0, none⟩ 1 1 [dg m] rfl rfl (by rw [eByte_all]; simp only [List.map_cons, List.map_nil, HM.out]; exact news_one _ _ _) (by simp; omega) (by simp; omega) ?_; intro v' w1 hown1 hgrow hat; have bel1 := bl_grown (bl_alloc bel _) (hown.alloc _) hgrow (by omega) (by simp; omega); clear hgrow hat)
      go_roundw
      case rel =>
        exact ⟨m / 10, l ++ [dg m], by go_num, by omega, dec_step HDEC.out hm, by omega, by simp, by simp; omega, hown1, bel1⟩
      case measure => simp [intOf]; omega
    · obtain rfl : m = 0 := by omega
      have hrev : dec n = l.reverse := by have := HDEC.out; simpa using this
      have HR := Lib.hid hrev
      obtain ⟨g, cap, rfl, hg⟩ := own_some hown hl
      clear hrev HM
      go_wp2_with fail
      (with_reducible refine (reverse_calls l w.heap.size g cap _ hown (by omega)).mono ?_)
      rintro e w1 ⟨rfl, hown1, hgr⟩
      have hconv := OwnR.str 64 9 5 Tryd.underlying64 Tryd.underlying5 Tryd.underlying9 hown1
      have bel1 := bel.grown hgr hz (fun k e => by injection e with e; omega)
      rw [← HR.out] at hconv
      go_wp2
      go_ret
      exact ⟨rfl, bel1⟩

theorem lit_str (w : World) (g : Nat) (x : Int) (b : UInt8) (hg : g = w.heap.size) (hx : x = b.toNat) :
    (convert 64 9 (.slice (some ⟨g, 0, none⟩) 1 1)).run Tryd.prog (w.alloc (.cells #[.int .u8 x] 5)) = .ok (.string (str [b])) (w.alloc (.cells #[.int .u8 x] 5)) := by
  subst hg hx
  exact OwnR.str 64 9 5 Tryd.underlying64 Tryd.underlying5 Tryd.underlying9 (own_literal w 0 _ b (Nat.zero_le _))

theorem lit_later {w w1 : World} {B : Nat} (b : UInt8) (hb : Below B (w.alloc (.cells #[.int .u8 (b.toNat : Int)] 5)).drew w1) (hB : w.heap.size < B) :
    (convert 64 9 (.slice (some ⟨w.heap.size, 0, none⟩) 1 1)).run Tryd.prog w1 = .ok (.string (str [b])) w1 := by
  have h := own_literal w 0 5 b (Nat.zero_le _)
  have hb' : Below (w.alloc (.cells #[.int .u8 (b.toNat : Int)] 5)).heap.size (w.alloc (.cells #[.int .u8 (b.toNat : Int)] 5)) w1 := ⟨hb.os, hb.tape, hb.output, hb.size, fun k hk => hb.block k (by simp at hk; omega)⟩
  exact OwnR.str 64 9 5 Tryd.underlying64 Tryd.underlying5 Tryd.underlying9 (h.same hb')

set_option maxRecDepth 100000 in
set_option maxHeartbeats 400000 in
theorem refDec_calls (k : Nat) : ∀ (n : Nat) (w : World), n < 10 ^ (k + 1) → k ≤ 8 →
    Calls Tryd.prog 37 #[.int .i64 n] w fun e w' => e = .returned (.string (str (dec n))) ∧ Below w.heap.size w w' := by
  induction k with
  | zero =>
    intro n w h _
    have h : n < 10 := by simpa using h
    have HS := Lib.hid (dec_small h)
    have hc := lit_str w w.heap.size (48 + n) (dg n) rfl (by rw [dg_int]; omega)
    go_enter Tryd.func37, Tryd.ntmps37
    go_wp2
    go_ret
    exact ⟨by rw [HS.out]; rfl, bl_alloc (Below.refl _ _) _⟩
  | succ k ih =>
    intro n w h hk
    by_cases hs : n < 10
    · exact ih n w (by have := Nat.pow_pos (n := k) (a := 10) (by omega); rw [Nat.pow_succ]; omega) (by omega)
    · have hd := dec_big (by omega : 10 ≤ n)
      have hi : n / 10 < 10 ^ (k + 1) := by rw [Nat.pow_succ] at h; omega
      have hb : n < 1000000000000 := by
        have : (10 : Nat) ^ (k + 1 + 1) ≤ 10 ^ 10 := Nat.pow_le_pow_right (by omega) (by omega)
        omega
      have HD := Lib.hid hd
      have HI := Lib.hid hi
      have IH := Lib.hid ih
      have hc : ∀ w : World, (convert 64 9 (.slice (some ⟨w.heap.size, 0, none⟩) 1 1)).run Tryd.prog (w.alloc (.cells #[.int .u8 ((dg n).toNat : Int)] 5)) = .ok (.string (str [dg n])) (w.alloc (.cells #[.int .u8 ((dg n).toNat : Int)] 5)) :=
        fun w => lit_str w w.heap.size _ (dg n) rfl rfl
      have hc2 : ∀ w : World, (convert 64 9 (.slice (some ⟨w.heap.size, 0, none⟩) 1 1)).run Tryd.prog (w.alloc (.cells #[.int .u8 ((dg n).toNat : Int)] 5)).drew = .ok (.string (str [dg n])) (w.alloc (.cells #[.int .u8 ((dg n).toNat : Int)] 5)).drew :=
        fun w => lit_later (dg n) (Below.refl (w.heap.size + 1) _) (by omega)
      have e1 : IntKind.i64.wrap ((n : Int) / 10) = (n : Int) / 10 := IntWalk.i64_in _ (by omega)
      have e2 : IntKind.u8.wrap (IntKind.i64.wrap (48 + (n : Int).tmod 10)) = ((dg n).toNat : Int) := by
        have a1 : (n : Int).tmod 10 = (n : Int) % 10 := Int.tmod_eq_emod_of_nonneg (by omega)
        have a2 : IntKind.i64.wrap (48 + (n : Int) % 10) = 48 + (n : Int) % 10 := IntWalk.i64_in _ (by omega)
        rw [a1, a2, dg_int, IntKind.wrap_u8]
        omega
      have hsz : (str (dec (n / 10))).size + (str [dg n]).size ≤ 9223372036854775807 := by
        have := dec_len (k + 1) (n / 10) (by omega)
        rw [str_size, str_size]; simp; omega
      have HQ : Hid ((n : Int) / 10 = ((n / 10 : Nat) : Int)) := Lib.hid (by omega)
      clear hd hi ih h
      go_enter Tryd.func37, Tryd.ntmps37
      go_wp2
      go_region_with (first | (go_at_call 37; rw [HQ.out]; with_reducible refine (IH.out (n / 10) _ HI.out (by omega)).mono ?_; rintro e w1 ⟨rfl, hb1⟩; first | have hcv := lit_later (dg n) hb1 (by simp) | skip))
      all_goals
        go_wp2
        go_ret
        refine ⟨by rw [HD.out, ← str_append]; rfl, ?_⟩
        first
          | exact bl_alloc (bl_step (bl_drew (Below.refl _ _)) hb1) _
          | exact bl_step (bl_drew (bl_alloc (Below.refl _ _) _)) hb1
          | exact bl_drew (bl_alloc (bl_step (bl_drew (Below.refl _ _)) hb1) _)
end Go.Proofs.YthgamlklpfkkhaaDoor

/- What the reader's Parse answers, exit by exit: plain laws for the walk of the reference's. -/
import Derived.Test.YthgamlklpfkkhaaDoorNum
namespace Go.Proofs.YthgamlklpfkkhaaDoor
open Go.RowKit

/-- The state of the reading at a place: what is left decides. -/
def PAt (l : List UInt8) (i f : Nat) (xs : List Int) : Prop := i ≤ l.length ∧ l.length + 1 ≤ f + i ∧ (l ≠ [] → parse l = parseE l f i (mk xs)) ∧ (i = 0 → xs = []) ∧ xs.length ≤ 1024 * i
theorem PAt.start (l : List UInt8) : PAt l 0 (l.length + 1) [] := ⟨Nat.zero_le _, by omega, fun h => by rw [parse, if_neg h]; rfl, fun _ => rfl, by simp⟩
theorem PAt.none {l : List UInt8} {i f : Nat} {xs : List Int} (h : PAt l i f xs) (h0 : ¬ (0 : Int) < (l.length : Int)) : parse l = (mk xs, 0, 0) := by
  have e : l = [] := List.length_eq_zero_iff.1 (by omega)
  obtain ⟨h1, _, _, h4, _⟩ := h
  rw [h4 (by omega), e]
  rfl
section
variable {l : List UInt8} {i f : Nat} {xs : List Int}
theorem PAt.eq (h : PAt l i f xs) (h0 : 0 < l.length) : ∃ g, f = g + 1 ∧ parse l = parseE l (g + 1) i (mk xs) := by
  obtain ⟨h1, h2, h3, _⟩ := h
  obtain ⟨g, rfl⟩ : ∃ g, f = g + 1 := ⟨f - 1, by omega⟩
  exact ⟨g, rfl, h3 (by rintro rfl; simp at h0)⟩
theorem PAt.err (h : PAt l i f xs) (h0 : 0 < l.length) {e a k : Nat} (hx : itemE l i = (0, 0, e, a, k)) (he : e ≠ 0) : parse l = (0, e, a) := by
  obtain ⟨g, _, hp⟩ := h.eq h0
  rw [hp, parseE]
  simp only [hx]
  rw [if_pos he]
theorem PAt.lap (h : PAt l i f xs) (h0 : 0 < l.length) {n m k : Nat} (hx : itemE l i = (n, m, 0, 0, k)) {x : Int} (h1 : (n : Int) ≤ x) (h2 : x ≤ (m : Int)) (hm : m < 1024) (hh : has (mk xs) x = true) : parse l = (0, 9, i) := by
  obtain ⟨g, _, hp⟩ := h.eq h0
  rw [hp, parseE]
  simp only [hx]
  rw [if_neg (by simp), if_pos]
  intro e
  obtain ⟨j, rfl⟩ : ∃ j : Nat, x = (j : Int) := ⟨x.toNat, by omega⟩
  have t := congrArg (fun z => z.testBit j) e
  simp only [Nat.testBit_and, Nat.zero_testBit, testBit_rng] at t
  rw [has_nat] at hh
  rw [hh, Bool.true_and, decide_eq_false_iff_not] at t
  exact t ⟨by omega, h1, h2⟩
theorem no_lap {S n m : Nat} (hm : m < 1024) (hno : ∀ j : Int, (n : Int) ≤ j → j < (m : Int) + 1 → has S j = false) : S &&& rng n m = 0 := by
  refine Nat.eq_of_testBit_eq fun j => ?_
  rw [Nat.testBit_and, testBit_rng, Nat.zero_testBit]
  by_cases c : (n : Int) ≤ (j : Int) ∧ (j : Int) ≤ (m : Int)
  · have := hno j c.1 (by omega)
    rw [has_nat] at this
    rw [this]; rfl
  · rw [decide_eq_false (fun e => c e.2), Bool.and_false]
/-- The members from one on, behind those so far. -/
def ext (xs : List Int) (n y : Int) : List Int := xs ++ (List.range (y - n).toNat).map fun (k : Nat) => n + (k : Int)
theorem ext_same (xs : List Int) (n : Int) : ext xs n n = xs := by simp [ext]
theorem ext_succ (xs : List Int) {n y : Int} (h : n ≤ y) : ext xs n (y + 1) = ext xs n y ++ ([y] : List Int) := by
  rw [ext, ext, show (y + 1 - n).toNat = (y - n).toNat + 1 from by omega, List.range_succ, List.map_append, List.append_assoc]
  congr 2
  simp; omega
theorem ext_len (xs : List Int) (n y : Int) : (ext xs n y).length = xs.length + (y - n).toNat := by simp [ext]
theorem mk_ext (xs : List Int) (n m : Nat) : mk (ext xs n ((m : Int) + 1)) = mk xs ||| rng n m := by
  refine Nat.eq_of_testBit_eq fun j => ?_
  rw [Nat.testBit_or, testBit_mk, testBit_mk, testBit_rng, ← Bool.decide_or, decide_eq_decide]
  simp only [ext, List.mem_append, List.mem_map, List.mem_range]
  constructor
  · rintro ⟨a, b | ⟨k, h1, h2⟩⟩
    · exact .inl ⟨a, b⟩
    · exact .inr ⟨a, by omega, by omega⟩
  · rintro (⟨a, b⟩ | ⟨a, b, c⟩)
    · exact ⟨a, .inl b⟩
    · exact ⟨a, .inr ⟨((j : Int) - n).toNat, by omega, by omega⟩⟩
theorem PAt.last (h : PAt l i f xs) (h0 : 0 < l.length) {n m k : Nat} (hx : itemE l i = (n, m, 0, 0, k)) (hm : m < 1024) (hno : ∀ j : Int, (n : Int) ≤ j → j < (m : Int) + 1 → has (mk xs) j = false) (hk : k = l.length) :
    parse l = (mk (ext xs n ((m : Int) + 1)), 0, 0) := by
  obtain ⟨g, _, hp⟩ := h.eq h0
  rw [hp, parseE]
  simp only [hx]
  rw [if_neg (by simp), if_neg (by rw [no_lap hm hno]; simp), if_pos hk, mk_ext]
theorem PAt.more (h : PAt l i f xs) (h0 : 0 < l.length) {n m k : Nat} (hx : itemE l i = (n, m, 0, 0, k)) (hm : m < 1024) (hno : ∀ j : Int, (n : Int) ≤ j → j < (m : Int) + 1 → has (mk xs) j = false) (hk : k < l.length) (hik : i ≤ k) :
    PAt l (k + 1) (f - 1) (ext xs n ((m : Int) + 1)) := by
  have he := h.eq h0
  obtain ⟨h1, h2, h3, h4, h5⟩ := h
  obtain ⟨g, rfl, hp⟩ := he
  refine ⟨by omega, by omega, fun _ => ?_, fun e => by omega, ?_⟩
  · rw [hp, parseE]
    simp only [hx]
    rw [if_neg (by simp), if_neg (by rw [no_lap hm hno]; simp), if_neg (by omega), mk_ext]
    rfl
  · rw [ext_len]; omega
/-! ### One item -/
theorem it_err1 {q e k : Nat} (h : numE l i = (q, e, k)) (he : e ≠ 0) : itemE l i = (0, 0, e, i, k) := by simp [itemE, h, he]
theorem it_err2 {q k q2 e k2 : Nat} (h : numE l i = (q, 0, k)) (hk : k < l.length) (h5 : chr l k = 45) (h2 : numE l (k + 1) = (q2, e, k2)) (he : e ≠ 0) : itemE l i = (0, 0, e, k + 1, k2) := by simp [itemE, h, hk, h5, h2, he]
theorem it_less {q k q2 k2 : Nat} (h : numE l i = (q, 0, k)) (hk : k < l.length) (h5 : chr l k = 45) (h2 : numE l (k + 1) = (q2, 0, k2)) (hl : q2 < q) : itemE l i = (0, 0, 26, k + 1, k2) := by simp [itemE, h, hk, h5, h2, hl]
theorem it_one {q k : Nat} (h : numE l i = (q, 0, k)) (hk : ¬ (k < l.length ∧ chr l k = 45)) : itemE l i = itemTail l q q k := by simp only [itemE, h]; rw [if_neg (by simp), if_neg hk]
theorem it_two {q k q2 k2 : Nat} (h : numE l i = (q, 0, k)) (hk : k < l.length) (h5 : chr l k = 45) (h2 : numE l (k + 1) = (q2, 0, k2)) (hl : ¬ q2 < q) : itemE l i = itemTail l q q2 k2 := by
  simp only [itemE, h]
  rw [if_neg (by simp), if_pos ⟨hk, h5⟩]
  simp only [h2]
  rw [if_neg (by simp), if_neg hl]
theorem tail_bad (n m : Nat) {k : Nat} (hk : k < l.length) (h : ¬ chr l k = 44) : itemTail l n m k = (0, 0, 20, k, k) := by rw [itemTail, if_pos ⟨hk, h⟩]
theorem tail_ok (n m : Nat) {k : Nat} (h : ¬ (k < l.length ∧ ¬ chr l k = 44)) : itemTail l n m k = (n, m, 0, 0, k) := by rw [itemTail, if_neg h]
end
theorem fin_ret {l : List UInt8} {S e a : Nat} {A E : Int} (h : parse l = (S, e, a)) (hE : E = (e : Int)) (hA : A = (a : Int)) :
    Ending.returned (.tuple #[.agg (setA S), .int .i64 E, .int .i64 A]) = .returned (.tuple #[.agg (setA (parse l).1), .int .i64 (((parse l).2.1 : Nat) : Int), .int .i64 (((parse l).2.2 : Nat) : Int)]) := by rw [h, hE, hA]
end Go.Proofs.YthgamlklpfkkhaaDoor

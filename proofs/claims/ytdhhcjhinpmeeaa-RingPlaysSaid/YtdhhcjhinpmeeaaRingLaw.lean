/- What single writes do to a row: plain laws. -/
import Derived.Test.YtdhhcjhinpmeeaaRingReads
namespace Go.Proofs.Ytdhhcjhinpmeeaa
open Go.RowKit Go.WideShapes Go.ChangeShapes

theorem Rg.mk' {w : World} {r b N at_ : Nat} {xs cs : List Int} {A M : Int} (hr : Blk w r #[.slice (some ⟨b, 0, none⟩) N N, .int .i64 A, .int .i64 M] 48) (hb : Blk w b (ints cs) 3) (hA : A = (at_ : Int)) (hM : M = (xs.length : Int))
    (ne : r ≠ b) (len : cs.length = N) (most : N ≤ 4096) (at_lt : 0 < N → at_ < N) (n_le : xs.length ≤ N) (hv : Vw at_ N cs xs.length (nth xs)) : Rg w r b N xs := by
  subst hA hM
  exact ⟨at_, cs, ⟨hr, hb, ne, len, most, at_lt, n_le⟩, hv⟩
section
variable {at_ N n : Nat} {cs : List Int} {f g : Nat → Int}
theorem vw_snoc {xs : List Int} {x : Int} (h : Vw at_ N cs xs.length (nth xs)) (hN : cs.length = N) (hl : xs.length < N) : Vw at_ N (cs.set ((at_ + xs.length) % N) x) (xs ++ [x]).length (nth (xs ++ [x])) := by
  rw [List.length_append, List.length_singleton]
  exact vw_eq (vw_back hN h hl) (fun j hj => nth_snoc xs x j hj)
theorem vw_cons {xs : List Int} {x : Int} (h : Vw at_ N cs xs.length (nth xs)) (hN : cs.length = N) (hl : xs.length < N) (hat : at_ < N) : Vw ((at_ + N - 1) % N) N (cs.set (((at_ + N - 1) % N + 0) % N) x) (x :: xs).length (nth (x :: xs)) := by
  rw [List.length_cons]
  exact vw_eq (vw_front hN hat h hl) (fun j hj => (nth_cons x xs j).symm)
/-- One place is written with what stands at another. -/
theorem vw_step {k m : Nat} (hN : cs.length = N) (h : Vw at_ N cs n f) (hk : k < n) (hn : n ≤ N) (hm : m < n) (he : ∀ j, j < n → (if j = k then f m else f j) = g j) : Vw at_ N (cs.set ((at_ + k) % N) (nth cs ((at_ + m) % N))) n g := by
  rw [h m hm]
  exact vw_eq (vw_set hN h hk hn) he
theorem vw_last {k : Nat} {x : Int} (hN : cs.length = N) (h : Vw at_ N cs n f) (hk : k < n) (hn : n ≤ N) (he : ∀ j, j < n → (if j = k then x else f j) = g j) : Vw at_ N (cs.set ((at_ + k) % N) x) n g := vw_eq (vw_set hN h hk hn) he
/-- A thing put in near the front: all ahead of it go one place on. -/
def shl (zs : List Int) (k j : Nat) : Int := if j < k then nth zs (j + 1) else nth zs j
def shr (zs : List Int) (k j : Nat) : Int := if j ≤ k then nth zs j else nth zs (j - 1)
def tkl (xs : List Int) (p k j : Nat) : Int := if k < j ∧ j ≤ p then nth xs (j - 1) else nth xs j
def tkr (xs : List Int) (p k j : Nat) : Int := if p ≤ j ∧ j < k then nth xs (j + 1) else nth xs j
theorem shl_zero (zs : List Int) : shl zs 0 = nth zs := by funext j; simp [shl]
theorem shr_top (zs : List Int) {m : Nat} (hm : zs.length ≤ m + 1) (h : Vw at_ N cs zs.length (nth zs)) : Vw at_ N cs zs.length (shr zs m) := vw_eq h (fun j hj => by unfold shr; rw [if_pos (by omega)])
theorem tkl_top (xs : List Int) (p : Nat) : tkl xs p p = nth xs := by funext j; unfold tkl; rw [if_neg (by omega)]
theorem tkr_low (xs : List Int) (p : Nat) : tkr xs p p = nth xs := by funext j; unfold tkr; rw [if_neg (by omega)]
theorem shl_step (zs : List Int) (k : Nat) (j : Nat) : (if j = k then shl zs k (k + 1) else shl zs k j) = shl zs (k + 1) j := by
  unfold shl
  by_cases h : j = k
  · subst h; rw [if_pos rfl, if_neg (by omega), if_pos (by omega)]
  · rw [if_neg h]
    by_cases h2 : j < k
    · rw [if_pos h2, if_pos (by omega)]
    · rw [if_neg h2, if_neg (by omega)]
theorem shr_step (zs : List Int) {k : Nat} (hk : 0 < k) (j : Nat) : (if j = k then shr zs k (k - 1) else shr zs k j) = shr zs (k - 1) j := by
  unfold shr
  by_cases h : j = k
  · subst h; rw [if_pos rfl, if_pos (by omega), if_neg (by omega)]
  · rw [if_neg h]
    by_cases h2 : j ≤ k
    · rw [if_pos h2, if_pos (by omega)]
    · rw [if_neg h2, if_neg (by omega)]
theorem tkl_step (xs : List Int) {p k : Nat} (hk : 0 < k) (hp : k ≤ p) (j : Nat) : (if j = k then tkl xs p k (k - 1) else tkl xs p k j) = tkl xs p (k - 1) j := by
  unfold tkl
  by_cases h : j = k
  · subst h; rw [if_pos rfl, if_neg (by omega), if_pos (by omega)]
  · rw [if_neg h]
    by_cases h2 : k < j ∧ j ≤ p
    · rw [if_pos h2, if_pos (by omega)]
    · rw [if_neg h2, if_neg (by omega)]
theorem tkr_step (xs : List Int) {p k : Nat} (hp : p ≤ k) (j : Nat) : (if j = k then tkr xs p k (k + 1) else tkr xs p k j) = tkr xs p (k + 1) j := by
  unfold tkr
  by_cases h : j = k
  · subst h; rw [if_pos rfl, if_neg (by omega), if_pos (by omega)]
  · rw [if_neg h]
    by_cases h2 : p ≤ j ∧ j < k
    · rw [if_pos h2, if_pos (by omega)]
    · rw [if_neg h2, if_neg (by omega)]
theorem shl_ins (xs : List Int) (x : Int) {p : Nat} (hp : p ≤ xs.length) (j : Nat) : (if j = p then x else shl (x :: xs) p j) = nth (ins xs p x) j := by
  rw [nth_ins x hp]
  unfold shl
  by_cases h : j = p
  · subst h; rw [if_pos rfl, if_neg (by omega), if_pos rfl]
  · rw [if_neg h]
    by_cases h2 : j < p
    · rw [if_pos h2, if_pos h2, nth_cons, if_neg (by omega)]; rfl
    · rw [if_neg h2, if_neg h2, if_neg h, nth_cons, if_neg (by omega)]
theorem shr_ins (xs : List Int) (x : Int) {p : Nat} (hp : p ≤ xs.length) (j : Nat) (hj : j < xs.length + 1) : (if j = p then x else shr (xs ++ [x]) p j) = nth (ins xs p x) j := by
  rw [nth_ins x hp]
  unfold shr
  by_cases h : j = p
  · subst h; rw [if_pos rfl, if_neg (by omega), if_pos rfl]
  · rw [if_neg h]
    by_cases h2 : j < p
    · rw [if_pos (by omega), if_pos h2, nth_append, if_pos (by omega)]
    · rw [if_neg (by omega), if_neg h2, if_neg h, nth_append, if_pos (by omega)]
theorem tkl_wo (xs : List Int) {p : Nat} (hp : p < xs.length) (x : Int) (j : Nat) : (if j + 1 = 0 then x else tkl xs p 0 (j + 1)) = nth (wo xs p) j := by
  rw [nth_wo hp, if_neg (by omega)]
  unfold tkl
  by_cases h : j < p
  · rw [if_pos h, if_pos (by omega)]; rfl
  · rw [if_neg h, if_neg (by omega)]
theorem tkr_wo (xs : List Int) {p : Nat} (hp : p < xs.length) {m : Nat} (x : Int) (hm : m + 1 = xs.length) (j : Nat) (hj : j < m) : (if j = m then x else tkr xs p m j) = nth (wo xs p) j := by
  rw [nth_wo hp, if_neg (by omega)]
  unfold tkr
  by_cases h : j < p
  · rw [if_pos h, if_neg (by omega)]
  · rw [if_neg h, if_pos (by omega)]
theorem vw_tkl {xs : List Int} {p : Nat} {x : Int} (h : Vw at_ N cs xs.length (tkl xs p 0)) (hN : cs.length = N) (hn : xs.length ≤ N) (hp : p < xs.length) : Vw ((at_ + 1) % N) N (cs.set ((at_ + 0) % N) x) (wo xs p).length (nth (wo xs p)) := by
  rw [wo_length hp]
  have h1 := vw_set (v := x) (k := 0) hN h (by omega) hn
  rw [show xs.length = (xs.length - 1) + 1 by omega] at h1
  exact vw_eq (vw_drop h1) (fun j hj => tkl_wo xs hp x j)
theorem vw_tkr {xs : List Int} {p m : Nat} {x : Int} (hm : m + 1 = xs.length) (h : Vw at_ N cs xs.length (tkr xs p m)) (hN : cs.length = N) (hn : xs.length ≤ N) (hp : p < xs.length) : Vw at_ N (cs.set ((at_ + m) % N) x) (wo xs p).length (nth (wo xs p)) := by
  rw [wo_length hp]
  have h1 := vw_set (v := x) (k := m) hN h (by omega) hn
  exact vw_eq (vw_le h1 (by omega)) (fun j hj => tkr_wo xs hp x hm j (by omega))
end
section
variable {w : World} {r b N : Nat} {xs : List Int}
theorem len_rg (h : Rg w r b N xs) : Calls Try.prog 8 #[.pointer (some ⟨r, 0, none⟩)] w fun e w' => e = .returned (.int .i64 (xs.length : Int)) ∧ Below w.heap.size w w' := by
  obtain ⟨_, _, h, _⟩ := h; exact len_raw h.own
theorem room_rg (h : Rg w r b N xs) : Calls Try.prog 16 #[.pointer (some ⟨r, 0, none⟩)] w fun e w' => e = .returned (.int .i64 (N : Int)) ∧ Below w.heap.size w w' := by
  obtain ⟨_, _, h, _⟩ := h; exact room_raw h.own
end
end Go.Proofs.Ytdhhcjhinpmeeaa

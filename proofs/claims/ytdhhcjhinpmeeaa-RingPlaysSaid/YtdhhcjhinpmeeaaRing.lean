/- A row with two ends, as it lies: a block for the row's own variables, a block of places that is gone round in; and what it has, as a list. -/
import Derived.Test.YtdhhcjhinpmeeaaCuts
namespace Go.Proofs.Ytdhhcjhinpmeeaa
open Go.RowKit Go.WideShapes Go.ChangeShapes

/-- From the place at on, round the list, stand these. -/
def Vw (at_ N : Nat) (cs : List Int) (n : Nat) (f : Nat → Int) : Prop := ∀ j, j < n → nth cs ((at_ + j) % N) = f j
theorem mod_inj {a j k N : Nat} (hj : j < N) (hk : k < N) (h : (a + j) % N = (a + k) % N) : j = k := by
  rcases Nat.lt_or_ge j k with h1 | h1
  · have := Nat.sub_mod_eq_zero_of_mod_eq h.symm
    rw [show a + k - (a + j) = k - j by omega, Nat.mod_eq_of_lt (by omega)] at this
    omega
  · have := Nat.sub_mod_eq_zero_of_mod_eq h
    rw [show a + j - (a + k) = j - k by omega, Nat.mod_eq_of_lt (by omega)] at this
    omega
section
variable {at_ N n : Nat} {cs : List Int} {f : Nat → Int}
theorem vw_put {m k : Nat} {v : Int} (hN : cs.length = N) (h : ∀ j, j < m → j ≠ k → nth cs ((at_ + j) % N) = f j) (hk : k < N) (hm : m ≤ N) : Vw at_ N (cs.set ((at_ + k) % N) v) m (fun j => if j = k then v else f j) := by
  intro j hj
  have hp : 0 < N := by omega
  rw [nth_set]
  by_cases e : j = k
  · subst e
    rw [if_pos ⟨rfl, by rw [hN]; exact Nat.mod_lt _ hp⟩]; exact (if_pos rfl).symm
  · rw [if_neg (fun c => e (mod_inj (by omega) hk c.1.symm))]
    show nth cs _ = if j = k then v else f j
    rw [if_neg e]
    exact h j hj e
theorem vw_set {k : Nat} {v : Int} (hN : cs.length = N) (h : Vw at_ N cs n f) (hk : k < n) (hn : n ≤ N) : Vw at_ N (cs.set ((at_ + k) % N) v) n (fun j => if j = k then v else f j) := vw_put hN (fun j hj _ => h j hj) (by omega) hn
theorem vw_back {v : Int} (hN : cs.length = N) (h : Vw at_ N cs n f) (hn : n < N) : Vw at_ N (cs.set ((at_ + n) % N) v) (n + 1) (fun j => if j = n then v else f j) := vw_put hN (fun j hj hne => h j (by omega)) hn (by omega)
theorem vw_front {v : Int} (hN : cs.length = N) (hat : at_ < N) (h : Vw at_ N cs n f) (hn : n < N) :
    Vw ((at_ + N - 1) % N) N (cs.set (((at_ + N - 1) % N + 0) % N) v) (n + 1) (fun j => if j = 0 then v else f (j - 1)) := by
  refine vw_put (f := fun j => f (j - 1)) hN (fun j hj hne => ?_) (by omega) (by omega)
  have := h (j - 1) (by omega)
  rw [← this, Nat.mod_add_mod]
  congr 1
  rw [show at_ + N - 1 + j = at_ + (j - 1) + N by omega, Nat.add_mod_right]
theorem vw_drop (h : Vw at_ N cs (n + 1) f) : Vw ((at_ + 1) % N) N cs n (fun j => f (j + 1)) := by
  intro j hj
  have := h (j + 1) (by omega)
  refine Eq.trans ?_ this
  rw [Nat.mod_add_mod]
  congr 2
  omega
theorem vw_le {m : Nat} (h : Vw at_ N cs n f) (hm : m ≤ n) : Vw at_ N cs m f := fun j hj => h j (by omega)
theorem vw_eq {g : Nat → Int} (h : Vw at_ N cs n f) (he : ∀ j, j < n → f j = g j) : Vw at_ N cs n g := fun j hj => (h j hj).trans (he j hj)
end

/-- The row's own variables. -/
def rcell (b N at_ n : Nat) : Array Value := #[.slice (some ⟨b, 0, none⟩) N N, .int .i64 (at_ : Int), .int .i64 (n : Int)]
/-- A row in memory: its own block, its places' block. -/
structure RingAt (w : World) (r b N at_ n : Nat) (cs : List Int) : Prop where
  own : Blk w r #[.slice (some ⟨b, 0, none⟩) N N, .int .i64 (at_ : Int), .int .i64 (n : Int)] 48
  row : Blk w b (ints cs) 3
  ne : r ≠ b
  len : cs.length = N
  most : N ≤ 4096
  at_lt : 0 < N → at_ < N
  n_le : n ≤ N
/-- .. that has these. -/
def Rg (w : World) (r b N : Nat) (xs : List Int) : Prop := ∃ at_ cs, RingAt w r b N at_ xs.length cs ∧ Vw at_ N cs xs.length (nth xs)
section
variable {w w' : World} {r b N g : Nat} {xs : List Int}
theorem Rg.ltr (h : Rg w r b N xs) : r < w.heap.size := by obtain ⟨_, _, h, _⟩ := h; exact h.own.lt
theorem Rg.ltb (h : Rg w r b N xs) : b < w.heap.size := by obtain ⟨_, _, h, _⟩ := h; exact h.row.lt
theorem Rg.below (h : Rg w r b N xs) (hb : Below w.heap.size w w') : Rg w' r b N xs := by
  obtain ⟨at_, cs, h, v⟩ := h
  exact ⟨at_, cs, { h with own := h.own.below hb, row := h.row.below hb }, v⟩
theorem Rg.kept (h : Rg w r b N xs) (hg : w.grownBy w' (some g)) (n1 : r ≠ g) (n2 : b ≠ g) : Rg w' r b N xs := by
  obtain ⟨at_, cs, h, v⟩ := h
  exact ⟨at_, cs, { h with own := h.own.kept hg n1, row := h.row.kept hg n2 }, v⟩
theorem Rg.keptR (h : Rg w r b N xs) {u : Value} (hg : w.grownBy w' u.ownBlock) (n1 : Off u r) (n2 : Off u b) : Rg w' r b N xs := by
  obtain ⟨at_, cs, h, v⟩ := h
  exact ⟨at_, cs, { h with own := h.own.keptR hg n1, row := h.row.keptR hg n2 }, v⟩
theorem Rg.fr {S : List Nat} (h : Rg w r b N xs) (k : Fr S w w') (n1 : r ∉ S) (n2 : b ∉ S) : Rg w' r b N xs := by
  obtain ⟨at_, cs, h, v⟩ := h
  exact ⟨at_, cs, { h with own := h.own.fr k n1, row := h.row.fr k n2 }, v⟩
theorem Rg.le (h : Rg w r b N xs) : xs.length ≤ N ∧ N ≤ 4096 := by obtain ⟨_, _, h, _⟩ := h; exact ⟨h.n_le, h.most⟩
end

/-! ### lists -/
theorem nth_append (xs ys : List Int) (j : Nat) : nth (xs ++ ys) j = if j < xs.length then nth xs j else nth ys (j - xs.length) := by
  unfold nth
  simp only [List.getD_eq_getElem?_getD, List.getElem?_append]
  split <;> rfl
theorem nth_cons (x : Int) (xs : List Int) (j : Nat) : nth (x :: xs) j = if j = 0 then x else nth xs (j - 1) := by
  cases j <;> simp [nth]
theorem nth_snoc (xs : List Int) (x : Int) (j : Nat) (hj : j < xs.length + 1) : (if j = xs.length then x else nth xs j) = nth (xs ++ [x]) j := by
  rw [nth_append]
  by_cases e : j = xs.length
  · rw [if_pos e, if_neg (by omega), e, Nat.sub_self]; rfl
  · rw [if_neg e, if_pos (by omega)]
theorem nth_take (xs : List Int) (i j : Nat) (h : j < i) : nth (xs.take i) j = nth xs j := by unfold nth; simp [List.getElem?_take, h]
theorem nth_drop (xs : List Int) (i j : Nat) : nth (xs.drop i) j = nth xs (i + j) := by unfold nth; simp [List.getElem?_drop]
/-- A list with a thing at a place more; without the one at a place. -/
def ins (xs : List Int) (i : Nat) (x : Int) : List Int := xs.take i ++ (x :: xs.drop i)
def wo (xs : List Int) (i : Nat) : List Int := xs.take i ++ xs.drop (i + 1)
theorem ins_length {xs : List Int} {i : Nat} (x : Int) (h : i ≤ xs.length) : (ins xs i x).length = xs.length + 1 := by simp [ins]; omega
theorem wo_length {xs : List Int} {i : Nat} (h : i < xs.length) : (wo xs i).length = xs.length - 1 := by simp [wo]; omega
theorem nth_ins {xs : List Int} {i : Nat} (x : Int) (h : i ≤ xs.length) (j : Nat) : nth (ins xs i x) j = if j < i then nth xs j else if j = i then x else nth xs (j - 1) := by
  unfold ins
  rw [nth_append, List.length_take, Nat.min_eq_left h]
  by_cases h1 : j < i
  · rw [if_pos h1, if_pos h1, nth_take _ _ _ h1]
  · rw [if_neg h1, if_neg h1, nth_cons]
    by_cases h2 : j = i
    · rw [if_pos (by omega), if_pos h2]
    · rw [if_neg (by omega), if_neg h2, nth_drop]; congr 1; omega
theorem nth_wo {xs : List Int} {i : Nat} (h : i < xs.length) (j : Nat) : nth (wo xs i) j = if j < i then nth xs j else nth xs (j + 1) := by
  unfold wo
  rw [nth_append, List.length_take, Nat.min_eq_left (Nat.le_of_lt h)]
  by_cases h1 : j < i
  · rw [if_pos h1, if_pos h1, nth_take _ _ _ h1]
  · rw [if_neg h1, if_neg h1, nth_drop]; congr 1; omega
end Go.Proofs.Ytdhhcjhinpmeeaa

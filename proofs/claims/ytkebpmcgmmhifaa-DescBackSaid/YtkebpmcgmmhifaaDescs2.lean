/- A text's tokens: what lies between them, what they are printed as, limits, places: plain laws. -/
import Derived.Test.YtkebpmcgmmhifaaDescs
namespace Go.Proofs.Ytkebpmcgmmhifaa
open Go.RowKit Go.WideShapes Go.ChangeShapes

/-! ### between two tokens -/
theorem chr_sub {l : List UInt8} {e n i : Nat} (h1 : e ≤ i) (h2 : i < n) : chr ((l.take n).drop e) (i - e) = chr l i := by
  unfold chr
  rw [List.getD_eq_getElem?_getD, List.getD_eq_getElem?_getD, List.getElem?_drop, show e + (i - e) = i by omega, List.getElem?_take, if_pos h2]
theorem sub_len {l : List UInt8} {e n : Nat} (h : n ≤ l.length) : ((l.take n).drop e).length = n - e := by
  rw [List.length_drop, List.length_take]; omega
theorem ext_sub {P : Int → Bool} {l : List UInt8} {e n i : Nat} (hn : n ≤ l.length) (h1 : e ≤ i) (h2 : ext P l i ≤ n) : ext P ((l.take n).drop e) (i - e) = ext P l i - e := by
  have hg := ext_ge P l i
  by_cases hi : i < n
  · by_cases hp : P (chr l i) = true
    · rw [ext_go (by omega) hp] at h2 ⊢
      rw [ext_go (by rw [sub_len hn]; omega) (by rw [chr_sub h1 hi]; exact hp), show i - e + 1 = (i + 1) - e by omega]
      exact ext_sub hn (by omega) h2
    · rw [ext_stop (l := l) (by simpa using hp), ext_stop (l := (l.take n).drop e) (by rw [chr_sub h1 hi]; simpa using hp)]
  · rw [ext_end (by rw [sub_len hn]; omega)]
    omega
termination_by n - i
inductive Gap (l : List UInt8) : Nat → Nat → Prop where
  | refl (i : Nat) : Gap l i i
  | blank {i n : Nat} : i < l.length → kd (chr l i) = 6 → Gap l (i + 1) n → Gap l i n
  | note {i n : Nat} : i < l.length → kd (chr l i) = 7 → Gap l (ext noNL l i) n → Gap l i n
theorem Gap.le {l : List UInt8} {i n : Nat} (h : Gap l i n) : i ≤ n := by
  induction h with
  | refl i => exact Nat.le_refl _
  | blank _ _ _ ih => omega
  | note h1 h2 _ ih => have := note_gt h1 h2; omega
theorem gap_none {l : List UInt8} {e i n : Nat} (h : Gap l i n) (he : e ≤ i) (hn : n ≤ l.length) : ∀ f, toks ((l.take n).drop e) f (i - e) = ([], 0, 0) := by
  induction h with
  | refl i => intro f; cases f with
    | zero => rfl
    | succ f => rw [toks, if_neg (by rw [sub_len hn]; omega)]
  | @blank i n h1 h2 h3 ih => intro f; cases f with
    | zero => rfl
    | succ f =>
      have := h3.le
      rw [toks, if_pos (by rw [sub_len hn]; omega), chr_sub he (by omega), if_pos h2, show i - e + 1 = i + 1 - e by omega]
      exact ih (by omega) hn f
  | @note i n h1 h2 h3 ih => intro f; cases f with
    | zero => rfl
    | succ f =>
      have := h3.le
      have hg := note_gt h1 h2
      rw [toks, if_pos (by rw [sub_len hn]; omega), chr_sub he (by omega), if_neg (by omega), if_pos h2, ext_sub hn he this]
      exact ih (by omega) hn f
theorem toks_split {l : List UInt8} : ∀ {f i : Nat} {t : TTok} {ts : List TTok} {r : Int × Nat}, toks l f i = (t :: ts, r) → l.length + 1 ≤ f + i → i ≤ l.length →
    ∃ n f', Gap l i n ∧ n < l.length ∧ kd (chr l n) ≠ 6 ∧ kd (chr l n) ≠ 7 ∧ terr l n = 0 ∧ t = tokI l n ∧ toks l f' (wend l n) = (ts, r) ∧ l.length + 1 ≤ f' + wend l n
  | 0, i, t, ts, r, h, _, _ => by simp [toks] at h
  | f + 1, i, t, ts, r, h, hf, hi => by
    rw [toks] at h
    split at h
    · rename_i hl
      split at h
      · rename_i h6
        obtain ⟨n, f', g1, g2⟩ := toks_split h (by omega) (by omega)
        exact ⟨n, f', .blank hl h6 g1, g2⟩
      · rename_i h6
        split at h
        · rename_i h7
          have hg := note_gt hl h7
          obtain ⟨n, f', g1, g2⟩ := toks_split h (by omega) (ext_le _ _ _ hi)
          exact ⟨n, f', .note hl h7 g1, g2⟩
        · rename_i h7
          split at h
          · simp at h
          · rename_i he
            have hw := wend_gt hl
            injection h with h1 h2
            injection h1 with h1 h3
            exact ⟨i, f, .refl i, hl, h6, h7, by simpa using he, h1.symm, by rw [← h3, ← h2], by omega⟩
    · simp at h
theorem toks_none {l : List UInt8} : ∀ {f i : Nat} {p : Nat}, toks l f i = ([], 0, p) → l.length + 1 ≤ f + i → i ≤ l.length → Gap l i l.length
  | 0, i, p, h, hf, hi => by omega
  | f + 1, i, p, h, hf, hi => by
    rw [toks] at h
    split at h
    · rename_i hl
      split at h
      · rename_i h6; exact .blank hl h6 (toks_none h (by omega) (by omega))
      · split at h
        · rename_i h7
          have hg := note_gt hl h7
          exact .note hl h7 (toks_none h (by omega) (ext_le _ _ _ hi))
        · split at h
          · rename_i he
            injection h with h1 h2; injection h2 with h2 h3
            exact absurd h2 he
          · simp at h
    · obtain rfl : i = l.length := by omega
      exact .refl _
/-- Tokens one behind the other from a place on, with blanks and notes alone between them. -/
def Seg (l : List UInt8) : Nat → List TTok → Prop
  | e, [] => e ≤ l.length ∧ toksA (l.drop e) = ([], 0, 0)
  | e, t :: ts => ∃ n, t = tokI l n ∧ e ≤ n ∧ n < l.length ∧ kd (chr l n) ≠ 6 ∧ kd (chr l n) ≠ 7 ∧ terr l n = 0 ∧ toksA ((l.take n).drop e) = ([], 0, 0) ∧ Seg l (wend l n) ts
theorem seg_of {l : List UInt8} : ∀ {ts : List TTok} {f i p : Nat}, toks l f i = (ts, 0, p) → l.length + 1 ≤ f + i → i ≤ l.length → Seg l i ts
  | [], f, i, p, h, hf, hi => by
    have g := gap_none (toks_none h hf hi) (Nat.le_refl i) (Nat.le_refl _)
    rw [List.take_length, Nat.sub_self] at g
    exact ⟨hi, g _⟩
  | t :: ts, f, i, p, h, hf, hi => by
    obtain ⟨n, f', g1, g2, g3, g4, g5, g6, g7, g8⟩ := toks_split h hf hi
    have g := gap_none g1 (Nat.le_refl i) (by omega)
    rw [Nat.sub_self] at g
    exact ⟨n, g6, g1.le, g2, g3, g4, g5, g _, seg_of g7 g8 (wend_le g2)⟩
theorem seg_all {l : List UInt8} (h : (toksA l).2.1 = 0) : Seg l 0 (toksA l).1 :=
  seg_of (f := l.length + 1) (i := 0) (p := (toksA l).2.2) (by rw [← h]; rfl) (by omega) (Nat.zero_le _)

/-! ### tokens, printed -/
/-- What a token's text looks like. -/
def GoodT (t : TTok) : Prop := (t.1 = 1 ∧ kd (chr t.2.1 0) = 1 ∧ (∀ c ∈ t.2.1, inW (c.toNat : Int) = true) ∧ t.2.1.length ≤ 32 ∧ 0 < t.2.1.length) ∨
  (t.1 = 2 ∧ kd (chr t.2.1 0) = 2 ∧ (∀ c ∈ t.2.1, inL (c.toNat : Int) = true) ∧ 0 < t.2.1.length) ∨ (t.1 = 3 ∧ kd (chr t.2.1 0) = 5 ∧ t.2.1.length = 1)
theorem mem_sub {l : List UInt8} {e n : Nat} {c : UInt8} (hn : n ≤ l.length) (h : c ∈ (l.take n).drop e) : ∃ i, e ≤ i ∧ i < n ∧ chr l i = (c.toNat : Int) := by
  obtain ⟨j, hj, hc⟩ := List.mem_iff_getElem.1 h
  rw [sub_len hn] at hj
  refine ⟨e + j, by omega, by omega, ?_⟩
  rw [← hc]
  unfold chr
  rw [List.getElem_drop, List.getElem_take, List.getD_eq_getElem?_getD, List.getElem?_eq_getElem (by omega)]
  rfl
theorem good_tok {l : List UInt8} {n : Nat} (h : n < l.length) (he : terr l n = 0) : GoodT (tokI l n) := by
  have hw := wend_gt h
  have hwl := wend_le h
  have hlen : ((l.take (wend l n)).drop n).length = wend l n - n := sub_len hwl
  have hc0 : chr ((l.take (wend l n)).drop n) 0 = chr l n := by have := chr_sub (l := l) (Nat.le_refl n) hw; rwa [Nat.sub_self] at this
  unfold GoodT tokI
  simp only
  rw [hc0, hlen]
  unfold terr at he
  by_cases h1 : kd (chr l n) = 1
  · rw [if_pos h1] at he
    refine .inl ⟨by rw [tkind, if_pos h1], h1, fun c hc => ?_, by split at he <;> omega, by omega⟩
    obtain ⟨i, i1, i2, i3⟩ := mem_sub hwl hc
    rw [← i3]
    unfold wend at i2; rw [if_pos h1] at i2
    exact ext_in i1 i2
  · rw [if_neg h1] at he
    by_cases h2 : kd (chr l n) = 2
    · refine .inr (.inl ⟨by rw [tkind, if_neg h1, if_pos h2], h2, fun c hc => ?_, by omega⟩)
      obtain ⟨i, i1, i2, i3⟩ := mem_sub hwl hc
      rw [← i3]
      unfold wend at i2; rw [if_neg h1, if_pos h2] at i2
      exact ext_in i1 i2
    · have h5 : kd (chr l n) = 5 := by
        by_cases h5 : kd (chr l n) = 5
        · exact h5
        · rw [if_neg (by omega)] at he; omega
      refine .inr (.inr ⟨by rw [tkind, if_neg h1, if_neg h2], h5, ?_⟩)
      unfold wend; rw [if_neg h1, if_neg h2]; omega
theorem seg_good {l : List UInt8} : ∀ {ts : List TTok} {e : Nat}, Seg l e ts → ∀ t ∈ ts, GoodT t
  | [], _, _, t, ht => by simp at ht
  | x :: ts, e, h, t, ht => by
    obtain ⟨n, h1, h2, h3, h4, h5, h6, h7, h8⟩ := h
    rcases List.mem_cons.1 ht with rfl | ht
    · rw [h1]; exact good_tok h3 h6
    · exact seg_good h8 t ht
/-- Texts, a blank between two. -/
def spaced : List TTok → List UInt8
  | [] => []
  | [t] => t.2.1
  | t :: u :: ts => t.2.1 ++ 32 :: spaced (u :: ts)
theorem chr_mid {pre w r : List UInt8} {j : Nat} (h : j < w.length) : chr (pre ++ (w ++ r)) (pre.length + j) = chr w j := by
  unfold chr
  rw [List.getD_eq_getElem?_getD, List.getD_eq_getElem?_getD, List.getElem?_append_right (by omega), show pre.length + j - pre.length = j by omega, List.getElem?_append_left h]
theorem chr_mem {w : List UInt8} {j : Nat} (h : j < w.length) : ∃ c ∈ w, chr w j = (c.toNat : Int) := ⟨w[j], List.getElem_mem h, by unfold chr; rw [List.getD_eq_getElem?_getD, List.getElem?_eq_getElem h]; rfl⟩
theorem ext_mid_end {P : Int → Bool} {pre w r : List UInt8} (hw : ∀ c ∈ w, P (c.toNat : Int) = true) (hr : r = [] ∨ ∃ r', r = 32 :: r' ∧ P 32 = false) : ∀ {d j : Nat}, j + d = w.length → ext P (pre ++ (w ++ r)) (pre.length + j) = pre.length + w.length
  | 0, j, hj => by
    rcases hr with rfl | ⟨r', rfl, hp⟩
    · rw [ext_end (by simp; omega)]; omega
    · rw [ext_stop]
      · omega
      · have : chr (pre ++ (w ++ 32 :: r')) (pre.length + j) = 32 := by
          unfold chr
          rw [List.getD_eq_getElem?_getD, List.getElem?_append_right (by omega), List.getElem?_append_right (by omega), show pre.length + j - pre.length - w.length = 0 by omega]
          rfl
        rw [this]; exact hp
  | d + 1, j, hj => by
    obtain ⟨c, hc, e⟩ := chr_mem (w := w) (j := j) (by omega)
    rw [ext_go (by simp; omega) (by rw [chr_mid (by omega), e]; exact hw c hc)]
    exact ext_mid_end hw hr (d := d) (j := j + 1) (by omega)
theorem tok_mid {pre r : List UInt8} {t : TTok} (hg : GoodT t) (hr : r = [] ∨ ∃ r', r = 32 :: r') :
    kd (chr (pre ++ (t.2.1 ++ r)) pre.length) ≠ 6 ∧ kd (chr (pre ++ (t.2.1 ++ r)) pre.length) ≠ 7 ∧ terr (pre ++ (t.2.1 ++ r)) pre.length = 0 ∧ wend (pre ++ (t.2.1 ++ r)) pre.length = pre.length + t.2.1.length ∧
    (tokI (pre ++ (t.2.1 ++ r)) pre.length).1 = t.1 ∧ (tokI (pre ++ (t.2.1 ++ r)) pre.length).2.1 = t.2.1 := by
  have hpos : 0 < t.2.1.length := by rcases hg with h | h | h <;> omega
  have hc0 : chr (pre ++ (t.2.1 ++ r)) pre.length = chr t.2.1 0 := by have := chr_mid (pre := pre) (r := r) hpos; rwa [Nat.add_zero] at this
  have key : ∀ k, kd (chr t.2.1 0) = k → wend (pre ++ (t.2.1 ++ r)) pre.length = pre.length + t.2.1.length → t.1 = tkind k → (tokI (pre ++ (t.2.1 ++ r)) pre.length).1 = t.1 ∧ (tokI (pre ++ (t.2.1 ++ r)) pre.length).2.1 = t.2.1 := fun k hk hw ht => by
    unfold tokI
    refine ⟨by rw [hc0, hk, ht], ?_⟩
    show List.drop pre.length (List.take (wend (pre ++ (t.2.1 ++ r)) pre.length) (pre ++ (t.2.1 ++ r))) = _
    rw [hw, ← List.append_assoc, List.take_left' (by simp), List.drop_left' rfl]
  rcases hg with ⟨g1, g2, g3, g4, g5⟩ | ⟨g1, g2, g3, g5⟩ | ⟨g1, g2, g3⟩
  · have hw : wend (pre ++ (t.2.1 ++ r)) pre.length = pre.length + t.2.1.length := by
      unfold wend; rw [hc0, if_pos g2]
      have := ext_mid_end (P := inW) (pre := pre) (w := t.2.1) (r := r) g3 (hr.imp id fun ⟨r', e⟩ => ⟨r', e, by decide⟩) (d := t.2.1.length) (j := 0) (by omega)
      rwa [Nat.add_zero] at this
    refine ⟨by rw [hc0]; omega, by rw [hc0]; omega, ?_, hw, key 1 g2 hw (by rw [g1]; rfl)⟩
    unfold terr; rw [hw, hc0, if_pos g2, if_neg (by omega)]
  · have hw : wend (pre ++ (t.2.1 ++ r)) pre.length = pre.length + t.2.1.length := by
      unfold wend; rw [hc0, if_neg (by omega), if_pos g2]
      have := ext_mid_end (P := inL) (pre := pre) (w := t.2.1) (r := r) g3 (hr.imp id fun ⟨r', e⟩ => ⟨r', e, by decide⟩) (d := t.2.1.length) (j := 0) (by omega)
      rwa [Nat.add_zero] at this
    refine ⟨by rw [hc0]; omega, by rw [hc0]; omega, ?_, hw, key 2 g2 hw (by rw [g1]; rfl)⟩
    unfold terr; rw [hc0, if_neg (by omega), if_pos (.inl g2)]
  · have hw : wend (pre ++ (t.2.1 ++ r)) pre.length = pre.length + t.2.1.length := by
      unfold wend; rw [hc0, if_neg (by omega), if_neg (by omega), g3]
    refine ⟨by rw [hc0]; omega, by rw [hc0]; omega, ?_, hw, key 5 g2 hw (by rw [g1]; rfl)⟩
    unfold terr; rw [hc0, if_neg (by omega), if_pos (.inr g2)]
/-- The same tokens, but for their places. -/
def alikeT (xs ys : List TTok) : Prop := xs.map (fun t => (t.1, t.2.1)) = ys.map (fun t => (t.1, t.2.1))
theorem spaced_toks : ∀ (ts : List TTok) (pre : List UInt8) (f : Nat), (∀ t ∈ ts, GoodT t) → 2 * ts.length ≤ f → alikeT (toks (pre ++ spaced ts) f pre.length).1 ts ∧ (toks (pre ++ spaced ts) f pre.length).2 = (0, 0)
  | [], pre, f, _, hf => by
    cases f with
    | zero => exact ⟨rfl, rfl⟩
    | succ f => rw [toks, if_neg (by simp [spaced])]; exact ⟨rfl, rfl⟩
  | [t], pre, f, hg, hf => by
    cases f with
    | zero => simp at hf
    | succ f =>
      obtain ⟨h1, h2, h3, h4, h5, h6⟩ := tok_mid (pre := pre) (r := []) (hg t (by simp)) (.inl rfl)
      rw [List.append_nil] at h1 h2 h3 h4 h5 h6
      have hpos : 0 < t.2.1.length := by rcases hg t (by simp) with h | h | h <;> omega
      show alikeT (toks (pre ++ t.2.1) (f + 1) pre.length).1 [t] ∧ (toks (pre ++ t.2.1) (f + 1) pre.length).2 = (0, 0)
      have e : toks (pre ++ t.2.1) f (pre.length + t.2.1.length) = ([], 0, 0) := by
        cases f with
        | zero => rfl
        | succ f => rw [toks, if_neg (by simp)]
      rw [toks, if_pos (by simp; omega), if_neg h1, if_neg h2, if_neg (by simpa using h3), h4, e]
      refine ⟨?_, rfl⟩
      unfold alikeT
      simp [h5, h6]
  | t :: u :: ts, pre, f, hg, hf => by
    simp only [List.length_cons] at hf
    cases f with
    | zero => omega
    | succ f =>
      cases f with
      | zero => omega
      | succ f =>
      obtain ⟨h1, h2, h3, h4, h5, h6⟩ := tok_mid (pre := pre) (r := 32 :: spaced (u :: ts)) (hg t (by simp)) (.inr ⟨_, rfl⟩)
      have hpos : 0 < t.2.1.length := by rcases hg t (by simp) with h | h | h <;> omega
      have ih := spaced_toks (u :: ts) (pre ++ t.2.1 ++ [32]) f (fun x hx => hg x (List.mem_cons_of_mem _ hx)) (by simp only [List.length_cons]; omega)
      have el : pre ++ t.2.1 ++ [32] ++ spaced (u :: ts) = pre ++ (t.2.1 ++ 32 :: spaced (u :: ts)) := by simp
      rw [el] at ih
      have e32 : chr (pre ++ (t.2.1 ++ 32 :: spaced (u :: ts))) (pre.length + t.2.1.length) = 32 := by
        unfold chr
        rw [List.getD_eq_getElem?_getD, List.getElem?_append_right (by omega), List.getElem?_append_right (by omega), show pre.length + t.2.1.length - pre.length - t.2.1.length = 0 by omega]
        rfl
      have e1 : toks (pre ++ (t.2.1 ++ 32 :: spaced (u :: ts))) (f + 1) (pre.length + t.2.1.length) = toks (pre ++ (t.2.1 ++ 32 :: spaced (u :: ts))) f (pre ++ t.2.1 ++ [32]).length := by
        rw [toks, if_pos (by simp), e32, if_pos (by decide)]
        congr 1
        simp; omega
      show alikeT (toks (pre ++ (t.2.1 ++ 32 :: spaced (u :: ts))) (f + 1 + 1) pre.length).1 (t :: u :: ts) ∧ (toks (pre ++ (t.2.1 ++ 32 :: spaced (u :: ts))) (f + 1 + 1) pre.length).2 = (0, 0)
      rw [toks, if_pos (by simp; omega), if_neg h1, if_neg h2, if_neg (by simpa using h3), h4, e1]
      refine ⟨?_, ih.2⟩
      unfold alikeT
      rw [List.map_cons, List.map_cons, h5, h6]
      exact congrArg _ ih.1

theorem spaced_ge : ∀ (ts : List TTok), (∀ t ∈ ts, GoodT t) → 2 * ts.length ≤ (spaced ts).length + 1
  | [], _ => by simp [spaced]
  | [t], hg => by
    have : 0 < t.2.1.length := by rcases hg t (by simp) with h | h | h <;> omega
    simp only [spaced, List.length_cons, List.length_nil]; omega
  | t :: u :: ts, hg => by
    have ih := spaced_ge (u :: ts) fun x hx => hg x (List.mem_cons_of_mem _ hx)
    have : 0 < t.2.1.length := by rcases hg t (by simp) with h | h | h <;> omega
    simp only [spaced, List.length_append, List.length_cons] at ih ⊢; omega
theorem spaced_le {l : List UInt8} : ∀ {ts : List TTok} {e : Nat}, Seg l e ts → (spaced ts).length + e ≤ l.length + ts.length
  | [], e, h => by simp only [spaced, List.length_nil]; have := h.1; omega
  | [t], e, h => by
    obtain ⟨n, rfl, h2, h3, h4, h5, h6, h7, h8⟩ := h
    have := sub_len (wend_le h3) (e := n)
    have hg := wend_gt h3
    have hl := wend_le h3
    simp only [spaced, tokI, this, List.length_cons, List.length_nil]; omega
  | t :: u :: ts, e, h => by
    obtain ⟨n, h1, h2, h3, h4, h5, h6, h7, h8⟩ := h
    have ih := spaced_le h8
    have := sub_len (wend_le h3) (e := n)
    have hg := wend_gt h3
    have ht : t.2.1.length = wend l n - n := by rw [h1]; exact this
    simp only [spaced, List.length_append, List.length_cons, ht] at ih ⊢
    omega
theorem spaced_A {ts : List TTok} (hg : ∀ t ∈ ts, GoodT t) : alikeT (toksA (spaced ts)).1 ts ∧ (toksA (spaced ts)).2 = (0, 0) := by
  have := spaced_toks ts [] ((spaced ts).length + 1) hg (by have := spaced_ge ts hg; omega)
  simpa [toksA] using this

/-! ### limits -/
theorem chr_rep {n i : Nat} {c : UInt8} (h : i < n) : chr (List.replicate n c) i = (c.toNat : Int) := by
  unfold chr; rw [List.getD_eq_getElem?_getD, List.getElem?_replicate, if_pos h]; rfl
theorem ext_rep {P : Int → Bool} {n : Nat} {c : UInt8} (hp : P (c.toNat : Int) = true) : ∀ {d i : Nat}, i + d = n → ext P (List.replicate n c) i = n
  | 0, i, h => by rw [ext_end (by simp; omega)]; omega
  | d + 1, i, h => by rw [ext_go (by simp; omega) (by rw [chr_rep (by omega)]; exact hp)]; exact ext_rep hp (d := d) (by omega)
theorem lim_a {n : Nat} (h : 1 ≤ n) : (toksA (List.replicate n 97)).2 = (if n ≤ 32 then (0, 0) else (2, 0)) ∧ (n ≤ 32 → (toksA (List.replicate n 97)).1.length = 1) := by
  have hc : chr (List.replicate n 97) 0 = 97 := chr_rep h
  have hk : kd (chr (List.replicate n 97) 0) = 1 := by rw [hc]; rfl
  have hw : wend (List.replicate n 97) 0 = n := by unfold wend; rw [if_pos hk]; exact ext_rep (c := 97) (by decide) (d := n) (by omega)
  have ht : terr (List.replicate n 97) 0 = if 32 < n then 2 else 0 := by unfold terr; rw [hw, if_pos hk]; rfl
  unfold toksA
  rw [toks, if_pos (by simp; omega), if_neg (by omega), if_neg (by omega), ht]
  by_cases hn : n ≤ 32
  · rw [if_neg (by rw [if_neg (by omega)]; simp), if_pos hn, hw]
    have : toks (List.replicate n 97) (List.replicate n (97 : UInt8)).length n = ([], 0, 0) := by
      cases hl : (List.replicate n (97 : UInt8)).length with
      | zero => rfl
      | succ f => rw [toks, if_neg (by simp)]
    rw [this]
    exact ⟨rfl, fun _ => rfl⟩
  · rw [if_pos (by rw [if_pos (by omega)]; decide), if_neg hn, if_pos (by omega)]
    exact ⟨rfl, fun h => absurd h hn⟩
theorem lim_s {n : Nat} : ∀ {d i f : Nat}, i + d = n → d < f → (toks (List.replicate n 59) f i).2 = (0, 0) ∧ (toks (List.replicate n 59) f i).1.length = d
  | 0, i, f, h, hf => by
    cases f with
    | zero => omega
    | succ f => rw [toks, if_neg (by simp; omega)]; exact ⟨rfl, rfl⟩
  | d + 1, i, f, h, hf => by
    cases f with
    | zero => omega
    | succ f =>
      have hc : chr (List.replicate n 59) i = 59 := chr_rep (by omega)
      have hk : kd (chr (List.replicate n 59) i) = 5 := by rw [hc]; rfl
      have hw : wend (List.replicate n 59) i = i + 1 := by unfold wend; rw [if_neg (by omega), if_neg (by omega)]
      have ih := lim_s (n := n) (d := d) (i := i + 1) (f := f) (by omega) (by omega)
      have ht : terr (List.replicate n 59) i = 0 := by unfold terr; rw [if_neg (by omega), if_pos (.inr hk)]
      rw [toks, if_pos (by simp; omega), if_neg (by omega), if_neg (by omega), if_neg (by rw [ht]; simp), hw]
      exact ⟨ih.1, by rw [List.length_cons, ih.2]⟩
theorem lim_sA (n : Nat) : (toksA (List.replicate n 59)).2 = (0, 0) ∧ (toksA (List.replicate n 59)).1.length = n := by
  have := lim_s (n := n) (d := n) (i := 0) (f := n + 1) (by omega) (by omega)
  simpa [toksA] using this
theorem lim_name {n : Nat} (h : 1 ≤ n) : isNameL (List.replicate n 97) = decide (n ≤ 32) := by
  unfold isNameL
  rw [decide_eq_decide]
  constructor
  · intro h; have := h.2.1; simpa using this
  · intro hn
    refine ⟨by simpa using h, by simpa using hn, by rw [chr_rep h]; rfl, fun j hj => by rw [chr_rep (by simpa using hj)]; decide, ?_⟩
    unfold isWordL
    rw [decide_eq_false_iff_not]
    rintro (e | e | e)
    · have h1 := congrArg (fun l => chr l 0) e; rw [chr_rep h] at h1; revert h1; decide
    · have h1 := congrArg (fun l => chr l 0) e; rw [chr_rep h] at h1; revert h1; decide
    · have h1 := congrArg (fun l => chr l 0) e; rw [chr_rep h] at h1; revert h1; decide
/-! ### places -/
theorem lnS_count {l : List UInt8} : ∀ {n : Nat}, n ≤ l.length → (lnS l n).1 = (l.take n).count 10 + 1
  | 0, _ => by simp [lnS]
  | n + 1, h => by
    have ih := lnS_count (l := l) (n := n) (by omega)
    have hl : n < l.length := by omega
    rw [List.take_add_one, List.getElem?_eq_getElem hl, List.count_append]
    have hc : chr l n = ((l[n]).toNat : Int) := by unfold chr; rw [List.getD_eq_getElem?_getD, List.getElem?_eq_getElem hl]; rfl
    by_cases h10 : l[n] = 10
    · rw [lnS_yes (by rw [hc, h10]; rfl), ih, h10]; simp
    · rw [lnS_no (by rw [hc]; intro e; apply h10; apply UInt8.toNat_inj.1; have : (10 : UInt8).toNat = 10 := rfl; omega), ih]
      simp [h10]
theorem lnS_last (l : List UInt8) : ∀ n, ((lnS l n).2 = 0 ∧ ∀ j, j < n → chr l j ≠ 10) ∨ (0 < (lnS l n).2 ∧ chr l ((lnS l n).2 - 1) = 10 ∧ ∀ j, (lnS l n).2 ≤ j → j < n → chr l j ≠ 10)
  | 0 => .inl ⟨rfl, fun j h => by omega⟩
  | n + 1 => by
    by_cases h : chr l n = 10
    · rw [lnS_yes h]; exact .inr ⟨by simp, h, fun j a b => by simp at a; omega⟩
    · rw [lnS_no h]
      rcases lnS_last l n with ⟨h1, h2⟩ | ⟨h1, h2, h3⟩
      · exact .inl ⟨h1, fun j hj => by by_cases e : j = n; (· subst e; exact h); exact h2 j (by omega)⟩
      · exact .inr ⟨h1, h2, fun j a b => by by_cases e : j = n; (· subst e; exact h); exact h3 j a (by omega)⟩
/-- The last of the bytes below n that is a line's end: -1, if there is none. -/
theorem lnS_is {l : List UInt8} {n : Nat} {r : Int} (h : (r = -1 ∧ ∀ j, j < n → chr l j ≠ 10) ∨ ∃ k : Nat, r = k ∧ k < n ∧ chr l k = 10 ∧ ∀ j, k < j → j < n → chr l j ≠ 10) : (((lnS l n).2 : Nat) : Int) = r + 1 := by
  have hle := lnS_le l n
  rcases lnS_last l n with ⟨h1, h2⟩ | ⟨h1, h2, h3⟩
  · rcases h with ⟨rfl, _⟩ | ⟨k, rfl, hk, h4, _⟩
    · omega
    · exact absurd h4 (h2 k hk)
  · rcases h with ⟨rfl, h4⟩ | ⟨k, rfl, hk, h4, h5⟩
    · exact absurd h2 (h4 _ (by omega))
    · have a1 : ¬ k < (lnS l n).2 - 1 := fun hlt => h5 _ hlt (by omega) h2
      have a2 : ¬ (lnS l n).2 ≤ k := fun hge => h3 k hge hk h4
      omega
theorem chr_take {l : List UInt8} {n j : Nat} (h : j < n) : chr (l.take n) j = chr l j := by
  unfold chr; rw [List.getD_eq_getElem?_getD, List.getD_eq_getElem?_getD, List.getElem?_take, if_pos h]
end Go.Proofs.Ytkebpmcgmmhifaa

/- A text's tokens: plain laws. -/
import Derived.Test.YtkebpmcgmmhifaaToks
import Derived.Test.YtkebpmcgmmhifaaChr
namespace Go.Proofs.Ytkebpmcgmmhifaa
open Go.RowKit Go.WideShapes Go.ChangeShapes

/-- Of which kind a byte is (1 small letters, 2 digits, 3 _, 4 comma and -, 5 signs, 6 blanks, 7 the note's). -/
def kd (c : Int) : Nat :=
  if 97 ≤ c ∧ c ≤ 122 then 1 else if 48 ≤ c ∧ c ≤ 57 then 2 else if c = 95 then 3 else if c = 44 ∨ c = 45 then 4
  else if c = 123 ∨ c = 125 ∨ c = 59 then 5 else if c = 32 ∨ c = 9 ∨ c = 10 ∨ c = 13 then 6 else if c = 35 then 7 else 0
theorem kd_1 {c : Int} : kd c = 1 ↔ 97 ≤ c ∧ c ≤ 122 := by unfold kd; (repeat' split) <;> omega
theorem kd_2 {c : Int} : kd c = 2 ↔ 48 ≤ c ∧ c ≤ 57 := by unfold kd; (repeat' split) <;> omega
theorem kd_3 {c : Int} : kd c = 3 ↔ c = 95 := by unfold kd; (repeat' split) <;> omega
theorem kd_4 {c : Int} : kd c = 4 ↔ c = 44 ∨ c = 45 := by unfold kd; (repeat' split) <;> omega
theorem kd_5 {c : Int} : kd c = 5 ↔ c = 123 ∨ c = 125 ∨ c = 59 := by unfold kd; (repeat' split) <;> omega
theorem kd_6 {c : Int} : kd c = 6 ↔ c = 32 ∨ c = 9 ∨ c = 10 ∨ c = 13 := by unfold kd; (repeat' split) <;> omega
theorem kd_7 {c : Int} : kd c = 7 ↔ c = 35 := by unfold kd; (repeat' split) <;> omega
theorem kd_le (c : Int) : kd c ≤ 7 := by unfold kd; (repeat' split) <;> omega
def inW (c : Int) : Bool := decide (kd c = 1 ∨ kd c = 2 ∨ kd c = 3)
def inL (c : Int) : Bool := decide (kd c = 2 ∨ kd c = 4)
def isB (c : Int) : Bool := decide (kd c = 6)
def noNL (c : Int) : Bool := decide (c ≠ 10)

/-- How far from a place on the bytes are such. -/
def ext (P : Int → Bool) (l : List UInt8) (i : Nat) : Nat := if i < l.length then if P (chr l i) = true then ext P l (i + 1) else i else i
termination_by l.length - i
theorem ext_go {P : Int → Bool} {l : List UInt8} {i : Nat} (h : i < l.length) (hp : P (chr l i) = true) : ext P l i = ext P l (i + 1) := by rw [ext, if_pos h, if_pos hp]
theorem ext_stop {P : Int → Bool} {l : List UInt8} {i : Nat} (hp : P (chr l i) = false) : ext P l i = i := by rw [ext]; split <;> simp_all
theorem ext_end {P : Int → Bool} {l : List UInt8} {i : Nat} (h : l.length ≤ i) : ext P l i = i := by rw [ext, if_neg (by omega)]
theorem ext_ge (P : Int → Bool) (l : List UInt8) (i : Nat) : i ≤ ext P l i := by
  rw [ext]
  split
  · split
    · have := ext_ge P l (i + 1); omega
    · exact Nat.le_refl _
  · exact Nat.le_refl _
termination_by l.length - i
theorem ext_le (P : Int → Bool) (l : List UInt8) (i : Nat) (h : i ≤ l.length) : ext P l i ≤ l.length := by
  rw [ext]
  split
  · split
    · exact ext_le P l (i + 1) (by omega)
    · exact h
  · exact h
termination_by l.length - i
theorem ext_in {P : Int → Bool} {l : List UInt8} {i j : Nat} (h1 : i ≤ j) (h2 : j < ext P l i) : P (chr l j) = true := by
  rw [ext] at h2
  split at h2
  · split at h2
    · rename_i hl hp
      by_cases e : j = i
      · subst e; exact hp
      · exact ext_in (i := i + 1) (by omega) h2
    · omega
  · omega
termination_by l.length - i
theorem ext_out {P : Int → Bool} {l : List UInt8} {i : Nat} (h : ext P l i < l.length) : P (chr l (ext P l i)) = false := by
  rw [ext] at h ⊢
  split at h
  · split at h
    · rename_i hl hp
      rw [if_pos hl, if_pos hp]; exact ext_out h
    · rename_i hl hp
      rw [if_pos hl, if_neg hp]; simpa using hp
  · omega
termination_by l.length - i
theorem ext_mid {P : Int → Bool} {l : List UInt8} {i j : Nat} (h1 : i ≤ j) (h2 : j ≤ ext P l i) : ext P l j = ext P l i := by
  by_cases e : j = i
  · subst e; rfl
  · have hlt : i < ext P l i := by omega
    have hp := ext_in (Nat.le_refl i) hlt
    have hl : i < l.length := by
      rcases Nat.lt_or_ge i l.length with g | g
      · exact g
      · rw [ext_end g] at hlt; omega
    rw [ext_go hl hp] at h2 ⊢
    exact ext_mid (by omega) h2
termination_by l.length - i

/-- Lines ahead of a place, from 1 on; where its line begins. -/
def lnS (l : List UInt8) : Nat → Nat × Nat
  | 0 => (1, 0)
  | n + 1 => if chr l n = 10 then ((lnS l n).1 + 1, n + 1) else lnS l n
theorem lnS_yes {l : List UInt8} {n : Nat} (h : chr l n = 10) : lnS l (n + 1) = ((lnS l n).1 + 1, n + 1) := by rw [lnS, if_pos h]
theorem lnS_no {l : List UInt8} {n : Nat} (h : chr l n ≠ 10) : lnS l (n + 1) = lnS l n := by rw [lnS, if_neg h]
theorem lnS_le (l : List UInt8) : ∀ n, (lnS l n).2 ≤ n ∧ 1 ≤ (lnS l n).1 ∧ (lnS l n).1 ≤ n + 1
  | 0 => by simp [lnS]
  | n + 1 => by
    have := lnS_le l n
    rw [lnS]
    split
    · simp; omega
    · omega
/-- Where a place is. -/
def plc (l : List UInt8) (n : Nat) : TPl := ((n : Int), (((lnS l n).1 : Nat) : Int), (n : Int) - (((lnS l n).2 : Nat) : Int) + 1)

/-- Where the token that begins at a place ends. -/
def wend (l : List UInt8) (i : Nat) : Nat := if kd (chr l i) = 1 then ext inW l i else if kd (chr l i) = 2 then ext inL l i else i + 1
def tkind (k : Nat) : Int := if k = 1 then 1 else if k = 2 then 2 else 3
def tokI (l : List UInt8) (i : Nat) : TTok := (tkind (kd (chr l i)), (l.take (wend l i)).drop i, plc l i)
/-- What is wrong with it. -/
def terr (l : List UInt8) (i : Nat) : Int := if kd (chr l i) = 1 then (if 32 < wend l i - i then 2 else 0) else if kd (chr l i) = 2 ∨ kd (chr l i) = 5 then 0 else 20
/-- The next place, past blanks and notes. -/
def gapE (l : List UInt8) : Nat → Nat → Nat
  | 0, i => i
  | f + 1, i => if i < l.length then if kd (chr l i) = 6 then gapE l f (i + 1) else if kd (chr l i) = 7 then gapE l f (ext noNL l i) else i else i
def toks (l : List UInt8) : Nat → Nat → List TTok × Int × Nat
  | 0, _ => ([], 0, 0)
  | f + 1, i => if i < l.length then
      if kd (chr l i) = 6 then toks l f (i + 1)
      else if kd (chr l i) = 7 then toks l f (ext noNL l i)
      else if terr l i ≠ 0 then ([], terr l i, i)
      else (tokI l i :: (toks l f (wend l i)).1, (toks l f (wend l i)).2)
    else ([], 0, 0)
def toksA (l : List UInt8) : List TTok × Int × Nat := toks l (l.length + 1) 0
theorem inW_1 {c : Int} (h : kd c = 1) : inW c = true := by unfold inW; rw [decide_eq_true_iff]; exact .inl h
theorem inL_2 {c : Int} (h : kd c = 2) : inL c = true := by unfold inL; rw [decide_eq_true_iff]; exact .inl h
theorem noNL_7 {c : Int} (h : kd c = 7) : noNL c = true := by unfold noNL; rw [kd_7] at h; subst h; rfl
theorem wend_gt {l : List UInt8} {i : Nat} (h : i < l.length) : i < wend l i := by
  unfold wend
  split
  · rename_i h1; rw [ext_go h (inW_1 h1)]; exact ext_ge _ _ _
  · split
    · rename_i h1; rw [ext_go h (inL_2 h1)]; exact ext_ge _ _ _
    · omega
theorem wend_le {l : List UInt8} {i : Nat} (h : i < l.length) : wend l i ≤ l.length := by
  unfold wend
  split
  · exact ext_le _ _ _ (by omega)
  · split
    · exact ext_le _ _ _ (by omega)
    · omega
theorem note_gt {l : List UInt8} {i : Nat} (h : i < l.length) (hk : kd (chr l i) = 7) : i < ext noNL l i := by
  rw [ext_go h (noNL_7 hk)]; exact ext_ge _ _ _
/-- Where cutting into tokens stands: what is taken, and what is still to come, is all. -/
def TK (l : List UInt8) (f i : Nat) (xs : List TTok) : Prop :=
  l.length + 1 ≤ f + i ∧ i ≤ l.length ∧ (toks l f i).2 = (toksA l).2 ∧ xs ++ (toks l f i).1 = (toksA l).1
theorem tk_start (l : List UInt8) : TK l (l.length + 1) 0 [] := ⟨by omega, Nat.zero_le _, rfl, rfl⟩
theorem tk_blank {l : List UInt8} {f i : Nat} {xs : List TTok} (h : TK l f i xs) (hi : i < l.length) (hk : kd (chr l i) = 6) : TK l (f - 1) (i + 1) xs := by
  obtain ⟨h1, h2, h3, h4⟩ := h
  cases f with
  | zero => omega
  | succ f =>
    rw [toks, if_pos hi, if_pos hk] at h3 h4
    exact ⟨by omega, by omega, h3, h4⟩
theorem tk_blanks {l : List UInt8} {xs : List TTok} : ∀ {d f i : Nat}, TK l f i xs → i + d ≤ ext isB l i → TK l (f - d) (i + d) xs
  | 0, f, i, h, _ => h
  | d + 1, f, i, h, hd => by
    have hp := ext_in (P := isB) (l := l) (Nat.le_refl i) (by omega)
    have hl : i < l.length := by
      rcases Nat.lt_or_ge i l.length with g | g
      · exact g
      · rw [ext_end g] at hd; omega
    have h2 := tk_blank h hl (by unfold isB at hp; simpa using hp)
    have h3 := tk_blanks (d := d) h2 (by rw [← ext_go hl hp]; omega)
    rw [show f - (d + 1) = f - 1 - d by omega, show i + (d + 1) = i + 1 + d by omega]; exact h3
theorem tk_note {l : List UInt8} {f i : Nat} {xs : List TTok} (h : TK l f i xs) (hi : i < l.length) (hk : kd (chr l i) = 7) : TK l (f - 1) (ext noNL l i) xs := by
  obtain ⟨h1, h2, h3, h4⟩ := h
  have hg := note_gt hi hk
  have hle := ext_le noNL l i (by omega)
  cases f with
  | zero => omega
  | succ f =>
    rw [toks, if_pos hi, if_neg (by omega), if_pos hk] at h3 h4
    exact ⟨by omega, hle, h3, h4⟩
theorem tk_tok {l : List UInt8} {f i : Nat} {xs : List TTok} (h : TK l f i xs) (hi : i < l.length) (h6 : kd (chr l i) ≠ 6) (h7 : kd (chr l i) ≠ 7) (he : terr l i = 0) : TK l (f - 1) (wend l i) (xs ++ [tokI l i]) := by
  obtain ⟨h1, h2, h3, h4⟩ := h
  have hg := wend_gt hi
  cases f with
  | zero => omega
  | succ f =>
    rw [toks, if_pos hi, if_neg h6, if_neg h7, if_neg (by simpa using he)] at h3 h4
    refine ⟨by omega, wend_le hi, h3, ?_⟩
    rw [← h4]; simp
theorem tk_bad {l : List UInt8} {f i : Nat} {xs : List TTok} (h : TK l f i xs) (hi : i < l.length) (h6 : kd (chr l i) ≠ 6) (h7 : kd (chr l i) ≠ 7) (he : terr l i ≠ 0) : (toksA l).2 = (terr l i, i) := by
  obtain ⟨h1, h2, h3, h4⟩ := h
  cases f with
  | zero => omega
  | succ f =>
    rw [toks, if_pos hi, if_neg h6, if_neg h7, if_pos he] at h3
    exact h3.symm
theorem tk_end {l : List UInt8} {f i : Nat} {xs : List TTok} (h : TK l f i xs) (hi : l.length ≤ i) : (toksA l).2 = (0, 0) ∧ xs = (toksA l).1 := by
  obtain ⟨h1, h2, h3, h4⟩ := h
  have e : toks l f i = ([], 0, 0) := by
    cases f with
    | zero => rfl
    | succ f => rw [toks, if_neg (by omega)]
  rw [e] at h3 h4
  exact ⟨h3.symm, by simpa using h4⟩
theorem terr_cases (l : List UInt8) (i : Nat) : terr l i = 0 ∨ terr l i = 2 ∨ terr l i = 20 := by unfold terr; (repeat' split) <;> simp
theorem toks_len {l : List UInt8} : ∀ {f i : Nat}, i ≤ l.length → (toks l f i).1.length ≤ l.length - i
  | 0, i, _ => by simp [toks]
  | f + 1, i, hi => by
    rw [toks]
    split
    · rename_i h
      split
      · have := toks_len (l := l) (f := f) (i := i + 1) (by omega); omega
      · split
        · rename_i h7
          have h1 := note_gt h h7
          have h2 := ext_le noNL l i (by omega)
          have := toks_len (f := f) h2; omega
        · split
          · simp
          · have h1 := wend_gt h
            have h2 := wend_le h
            have := toks_len (f := f) h2
            rw [List.length_cons]; omega
    · simp
theorem toksA_len (l : List UInt8) : (toksA l).1.length ≤ l.length := by have := toks_len (l := l) (f := l.length + 1) (Nat.zero_le _); unfold toksA; omega
theorem tk_len {l : List UInt8} {f i : Nat} {xs : List TTok} (h : TK l f i xs) : xs.length ≤ l.length := by
  have h2 := congrArg List.length h.2.2.2
  have := toksA_len l
  rw [List.length_append] at h2; omega
/-- A text of more than 65536 bytes has none. -/
def desA (l : List UInt8) : List TTok × Int × Nat := if 65536 < l.length then ([], 2, 0) else toksA l
/-- The tokens that there are: none, where something is wrong. -/
def desR (l : List UInt8) : List TTok := if (desA l).2.1 = 0 then (desA l).1 else []
/-- Where the fault is. -/
def desP (l : List UInt8) : TPl := if (desA l).2.1 = 0 then (0, 0, 0) else plc l (desA l).2.2

/-! ### names -/
def isWordL (l : List UInt8) : Bool := decide (l = [100, 111, 109, 97, 105, 110] ∨ l = [113, 117, 101, 117, 101] ∨ l = [99, 112, 117, 115])
def isNameL (l : List UInt8) : Bool := decide (1 ≤ l.length ∧ l.length ≤ 32 ∧ kd (chr l 0) = 1 ∧ (∀ j, j < l.length → inW (chr l j) = true) ∧ isWordL l = false)
end Go.Proofs.Ytkebpmcgmmhifaa

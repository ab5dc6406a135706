/- What the reference's number answers, beside the reader's: plain laws. -/
import Derived.Test.YthgamlklpfkkhaaDoorTrip
namespace Go.Proofs.YthgamlklpfkkhaaDoor
open Go.RowKit

/-- The reference's count of the digits at the front, and its number. -/
def dcnt : List UInt8 → Nat
  | [] => 0
  | c :: l => if 48 ≤ c.toNat ∧ c.toNat ≤ 57 then dcnt l + 1 else 0
def rsc : List UInt8 → Int → Int
  | [], n => n
  | c :: l, n => if 48 ≤ c.toNat ∧ c.toNat ≤ 57 then rsc l (if n < 5000 then (n * 10 + (c.toNat : Int)) - 48 else n) else n
theorem dig_cons {l : List UInt8} {j : Nat} (hj : j < l.length) : l.drop j = l[j] :: l.drop (j + 1) ∧ chr l j = ((l[j]).toNat : Int) := ⟨List.drop_eq_getElem_cons hj, by simp [chr, hj]⟩
theorem rsc_yes {l : List UInt8} {j : Nat} {n m : Int} (hj : j < l.length) (h1 : 48 ≤ chr l j) (h2 : chr l j ≤ 57) (hm : m = if n < 5000 then (n * 10 + chr l j) - 48 else n) : rsc (l.drop j) n = rsc (l.drop (j + 1)) m := by
  obtain ⟨e1, e2⟩ := dig_cons hj
  rw [e2] at h1 h2
  rw [e1, rsc, if_pos (by omega), hm, e2]
theorem dcnt_yes {l : List UInt8} {j : Nat} (hj : j < l.length) (h1 : 48 ≤ chr l j) (h2 : chr l j ≤ 57) : dcnt (l.drop j) = dcnt (l.drop (j + 1)) + 1 := by
  obtain ⟨e1, e2⟩ := dig_cons hj
  rw [e2] at h1 h2
  rw [e1, dcnt, if_pos (by omega)]
theorem num_end {l : List UInt8} {j : Nat} (n : Int) (h : ¬ (j < l.length ∧ 48 ≤ chr l j ∧ chr l j ≤ 57)) : rsc (l.drop j) n = n ∧ dcnt (l.drop j) = 0 := by
  rcases Nat.lt_or_ge j l.length with hj | hj
  · obtain ⟨e1, e2⟩ := dig_cons hj
    rw [e2] at h
    rw [e1, rsc, dcnt, if_neg (by omega), if_neg (by omega)]
    exact ⟨rfl, rfl⟩
  · rw [List.drop_eq_nil_of_le hj]
    exact ⟨rfl, rfl⟩
theorem dcnt_scan : ∀ (l : List UInt8) (n : Nat), (scan l n).2 = dcnt l
  | [], n => rfl
  | c :: l, n => by
    rw [scan, dcnt]
    split
    · rw [dcnt_scan]
    · rfl
theorem rsc_scan : ∀ (l : List UInt8) (n : Int) (m : Nat), 0 ≤ n → n ≤ 50000 → m = min n.toNat 1024 → (scan l m).1 = min (rsc l n).toNat 1024 ∧ 0 ≤ rsc l n ∧ rsc l n ≤ 50000
  | [], n, m, h0, h1, hm => ⟨hm, h0, h1⟩
  | c :: l, n, m, h0, h1, hm => by
    rw [scan, rsc]
    split
    · refine rsc_scan l _ _ ?_ ?_ ?_
      · split <;> omega
      · split <;> omega
      · split <;> omega
    · exact ⟨hm, h0, h1⟩
theorem dcnt_le (l : List UInt8) (j : Nat) (h : j ≤ l.length) : j + dcnt (l.drop j) ≤ l.length := by
  have := scan_len (l.drop j) 0
  rw [dcnt_scan, List.length_drop] at this
  omega
/-- A number read at a place: it stands so in the text. -/
def NumAt (l : List UInt8) (i : Nat) (n : Int) (d : Nat) : Prop :=
  i + d ≤ l.length ∧ 0 ≤ n ∧ n ≤ 50000 ∧ (d = 0 → l.length ≤ i → numE l i = (0, 22, i)) ∧ (d = 0 → i < l.length → numE l i = (0, 20, i)) ∧
  (d ≠ 0 → (1023 < n ∨ (1 < d ∧ chr l i = 48)) → ∃ q k, numE l i = (q, 26, k)) ∧ (d ≠ 0 → ¬ (1023 < n ∨ (1 < d ∧ chr l i = 48)) → numE l i = (n.toNat, 0, i + d)) ∧ (d ≠ 0 → i < l.length)
theorem num_here (l : List UInt8) (i : Nat) (h : i ≤ l.length) : NumAt l i (rsc (l.drop i) 0) (dcnt (l.drop i)) := by
  obtain ⟨s1, s2, s3⟩ := rsc_scan (l.drop i) 0 0 (by omega) (by omega) rfl
  have s4 := dcnt_scan (l.drop i) 0
  have s5 := dcnt_le l i h
  have hd : dcnt (l.drop i) ≠ 0 ↔ isDig l i = true := by
    rw [isDig]
    simp only [Bool.and_eq_true, decide_eq_true_eq]
    constructor
    · intro e
      rcases Classical.em (i < l.length ∧ 48 ≤ chr l i ∧ chr l i ≤ 57) with c | c
      · exact c
      · exact absurd (num_end 0 c).2 e
    · rintro ⟨a, b, c⟩ e
      rw [dcnt_yes a b c] at e
      omega
  have c48 : chr l i = 48 ↔ l.getD i 0 = 48 := by
    rw [chr]
    constructor
    · intro e
      apply UInt8.toNat_inj.1
      have : (48 : UInt8).toNat = 48 := rfl
      omega
    · intro e; rw [e]; rfl
  refine ⟨s5, s2, s3, ?_, ?_, ?_, ?_, ?_⟩
  · intro _ a; rw [numE, if_pos a]
  · intro a b
    rw [numE, if_neg (by omega), if_pos]
    cases c : isDig l i
    · rfl
    · exact absurd a (hd.2 c)
  · intro a b
    have hg := hd.1 a
    have hi := (isDig_lt hg).1
    rw [numE, if_neg (by omega), if_neg (by rw [hg]; simp), if_pos]
    · exact ⟨_, _, rfl⟩
    · rw [s1, s4, ← c48]; omega
  · intro a b
    have hg := hd.1 a
    have hi := (isDig_lt hg).1
    rw [numE, if_neg (by omega), if_neg (by rw [hg]; simp), if_neg, s1, s4]
    · rw [show min (rsc (l.drop i) 0).toNat 1024 = (rsc (l.drop i) 0).toNat from by omega]
    · rw [s1, s4, ← c48]; omega
  · intro a; exact (isDig_lt (hd.1 a)).1
end Go.Proofs.YthgamlklpfkkhaaDoor

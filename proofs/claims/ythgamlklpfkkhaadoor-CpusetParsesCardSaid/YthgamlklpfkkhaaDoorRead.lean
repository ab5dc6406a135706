/- cpuset's reader: numbers, rows, and Parse. -/
import Derived.Test.YthgamlklpfkkhaaDoorDigit
namespace Go.Proofs.YthgamlklpfkkhaaDoor
open Go.RowKit Go.WideShapes Go.ChangeShapes

/-- The digits from a place on: the number so far, as the reader counts it, and how many they are. -/
def scan : List UInt8 → Nat → Nat × Nat
  | [], n => (n, 0)
  | c :: l, n => if 48 ≤ c.toNat ∧ c.toNat ≤ 57 then ((scan l (min (10 * n + (c.toNat - 48)) 1024)).1, (scan l (min (10 * n + (c.toNat - 48)) 1024)).2 + 1) else (n, 0)
theorem isDig_iff (l : List UInt8) (i : Nat) : isDig l i = true ↔ ∃ c, l[i]? = some c ∧ 48 ≤ c.toNat ∧ c.toNat ≤ 57 := by
  unfold isDig chr
  constructor
  · intro h
    simp only [Bool.and_eq_true, decide_eq_true_eq] at h
    obtain ⟨hi, h1, h2⟩ := h
    refine ⟨l[i], List.getElem?_eq_getElem hi, ?_⟩
    have e : l.getD i 0 = l[i] := by simp [hi]
    rw [e] at h1 h2
    omega
  · rintro ⟨c, hc, h1, h2⟩
    obtain ⟨hi, rfl⟩ := List.getElem?_eq_some_iff.1 hc
    have e : l.getD i 0 = l[i] := by simp [hi]
    rw [e]
    simp only [Bool.and_eq_true, decide_eq_true_eq]
    omega
theorem scan_yes {l : List UInt8} {i n : Nat} (h : isDig l i = true) : scan (l.drop i) n = ((scan (l.drop (i + 1)) (min (10 * n + ((chr l i).toNat - 48)) 1024)).1, (scan (l.drop (i + 1)) (min (10 * n + ((chr l i).toNat - 48)) 1024)).2 + 1) := by
  obtain ⟨c, hc, h1, h2⟩ := (isDig_iff l i).1 h
  obtain ⟨hi, rfl⟩ := List.getElem?_eq_some_iff.1 hc
  have e : (chr l i).toNat = (l[i]).toNat := by simp [chr, hi]
  rw [List.drop_eq_getElem_cons hi, scan, if_pos ⟨h1, h2⟩, e]
theorem scan_no {l : List UInt8} {i n : Nat} (h : isDig l i = false) : scan (l.drop i) n = (n, 0) := by
  rcases Nat.lt_or_ge i l.length with hi | hi
  · rw [List.drop_eq_getElem_cons hi, scan, if_neg]
    intro ⟨h1, h2⟩
    have := (isDig_iff l i).2 ⟨_, List.getElem?_eq_getElem hi, h1, h2⟩
    rw [this] at h; cases h
  · rw [List.drop_eq_nil_of_le hi, scan]
theorem isDig_lt {l : List UInt8} {i : Nat} (h : isDig l i = true) : i < l.length ∧ 48 ≤ chr l i ∧ chr l i ≤ 57 := by
  unfold isDig at h
  simpa only [Bool.and_eq_true, decide_eq_true_eq] using h

/-- What the reader's number answers at a place: the value, the error; and where it stands then. -/
def numE (l : List UInt8) (i : Nat) : Nat × Nat × Nat :=
  if l.length ≤ i then (0, 22, i)
  else if isDig l i = false then (0, 20, i)
  else ((scan (l.drop i) 0).1, if (l.getD i 0 = 48 ∧ 1 < (scan (l.drop i) 0).2) ∨ 1024 ≤ (scan (l.drop i) 0).1 then 26 else 0, i + (scan (l.drop i) 0).2)

section
variable {w w1 w2 : World} {b : Nat}
theorem gb_refl (w : World) (row : Option Nat) : w.grownBy w row := ⟨rfl, rfl, rfl, Nat.le_refl _, fun _ _ _ => rfl⟩
theorem gb_step {row : Option Nat} (h : w.grownBy w1 row) (k : Below w1.heap.size w1 w2) : w.grownBy w2 row :=
  ⟨k.os.trans h.os, k.tape.trans h.tape, k.output.trans h.output, Nat.le_trans h.size k.size, fun j hj hn => (k.block j (Nat.lt_of_lt_of_le hj h.size)).trans (h.block j hj hn)⟩
theorem gb_trans {row : Option Nat} (h : w.grownBy w1 row) (k : w1.grownBy w2 row) : w.grownBy w2 row :=
  ⟨k.os.trans h.os, k.tape.trans h.tape, k.output.trans h.output, Nat.le_trans h.size k.size, fun j hj hn => (k.block j (Nat.lt_of_lt_of_le hj h.size) hn).trans (h.block j hj hn)⟩
theorem gb_set (h : w.grownBy w1 (some b)) (a : Addr) (v : Value) (ha : a.block = b) : w.grownBy (w1.setCell a v) (some b) :=
  ⟨h.os, h.tape, h.output, by simpa [World.setCell] using h.size, fun j hj hn => (Below.heap_setCell _ _ _ _ (fun e => hn (by rw [e, ha]))).trans (h.block j hj hn)⟩
theorem gb_below {B : Nat} {w0 : World} (h : Below B w0 w) (k : w.grownBy w1 (some b)) (hB : B ≤ b) (hw : B ≤ w.heap.size) : Below B w0 w1 :=
  h.grown k hw fun j hj => by injection hj with hj; omega
end

def RNum (l : List UInt8) (i b : Nat) (w : World) (n : Value) (wr : World) : Prop :=
  ∃ j m : Nat, n = .int .i64 m ∧ m ≤ 1024 ∧ i ≤ j ∧ j ≤ l.length ∧ scan (l.drop i) 0 = ((scan (l.drop j) m).1, (scan (l.drop j) m).2 + (j - i)) ∧ Rd wr b l j ∧ w.grownBy wr (some b)
/-- How much is left to read. -/
def leftOf (l : List UInt8) (b : Nat) (wr : World) : Nat := match wr.cell? ⟨b, 1, none⟩ with | some (.int _ m) => l.length - m.toNat | _ => 0
theorem leftOf_rd {l : List UInt8} {b j : Nat} {wr : World} (h : Rd wr b l j) : leftOf l b wr = l.length - j := by
  have := h.cell 1
  simp at this
  unfold leftOf
  rw [this]; simp

set_option maxRecDepth 100000 in
set_option maxHeartbeats 1000000 in
theorem readNumber_calls (l : List UInt8) (hl : l.length ≤ 1000000) (i b : Nat) (w : World) (h : Rd w b l i) :
    Calls Tryd.prog 41 #[.pointer (some ⟨b, 0, none⟩)] w fun e w' => e = .returned (.tuple #[.int .i64 (numE l i).1, .int .i64 i, .int .i64 (numE l i).2.1]) ∧ Rd w' b l (numE l i).2.2 ∧ w.grownBy w' (some b) := by
  have c0 := h.cell 0
  have c1 := h.cell 1
  simp at c0 c1
  have HB := Lib.hid h
  clear h
  by_cases hi : l.length ≤ i
  · have hn : numE l i = (0, 22, i) := by rw [numE, if_pos hi]
    rw [hn]
    go_enter Tryd.func41, Tryd.ntmps41
    go_wp2
    go_region
    go_wp2
    go_ret3
    exact ⟨rfl, HB.out.drew, gb_drew (gb_refl _ _)⟩
  · cases hd : isDig l i with
    | false =>
      have hn : numE l i = (0, 20, i) := by rw [numE, if_neg hi, if_pos hd]
      have HD := Lib.hid hd
      clear hd
      rw [hn]
      go_enter Tryd.func41, Tryd.ntmps41
      go_wp2
      go_region
      go_wp2_with (go_at_call 46; refine (digit_calls l i b _ (HB.out.drew)).mono ?_; rintro e w1 ⟨rfl, hb1⟩; rw [HD.out])
      go_ret3
      exact ⟨rfl, HB.out.drew.below hb1, gb_step (gb_drew (gb_refl _ _)) hb1⟩
    | true =>
      have hn : numE l i = ((scan (l.drop i) 0).1, if (l.getD i 0 = 48 ∧ 1 < (scan (l.drop i) 0).2) ∨ 1024 ≤ (scan (l.drop i) 0).1 then 26 else 0, i + (scan (l.drop i) 0).2) := by rw [numE, if_neg hi, if_neg (by rw [hd]; simp)]
      have HD := Lib.hid hd
      have HN := Lib.hid hn
      clear hd hn
      go_enter Tryd.func41, Tryd.ntmps41
      go_wp2
      go_region
      go_wp2_with (go_at_call 46; refine (digit_calls l i b _ (HB.out.drew)).mono ?_; rintro e w1 ⟨rfl, hb1⟩; rw [HD.out])
      have HB1 := Lib.hid (HB.out.drew.below hb1)
      have gb1 := gb_step (gb_drew (gb_refl w (some b))) hb1
      go_loopw [2] (fun n wr => RNum l i b w n wr) (fun _ wr => leftOf l b wr)
      case atStart => exact ⟨i, 0, rfl, by omega, by omega, by omega, by rw [Nat.sub_self]; rfl, HB1.out, gb1⟩
      case round =>
        obtain ⟨j, m, rfl, hm, hij, hj, hsc, hrd, hgb⟩ := hrel
        have HS := Lib.hid hsc
        have HR := Lib.hid hrd
        clear hsc hrd
        cases hdj : isDig l j with
        | true =>
          obtain ⟨hjl, h48, h57⟩ := isDig_lt hdj
          have HDJ := Lib.hid hdj
          have hw : IntKind.u8.wrap (chr l j - 48) = chr l j - 48 := by simp [IntKind.wrap, IntKind.bits, IntKind.signed]; omega
          clear hdj
          have HA := Lib.hid (leftOf_rd HR.out)
          go_wp2_with (go_at_call 46; refine (digit_calls l j b _ HR.out).mono ?_; rintro e w2 ⟨rfl, hb2⟩; rw [HDJ.out]; have HR2 := Lib.hid (HR.out.below hb2); have gb2 := gb_step hgb hb2; have c20 := HR2.out.cell 0; have c21 := HR2.out.cell 1; have f21 := HR2.out.free 1; simp at c20 c21)
          go_region
          go_wp2
          go_roundw
          case rel =>
            refine ⟨j + 1, min (10 * m + ((chr l j).toNat - 48)) 1024, by go_num, by omega, by omega, by omega, ?_, ?_, gb_set (gb_drew gb2) _ _ rfl⟩
            · rw [HS.out, scan_yes HDJ.out]
              simp; omega
            · have h := (HR2.out.set 1 (.int .i64 ((j : Int) + 1))).drew
              simpa [Rd] using h
          case measure =>
            rw [HA.out, leftOf_rd (j := j + 1)]
            · omega
            · have h := (HR2.out.set 1 (.int .i64 ((j : Int) + 1))).drew
              simpa [Rd] using h
        | false =>
          obtain ⟨hil, hi48, hi57⟩ := isDig_lt HD.out
          have hsc : scan (l.drop i) 0 = (m, j - i) := by rw [HS.out, scan_no hdj]; simp
          have hn : numE l i = (m, if (chr l i = 48 ∧ i + 1 < j) ∨ 1024 ≤ m then 26 else 0, j) := by
            rw [HN.out, hsc]
            have e : (l.getD i 0 = 48) ↔ chr l i = 48 := by
              unfold chr
              constructor
              · intro h; rw [h]; rfl
              · intro h; exact UInt8.toNat_inj.1 (by have : (48 : UInt8).toNat = 48 := rfl; omega)
            have e2 : 1 < j - i ↔ i + 1 < j := by omega
            simp only [e, e2]
            congr 2
            omega
          have HDJ := Lib.hid hdj
          clear hdj hsc
          have fin : ∀ (w2 : World), Below wr.heap.size wr w2 → Rd w2 b l j ∧ w.grownBy w2 (some b) := fun w2 hb => ⟨HR.out.below hb, gb_step hgb hb⟩
          have FIN := Lib.hid fin
          clear fin
          have hi0 := chr_range l i
          have HN2 := Lib.hid hn
          clear hn
          have HJ : Hid (∀ W : World, Calls Tryd.prog 46 #[.pointer (some ⟨b, 0, none⟩)] wr fun e w' => e = .returned (.bool false) ∧ Below wr.heap.size wr w' ∧ w'.cell? ⟨b, 0, none⟩ = some (.string (str l)) ∧ w'.cell? ⟨b, 1, none⟩ = some (.int .i64 j)) := Lib.hid (fun _ => (digit_calls l j b _ HR.out).mono (by
            rintro e w2 ⟨rfl, hb⟩
            rw [HDJ.out]
            have h2 := HR.out.below hb
            have c0 := h2.cell 0
            have c1 := h2.cell 1
            simp at c0 c1
            exact ⟨rfl, hb, c0, c1⟩))
          by_cases h48 : chr l i = 48
          · by_cases hlj : i + 1 < j
            · have HN3 := HN2.out
              rw [if_pos (.inl ⟨h48, hlj⟩)] at HN3
              have HN3 := Lib.hid HN3
              go_wp2_with (go_at_call 46; refine (HJ.out w).mono ?_; rintro e w2 ⟨rfl, hb2, c20, c21⟩; have fin2 := FIN.out w2 hb2)
              go_ret3
              first | exact ⟨rfl, fin2⟩ | (rw [HN3.out]; exact ⟨rfl, fin2⟩)
            · have hlj2 : decide ((i : Int) + 1 < (j : Int)) = false := decide_eq_false (by omega)
              by_cases hm4 : 1024 ≤ m
              · have HN3 := HN2.out
                rw [if_pos (.inr hm4)] at HN3
                have HN3 := Lib.hid HN3
                go_wp2_with (go_at_call 46; refine (HJ.out w).mono ?_; rintro e w2 ⟨rfl, hb2, c20, c21⟩; have fin2 := FIN.out w2 hb2)
                go_ret3
                first | exact ⟨rfl, fin2⟩ | (rw [HN3.out]; exact ⟨rfl, fin2⟩)
              · have hm5 : decide ((1024 : Int) ≤ (m : Int)) = false := decide_eq_false (by omega)
                have hm6 : decide (1024 ≤ m) = false := decide_eq_false (by omega)
                have HN3 := HN2.out
                rw [if_neg (by omega)] at HN3
                have HN3 := Lib.hid HN3
                go_wp2_with (go_at_call 46; refine (HJ.out w).mono ?_; rintro e w2 ⟨rfl, hb2, c20, c21⟩; have fin2 := FIN.out w2 hb2)
                go_ret3
                first | exact ⟨rfl, fin2⟩ | (rw [HN3.out]; exact ⟨rfl, fin2⟩)
          · have h49 : (chr l i == 48) = false := beq_eq_false_iff_ne.2 h48
            by_cases hm4 : 1024 ≤ m
            · have HN3 := HN2.out
              rw [if_pos (.inr hm4)] at HN3
              have HN3 := Lib.hid HN3
              go_wp2_with (go_at_call 46; refine (HJ.out w).mono ?_; rintro e w2 ⟨rfl, hb2, c20, c21⟩; have fin2 := FIN.out w2 hb2)
              go_ret3
              first | exact ⟨rfl, fin2⟩ | (rw [HN3.out]; exact ⟨rfl, fin2⟩)
            · have hm5 : decide ((1024 : Int) ≤ (m : Int)) = false := decide_eq_false (by omega)
              have hm6 : decide (1024 ≤ m) = false := decide_eq_false (by omega)
              have HN3 := HN2.out
              rw [if_neg (by omega)] at HN3
              have HN3 := Lib.hid HN3
              go_wp2_with (go_at_call 46; refine (HJ.out w).mono ?_; rintro e w2 ⟨rfl, hb2, c20, c21⟩; have fin2 := FIN.out w2 hb2)
              go_ret3
              first | exact ⟨rfl, fin2⟩ | (rw [HN3.out]; exact ⟨rfl, fin2⟩)
end Go.Proofs.YthgamlklpfkkhaaDoor

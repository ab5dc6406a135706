/- cpuset's reader: rows. -/
import Derived.Test.YthgamlklpfkkhaaDoorRead
namespace Go.Proofs.YthgamlklpfkkhaaDoor
open Go.RowKit Go.WideShapes Go.ChangeShapes

theorem results_tmp4 {fn : Func} {t u v x : Tmp} (h : fn.results = #[.tmp t, .tmp u, .tmp v, .tmp x]) (tmps : Array Value) (P : Program) (w : World) :
    (results fn tmps).run P w = .ok (.tuple #[tmps.getD t undef, tmps.getD u undef, tmps.getD v undef, tmps.getD x undef]) w := by
  simp [results, h]

theorem scan_len : ∀ (l : List UInt8) (n : Nat), (scan l n).2 ≤ l.length
  | [], n => by simp [scan]
  | c :: l, n => by
    rw [scan]
    split
    · have := scan_len l (min (10 * n + (c.toNat - 48)) 1024); simp; omega
    · simp
theorem scan_max : ∀ (l : List UInt8) (n : Nat), n ≤ 1024 → (scan l n).1 ≤ 1024
  | [], n, h => by simpa [scan] using h
  | c :: l, n, h => by
    rw [scan]
    split
    · exact scan_max l _ (by omega)
    · exact h
theorem numE_spec (l : List UInt8) (i : Nat) (h : i ≤ l.length) : (numE l i).1 ≤ 1024 ∧ i ≤ (numE l i).2.2 ∧ (numE l i).2.2 ≤ l.length ∧ ((numE l i).2.1 = 0 → (numE l i).1 < 1024) := by
  have h1 := scan_len (l.drop i) 0
  have h2 := scan_max (l.drop i) 0 (by omega)
  simp at h1
  unfold numE
  split
  · simp; omega
  · split
    · simp; omega
    · refine ⟨h2, by simp, by simp; omega, ?_⟩
      simp only
      split
      · intro h; cases h
      · intro _; omega

/-- What the reader's item answers at a place: from, to, the error and its place; and where it stands then. -/
def itemTail (l : List UInt8) (n m k : Nat) : Nat × Nat × Nat × Nat × Nat := if k < l.length ∧ chr l k ≠ 44 then (0, 0, 20, k, k) else (n, m, 0, 0, k)
def itemE (l : List UInt8) (i : Nat) : Nat × Nat × Nat × Nat × Nat :=
  let r := numE l i
  if r.2.1 ≠ 0 then (0, 0, r.2.1, i, r.2.2)
  else if r.2.2 < l.length ∧ chr l r.2.2 = 45 then
    let q := numE l (r.2.2 + 1)
    if q.2.1 ≠ 0 then (0, 0, q.2.1, r.2.2 + 1, q.2.2)
    else if q.1 < r.1 then (0, 0, 26, r.2.2 + 1, q.2.2)
    else itemTail l r.1 q.1 q.2.2
  else itemTail l r.1 r.1 r.2.2

/-- The answer of item, and the reader's cells behind it. -/
def ItemPost (l : List UInt8) (b : Nat) (w : World) (x : Nat × Nat × Nat × Nat × Nat) (e : Ending) (w' : World) : Prop :=
  e = .returned (.tuple #[.int .i64 x.1, .int .i64 x.2.1, .int .i64 x.2.2.1, .int .i64 x.2.2.2.1]) ∧ Rd w' b l x.2.2.2.2 ∧ w.grownBy w' (some b)

/-- The world behind a call of number, with its facts. -/
theorem num_at (l : List UInt8) (hl : l.length ≤ 1000000) (i b : Nat) (w0 w : World) (h : Rd w b l i) (hg : w0.grownBy w (some b)) {n e k : Nat} (hn : numE l i = (n, e, k)) :
    Calls Tryd.prog 41 #[.pointer (some ⟨b, 0, none⟩)] w fun r w' => r = .returned (.tuple #[.int .i64 n, .int .i64 i, .int .i64 e]) ∧ Hid (Rd w' b l k) ∧ Hid (w0.grownBy w' (some b)) ∧
      w'.cell? ⟨b, 0, none⟩ = some (.string (str l)) ∧ w'.cell? ⟨b, 1, none⟩ = some (.int .i64 k) ∧ w'.frozen? ⟨b, 1, none⟩ = false := by
  refine (readNumber_calls l hl i b w h).mono ?_
  rintro r w' ⟨rfl, hr, hb⟩
  rw [hn] at hr ⊢
  have c0 := hr.cell 0
  have c1 := hr.cell 1
  simp at c0 c1
  exact ⟨rfl, Lib.hid hr, Lib.hid (gb_trans hg hb), c0, c1, hr.free 1⟩

set_option maxRecDepth 100000 in
set_option maxHeartbeats 1000000 in
theorem item_bad (l : List UInt8) (hl : l.length ≤ 1000000) (i b : Nat) (w : World) (h : Rd w b l i) {n e k : Nat} (hn : numE l i = (n, e, k)) (he : e ≠ 0) :
    Calls Tryd.prog 33 #[.pointer (some ⟨b, 0, none⟩)] w (ItemPost l b w (itemE l i)) := by
  have hI : itemE l i = (0, 0, e, i, k) := by simp [itemE, hn, he]
  rw [hI]
  have N1 := Lib.hid (num_at l hl i b w w h (gb_refl _ _) hn)
  have he2 : ((e : Int) == 0) = false := beq_eq_false_iff_ne.2 (by omega)
  clear hI h hn he
  go_enter Tryd.func33, Tryd.ntmps33
  go_wp2_with (go_at_call 41; refine N1.out.mono ?_; rintro r w1 ⟨rfl, R1, G1, c0, c1, f1⟩)
  refine bodyPost_ret (results_tmp4 rfl _ _ _) rfl ?_
  exact ⟨rfl, R1.out, G1.out⟩

/-- The end of an item behind its last number: 1: a byte that may not stand; 2: a comma; 3: the end. -/
def EndKind (l : List UInt8) (k : Nat) : Nat → Prop
  | 0 => k < l.length ∧ chr l k ≠ 44
  | 1 => k < l.length ∧ chr l k = 44
  | _ => l.length ≤ k

set_option maxRecDepth 100000 in
set_option maxHeartbeats 1000000 in
theorem item_one (l : List UInt8) (hl : l.length ≤ 1000000) (i b : Nat) (w : World) (h : Rd w b l i) (hi : i ≤ l.length) {n k : Nat} (hn : numE l i = (n, 0, k)) (hm : ¬ (k < l.length ∧ chr l k = 45)) :
    Calls Tryd.prog 33 #[.pointer (some ⟨b, 0, none⟩)] w (ItemPost l b w (itemE l i)) := by
  have hI : itemE l i = itemTail l n n k := by simp only [itemE, hn]; rw [if_neg (by simp), if_neg hm]
  have hs := numE_spec l i hi
  rw [hn] at hs
  have hc := chr_range l k
  rw [hI]
  have N1 := Lib.hid (num_at l hl i b w w h (gb_refl _ _) hn)
  clear hI h hn
  by_cases hk : k < l.length
  · have h45 : (chr l k == 45) = false := beq_eq_false_iff_ne.2 (fun e => hm ⟨hk, e⟩)
    clear hm
    by_cases h44 : chr l k = 44
    · rw [itemTail, if_neg (fun e => e.2 h44)]
      go_enter Tryd.func33, Tryd.ntmps33
      go_wp2_with (go_at_call 41; refine N1.out.mono ?_; rintro r w1 ⟨rfl, R1, G1, c0, c1, f1⟩)
      go_region
      go_wp2
      go_region
      go_wp2
      refine bodyPost_ret (results_tmp4 rfl _ _ _) rfl ?_
      exact ⟨rfl, R1.out.drew.drew, gb_drew (gb_drew G1.out)⟩
    · have h440 : (chr l k == 44) = false := beq_eq_false_iff_ne.2 h44
      rw [itemTail, if_pos ⟨hk, h44⟩]
      clear h44
      go_enter Tryd.func33, Tryd.ntmps33
      go_wp2_with (go_at_call 41; refine N1.out.mono ?_; rintro r w1 ⟨rfl, R1, G1, c0, c1, f1⟩)
      go_region
      go_wp2
      go_region
      go_wp2
      go_region
      go_wp2
      refine bodyPost_ret (results_tmp4 rfl _ _ _) rfl ?_
      exact ⟨rfl, R1.out.drew.drew.drew, gb_drew (gb_drew (gb_drew G1.out))⟩
  · have hk1 : decide (k < l.length) = false := decide_eq_false hk
    have hk2 : decide ((k : Int) < (l.length : Int)) = false := decide_eq_false (by omega)
    rw [itemTail, if_neg (fun e => hk e.1)]
    clear hm hk
    go_enter Tryd.func33, Tryd.ntmps33
    go_wp2_with (go_at_call 41; refine N1.out.mono ?_; rintro r w1 ⟨rfl, R1, G1, c0, c1, f1⟩)
    go_region
    go_wp2
    go_region
    go_wp2
    refine bodyPost_ret (results_tmp4 rfl _ _ _) rfl ?_
    exact ⟨rfl, R1.out.drew.drew, gb_drew (gb_drew G1.out)⟩

set_option maxRecDepth 100000 in
set_option maxHeartbeats 2000000 in
theorem item_two (l : List UInt8) (hl : l.length ≤ 1000000) (i b : Nat) (w : World) (h : Rd w b l i) (hi : i ≤ l.length) {n k : Nat} (hn : numE l i = (n, 0, k)) (hm : k < l.length ∧ chr l k = 45) :
    Calls Tryd.prog 33 #[.pointer (some ⟨b, 0, none⟩)] w (ItemPost l b w (itemE l i)) := by
  obtain ⟨m, e, j, hq⟩ : ∃ m e j, numE l (k + 1) = (m, e, j) := ⟨_, _, _, rfl⟩
  have hs := numE_spec l i hi
  have hs2 := numE_spec l (k + 1) (by omega)
  rw [hn] at hs
  rw [hq] at hs2
  have hI : itemE l i = if e ≠ 0 then (0, 0, e, k + 1, j) else if m < n then (0, 0, 26, k + 1, j) else itemTail l n m j := by
    simp only [itemE, hn]; rw [if_neg (by simp), if_pos hm, hq]
  rw [hI]
  obtain ⟨hk, h45⟩ := hm
  have N1 := Lib.hid (num_at l hl i b w w h (gb_refl _ _) hn)
  have N2 : Hid (∀ W, Rd W b l (k + 1) → w.grownBy W (some b) → Calls Tryd.prog 41 #[.pointer (some ⟨b, 0, none⟩)] W fun r w' => r = .returned (.tuple #[.int .i64 m, .int .i64 ((k : Int) + 1), .int .i64 e]) ∧ Hid (Rd w' b l j) ∧ Hid (w.grownBy w' (some b)) ∧
      w'.cell? ⟨b, 0, none⟩ = some (.string (str l)) ∧ w'.cell? ⟨b, 1, none⟩ = some (.int .i64 j) ∧ w'.frozen? ⟨b, 1, none⟩ = false) := Lib.hid (fun W h1 h2 => by
    have := num_at l hl (k + 1) b w W h1 h2 hq
    simpa using this)
  clear hI h hn hq
  have hc := chr_range l j
  by_cases he : e = 0
  · subst he
    rw [if_neg (by simp)]
    by_cases hmn : m < n
    · rw [if_pos hmn]
      go_enter Tryd.func33, Tryd.ntmps33
      go_wp2_with (go_at_call 41; refine N1.out.mono ?_; rintro r w1 ⟨rfl, R1, G1, c0, c1, f1⟩)
      go_region
      have HX : Rd (w1.setCell ⟨b, 1, none⟩ (.int .i64 ((k : Int) + 1))).drew b l (k + 1) := by
        have h := (R1.out.set 1 (.int .i64 ((k : Int) + 1))).drew
        simpa [Rd] using h
      have HX := Lib.hid HX
      have GX := Lib.hid (gb_drew (gb_set G1.out ⟨b, 1, none⟩ (.int .i64 ((k : Int) + 1)) rfl))
      go_wp2_with (go_at_call 41; refine (N2.out _ HX.out GX.out).mono ?_; rintro r w2 ⟨rfl, R2, G2, d0, d1, f2⟩)
      refine bodyPost_ret (results_tmp4 rfl _ _ _) rfl ?_
      exact ⟨rfl, R2.out, G2.out⟩
    · have hmn2 : decide (m < n) = false := decide_eq_false hmn
      have hmn3 : decide ((m : Int) < (n : Int)) = false := decide_eq_false (by omega)
      rw [if_neg hmn]
      clear hmn
      by_cases hj : j < l.length
      · by_cases h44 : chr l j = 44
        · rw [itemTail, if_neg (fun e => e.2 h44)]
          go_enter Tryd.func33, Tryd.ntmps33
          go_wp2_with (go_at_call 41; refine N1.out.mono ?_; rintro r w1 ⟨rfl, R1, G1, c0, c1, f1⟩)
          go_region
          have HX : Rd (w1.setCell ⟨b, 1, none⟩ (.int .i64 ((k : Int) + 1))).drew b l (k + 1) := by
            have h := (R1.out.set 1 (.int .i64 ((k : Int) + 1))).drew
            simpa [Rd] using h
          have HX := Lib.hid HX
          have GX := Lib.hid (gb_drew (gb_set G1.out ⟨b, 1, none⟩ (.int .i64 ((k : Int) + 1)) rfl))
          go_wp2_with (go_at_call 41; refine (N2.out _ HX.out GX.out).mono ?_; rintro r w2 ⟨rfl, R2, G2, d0, d1, f2⟩)
          go_region
          go_wp2
          refine bodyPost_ret (results_tmp4 rfl _ _ _) rfl ?_
          exact ⟨rfl, R2.out.drew, gb_drew (G2.out)⟩
        · have h440 : (chr l j == 44) = false := beq_eq_false_iff_ne.2 h44
          rw [itemTail, if_pos ⟨hj, h44⟩]
          clear h44
          go_enter Tryd.func33, Tryd.ntmps33
          go_wp2_with (go_at_call 41; refine N1.out.mono ?_; rintro r w1 ⟨rfl, R1, G1, c0, c1, f1⟩)
          go_region
          have HX : Rd (w1.setCell ⟨b, 1, none⟩ (.int .i64 ((k : Int) + 1))).drew b l (k + 1) := by
            have h := (R1.out.set 1 (.int .i64 ((k : Int) + 1))).drew
            simpa [Rd] using h
          have HX := Lib.hid HX
          have GX := Lib.hid (gb_drew (gb_set G1.out ⟨b, 1, none⟩ (.int .i64 ((k : Int) + 1)) rfl))
          go_wp2_with (go_at_call 41; refine (N2.out _ HX.out GX.out).mono ?_; rintro r w2 ⟨rfl, R2, G2, d0, d1, f2⟩)
          go_region
          go_wp2
          go_region
          go_wp2
          refine bodyPost_ret (results_tmp4 rfl _ _ _) rfl ?_
          exact ⟨rfl, R2.out.drew.drew, gb_drew (gb_drew (G2.out))⟩
      · have hk1 : decide (j < l.length) = false := decide_eq_false hj
        have hk2 : decide ((j : Int) < (l.length : Int)) = false := decide_eq_false (by omega)
        rw [itemTail, if_neg (fun e => hj e.1)]
        clear hj
        go_enter Tryd.func33, Tryd.ntmps33
        go_wp2_with (go_at_call 41; refine N1.out.mono ?_; rintro r w1 ⟨rfl, R1, G1, c0, c1, f1⟩)
        go_region
        have HX : Rd (w1.setCell ⟨b, 1, none⟩ (.int .i64 ((k : Int) + 1))).drew b l (k + 1) := by
          have h := (R1.out.set 1 (.int .i64 ((k : Int) + 1))).drew
          simpa [Rd] using h
        have HX := Lib.hid HX
        have GX := Lib.hid (gb_drew (gb_set G1.out ⟨b, 1, none⟩ (.int .i64 ((k : Int) + 1)) rfl))
        go_wp2_with (go_at_call 41; refine (N2.out _ HX.out GX.out).mono ?_; rintro r w2 ⟨rfl, R2, G2, d0, d1, f2⟩)
        go_region
        go_wp2
        refine bodyPost_ret (results_tmp4 rfl _ _ _) rfl ?_
        exact ⟨rfl, R2.out.drew, gb_drew (G2.out)⟩
  · have he2 : ((e : Int) == 0) = false := beq_eq_false_iff_ne.2 (by omega)
    rw [if_pos he]
    clear he
    go_enter Tryd.func33, Tryd.ntmps33
    go_wp2_with (go_at_call 41; refine N1.out.mono ?_; rintro r w1 ⟨rfl, R1, G1, c0, c1, f1⟩)
    go_region
    have HX : Rd (w1.setCell ⟨b, 1, none⟩ (.int .i64 ((k : Int) + 1))).drew b l (k + 1) := by
      have h := (R1.out.set 1 (.int .i64 ((k : Int) + 1))).drew
      simpa [Rd] using h
    have HX := Lib.hid HX
    have GX := Lib.hid (gb_drew (gb_set G1.out ⟨b, 1, none⟩ (.int .i64 ((k : Int) + 1)) rfl))
    go_wp2_with (go_at_call 41; refine (N2.out _ HX.out GX.out).mono ?_; rintro r w2 ⟨rfl, R2, G2, d0, d1, f2⟩)
    refine bodyPost_ret (results_tmp4 rfl _ _ _) rfl ?_
    exact ⟨rfl, R2.out, G2.out⟩
theorem item_calls (l : List UInt8) (hl : l.length ≤ 1000000) (i b : Nat) (w : World) (h : Rd w b l i) (hi : i ≤ l.length) :
    Calls Tryd.prog 33 #[.pointer (some ⟨b, 0, none⟩)] w (ItemPost l b w (itemE l i)) := by
  obtain ⟨n, e, k, hn⟩ : ∃ n e k, numE l i = (n, e, k) := ⟨_, _, _, rfl⟩
  by_cases he : e = 0
  · subst he
    by_cases hm : k < l.length ∧ chr l k = 45
    · exact item_two l hl i b w h hi hn hm
    · exact item_one l hl i b w h hi hn hm
  · exact item_bad l hl i b w h hn he
end Go.Proofs.YthgamlklpfkkhaaDoor

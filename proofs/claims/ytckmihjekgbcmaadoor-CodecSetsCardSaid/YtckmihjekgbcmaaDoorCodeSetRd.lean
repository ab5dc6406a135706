/- Reading a set, as GetSet does it: the number that stands at a place in three parts; one row; where reading fails. -/
import Derived.Test.YtckmihjekgbcmaaDoorCodeSets
import Derived.Test.YtckmihjekgbcmaaDoorCodeGetInt
namespace Go.Proofs.YtckmihjekgbcmaaDoor
open Go.RowKit Go.WideShapes Go.ChangeShapes

def nv (l : List UInt8) (p : Nat) : Int := match getAt l p with | some (u, _) => zag u | none => 0
def ne (l : List UInt8) (p : Nat) : Nat := match getAt l p with | some (_, m) => p + m | none => 0
def nk (l : List UInt8) (p : Nat) : Bool := (getAt l p).isSome
theorem gres_tot (l : List UInt8) (p : Nat) : gres p (getAt l p) = .tuple #[.int .i64 (nv l p), .int .i64 ((ne l p : Nat) : Int), .bool (nk l p)] := by
  unfold nv ne nk
  cases getAt l p with
  | none => rfl
  | some x => rfl
theorem getInt_tot (A : Option Addr) (l : List UInt8) (cap p : Nat) (hcap : l.length ≤ cap) (hl : l.length ≤ 10000000) (hp : p ≤ l.length) (w : World) (hr : Reads w A (eByte.all l)) : Calls Tryd.prog 8 #[.slice A l.length cap, .int .i64 (p : Int)] w fun e w' => e = .returned (.tuple #[.int .i64 (nv l p), .int .i64 ((ne l p : Nat) : Int), .bool (nk l p)]) ∧ Below w.heap.size w w' := by
  rw [← gres_tot]; exact getInt_in A l cap p hcap hl hp w hr
theorem ne_le (l : List UInt8) (p : Nat) : ne l p ≤ l.length := by
  unfold ne
  cases h : getAt l p with
  | none => exact Nat.zero_le _
  | some x => exact (getAt_len h).2.2
theorem gi_lt : ∀ {cs : List UInt8} {i u r k : Nat}, u < 2 ^ (7 * i) → i ≤ 9 → cs.length + i ≤ 10 → gi cs i u = some (r, k) → r < 2 ^ 64
  | [], i, u, r, k, _, _, _, h => by simp [gi] at h
  | c :: cs, i, u, r, k, hu, hi, hl, h => by
    rw [gi] at h
    rw [List.length_cons] at hl
    have hs := sum_lt (c := c) hu
    split at h
    · by_cases h9 : i = 9
      · cases cs with
        | nil => simp [gi] at h
        | cons d ds => rw [List.length_cons] at hl; omega
      · exact gi_lt hs (by omega) (by omega) h
    · split at h
      · cases h
      · rename_i h4 h5
        injection h with h; injection h with h1 h2
        subst h1
        have hc : c.toNat < 128 := by omega
        have hm : c.toNat % 128 = c.toNat := Nat.mod_eq_of_lt hc
        rw [hm] at hs
        by_cases h9 : i = 9
        · subst h9
          have : c.toNat ≤ 1 := by omega
          calc u + c.toNat * 2 ^ (7 * 9) < 2 ^ (7 * 9) + 1 * 2 ^ (7 * 9) := Nat.add_lt_add_of_lt_of_le hu (Nat.mul_le_mul_right _ this)
            _ = 2 ^ 64 := by decide
        · exact Nat.lt_of_lt_of_le hs (Nat.pow_le_pow_right (by omega) (by omega))
theorem getAt_lt {l : List UInt8} {p u m : Nat} (h : getAt l p = some (u, m)) : u < 2 ^ 64 :=
  gi_lt (i := 0) (u := 0) (by decide) (by omega) (by rw [List.length_take]; omega) h
theorem nv_I64 (l : List UInt8) (p : Nat) : -9223372036854775808 ≤ nv l p ∧ nv l p ≤ 9223372036854775807 := by
  unfold nv
  cases h : getAt l p with
  | none => simp
  | some x =>
    have := getAt_lt (u := x.1) (m := x.2) h
    show -9223372036854775808 ≤ zag x.1 ∧ zag x.1 ≤ 9223372036854775807
    unfold zag; split <;> omega

theorem readRows_at (l : List UInt8) (c p f S : Nat) : readRows l (c + 1) p f S = if nk l p = true ∧ nk l (ne l p) = true ∧ ¬ (nv l p < 0 ∨ nv l (ne l p) < 0 ∨ 1024 - (f : Int) ≤ nv l p ∨ 1024 - (f : Int) - nv l p ≤ nv l (ne l p))
    then readRows l c (ne l (ne l p)) (min (f + (nv l p).toNat + (nv l (ne l p)).toNat + 2) 1024) (S ||| rng ((f : Int) + nv l p) ((f : Int) + nv l p + nv l (ne l p))) else none := by
  rw [readRows]
  cases h1 : getAt l p with
  | none => simp [nk, h1]
  | some x =>
    obtain ⟨u1, m1⟩ := x
    have e1 : ne l p = p + m1 := by simp [ne, h1]
    have e2 : nv l p = zag u1 := by simp [nv, h1]
    have e3 : nk l p = true := by simp [nk, h1]
    rw [e1, e2, e3]
    dsimp only
    cases h2 : getAt l (p + m1) with
    | none => simp [nk, h2]
    | some y =>
      obtain ⟨u2, m2⟩ := y
      have f1 : ne l (p + m1) = p + m1 + m2 := by simp [ne, h2]
      have f2 : nv l (p + m1) = zag u2 := by simp [nv, h2]
      have f3 : nk l (p + m1) = true := by simp [nk, h2]
      rw [f1, f2, f3]
      dsimp only
      by_cases hb : zag u1 < 0 ∨ zag u2 < 0 ∨ 1024 - (f : Int) ≤ zag u1 ∨ 1024 - (f : Int) - zag u1 ≤ zag u2
      · rw [if_pos hb, if_neg (by simp [hb])]
      · rw [if_neg hb, if_pos ⟨rfl, rfl, hb⟩]
/-- One more row. -/
theorem rr_go {l : List UInt8} {c k p S : Nat} {f f' : Int} {R : Option (Nat × Nat)} (h : readRows l (c - k) p f.toNat S = R) (hk : k < c) (h0 : 0 ≤ f) (hf : f ≤ 1024)
    (g1 : nk l p = true) (g2 : nk l (ne l p) = true) (a1 : ¬ nv l p < 0) (a2 : ¬ nv l (ne l p) < 0) (b1 : ¬ 1024 - f ≤ nv l p) (b2 : ¬ 1024 - f - nv l p ≤ nv l (ne l p))
    (hf' : f' = min (f + nv l p + (nv l (ne l p) + 2)) 1024) : readRows l (c - (k + 1)) (ne l (ne l p)) f'.toNat (S ||| rng (f + nv l p) (f + nv l p + nv l (ne l p))) = R := by
  obtain ⟨f, rfl⟩ : ∃ m : Nat, f = m := ⟨f.toNat, by omega⟩
  rw [Int.toNat_natCast, show c - k = (c - (k + 1)) + 1 by omega, readRows_at, if_pos ⟨g1, g2, by omega⟩] at h
  rw [← h, hf']
  congr 1
  omega
theorem rr_no {l : List UInt8} {c k p S : Nat} {f : Int} {R : Option (Nat × Nat)} (h : readRows l (c - k) p f.toNat S = R) (hk : k < c) (h0 : 0 ≤ f)
    (hb : nk l p = true → nk l (ne l p) = true → ¬ nv l p < 0 → ¬ nv l (ne l p) < 0 → ¬ 1024 - f ≤ nv l p → ¬ 1024 - f - nv l p ≤ nv l (ne l p) → False) : R = none := by
  obtain ⟨f, rfl⟩ : ∃ m : Nat, f = m := ⟨f.toNat, by omega⟩
  rw [Int.toNat_natCast, show c - k = (c - (k + 1)) + 1 by omega, readRows_at, if_neg (fun ⟨g1, g2, g3⟩ => hb g1 g2 (by omega) (by omega) (by omega) (by omega))] at h
  exact h.symm
theorem rr_end {l : List UInt8} {c k p S : Nat} {f : Int} {R : Option (Nat × Nat)} (h : readRows l (c - k) p f.toNat S = R) (hk : c ≤ k) : R = some (S, p) := by
  rw [show c - k = 0 by omega, readRows] at h
  exact h.symm
theorem setAt_at (l : List UInt8) (p : Nat) : setAt l p = if nk l p = true ∧ 0 ≤ nv l p ∧ nv l p ≤ 1024 then readRows l (nv l p).toNat (ne l p) 0 0 else none := by
  unfold setAt nk nv ne
  cases h1 : getAt l p with
  | none => simp
  | some x =>
    dsimp only
    by_cases hb : zag x.1 < 0 ∨ 1024 < zag x.1
    · rw [if_pos hb, if_neg (by omega)]
    · rw [if_neg hb, if_pos ⟨rfl, by omega, by omega⟩]
theorem setAt_no {l : List UInt8} {p : Nat} (h : nk l p = true → ¬ nv l p < 0 → ¬ 1024 < nv l p → False) : setAt l p = none := by
  rw [setAt_at, if_neg fun ⟨a, b, c⟩ => h a (by omega) (by omega)]
theorem setAt_go {l : List UInt8} {p : Nat} (a : nk l p = true) (b : ¬ nv l p < 0) (c : ¬ 1024 < nv l p) : readRows l ((nv l p).toNat - 0) (ne l p) (0 : Int).toNat 0 = setAt l p := by
  rw [setAt_at, if_pos ⟨a, by omega, by omega⟩]; rfl
def sv (o : Option (Nat × Nat)) : Nat := match o with | some (S, _) => S | none => 0
def se (o : Option (Nat × Nat)) : Nat := match o with | some (_, e) => e | none => 0
def sres (o : Option (Nat × Nat)) : Value := .tuple #[.agg (setA (sv o)), .int .i64 ((se o : Nat) : Int), .bool o.isSome]
theorem setAt_sm {l : List UInt8} {p : Nat} : Sm (sv (setAt l p)) := by
  cases h : setAt l p with
  | none => exact fun _ _ => Nat.zero_testBit _
  | some x =>
    rw [setAt_at] at h
    split at h
    · exact readRows_sm (S := 0) (fun k hk => by simp) h
    · cases h
theorem results_set2' {fn : Func} {p u v : Tmp} (h : fn.results = #[.cell p 33, .tmp u, .tmp v]) (tmps : Array Value) (w : World) (g : Nat) (S : Nat) {t : TypeId}
    (hp : tmps.getD p undef = .pointer (some ⟨g, 0, none⟩)) (hg : Blk w g (setA S) t) : (results fn tmps).run Tryd.prog w = .ok (.tuple #[.agg (setA S), tmps.getD u undef, tmps.getD v undef]) w := by
  have hp' : tmps[p]?.getD undef = .pointer (some ⟨g, 0, none⟩) := by simpa using hp
  have l1 := run_loadVar_row w g t _ _ _ _ hg Tryd.underlying33 rfl (info_setA S)
  simp [results, h, hp', asAddr, l1]
end Go.Proofs.YtckmihjekgbcmaaDoor

/- What GetInt reads, step by step: plain laws; a slice cut at both ends; a byte of a row. -/
import Derived.Test.YtckmihjekgbcmaaDoorCodeGet
namespace Go.Proofs.YtckmihjekgbcmaaDoor
open Go.RowKit Go.WideShapes Go.ChangeShapes

def bt (l : List UInt8) (k : Nat) : UInt8 := l.getD k 0
def pt (c : UInt8) (k : Nat) : Nat := c.toNat % 128 * 2 ^ (7 * k) % 18446744073709551616
theorem u8_lt (c : UInt8) : c.toNat < 256 := c.toNat_lt
theorem pt_lt (c : UInt8) (k : Nat) : pt c k < 2 ^ 64 := Nat.mod_lt _ (by omega)
theorem drop_bt {l : List UInt8} {k : Nat} (h : k < l.length) : l.drop k = bt l k :: l.drop (k + 1) := by rw [List.drop_eq_getElem_cons h]; simp [bt, h]
theorem Reads.byteAt {w : World} {b off : Nat} {xs : List UInt8} (h : Reads w (some ⟨b, off, none⟩) (eByte.all xs)) (i : Nat) (hi : i < xs.length) : w.cell? ⟨b, off + i * 1, none⟩ = some (.int .u8 ((bt xs i).toNat : Int)) := by
  rw [eByte_all] at h
  obtain ⟨b', off', e, hc⟩ := h i (.int .u8 ((bt xs i).toNat : Int)) (by simp [bt, hi])
  injection e with e
  injection e with e1 e2
  subst e1 e2
  rw [Nat.mul_one]
  exact hc
/-- Bits put in above are added. -/
theorem or_pt {c : UInt8} {k u : Nat} (hu : u < 2 ^ (7 * k)) (hk : k ≤ 8 ∨ (k = 9 ∧ c.toNat ≤ 1)) : u ||| pt c k = u + c.toNat % 128 * 2 ^ (7 * k) := by
  have hp : pt c k = c.toNat % 128 * 2 ^ (7 * k) := by
    unfold pt
    apply Nat.mod_eq_of_lt
    rcases hk with hk | ⟨rfl, hc⟩
    · have h1 : c.toNat % 128 < 128 := Nat.mod_lt _ (by omega)
      have h2 : 2 ^ (7 * k) ≤ 2 ^ 56 := Nat.pow_le_pow_right (by omega) (by omega)
      calc c.toNat % 128 * 2 ^ (7 * k) ≤ 127 * 2 ^ 56 := Nat.mul_le_mul (by omega) h2
        _ < 18446744073709551616 := by decide
    · have : c.toNat % 128 ≤ 1 := by omega
      calc c.toNat % 128 * 2 ^ (7 * 9) ≤ 1 * 2 ^ (7 * 9) := Nat.mul_le_mul_right _ this
        _ < 18446744073709551616 := by decide
  rw [hp, Nat.or_comm, Nat.mul_comm, ← Nat.two_pow_add_eq_or_of_lt hu, Nat.add_comm]
theorem sum_lt {c : UInt8} {k u : Nat} (hu : u < 2 ^ (7 * k)) : u + c.toNat % 128 * 2 ^ (7 * k) < 2 ^ (7 * (k + 1)) := by
  have h1 : c.toNat % 128 ≤ 127 := by omega
  have h2 := Nat.mul_le_mul_right (2 ^ (7 * k)) h1
  rw [show 7 * (k + 1) = 7 * k + 7 by omega, Nat.pow_add]
  omega
/-- Where reading stands at the k-th byte. -/
def Rdg (Z : List UInt8) (k u : Nat) : Prop := (k ≤ 9 → u < 2 ^ (7 * k) ∧ gi (Z.drop k) k u = gi Z 0 0) ∧ (10 ≤ k → gi Z 0 0 = none)
theorem rdg_start (Z : List UInt8) : Rdg Z 0 0 := ⟨fun _ => ⟨by decide, rfl⟩, fun h => by omega⟩
theorem rdg_over {Z : List UInt8} {k u : Nat} (h : Rdg Z k u) (hk : Z.length ≤ k) : gi Z 0 0 = none := by
  rcases Nat.lt_or_ge k 10 with h1 | h1
  · rw [← (h.1 (by omega)).2, List.drop_eq_nil_of_le hk, gi]
  · exact h.2 h1
theorem rdg_cont {Z : List UInt8} {k u : Nat} (h : Rdg Z k u) (hk : k < Z.length) (hZ : Z.length ≤ 10) (hc : 128 ≤ (bt Z k).toNat) : Rdg Z (k + 1) (u ||| pt (bt Z k) k) := by
  obtain ⟨h1, h2⟩ := h.1 (by omega)
  rw [drop_bt hk, gi_cont hc] at h2
  refine ⟨fun h9 => ?_, fun h9 => ?_⟩
  · rw [or_pt h1 (.inl (by omega))]
    exact ⟨sum_lt h1, h2⟩
  · rw [List.drop_eq_nil_of_le (by omega), gi] at h2
    exact h2.symm
theorem rdg_bad {Z : List UInt8} {k u : Nat} (h : Rdg Z k u) (hk : k < Z.length) (hZ : Z.length ≤ 10) (hc : ¬ 128 ≤ (bt Z k).toNat) (hb : ((bt Z k).toNat = 0 ∧ 0 < k) ∨ (k = 9 ∧ 1 < (bt Z k).toNat)) : gi Z 0 0 = none := by
  obtain ⟨h1, h2⟩ := h.1 (by omega)
  rw [drop_bt hk, gi, if_neg hc, if_pos hb] at h2
  exact h2.symm
theorem rdg_end {Z : List UInt8} {k u : Nat} (h : Rdg Z k u) (hk : k < Z.length) (hZ : Z.length ≤ 10) (hc : ¬ 128 ≤ (bt Z k).toNat) (hb : ¬ (((bt Z k).toNat = 0 ∧ 0 < k) ∨ (k = 9 ∧ 1 < (bt Z k).toNat))) : gi Z 0 0 = some (u ||| pt (bt Z k) k, k + 1) := by
  obtain ⟨h1, h2⟩ := h.1 (by omega)
  rw [drop_bt hk, gi_end hc _ hb] at h2
  rw [or_pt h1 (by omega), ← h2]
  congr 2
  rw [Nat.mod_eq_of_lt (by omega)]
/-- What GetInt answers. -/
def gres (p : Nat) : Option (Nat × Nat) → Value
  | none => .tuple #[.int .i64 0, .int .i64 0, .bool false]
  | some (u, m) => .tuple #[.int .i64 (zag u), .int .i64 ((p : Int) + (m : Int)), .bool true]
/-! ### a slice cut at both ends -/
def cutA1 (A : Option Addr) (cap p : Nat) : Option Addr := if cap = p then A else A.map (fun a => a.add p)
theorem Reads.cutB {w : World} {A : Option Addr} {cap p : Nat} {xs : List UInt8} (h : Reads w A (eByte.all xs)) (hc : xs.length ≤ cap) : Reads w (cutA1 A cap p) (eByte.all ((xs.drop p).take 10)) := by
  rw [eByte_all] at h ⊢
  unfold cutA1
  rw [List.map_take, List.map_drop]
  refine Reads.take ?_ 10
  split
  · rw [List.drop_eq_nil_of_le (by simp; omega)]; exact Reads.nil _ _
  · intro j u hj
    rw [List.getElem?_drop] at hj
    obtain ⟨b, off, rfl, hcell⟩ := h _ u hj
    exact ⟨b, off + p, by rw [Option.map_some, add_none], by rw [← hcell, Nat.add_assoc]⟩
theorem run_cut10 {P : Program} {o : Oper} {a : Act} (x y z : Operand) {t e : TypeId} (ho : o.op = .slice t x (some y) (some z) none) (ht : P.underlying t = some (.slice e)) (hs : ∃ i, P.info? e = some i ∧ i.size = 1) {xs : List UInt8} {A : Option Addr} {c p : Nat} (hx : a.eval x = .slice A xs.length c) (hy : a.eval y = .int .i64 (p : Int)) (hz : a.eval z = .int .i64 (min (xs.length : Int) ((p : Int) + 10))) (hp : p ≤ xs.length) (hc : xs.length ≤ c) (W : World) :
    (execOp a.eval o).run P W = .ok (.value (.slice (cutA1 A c p) ((xs.drop p).take 10).length (c - p))) W := by
  obtain ⟨i, hi, h1⟩ := hs
  have hel : P.elem t = e := by simp [Program.elem, ht]
  have he : P.underlying t = some (.slice (P.elem t)) := by rw [hel]; exact ht
  have r1 := run_sliceAt_slice (P := P) W t (.slice A xs.length c) (some (.int .i64 (p : Int))) (some (.int .i64 (min (xs.length : Int) ((p : Int) + 10)))) none he
  obtain ⟨q, hq⟩ : ∃ q : Nat, min (xs.length : Int) ((p : Int) + 10) = (q : Int) := ⟨(min (xs.length : Int) ((p : Int) + 10)).toNat, by omega⟩
  rw [hq] at r1 hz
  have hq2 : ((xs.drop p).take 10).length = q - p := by rw [List.length_take, List.length_drop]; omega
  have hb : (Instr.sliceBounds true xs.length c (some (.int .i64 (p : Int))) (some (.int .i64 (q : Int))) none).run P W = .ok (p, q, c) W := by
    have g1 : q ≤ c := by omega
    have g2 : p ≤ q := by omega
    simp [Instr.sliceBounds, Instr.sliceBound, asIntOf, g1, g2]
  rw [hq2]
  unfold execOp; simp only [ho]; generalize a.eval = ρ at *
  simp only [Option.map_none, Option.map_some, hx, hy, hz, Sem.run_bind, r1, Instr.slice, run_underlying ht, Result.andThen_ok, hb]
  simp [sizeOf, typeInfo, hi, h1, cutA1]
end Go.Proofs.YtckmihjekgbcmaaDoor

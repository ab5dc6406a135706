/- A slice of bytes among the arguments, laid open; how many bytes a read number has. -/
import Derived.Test.YtckmihjekgbcmaaDoorCodePuts
import Derived.Test.YtckmihjekgbcmaaDoorOpen
namespace Go.Proofs.YtckmihjekgbcmaaDoor
open Go.RowKit Go.WideShapes Go.ChangeShapes

theorem open_bytes {H : Type} {enc : TypeId × Value → H} {w : World} {r : Reach} {b0 base : Nat} {spare : Nat → Bool} {held : Bool} {v : Value} {d : DataW H} {ps : List MemPlace}
    (hval : Value.okWide Tryd.prog w r b0 22 v) (h : DataW.Trod enc Tryd.prog w base spare held 22 v d ps) :
    ∃ (A : Option Addr) (xs : List UInt8) (cap : Nat), v = .slice A xs.length cap ∧ xs.length ≤ cap ∧ (A = none → cap = 0) ∧ Reads w A (eByte.all xs) := by
  obtain ⟨A, xs, cap, rfl, hl, _, hA, ho, hr⟩ := open_int_list Tryd.underlying22 Tryd.underlying5 (by kernel_rfl) hval h
  refine ⟨A, xs.map fun x => UInt8.ofNat x.toNat, cap, by rw [List.length_map], by rw [List.length_map]; exact hl, hA, ?_⟩
  rw [eByte_all, List.map_map]
  have e : xs.map ((fun b : UInt8 => Value.int .u8 (b.toNat : Int)) ∘ fun x => UInt8.ofNat x.toNat) = xs.map (Value.int .u8) := by
    refine List.map_congr_left fun x hx => ?_
    have h1 := ho x hx
    have h2 : 0 ≤ x ∧ x ≤ 255 := by
      simp [Lit.wf, IntKind.min, IntKind.max, IntKind.bits, IntKind.signed] at h1
      omega
    show Value.int .u8 (((UInt8.ofNat x.toNat).toNat : Nat) : Int) = _
    rw [ofNat_toNat (by omega)]
    congr 1
    omega
  rw [e]; exact hr
theorem I64_of {n : Int} (h : (Lit.int .i64 n).wf = true) : I64 n := by
  simp [Lit.wf, IntKind.min, IntKind.max, IntKind.bits, IntKind.signed] at h
  unfold I64; omega
theorem gi_len : ∀ {cs : List UInt8} {i u r k : Nat}, gi cs i u = some (r, k) → i < k ∧ k ≤ i + cs.length
  | [], i, u, r, k, h => by simp [gi] at h
  | c :: cs, i, u, r, k, h => by
    rw [gi] at h
    rw [List.length_cons]
    split at h
    · have := gi_len h; omega
    · split at h
      · cases h
      · injection h with h; injection h with h1 h2; omega
theorem getAt_len {l : List UInt8} {p u m : Nat} (h : getAt l p = some (u, m)) : 0 < m ∧ m ≤ 10 ∧ p + m ≤ l.length := by
  have h1 := gi_len h
  rw [List.length_take, List.length_drop] at h1
  omega
end Go.Proofs.YtckmihjekgbcmaaDoor

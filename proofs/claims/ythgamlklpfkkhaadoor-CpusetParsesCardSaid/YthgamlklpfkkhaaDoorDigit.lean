/- cpuset's reader: digits, numbers, rows, and Parse. -/
import Derived.Test.YthgamlklpfkkhaaDoorPrint
import Derived.Test.YthgamlklpfkkhaaDoorClass
namespace Go.Proofs.YthgamlklpfkkhaaDoor
open Go.RowKit Go.WideShapes Go.ChangeShapes

/-- The byte at a place of a text, as a number. -/
def chr (l : List UInt8) (i : Nat) : Int := ((l.getD i 0).toNat : Int)
theorem chr_range (l : List UInt8) (i : Nat) : 0 ≤ chr l i ∧ chr l i ≤ 255 := by
  have := (l.getD i 0).toNat_lt
  unfold chr
  omega
@[go_sem high] theorem run_index_str {P : Program} (w : World) (t : TypeId) (l : List UInt8) (k : IntKind) (i : Nat) (h : P.underlying t = some .string) (hi : i < l.length) :
    (Instr.index t (.string (str l)) (.int k i)).run P w = .ok (.int .u8 (chr l i)) w := by
  rw [run_index_string w t _ k _ h, dif_pos (by rw [str_size]; omega)]
  congr 2
  simp [chr, str, ByteArray.getElem_eq_getElem_data, hi]
@[go_sem high] theorem run_len_str {P : Program} (w : World) (t ty : TypeId) (l : List UInt8) (h : P.underlying t = some .string) :
    (Builtin.len_ #[t] ty #[.string (str l)]).run P w = .ok (.int .i64 l.length) w := by
  rw [run_len_string w t ty _ h, str_size]
  rfl

def Rd (w : World) (b : Nat) (l : List UInt8) (i : Nat) : Prop := Blk w b #[.string (str l), .int .i64 i] 52

def isDig (l : List UInt8) (i : Nat) : Bool := decide (i < l.length) && (decide (48 ≤ chr l i) && decide (chr l i ≤ 57))

theorem digit_calls (l : List UInt8) (i b : Nat) (w : World) (h : Rd w b l i) :
    Calls Tryd.prog 46 #[.pointer (some ⟨b, 0, none⟩)] w fun e w' => e = .returned (.bool (isDig l i)) ∧ Below w.heap.size w w' := by
  have c0 := h.cell 0
  have c1 := h.cell 1
  simp at c0 c1
  clear h
  by_cases hi : i < l.length
  · have hr := chr_range l i
    unfold isDig
    rw [decide_eq_true hi, Bool.true_and]
    by_cases h48 : 48 ≤ chr l i
    · rw [decide_eq_true h48, Bool.true_and]
      go_enter Tryd.func46, Tryd.ntmps46
      go_wp2
      go_region
      go_wp2
      go_ret
      exact ⟨rfl, bl_drew (Below.refl _ _)⟩
    · have h48' : decide (48 ≤ chr l i) = false := decide_eq_false h48
      rw [h48', Bool.false_and]
      clear h48
      go_enter Tryd.func46, Tryd.ntmps46
      go_wp2
      go_region
      go_wp2
      go_ret
      exact ⟨rfl, bl_drew (Below.refl _ _)⟩
  · have hi' : decide (i < l.length) = false := decide_eq_false hi
    unfold isDig
    rw [hi', Bool.false_and]
    have hi2 : decide ((i : Int) < (l.length : Int)) = false := decide_eq_false (by omega)
    clear hi
    go_enter Tryd.func46, Tryd.ntmps46
    go_wp2
    go_region
    go_wp2
    go_ret
    exact ⟨rfl, bl_drew (Below.refl _ _)⟩
end Go.Proofs.YthgamlklpfkkhaaDoor

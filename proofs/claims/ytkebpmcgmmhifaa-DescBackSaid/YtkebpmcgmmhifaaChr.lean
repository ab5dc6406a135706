/- The bytes of a text, as numbers. -/
import Derived.Test.YtkebpmcgmmhifaaStr
namespace Go.Proofs.Ytkebpmcgmmhifaa
open Go.RowKit Go.WideShapes Go.ChangeShapes

/-- The byte at a place of a text, as a number. -/
def chr (l : List UInt8) (i : Nat) : Int := ((l.getD i 0).toNat : Int)
theorem chr_range (l : List UInt8) (i : Nat) : 0 ≤ chr l i ∧ chr l i ≤ 255 := by
  have := (l.getD i 0).toNat_lt
  unfold chr
  omega
@[go_sem high] theorem run_index_str {P : Program} (w : World) (t : TypeId) (l : List UInt8) (k : IntKind) (i : Nat) (h : P.underlying t = some .string) (hi : i < l.length) :
    (Instr.index t (.string (str l)) (.int k i)).run P w = .ok (.int .u8 (chr l i)) w := by
  rw [run_index_string w t _ k _ h, dif_pos (by rw [str_size]; omega)]
  congr 2
  simp [chr, str, ByteArray.getElem_eq_getElem_data, hi]
@[go_sem high] theorem run_len_str {P : Program} (w : World) (t ty : TypeId) (l : List UInt8) (h : P.underlying t = some .string) :
    (Builtin.len_ #[t] ty #[.string (str l)]).run P w = .ok (.int .i64 l.length) w := by
  rw [run_len_string w t ty _ h, str_size]
  rfl
end Go.Proofs.Ytkebpmcgmmhifaa

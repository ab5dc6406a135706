/- strings.Count at a line's end. -/
import Derived.Test.YtkebpmcgmmhifaaDescAllLaw
import Derived.Lib.CountLaws
import Derived.Lib.Bytealg
import Derived.Shelf.Strings.Count
namespace Go.Proofs.Ytkebpmcgmmhifaa
open Go.RowKit Go.WideShapes Go.ChangeShapes

theorem count_calls (l : List UInt8) (w : World) : Calls Try.prog 25 #[.string (str l), .string ⟨#[10]⟩] w fun e w' => e = .returned (.int .i64 ((l.count 10 : Nat) : Int)) ∧ Below w.heap.size w w' := by
  go_enter Try.func25, Try.ntmps25
  go_wp2
  rw [run_callFunc_extern Try.func38 (by kernel_rfl) (by kernel_rfl) (by kernel_rfl) (e := Extern.BytealgCount.count) (by kernel_rfl), Lib.run_countString]
  simp only [Result.andThen]
  rw [Oper.upon_value]
  go_wp2
  go_ret
  exact ⟨by rw [str_data]; rfl, Below.refl _ _⟩
/-- Where the last of such bytes is; -1: nowhere. -/
def LastI (l : List UInt8) (c r : Int) : Prop := (r = -1 ∧ ∀ j, j < l.length → chr l j ≠ c) ∨ ∃ k : Nat, r = k ∧ k < l.length ∧ chr l k = c ∧ ∀ j, k < j → j < l.length → chr l j ≠ c
theorem lastI_rng {l : List UInt8} {c r : Int} (h : LastI l c r) : -1 ≤ r ∧ r < (l.length : Int) := by
  rcases h with ⟨h1, _⟩ | ⟨k, h1, h2, _⟩ <;> omega
theorem lnS_last' {l : List UInt8} {n : Nat} {r : Int} (hn : n ≤ l.length) (h : LastI (l.take n) 10 r) : (((lnS l n).2 : Nat) : Int) = r + 1 := by
  have hl : (l.take n).length = n := by rw [List.length_take]; omega
  apply lnS_is
  rcases h with ⟨h1, h2⟩ | ⟨k, h1, h2, h3, h4⟩
  · exact .inl ⟨h1, fun j hj => by rw [← chr_take hj]; exact h2 j (by omega)⟩
  · rw [hl] at h2 h4
    exact .inr ⟨k, h1, h2, by rw [← chr_take h2]; exact h3, fun j a b => by rw [← chr_take b]; exact h4 j a b⟩
end Go.Proofs.Ytkebpmcgmmhifaa

/- What the functions of package load that only compute do: within and Next, and that the document's example is as it says. -/
import Derived.Test.YtphihgbjanpipaaKit
namespace Go.Proofs.Ytphihgbjanpipaa
open Go.RowKit

/-- A number, but from 0 to a bound. -/
def wth (n most : Int) : Int := max 0 (min n most)
/-- The next load. -/
def nxt (old now : Int) : Int := min (wth old 1048576 - wth old 1048576 / 4 + 64 * wth now 16384) 1048576

theorem wth_bd (n most : Int) (h : 0 ≤ most) : 0 ≤ wth n most ∧ wth n most ≤ most := by unfold wth; omega

theorem within_calls (n most : Int) (w : World) :
    Calls Try.prog 22 #[.int .i64 n, .int .i64 most] w fun e w' => e = .returned (.int .i64 (wth n most)) ∧ w = w' := by
  go_enter Try.func22, Try.ntmps22
  go_wp2
  go_ret
  exact ⟨rfl, rfl⟩

theorem next_calls (old now : Int) (w : World) :
    Calls Try.prog 8 #[.int .i64 old, .int .i64 now] w fun e w' => e = .returned (.int .i64 (nxt old now)) ∧ w = w' := by
  have h1 := wth_bd old 1048576 (by omega)
  have h2 := wth_bd now 16384 (by omega)
  obtain ⟨h1, h3⟩ := h1
  obtain ⟨h2, h4⟩ := h2
  go_enter Try.func8, Try.ntmps8
  go_wp2_with (go_at_call 22; refine (within_calls _ _ _).mono ?_; rintro e w' ⟨rfl, rfl⟩)
  go_ret
  exact ⟨rfl, rfl⟩

theorem lives_calls (w : World) :
    Calls Try.prog 9 #[] w fun e w' => e = .returned (.bool true) ∧ w = w' := by
  have e1 : nxt 0 4 = 256 := by decide
  have e2 : nxt 256 4 = 448 := by decide
  have e3 : nxt 448 0 = 336 := by decide
  go_enter Try.func9, Try.ntmps9
  go_wp2_with (go_at_call 8; refine (next_calls _ _ _).mono ?_; rintro e w' ⟨rfl, rfl⟩)
  go_ret
  exact ⟨rfl, rfl⟩
end Go.Proofs.Ytphihgbjanpipaa

/- LoadBounds: a load does not go beyond its bounds, and with as many or more tasks, or a greater load ahead, it is not less: for any four numbers. -/
import Derived.Test.YtphihgbjanpipaaLoad
import Derived.Test.YtphihgbjanpipaaOpen
namespace Go.Proofs.Ytphihgbjanpipaa
open Go.RowKit Go.Joins Go.WideShapes Go.ChangeShapes

theorem nxt_bd (a n : Int) : 0 ≤ nxt a n ∧ nxt a n ≤ 1048576 := by unfold nxt wth; omega
theorem nxt_mono (a b n m : Int) : nxt (min a b) (min n m) ≤ nxt (max a b) (max n m) := by unfold nxt wth; omega

theorem loadBounds_calls (a b n m : Int) (w : World) :
    Calls Try.prog 3 #[.agg #[.int .i64 a, .int .i64 b], .agg #[.int .i64 n, .int .i64 m]] w fun e w' => e = .returned (.bool true) ∧ Below w.heap.size w w' := by
  have h1 := nxt_bd (min a b) (min n m)
  have h2 := nxt_bd (max a b) (max n m)
  have h3 := nxt_mono a b n m
  obtain ⟨h1, _⟩ := h1
  obtain ⟨_, h2⟩ := h2
  go_enter Try.func3, Try.ntmps3
  go_wp2
  go_quiet (fail)
  go_wp2_with (first | (go_at_call 8; refine (next_calls _ _ _).mono ?_; rintro e w' ⟨rfl, rfl⟩) | (go_at_call 9; refine (lives_calls _).mono ?_; rintro e w' ⟨rfl, rfl⟩))
  go_ret
  exact ⟨rfl, bl_drewN (bl_alloc (bl_alloc (Below.refl _ _) _) _) _⟩

/-- A value that reads as two whole numbers. -/
theorem open_two {H : Type} {enc : TypeId × Value → H} {w : World} {r : Reach} {b0 base : Nat} {spare : Nat → Bool} {held : Bool} {v : Value} {d : DataW H} {ps : List MemPlace}
    (hval : Value.okWide Try.prog w r b0 22 v) (h : DataW.Trod enc Try.prog w base spare held 22 v d ps) : ∃ a b, v = .agg #[.int .i64 a, .int .i64 b] ∧ (Lit.int .i64 a).wf = true ∧ (Lit.int .i64 b).wf = true := by
  obtain ⟨cs, rfl, _⟩ := okWide_array Try.underlying22 hval
  obtain ⟨hl, hi⟩ := open_one (flat_array Try.underlying22 (flat_int Try.underlying3)) h
  have hc : Try.prog.cellsOf 22 = 2 := by kernel_rfl
  have he : Try.prog.cellsOf 3 = 1 := by kernel_rfl
  rw [hc] at hl
  rw [he] at hi
  obtain ⟨a, h0, wa⟩ := hi 0 (by omega)
  obtain ⟨b, h1, wb⟩ := hi 1 (by omega)
  obtain ⟨c0, c1, rfl⟩ := array2 (by simpa using hl)
  simp [Value.cells] at h0 h1
  subst h0 h1
  exact ⟨a, b, rfl, wa, wb⟩

theorem loadBounds_law {H : Type} {enc : TypeId × Value → H} {W : World} {base0 : Nat} {v0 v1 : Value} {d0 d1 : DataW H} {p0 p1 : List MemPlace}
    (o0 : Value.okWide Try.prog W .any base0 22 v0) (o1 : Value.okWide Try.prog W .any base0 22 v1)
    (h0 : DataW.Trod enc Try.prog W 0 (fun _ => true) true 22 v0 d0 p0) (h1 : DataW.Trod enc Try.prog W 0 (fun _ => true) true 22 v1 d1 p1) :
    Calls Try.prog 3 #[v0, v1] W fun e W' => e = .returned (.bool true) ∧ Below W.heap.size W W' := by
  obtain ⟨a, b, rfl, _, _⟩ := open_two o0 h0
  obtain ⟨n, m, rfl, _, _⟩ := open_two o1 h1
  exact loadBounds_calls a b n m W
end Go.Proofs.Ytphihgbjanpipaa

/- The document's room, the world left alone. -/
import Derived.Test.YtdhhcjhinpmeeaaRingPre
namespace Go.Proofs.Ytdhhcjhinpmeeaa
open Go.RowKit Go.WideShapes Go.ChangeShapes
theorem wp_seq_join2 {P : Program} {x y : Code} {Q : Exit → Act → World → Prop} {a : Act} {w : World} (R : Act → World → Prop) (h : ∀ K : Act → World → Prop, (∀ a' w', R a' w' → K a' w') → x.wp P (Exit.then K Q) a w) (k : ∀ a' w', R a' w' → y.wp P Q a' w') : (Code.seq x y).wp P Q a w :=
  wp_seq (h _ k)
set_option maxRecDepth 100000 in
theorem refRoom_same {X : Int} {N : Nat} (hN : max 0 (min X 4096) = (N : Int)) (w : World) : Calls Try.prog 17 #[.int .i64 X] w fun e w' => e = .returned (.int .i64 (N : Int)) ∧ w' = w := by
  by_cases h1 : X < 0
  · have h2 : (N : Int) = 0 := by omega
    rw [h2]
    go_enter Try.func17, Try.ntmps17
    go_wp2
    go_ret
    simp
  · by_cases h3 : 4096 < X
    · have h2 : (N : Int) = 4096 := by omega
      rw [h2]
      go_enter Try.func17, Try.ntmps17
      go_wp2
      go_ret
      simp
    · have h2 : (N : Int) = X := by omega
      rw [h2]
      go_enter Try.func17, Try.ntmps17
      go_wp2
      go_ret
      simp
end Go.Proofs.Ytdhhcjhinpmeeaa

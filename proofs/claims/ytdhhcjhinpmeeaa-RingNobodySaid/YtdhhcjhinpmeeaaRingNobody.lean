/- The law RingNobody, at any arguments. -/
import Derived.Test.YtdhhcjhinpmeeaaRingNobodyWalk
namespace Go.Proofs.Ytdhhcjhinpmeeaa
open Go.RowKit Go.WideShapes Go.ChangeShapes

theorem ringNobody_law {H : Type} {enc : TypeId × Value → H} {W : World} {v0 v1 : Value} {d0 d1 : DataW H} {p0 p1 : List MemPlace} {b0 b1 : Nat} (o0 : Value.okWide Try.prog W .any b0 3 v0) (o1 : Value.okWide Try.prog W .any b1 3 v1) (h0 : DataW.Trod enc Try.prog W 0 (fun _ => true) true 3 v0 d0 p0) (h1 : DataW.Trod enc Try.prog W 0 (fun _ => true) true 3 v1 d1 p1) :
    Calls Try.prog 6 #[v0, v1] W fun e W' => e = .returned (.bool true) ∧ Below W.heap.size W W' := by
  obtain ⟨a, rfl, _, _, wa⟩ := open_int Try.underlying3 o0 h0
  obtain ⟨b, rfl, _, _, wb⟩ := open_int Try.underlying3 o1 h1
  exact ringNobody_calls a b W
end Go.Proofs.Ytdhhcjhinpmeeaa

/- The law RingPlays, at any arguments. -/
import Derived.Test.YtdhhcjhinpmeeaaRingPlaysWalk
namespace Go.Proofs.Ytdhhcjhinpmeeaa
open Go.RowKit Go.WideShapes Go.ChangeShapes

theorem ringPlays_law {H : Type} {enc : TypeId × Value → H} {W : World} {v0 v1 v2 : Value} {d0 d1 d2 : DataW H} {p0 p1 p2 : List MemPlace} {b0 b1 b2 : Nat} (o0 : Value.okWide Try.prog W .any b0 3 v0) (o1 : Value.okWide Try.prog W .any b1 3 v1) (o2 : Value.okWide Try.prog W .any b2 36 v2) (h0 : DataW.Trod enc Try.prog W 0 (fun _ => true) true 3 v0 d0 p0) (h1 : DataW.Trod enc Try.prog W 0 (fun _ => true) true 3 v1 d1 p1) (h2 : DataW.Trod enc Try.prog W 0 (fun _ => true) true 36 v2 d2 p2) :
    Calls Try.prog 5 #[v0, v1, v2] W fun e W' => e = .returned (.bool true) ∧ Below W.heap.size W W' := by
  obtain ⟨a, rfl, _, _, wa⟩ := open_int Try.underlying3 o0 h0
  obtain ⟨b, rfl, _, _, wb⟩ := open_int Try.underlying3 o1 h1
  obtain ⟨A, xs, cap, rfl, hl, hr⟩ := open_ops o2 h2
  exact ringPlays_calls a b A xs cap hl W hr
end Go.Proofs.Ytdhhcjhinpmeeaa

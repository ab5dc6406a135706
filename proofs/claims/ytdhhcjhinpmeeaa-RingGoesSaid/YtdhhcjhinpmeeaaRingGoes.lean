/- The law RingGoes, at any arguments. -/
import Derived.Test.YtdhhcjhinpmeeaaRingGoesWalk
namespace Go.Proofs.Ytdhhcjhinpmeeaa
open Go.RowKit Go.WideShapes Go.ChangeShapes

theorem ringGoes_law {H : Type} {enc : TypeId × Value → H} {W : World} {v0 v1 : Value} {d0 d1 : DataW H} {p0 p1 : List MemPlace} {b0 b1 : Nat} (o0 : Value.okWide Try.prog W .any b0 3 v0) (o1 : Value.okWide Try.prog W .any b1 22 v1) (h0 : DataW.Trod enc Try.prog W 0 (fun _ => true) true 3 v0 d0 p0) (h1 : DataW.Trod enc Try.prog W 0 (fun _ => true) true 22 v1 d1 p1) :
    Calls Try.prog 3 #[v0, v1] W fun e W' => e = .returned (.bool true) ∧ Below W.heap.size W W' := by
  obtain ⟨a, rfl, _, _, wa⟩ := open_int Try.underlying3 o0 h0
  obtain ⟨A, xs, cap, rfl, hl, _, _, _, hr⟩ := open_int_list Try.underlying22 Try.underlying3 (by kernel_rfl) o1 h1
  exact ringGoes_calls a A xs cap hl W hr
end Go.Proofs.Ytdhhcjhinpmeeaa

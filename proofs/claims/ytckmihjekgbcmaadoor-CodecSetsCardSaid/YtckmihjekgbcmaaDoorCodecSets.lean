/- The law CodecSets, at any arguments. -/
import Derived.Test.YtckmihjekgbcmaaDoorCodecSetsWalk
import Derived.Test.YtckmihjekgbcmaaDoorOpenBytes
import Derived.Test.YtckmihjekgbcmaaDoorOpenSet
namespace Go.Proofs.YtckmihjekgbcmaaDoor
open Go.RowKit Go.WideShapes Go.ChangeShapes

theorem codecSets_law {H : Type} {enc : TypeId × Value → H} {W : World} {v0 v1 : Value} {d0 d1 : DataW H} {p0 p1 : List MemPlace} {b0 b1 : Nat} (o0 : Value.okWide Tryd.prog W .any b0 33 v0) (o1 : Value.okWide Tryd.prog W .any b1 22 v1) (h0 : DataW.Trod enc Tryd.prog W 0 (fun _ => true) true 33 v0 d0 p0) (h1 : DataW.Trod enc Tryd.prog W 0 (fun _ => true) true 22 v1 d1 p1) (hT : Tab W) :
    Calls Tryd.prog 4 #[v0, v1] W fun e W' => e = .returned (.bool true) ∧ Below W.heap.size W W' := by
  obtain ⟨S, rfl, hS⟩ := open_set o0 h0
  obtain ⟨A, xs, cap, rfl, hl, hA, hr⟩ := open_bytes o1 h1
  cases hg : setAt (xs.take 300) 0 with
  | none => exact sets_none hS hg W hl hA hr hT
  | some r => exact sets_some hS (Y := r.1) (e := r.2) hg W hl hA hr hT
end Go.Proofs.YtckmihjekgbcmaaDoor

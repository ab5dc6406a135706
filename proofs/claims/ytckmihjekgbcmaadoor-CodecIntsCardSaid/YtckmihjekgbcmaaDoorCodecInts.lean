/- The law CodecInts, at any arguments. -/
import Derived.Test.YtckmihjekgbcmaaDoorCodecIntsWalk
import Derived.Test.YtckmihjekgbcmaaDoorOpenBytes
namespace Go.Proofs.YtckmihjekgbcmaaDoor
open Go.RowKit Go.WideShapes Go.ChangeShapes

theorem codecInts_law {H : Type} {enc : TypeId × Value → H} {W : World} {v0 v1 v2 : Value} {d0 d1 d2 : DataW H} {p0 p1 p2 : List MemPlace} {b0 b1 b2 : Nat} (o0 : Value.okWide Tryd.prog W .any b0 22 v0) (o1 : Value.okWide Tryd.prog W .any b1 3 v1) (o2 : Value.okWide Tryd.prog W .any b2 3 v2) (h0 : DataW.Trod enc Tryd.prog W 0 (fun _ => true) true 22 v0 d0 p0) (h1 : DataW.Trod enc Tryd.prog W 0 (fun _ => true) true 3 v1 d1 p1) (h2 : DataW.Trod enc Tryd.prog W 0 (fun _ => true) true 3 v2 d2 p2) (hT : Tab W) :
    Calls Tryd.prog 3 #[v0, v1, v2] W fun e W' => e = .returned (.bool true) ∧ Below W.heap.size W W' := by
  obtain ⟨A, xs, cap, rfl, hl, hA, hr⟩ := open_bytes o0 h0
  obtain ⟨n, rfl, _, _, hw⟩ := open_int Tryd.underlying3 o1 h1
  obtain ⟨i, rfl, _, _, _⟩ := open_int Tryd.underlying3 o2 h2
  have hn : I64 n := I64_of hw
  by_cases hi : i < 0 ∨ ((xs.take 300).length : Int) < i
  · exact ints_out hn hi W hl hA hr hT
  · obtain ⟨p, rfl⟩ : ∃ p : Nat, i = (p : Int) := ⟨i.toNat, by omega⟩
    have hp : p ≤ (xs.take 300).length := by omega
    cases hg : getAt (xs.take 300) p with
    | none => exact ints_none hn hp hg W hl hA hr hT
    | some r =>
      obtain ⟨u, m⟩ := r
      have h3 := getAt_len hg
      exact ints_some hn hp hg ⟨h3.1, h3.2.1⟩ W hl hA hr hT
end Go.Proofs.YtckmihjekgbcmaaDoor

/- LoadNexts: the next load of any load and any number of tasks, and which of any domains is the busiest, and the idlest, are as the reference says. -/
import Derived.Test.YtphihgbjanpipaaLoadRef
import Derived.Test.YtphihgbjanpipaaLoadBounds
namespace Go.Proofs.Ytphihgbjanpipaa
open Go.RowKit Go.Joins Go.WideShapes Go.ChangeShapes

theorem skewPost_some (xs ks : List Int) : ∃ (x y : Int) (b : Bool), SkewPost xs ks (.returned (.tuple #[.int .i64 x, .int .i64 y, .bool b])) := by
  by_cases h0 : 0 < ks.length
  · obtain ⟨i, hi⟩ := exists_isHi (gl xs ks) ks.length
    obtain ⟨l, hl⟩ := exists_isHi (fun j => - gl xs ks j) ks.length
    by_cases c : gl xs ks i = gl xs ks l
    · exact ⟨0, 0, false, .inr ⟨i, l, h0, hi, hl, by rw [skewR, if_pos c]⟩⟩
    · exact ⟨_, _, true, .inr ⟨i, l, h0, hi, hl, by rw [skewR, if_neg c]⟩⟩
  · exact ⟨0, 0, false, .inl ⟨List.length_eq_zero_iff.1 (by omega), rfl⟩⟩
theorem skewPost_one {xs ks : List Int} {e e' : Ending} (h : SkewPost xs ks e) (h' : SkewPost xs ks e') : e = e' := by
  rcases h with ⟨h1, rfl⟩ | ⟨i, l, h0, hi, hl, rfl⟩ <;> rcases h' with ⟨h1', rfl⟩ | ⟨i', l', h0', hi', hl', rfl⟩
  · rfl
  · subst h1; simp at h0'
  · subst h1'; simp at h0
  · rw [isHi_one h0 hi hi', isHi_one h0 hl hl']

theorem cut60 (xs : List Int) : (min (xs.length : Int) 60).toNat = (xs.take 60).length := by rw [List.length_take]; omega

set_option maxRecDepth 100000 in
set_option maxHeartbeats 1000000 in
theorem loadNexts_calls (a b : Int) (A B : Option Addr) (xs ks : List Int) (capA capB : Nat) (w : World) (hr : Reads w A (xs.map (Value.int .i64))) (hl : xs.length ≤ capA) (hA : capA ≤ 9223372036854775807)
    (hr2 : Reads w B (ks.map (Value.int .i64))) (hl2 : ks.length ≤ capB) (hB : capB ≤ 9223372036854775807) :
    Calls Try.prog 5 #[.agg #[.int .i64 a, .int .i64 b], .slice A xs.length capA, .slice B ks.length capB] w fun e w' => e = .returned (.bool true) ∧ Below w.heap.size w w' := by
  have r1 : Reads w A ((xs.take 60).map (Value.int .i64)) := by rw [List.map_take]; exact hr.take 60
  have r2 : Reads w B ((ks.take 60).map (Value.int .i64)) := by rw [List.map_take]; exact hr2.take 60
  have l1 : (xs.take 60).length ≤ 9223372036854775807 := by rw [List.length_take]; omega
  have l2 : (ks.take 60).length ≤ 9223372036854775807 := by rw [List.length_take]; omega
  have E1 := Lib.hid (cut60 xs)
  have E2 := Lib.hid (cut60 ks)
  generalize xs.take 60 = xs1 at *
  generalize ks.take 60 = ks1 at *
  obtain ⟨x, y, z, hs⟩ := skewPost_some xs1 ks1
  have HS := Lib.hid hs
  clear hs
  go_enter Try.func5, Try.ntmps5
  go_wp2
  go_quiet (fail)
  go_wp2
  go_quiet (fail)
  go_wp2_with fail
  rw [E1.out, E2.out]
  (with_reducible refine (skew_calls _ _ _ _ _ _ _ (by repeat (with_reducible first | exact r1 | apply Reads.drewN | apply Reads.alloc)) l1 (by repeat (with_reducible first | exact r2 | apply Reads.drewN | apply Reads.alloc)) l2).mono ?_)
  rintro e w' ⟨hp, n, rfl⟩
  obtain rfl := skewPost_one hp HS.out
  clear hp
  go_wp2_with fail
  (with_reducible refine (refSkew_calls _ _ _ _ _ _ _ (by repeat (with_reducible first | exact r1 | apply Reads.drewN | apply Reads.alloc)) l1 (by repeat (with_reducible first | exact r2 | apply Reads.drewN | apply Reads.alloc)) l2).mono ?_)
  rintro e w' ⟨hp, n, rfl⟩
  obtain rfl := skewPost_one hp HS.out
  clear hp
  go_wp2_with fail
  (with_reducible refine (next_calls _ _ _).mono ?_)
  rintro e w' ⟨rfl, rfl⟩
  go_wp2_with fail
  (with_reducible refine (refNext_calls _ _ _).mono ?_)
  rintro e w' ⟨rfl, rfl⟩
  go_wp2_with fail
  (with_reducible refine (lives_calls _).mono ?_)
  rintro e w' ⟨rfl, rfl⟩
  go_wp2_with fail
  go_ret
  exact ⟨rfl, bl_drewN (bl_alloc (Below.refl _ _) _) _⟩

theorem loadNexts_law {H : Type} {enc : TypeId × Value → H} {W : World} {base0 : Nat} {v0 v1 v2 : Value} {d0 d1 d2 : DataW H} {p0 p1 p2 : List MemPlace}
    (o0 : Value.okWide Try.prog W .any base0 22 v0) (o1 : Value.okWide Try.prog W .any base0 28 v1) (o2 : Value.okWide Try.prog W .any base0 28 v2)
    (h0 : DataW.Trod enc Try.prog W 0 (fun _ => true) true 22 v0 d0 p0) (h1 : DataW.Trod enc Try.prog W 0 (fun _ => true) true 28 v1 d1 p1) (h2 : DataW.Trod enc Try.prog W 0 (fun _ => true) true 28 v2 d2 p2) :
    Calls Try.prog 5 #[v0, v1, v2] W fun e W' => e = .returned (.bool true) ∧ Below W.heap.size W W' := by
  obtain ⟨a, b, rfl, _, _⟩ := open_two o0 h0
  obtain ⟨A, xs, capA, rfl, hl, hA, _, _, hr⟩ := open_int_list Try.underlying28 Try.underlying3 (by kernel_rfl) o1 h1
  obtain ⟨B, ks, capB, rfl, hl2, hB, _, _, hr2⟩ := open_int_list Try.underlying28 Try.underlying3 (by kernel_rfl) o2 h2
  exact loadNexts_calls a b A B xs ks capA capB W hr hl hA hr2 hl2 hB
end Go.Proofs.Ytphihgbjanpipaa

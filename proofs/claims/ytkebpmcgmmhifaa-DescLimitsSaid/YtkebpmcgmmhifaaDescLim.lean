/- A row of bytes filled with one byte; its text; the tokens of such texts. -/
import Derived.Test.YtkebpmcgmmhifaaDescAllBig
import Derived.Test.YtkebpmcgmmhifaaIrow
namespace Go.Proofs.Ytkebpmcgmmhifaa
open Go.RowKit Go.WideShapes Go.ChangeShapes

def fillL (c : Int) (k : Nat) (l : List Int) : List Int := List.replicate k c ++ l.drop k
theorem fillL_0 (c : Int) (l : List Int) : fillL c 0 l = l := by simp [fillL]
theorem fillL_len {c : Int} {k : Nat} {l : List Int} (h : k ≤ l.length) : (fillL c k l).length = l.length := by simp [fillL]; omega
theorem fillL_set {c : Int} {k : Nat} {l : List Int} (h : k < l.length) : (fillL c k l).set k c = fillL c (k + 1) l := by
  unfold fillL
  rw [List.drop_eq_getElem_cons h, List.set_append_right _ _ (by simp), List.length_replicate, Nat.sub_self, List.set_cons_zero, List.replicate_succ']
  simp
theorem fillL_end {c : Int} {l : List Int} : fillL c l.length l = List.replicate l.length c := by simp [fillL]
theorem rep_map (n : Nat) (c : UInt8) : (List.replicate n c).map (fun c => (c.toNat : Int)) = List.replicate n (c.toNat : Int) := by simp
theorem run_convI {o : Oper} {a : Act} {W : World} {g n cap e : Nat} {xs : List UInt8} (x : Operand) (ho : o.op = .convert 38 9 x) (hx : a.eval x = .slice (some ⟨g, 0, none⟩) n cap) (hn : xs.length = n) (h : Blk W g (irow .u8 (xs.map fun c => (c.toNat : Int))) e) : (execOp a.eval o).run Try.prog W = .ok (.value (.string (str xs))) W := by
  subst hn
  have e := run_bytes_str 38 9 5 Try.underlying38 Try.underlying5 Try.underlying9 (irow_bytes h) cap
  unfold execOp; simp only [ho, hx]
  simp [e]
theorem lim1 {N : Nat} (h1 : 1 ≤ N) (h : N ≤ 65538) : (desA (List.replicate N 97)).2.1 = (if N ≤ 32 then 0 else 2) ∧ (N ≤ 32 → (desR (List.replicate N 97)).length = 1) := by
  obtain ⟨a1, a2⟩ := lim_a h1
  by_cases hN : N ≤ 65536
  · have hA : desA (List.replicate N 97) = toksA (List.replicate N 97) := by unfold desA; rw [if_neg (by simp; omega)]
    have he : (desA (List.replicate N 97)).2.1 = (if N ≤ 32 then 0 else 2) := by rw [hA, a1]; split <;> rfl
    refine ⟨he, fun h32 => ?_⟩
    unfold desR
    rw [if_pos (by rw [he, if_pos h32]), hA]; exact a2 h32
  · have hA : desA (List.replicate N 97) = ([], 2, 0) := by unfold desA; rw [if_pos (by simp; omega)]
    exact ⟨by rw [hA, if_neg (by omega)], fun h32 => by omega⟩
theorem lim2 {N : Nat} : (desA (List.replicate N 59)).2.1 = (if N ≤ 65536 then 0 else 2) ∧ (N ≤ 65536 → (desR (List.replicate N 59)).length = N) := by
  obtain ⟨a1, a2⟩ := lim_sA N
  by_cases hN : N ≤ 65536
  · have hA : desA (List.replicate N 59) = toksA (List.replicate N 59) := by unfold desA; rw [if_neg (by simp; omega)]
    have he : (desA (List.replicate N 59)).2.1 = 0 := by rw [hA, a1]
    refine ⟨by rw [he, if_pos hN], fun _ => ?_⟩
    unfold desR
    rw [if_pos he, hA]; exact a2
  · have hA : desA (List.replicate N 59) = ([], 2, 0) := by unfold desA; rw [if_pos (by simp; omega)]
    exact ⟨by rw [hA, if_neg hN], fun h => absurd h hN⟩
end Go.Proofs.Ytkebpmcgmmhifaa

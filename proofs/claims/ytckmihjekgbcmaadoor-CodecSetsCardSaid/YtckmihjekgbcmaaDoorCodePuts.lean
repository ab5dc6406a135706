/- Several numbers' bytes, one behind the other; PutInt over a row of the caller's own. -/
import Derived.Test.YtckmihjekgbcmaaDoorCodeRowsWalk
namespace Go.Proofs.YtckmihjekgbcmaaDoor
open Go.RowKit Go.WideShapes Go.ChangeShapes

/-- A whole number of 64 bits. -/
def I64 (n : Int) : Prop := -9223372036854775808 ≤ n ∧ n ≤ 9223372036854775807
def vbs (ns : List Int) : List UInt8 := ns.flatMap fun n => vb (zig n)
theorem vbs_nil : vbs [] = [] := rfl
theorem vbs_cons (n : Int) (ns : List Int) : vbs (n :: ns) = vb (zig n) ++ vbs ns := rfl
theorem vbs_append (xs ys : List Int) : vbs (xs ++ ys) = vbs xs ++ vbs ys := by simp [vbs]
theorem vbz_len {n : Int} (h : I64 n) : (vb (zig n)).length ≤ 10 := vb_len (zig_lt h)
theorem vbs_len {ns : List Int} (h : ∀ n ∈ ns, I64 n) : (vbs ns).length ≤ 10 * ns.length := by
  induction ns with
  | nil => simp [vbs]
  | cons n ns ih =>
    rw [vbs_cons, List.length_append, List.length_cons]
    have h1 := vbz_len (h n List.mem_cons_self)
    have h2 := ih fun x hx => h x (List.mem_cons_of_mem _ hx)
    omega
theorem vbs_take {ns : List Int} {k : Nat} (hk : k < ns.length) : vbs (ns.take (k + 1)) = vbs (ns.take k) ++ vb (zig (nth ns k)) := by
  rw [List.take_add_one, vbs_append, nth_eq, List.getElem?_eq_getElem hk]
  simp [vbs, List.getD, hk]
theorem vbs_take_len {ns : List Int} (h : ∀ n ∈ ns, I64 n) (k : Nat) : (vbs (ns.take k)).length ≤ 10 * ns.length := by
  have h1 := vbs_len (ns := ns.take k) fun x hx => h x (List.mem_of_mem_take hx)
  rw [List.length_take] at h1
  omega
theorem I64_nth {ns : List Int} (h : ∀ n ∈ ns, I64 n) {k : Nat} (hk : k < ns.length) : I64 (nth ns k) := by
  rw [nth_eq, List.getD_eq_getElem?_getD, List.getElem?_eq_getElem hk]
  exact h _ (List.getElem_mem hk)
theorem putInt_own {base : Nat} {u : Value} {l : List UInt8} {w : World} (h : OwnR w base 5 eByte u l) (hb : base ≤ w.heap.size) (hl : l.length ≤ 10000000) {n : Int} (hn : I64 n) :
    Calls Tryd.prog 7 #[u, .int .i64 n] w fun e w' => ∃ v, e = .returned v ∧ (OwnR w' base 5 eByte v (l ++ vb (zig n)) ∧ Below w.heap.size w w') := by
  obtain ⟨A, c, rfl, h1, h2, h3, R⟩ := h.reads
  exact (putInt_calls A l c n hn w R hl h3).mono fun e w' ⟨v, e1, e2, e3⟩ => ⟨v, e1, e2.lower hb, e3⟩
/-- The numbers of a set's rows, and how many there are. -/
theorem rowsFrom_le {S : Nat} (hS : Sm S) : ∀ (f n p : Nat), p ≤ n + 1 → (rowsFrom S f n p).length + 2 * n ≤ 2 * 1024 ∨ rowsFrom S f n p = []
  | 0, _, _, _ => .inr rfl
  | f + 1, n, p, hp => by
    cases h : nextFrom S 1025 n with
    | none => exact .inr (rows_end h)
    | some m =>
      obtain ⟨h1, h2, h3⟩ := next_lt hS h
      have hr := run_at hS h3
      have hl := run_le hS 1025 m (by omega)
      rw [rowsFrom, h]
      refine .inl ?_
      simp only [List.length_cons]
      rcases rowsFrom_le hS f (m + runFrom S 1025 m) (m + runFrom S 1025 m + 1) (by omega) with g | g
      · omega
      · rw [g]; simp only [List.length_nil]; omega
theorem rowsL_len {S : Nat} (hS : Sm S) : (rowsL S).length ≤ 2048 := by
  rcases rowsFrom_le hS 1025 0 0 (by omega) with g | g
  · exact Nat.le_trans (Nat.le_of_add_right_le g) (Nat.le_refl _)
  · show (rowsFrom S 1025 0 0).length ≤ _
    rw [g]; simp
theorem rowsFrom_mem {S : Nat} (hS : Sm S) : ∀ (f n p : Nat), p ≤ n + 1 → ∀ x ∈ rowsFrom S f n p, -1 ≤ x ∧ x ≤ 1024
  | 0, _, _, _, x, hx => by simp [rowsFrom] at hx
  | f + 1, n, p, hp, x, hx => by
    cases h : nextFrom S 1025 n with
    | none => rw [rows_end h] at hx; cases hx
    | some m =>
      obtain ⟨h1, h2, h3⟩ := next_lt hS h
      have hr := run_at hS h3
      have hl := run_le hS 1025 m (by omega)
      rw [rowsFrom, h] at hx
      rcases List.mem_cons.1 hx with rfl | hx
      · omega
      · rcases List.mem_cons.1 hx with rfl | hx
        · omega
        · exact rowsFrom_mem hS f _ _ (by omega) x hx
theorem rowsL_I64 {S : Nat} (hS : Sm S) : ∀ n ∈ rowsL S, I64 n := fun n hn => by
  have := rowsFrom_mem hS 1025 0 0 (by omega) n hn
  unfold I64; omega
end Go.Proofs.YtckmihjekgbcmaaDoor

/- What cpuset's First and List and the reference's List do. -/
import Derived.Test.YtckmihjekgbcmaaDoorNext
import Derived.Test.YtckmihjekgbcmaaDoorOwn
namespace Go.Proofs.YtckmihjekgbcmaaDoor
open Go.RowKit Go.WideShapes Go.ChangeShapes

theorem slInt : SlT Tryd.prog 67 3 (eInt .i64) 8 := slT_of Tryd.underlying67 (z := .int .i64 0) (by kernel_rfl) rfl Nat.one_pos (by omega)

/-- The members below k, rising. -/
def mem (S k : Nat) : List Nat := (List.range k).filter fun i => S.testBit i
theorem mem_succ (S k : Nat) : mem S (k + 1) = mem S k ++ (if S.testBit k = true then [k] else []) := by
  rw [mem, mem, List.range_succ, List.filter_append]
  congr 1
  by_cases h : S.testBit k = true <;> simp [h]
theorem mem_gap (S k m : Nat) (h : ∀ j, k ≤ j → j < m → S.testBit j = false) (hkm : k ≤ m) : mem S m = mem S k := by
  obtain ⟨d, rfl⟩ : ∃ d, m = k + d := ⟨m - k, by omega⟩
  induction d with
  | zero => rfl
  | succ d ih =>
    rw [show k + (d + 1) = (k + d) + 1 from rfl, mem_succ, ih (fun j a b => h j a (by omega)) (by omega), h (k + d) (by omega) (by omega)]
    simp
theorem mem_len (S k : Nat) : (mem S k).length ≤ k := by
  have := List.length_filter_le (fun i => S.testBit i) (List.range k)
  simpa [mem] using this

def lints (l : List Nat) : List Int := l.map fun (n : Nat) => (n : Int)
theorem lints_snoc (l : List Nat) (n : Nat) : lints (l ++ [n]) = lints l ++ [(n : Int)] := by simp [lints]
theorem lints_len (l : List Nat) : (lints l).length = l.length := by simp [lints]

/-- What Next answers. -/
def NextRes (S : Nat) (n m : Int) (b : Bool) : Prop := (b = true ∧ ∃ k : Nat, m = k ∧ k < 1024 ∧ IsNext S n k) ∨ (b = false ∧ m = 0 ∧ NoNext S n)
theorem next_any (S : Nat) (hS : Sm S) (n : Int) (w : World) (hT : Tab w) :
    Calls Tryd.prog 37 #[.agg (setA S), .int .i64 n] w fun e w' => (∃ m b, e = .returned (.tuple #[.int .i64 m, .bool b]) ∧ NextRes S n m b) ∧ Below w.heap.size w w' := by
  rcases next_or S hS n with ⟨m, hm, h⟩ | h
  · exact (next_yes S m n w hS h hT).mono fun e w' ⟨he, hb⟩ => ⟨⟨m, true, he, .inl ⟨rfl, m, rfl, hm, h⟩⟩, hb⟩
  · exact (next_no S n w h).mono fun e w' ⟨he, hb⟩ => ⟨⟨0, false, he, .inr ⟨rfl, rfl, h⟩⟩, hb⟩

/-- What the loop of List keeps: the members below k are there, and what Next answers from k on. -/
def ListRel (S : Nat) (w : World) (l n ok : Value) (wr : World) : Prop :=
  ∃ (k : Nat) (m : Int) (b : Bool), k ≤ 1024 ∧ n = .int .i64 m ∧ ok = .bool b ∧ NextRes S k m b ∧
    OwnR wr (w.heap.size + 1) 3 (eInt .i64) l (lints (mem S k)) ∧ Blk wr w.heap.size (setA S) 33 ∧ Below w.heap.size w wr

def listM : Value → Value → Nat
  | n, .bool true => 1025 - (intOf n).toNat
  | _, _ => 0
theorem listM_step {S q : Nat} {m2 : Int} {b2 : Bool} (hq : q < 1024) (h : NextRes S ((q : Int) + 1) m2 b2) : listM (.int .i64 m2) (.bool b2) < listM (.int .i64 q) (.bool true) := by
  rcases h with ⟨rfl, k, rfl, hk, hn⟩ | ⟨rfl, _, _⟩
  · have := hn.1; simp [listM, intOf]; omega
  · simp [listM, intOf]; omega

end Go.Proofs.YtckmihjekgbcmaaDoor

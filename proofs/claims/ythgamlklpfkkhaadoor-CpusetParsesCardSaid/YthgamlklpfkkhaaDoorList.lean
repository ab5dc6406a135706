/- What cpuset's First and List and the reference's List do. -/
import Derived.Test.YthgamlklpfkkhaaDoorNext
import Derived.Test.YthgamlklpfkkhaaDoorOwn
namespace Go.Proofs.YthgamlklpfkkhaaDoor
open Go.RowKit Go.WideShapes Go.ChangeShapes

theorem slInt : SlT Tryd.prog 36 3 (eInt .i64) 8 := slT_of Tryd.underlying36 (z := .int .i64 0) (by kernel_rfl) rfl Nat.one_pos (by omega)

/-- The members below k, rising. -/
def mem (S k : Nat) : List Nat := (List.range k).filter fun i => S.testBit i
theorem mem_succ (S k : Nat) : mem S (k + 1) = mem S k ++ (if S.testBit k = true then [k] else []) := by
  rw [mem, mem, List.range_succ, List.filter_append]
  congr 1
  by_cases h : S.testBit k = true <;> simp [h]
theorem mem_gap (S k m : Nat) (h : ∀ j, k ≤ j → j < m → S.testBit j = false) (hkm : k ≤ m) : mem S m = mem S k := by
  obtain ⟨d, rfl⟩ : ∃ d, m = k + d := ⟨m - k, by omega⟩
  induction d with
  | zero => rfl
  | succ d ih =>
    rw [show k + (d + 1) = (k + d) + 1 from rfl, mem_succ, ih (fun j a b => h j a (by omega)) (by omega), h (k + d) (by omega) (by omega)]
    simp
theorem mem_len (S k : Nat) : (mem S k).length ≤ k := by
  have := List.length_filter_le (fun i => S.testBit i) (List.range k)
  simpa [mem] using this

def ints (l : List Nat) : List Int := l.map fun (n : Nat) => (n : Int)
theorem ints_snoc (l : List Nat) (n : Nat) : ints (l ++ [n]) = ints l ++ [(n : Int)] := by simp [ints]
theorem ints_len (l : List Nat) : (ints l).length = l.length := by simp [ints]

/-- What Next answers. -/
def NextRes (S : Nat) (n m : Int) (b : Bool) : Prop := (b = true ∧ ∃ k : Nat, m = k ∧ k < 1024 ∧ IsNext S n k) ∨ (b = false ∧ m = 0 ∧ NoNext S n)
theorem next_any (S : Nat) (hS : Sm S) (n : Int) (w : World) (hT : Tab w) :
    Calls Tryd.prog 30 #[.agg (setA S), .int .i64 n] w fun e w' => (∃ m b, e = .returned (.tuple #[.int .i64 m, .bool b]) ∧ NextRes S n m b) ∧ Below w.heap.size w w' := by
  rcases next_or S hS n with ⟨m, hm, h⟩ | h
  · exact (next_yes S m n w hS h hT).mono fun e w' ⟨he, hb⟩ => ⟨⟨m, true, he, .inl ⟨rfl, m, rfl, hm, h⟩⟩, hb⟩
  · exact (next_no S n w h).mono fun e w' ⟨he, hb⟩ => ⟨⟨0, false, he, .inr ⟨rfl, rfl, h⟩⟩, hb⟩

theorem first_calls (S : Nat) (hS : Sm S) (w : World) (hT : Tab w) :
    Calls Tryd.prog 32 #[.agg (setA S)] w fun e w' => (∃ m b, e = .returned (.tuple #[.int .i64 m, .bool b]) ∧ NextRes S 0 m b) ∧ Below w.heap.size w w' := by
  have HT := Lib.hid hT
  clear hT
  go_enter Tryd.func32, Tryd.ntmps32
  go_wp2_with (first
    | (refine wpl_load_set (.tmp 1) rfl rfl _ rfl S (heap_alloc_new _ _) ?_)
    | (go_at_call 30; refine (next_any S hS 0 _ (HT.out.alloc _)).mono ?_; rintro e w1 ⟨⟨m, b, rfl, hres⟩, hb1⟩))
  go_ret2
  exact ⟨⟨_, _, rfl, hres⟩, bl_step (bl_alloc (Below.refl _ _) _) hb1⟩

/-- What the loop of List keeps: the members below k are there, and what Next answers from k on. -/
def ListRel (S : Nat) (w : World) (l n ok : Value) (wr : World) : Prop :=
  ∃ (k : Nat) (m : Int) (b : Bool), k ≤ 1024 ∧ n = .int .i64 m ∧ ok = .bool b ∧ NextRes S k m b ∧
    OwnR wr (w.heap.size + 1) 3 (eInt .i64) l (ints (mem S k)) ∧ Blk wr w.heap.size (setA S) 24 ∧ Below w.heap.size w wr

def listM : Value → Value → Nat
  | n, .bool true => 1025 - (intOf n).toNat
  | _, _ => 0
theorem listM_step {S q : Nat} {m2 : Int} {b2 : Bool} (hq : q < 1024) (h : NextRes S ((q : Int) + 1) m2 b2) : listM (.int .i64 m2) (.bool b2) < listM (.int .i64 q) (.bool true) := by
  rcases h with ⟨rfl, k, rfl, hk, hn⟩ | ⟨rfl, _, _⟩
  · have := hn.1; simp [listM, intOf]; omega
  · simp [listM, intOf]; omega

set_option maxRecDepth 100000 in
set_option maxHeartbeats 400000 in
theorem list_calls (S : Nat) (hS : Sm S) (w : World) (hT : Tab w) :
    Calls Tryd.prog 31 #[.agg (setA S)] w fun e w' => ∃ v, e = .returned v ∧ OwnR w' w.heap.size 3 (eInt .i64) v (ints (mem S 1024)) ∧ Below w.heap.size w w' := by
  have HT := Lib.hid hT
  clear hT
  go_enter Tryd.func31, Tryd.ntmps31
  go_wp2_with (first
    | (refine wpl_load_set (.tmp 1) rfl rfl _ rfl S (heap_alloc_new _ _) ?_)
    | (go_at_call 30; refine (next_any S hS 0 _ (HT.out.alloc _)).mono ?_; rintro e w1 ⟨⟨m, b, rfl, hres⟩, hb1⟩))
  go_loopw [2, 3, 4] (fun l n ok wr => ListRel S w l n ok wr) (fun _ n ok _ => listM n ok)
  case atStart =>
    exact ⟨0, m, b, by omega, rfl, rfl, hres, OwnR.nil _ _ _ _, Blk.below (heap_alloc_new _ _) hb1, bl_step (bl_alloc (Below.refl _ _) _) hb1⟩
  case round =>
    clear hb1 hres
    obtain ⟨k, m, b, hk, rfl, rfl, hres, hown, hblk, bel⟩ := hrel
    have HR := Lib.hid hres
    have HB := Lib.hid hblk
    have hz := bel.size
    have hzz := hblk.lt
    clear hres hblk
    cases b with
    | true =>
      obtain ⟨_, q, rfl, hq, hn⟩ | ⟨h0, _⟩ := HR.out
      · have hm : mem S q = mem S k := mem_gap S k q (fun j c d => hn.2.2 j (by omega) d) (by have := hn.1; omega)
        have hsn : ints (mem S k) ++ [(q : Int)] = ints (mem S (q + 1)) := by rw [mem_succ, if_pos hn.2.1, hm, ints_snoc]
        have hlen : (ints (mem S k)).length ≤ 1024 := by have := mem_len S k; rw [ints_len]; omega
        have HS := Lib.hid hsn
        have HL := Lib.hid hlen
        clear hm hsn hn hlen HR
        go_wp2_with (first
          | (at_builtin; refine own_append slInt rfl (.tmp 18) (.tmp 20) rfl (w.heap.size + 1) _ (ints (mem S k)) rfl (hown.alloc _) ⟨wr.heap.size, 0, none⟩ 1 1 [(q : Int)] rfl rfl (news_one _ _ _) (by have := HL.out; simp; omega) (by simp; omega) ?_; intro v' w1 hown1 hgrow hat; have HB1 := Lib.hid ((hown.alloc _).blk hgrow (HB.out.alloc _) (by omega)); have bel1 := bl_grown (bl_alloc bel _) (hown.alloc _) hgrow (by omega) (by simp; omega); rw [HS.out] at hown1; clear hgrow hat)
          | (refine wpl_load_set (.tmp 1) rfl rfl _ rfl S HB1.out ?_)
          | (go_at_call 30; refine (next_any S hS _ _ (HT.out.same bel1)).mono ?_; rintro e w2 ⟨⟨m2, b2, rfl, hres2⟩, hb2⟩))
        go_roundw
        case rel => exact ⟨q + 1, m2, b2, by omega, rfl, rfl, by simpa using hres2, hown1.same hb2, HB1.out.below hb2, bl_step bel1 hb2⟩
        case measure => exact listM_step hq hres2
      · cases h0
    | false =>
      have hall : mem S 1024 = mem S k := by
        rcases HR.out with ⟨h0, _⟩ | ⟨_, _, hn⟩
        · cases h0
        · exact mem_gap S k 1024 (fun j c _ => hn j (by omega)) hk
      have HA := Lib.hid hall
      clear hall HR
      go_wp2
      go_ret
      exact ⟨_, rfl, by rw [HA.out]; exact hown.lower (by omega), bel⟩
end Go.Proofs.YthgamlklpfkkhaaDoor

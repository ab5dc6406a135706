/- Structs in rows and in variables; any one thing done to a row; the input's rows of things to do. -/
import Derived.Test.YtdhhcjhinpmeeaaRingDoA
import Derived.Test.YtdhhcjhinpmeeaaRingDoB
import Derived.Test.YtdhhcjhinpmeeaaRingDoC
import Derived.Test.YtdhhcjhinpmeeaaRingDoD
import Derived.Deep.MidRow
namespace Go.Proofs.Ytdhhcjhinpmeeaa
open Go.RowKit Go.WideShapes Go.ChangeShapes

/-- t is a struct (or an array) of so many cells. -/
def AggT (P : Program) (t : TypeId) (n : Nat) : Prop := ∃ d i, P.underlying t = some d ∧ d.isRow = true ∧ P.info? t = some i ∧ i.size = n
theorem aggT {P : Program} {t : TypeId} {d : TypeDesc} {n : Nat} (h1 : P.underlying t = some d) (h2 : d.isRow = true) (h3 : (P.info? t).map (·.size) = some n) : AggT P t n := by
  cases hi : P.info? t with
  | none => simp [hi] at h3
  | some i => simp [hi] at h3; exact ⟨d, i, h1, h2, hi, h3⟩
section
variable {P : Program} {o : Oper} {a : Act} (x y : Operand) {t : TypeId} {W : World}
theorem run_loadE {α : Type} {E : Enc α} (ho : o.op = .load t x) (T : AggT P t E.sz) {b off i : Nat} {xs : List α} (hx : a.eval x = .pointer (some ⟨b, off + i * E.sz, none⟩)) (hr : Reads W (some ⟨b, off, none⟩) (E.all xs)) {u : α} (hu : xs[i]? = some u) :
    (execOp a.eval o).run P W = .ok (.value (.agg (E.enc u).toArray)) W := by
  obtain ⟨d, z, h1, h2, h3, h4⟩ := T
  have hc : W.rangeAt b (off + i * E.sz) (E.enc u) := fun j v hv => by
    have hj : j < E.sz := by rw [← E.len u]; exact (List.getElem?_eq_some_iff.1 hv).1
    obtain ⟨b', off', e, hc⟩ := hr (i * E.sz + j) v (by rw [E.all_get xs i j u hu hj]; exact hv)
    injection e with e; injection e with e1 e2; subst e1 e2
    rw [Nat.add_assoc]
    exact hc
  have hl := run_loadVar_mid (P := P) W b (off + i * E.sz) t (E.enc u) d hc h1 h2 (by rw [h3, Option.map_some, h4, E.len])
  unfold execOp
  simp only [ho, hx, Instr.loadAt, Instr.sureAddr, Sem.run_bind, Sem.run_pure, Result.andThen_ok, hl]
theorem run_loadW (ho : o.op = .load t x) {cs : Array Value} (T : AggT P t cs.size) {g : Nat} (hx : a.eval x = .pointer (some ⟨g, 0, none⟩)) {t' : TypeId} (hB : Blk W g cs t') : (execOp a.eval o).run P W = .ok (.value (.agg cs)) W := by
  obtain ⟨d, z, h1, h2, h3, h4⟩ := T
  have hc : W.rangeAt g 0 cs.toList := fun j v hv => by rw [Nat.zero_add, hB.cell]; simpa using hv
  have hl := run_loadVar_mid (P := P) W g 0 t cs.toList d hc h1 h2 (by rw [h3, Option.map_some, h4]; simp)
  unfold execOp
  simp only [ho, hx, Instr.loadAt, Instr.sureAddr, Sem.run_bind, Sem.run_pure, Result.andThen_ok, hl, Array.toArray_toList]
theorem run_storeW (ho : o.op = .store t x y) {old cs : Array Value} (T : AggT P t cs.size) {g : Nat} (hx : a.eval x = .pointer (some ⟨g, 0, none⟩)) (hy : a.eval y = .agg cs) {t' : TypeId} (hB : Blk W g old t') (hs : old.size = cs.size) (h1 : cs.all (·.oneCell') = true) :
    (execOp a.eval o).run P W = .ok .skip (W.setRow g cs) := by
  obtain ⟨d, z, _, _, h3, h4⟩ := T
  unfold execOp
  simp only [ho, hx, hy, Instr.storeAt, Instr.sureAddr, Sem.run_bind, Sem.run_pure, Result.andThen_ok]
  rw [run_storeVar_row W g t' t old cs hB (by rw [h3, Option.map_some, h4]) hs h1]
  rfl
end
theorem Off.hat {w : World} {V v' : Value} {g : Nat} (n : Off V g) (hg : g < w.heap.size) (hat : v'.ownBlock = V.ownBlock ∨ ∀ k, v'.ownBlock = some k → w.heap.size ≤ k) : Off v' g := by
  rcases hat with h | h
  · rw [Off, h]; exact n
  · intro k; have := h g k; omega
theorem refRoom_N {X : Int} {N : Nat} (h : max 0 (min X 4096) = (N : Int)) (w : World) : Calls Try.prog 17 #[.int .i64 X] w fun e w' => e = .returned (.int .i64 (N : Int)) ∧ Below w.heap.size w w' := by
  have := refRoom_calls X w; rwa [h] at this
theorem do_calls {w : World} {r b N B cap : Nat} {A : Option Addr} {xs : List Int} (h : Rg w r b N xs) (ho : OwnR w B 3 (eInt .i64) (.slice A xs.length cap) xs) (hcap : xs.length ≤ cap) (hB : B ≤ w.heap.size) (n1 : Off (.slice A xs.length cap) r) (n2 : Off (.slice A xs.length cap) b) (kn : Nat) (i x : Int) :
    Calls Try.prog 18 #[.pointer (some ⟨r, 0, none⟩), .slice A xs.length cap, .int .i64 (N : Int), .agg #[.int .u64 (kn : Int), .int .i64 i, .int .i64 x]] w fun e w' => ∃ u, e = .returned u ∧ Done w w' r b N B (.slice A xs.length cap) u := by
  have hm : kn % 8 < 8 := Nat.mod_lt _ (by omega)
  have hin : ∀ q : Nat, (i < 0 ∨ (q : Int) ≤ i) ∨ ∃ p : Nat, i = (p : Int) ∧ p < q := fun q => by
    by_cases h1 : i < 0 ∨ (q : Int) ≤ i
    · exact .inl h1
    · exact .inr ⟨i.toNat, by omega, by omega⟩
  rcases (show kn % 8 = 0 ∨ kn % 8 = 1 ∨ kn % 8 = 2 ∨ kn % 8 = 3 ∨ kn % 8 = 4 ∨ kn % 8 = 5 ∨ kn % 8 = 6 ∨ kn % 8 = 7 by omega) with hk | hk | hk | hk | hk | hk | hk | hk
  · by_cases hl : xs.length < N
    · exact do_0_yes h ho hcap hB n1 n2 hk hl i x
    · exact do_0_no h ho hcap hB n1 n2 hk (by omega) i x
  · by_cases hl : xs.length < N
    · exact do_1_yes h ho hcap hB n1 n2 hk hl i x
    · exact do_1_no h ho hcap hB n1 n2 hk (by omega) i x
  · by_cases hl : xs.length < N
    · exact do_2_yes h ho hcap hB n1 n2 hk hl i x
    · exact do_2_no h ho hcap hB n1 n2 hk (by omega) i x
  · by_cases hl : xs.length < N
    · rcases hin (xs.length + 1) with hi | ⟨p, rfl, hp⟩
      · exact do_3_out h ho hcap hB n1 n2 hk hl (by omega) x
      · exact do_3_yes h ho hcap hB n1 n2 hk hl (by omega) x
    · exact do_3_full h ho hcap hB n1 n2 hk (by omega) i x
  · by_cases hl : 0 < xs.length
    · exact do_4_yes h ho hcap hB n1 n2 hk hl i x
    · exact do_4_no h ho hcap hB n1 n2 hk (by omega) i x
  · by_cases hl : 0 < xs.length
    · exact do_5_yes h ho hcap hB n1 n2 hk hl i x
    · exact do_5_no h ho hcap hB n1 n2 hk (by omega) i x
  · rcases hin xs.length with hi | ⟨p, rfl, hp⟩
    · exact do_6_no h ho hcap hB n1 n2 hk hi x
    · exact do_6_yes h ho hcap hB n1 n2 hk hp x
  · rcases hin xs.length with hi | ⟨p, rfl, hp⟩
    · exact do_7_no h ho hcap hB n1 n2 hk hi x
    · exact do_7_yes h ho hcap hB n1 n2 hk hp x

/-! ### rows of things to do -/
abbrev Op3 := Nat × Int × Int
def eOp : Enc Op3 := ⟨3, fun p => [.int .u64 (p.1 : Int), .int .i64 p.2.1, .int .i64 p.2.2], fun _ => rfl, fun _ u hu => by simp at hu; rcases hu with rfl | rfl | rfl <;> rfl⟩
theorem slOp : SlT Try.prog 36 40 eOp 24 := slT_of Try.underlying36 (z := .agg #[.int .u64 0, .int .i64 0, .int .i64 0]) (by kernel_rfl) rfl (by decide) (by omega)
theorem aggOp : AggT Try.prog 40 3 := aggT Try.underlying40 rfl (by kernel_rfl)
def opAt (l : List Op3) (i : Nat) : Op3 := l.getD i (0, 0, 0)
theorem opAt_get {l : List Op3} {i : Nat} (h : i < l.length) : l[i]? = some (opAt l i) := by unfold opAt; simp [h]
theorem Reads.takeE {α : Type} {E : Enc α} {w : World} {A : Option Addr} {xs : List α} (h : Reads w A (E.all xs)) (n : Nat) : Reads w A (E.all (xs.take n)) := by rw [E.all_take]; exact h.take _
theorem Reads.posE {α : Type} {E : Enc α} {w : World} {A : Option Addr} {xs : List α} (h : Reads w A (E.all xs)) (hp : 0 < E.sz) (hx : 0 < xs.length) : ∃ b off, A = some ⟨b, off, none⟩ ∧ True := by
  obtain ⟨b, off, hA, _⟩ := h.at_ (by rw [E.all_length]; exact Nat.mul_pos hx hp)
  exact ⟨b, off, hA, trivial⟩
theorem open_ops {H : Type} {enc : TypeId × Value → H} {w : World} {r : Reach} {b0 base : Nat} {spare : Nat → Bool} {held : Bool} {v : Value} {d : DataW H} {ps : List MemPlace}
    (hval : Value.okWide Try.prog w r b0 36 v) (h : DataW.Trod enc Try.prog w base spare held 36 v d ps) :
    ∃ (A : Option Addr) (xs : List Op3) (cap : Nat), v = .slice A xs.length cap ∧ xs.length ≤ cap ∧ Reads w A (eOp.all xs) := by
  have hf : Flat Try.prog 40 (fun cs => ∃ a, cs = eOp.enc a ∧ True) := by
    intro H enc w base spare held fuel cs x hx
    have h3 := flat_struct (P := Try.prog) (t := 40) (fun i cs => if i = 0 then (∃ n, cs = (eInt .u64).enc n ∧ (Lit.int .u64 n).wf = true) else (∃ n, cs = (eInt .i64).enc n ∧ (Lit.int .i64 n).wf = true)) Try.underlying40 (fun i f hf => by
      match i, hf with
      | 0, hf => simp at hf; subst hf; simp only [if_true]; exact @flat_ints _ _ _ Try.underlying38
      | 1, hf => simp at hf; subst hf; show Flat Try.prog 3 (fun cs => ∃ n, cs = (eInt .i64).enc n ∧ (Lit.int .i64 n).wf = true); exact @flat_ints _ _ _ Try.underlying3
      | 2, hf => simp at hf; subst hf; show Flat Try.prog 3 (fun cs => ∃ n, cs = (eInt .i64).enc n ∧ (Lit.int .i64 n).wf = true); exact @flat_ints _ _ _ Try.underlying3
      | n + 3, hf => simp at hf) hx
    obtain ⟨hl, hi⟩ := h3
    have hc : Try.prog.cellsOf 40 = 3 := by kernel_rfl
    have hu : Try.prog.cellsOf 38 = 1 := by kernel_rfl
    have hn : Try.prog.cellsOf 3 = 1 := by kernel_rfl
    rw [hc] at hl
    obtain ⟨k, h0, wk⟩ := hi 0 _ rfl
    obtain ⟨i, h1, _⟩ := hi 1 _ rfl
    obtain ⟨x, h2, _⟩ := hi 2 _ rfl
    change List.take (Try.prog.cellsOf 38) (List.drop 0 cs) = _ at h0
    change List.take (Try.prog.cellsOf 3) (List.drop 1 cs) = _ at h1
    change List.take (Try.prog.cellsOf 3) (List.drop 2 cs) = _ at h2
    rw [hu] at h0
    rw [hn] at h1 h2
    match cs, hl with
    | [c0, c1, c2], _ =>
      simp [eInt] at h0 h1 h2
      subst h0 h1 h2
      have hk0 : 0 ≤ k := by
        have := wk
        simp [Lit.wf, IntKind.min, IntKind.signed] at this
        omega
      exact ⟨(k.toNat, i, x), by simp [eOp]; omega, trivial⟩
  obtain ⟨A, len, cap, rfl, hs⟩ := open_slice_of Try.underlying36 hf hval h
  obtain ⟨xs, rfl, _, hr⟩ := slice_list eOp _ (by kernel_rfl) (by decide) hs
  exact ⟨A, xs, cap, rfl, hs.1, hr⟩
end Go.Proofs.Ytdhhcjhinpmeeaa

/- strings.Builder: its own block, its row of bytes; what its methods do. -/
import Derived.Test.YtkebpmcgmmhifaaMem
import Derived.Test.YtkebpmcgmmhifaaStr
import Derived.Lib.Builder
import Derived.Lib.AppendStr
import Derived.Lib.UnsafeStr
import Derived.Laws.Externs
namespace Go.Proofs.Ytkebpmcgmmhifaa
open Go.RowKit Go.WideShapes Go.ChangeShapes
set_option linter.unusedVariables false

/-- The blocks that a builder's write may change. -/
def bS (g : Nat) (v : Value) : List Nat := g :: v.ownBlock.toList
section
variable {w0 w w1 w2 w' : World} {g k : Nat} {v v' u : Value} {S : List Nat}
theorem nib (h : k ≠ g) (n : Off v k) : k ∉ bS g v := by
  intro hk
  simp only [bS, List.mem_cons, Option.mem_toList] at hk
  rcases hk with hk | hk
  · exact h hk
  · exact n hk
theorem ofb (h : Off u g) (n : Off2 u v) : ∀ j, j ∈ bS g v → Off u j := by
  intro j hj
  simp only [bS, List.mem_cons, Option.mem_toList] at hj
  rcases hj with rfl | hj
  · exact h
  · intro e
    rcases n with n | n
    · rw [n] at e; cases e
    · exact n (by rw [e, hj])
theorem fr_o (h : Fr S w0 w) (k : w.grownBy w' v.ownBlock) (hs : ∀ j, v.ownBlock = some j → j ∈ S ∨ w0.heap.size ≤ j) : Fr S w0 w' :=
  ⟨k.os.trans h.os, k.tape.trans h.tape, k.output.trans h.output, Nat.le_trans h.size k.size, fun j hj hn => (k.block j (Nat.lt_of_lt_of_le hj h.size) (fun e => by rcases hs j e.symm with h | h; exact hn h; omega)).trans (h.block j hj hn)⟩
theorem bl_b {base : Nat} (h : Below base w0 w) (k : Fr (bS g v) w w') (hb : base ≤ w.heap.size) (hg : base ≤ g) (hv : ∀ j, v.ownBlock = some j → base ≤ j) : Below base w0 w' :=
  h.trans ⟨k.os, k.tape, k.output, k.size, fun j hj => k.block j (by omega) (fun hm => by
    simp only [bS, List.mem_cons, Option.mem_toList] at hm
    rcases hm with rfl | hm
    · omega
    · have := hv j hm; omega)⟩
theorem Off.hatB (n : Off v k) (hk : k < w.heap.size) (hat : v'.ownBlock = v.ownBlock ∨ ∀ j, v'.ownBlock = some j → w.heap.size ≤ j) : Off v' k := by
  rcases hat with h | h
  · rw [Off, h]; exact n
  · intro e; have := h k e; omega
theorem Off2.hatB {α : Type} {base : Nat} {e : TypeId} {E : Enc α} {xs : List α} (n : Off2 v u) (h : OwnR w base e E u xs) (hat : v'.ownBlock = v.ownBlock ∨ ∀ j, v'.ownBlock = some j → w.heap.size ≤ j) : Off2 v' u := by
  rcases hat with hh | hh
  · rw [Off2, hh]; exact n
  · cases hv : v'.ownBlock with
    | none => exact .inl hv
    | some j =>
      refine .inr fun e => ?_
      have := hh j hv
      have := (h.lt j (by rw [← e, hv])).2
      omega
end

theorem str_cells (s : List UInt8) : Lib.strCells (str s) = eByte.all s := by
  rw [eByte_all, Lib.strCells_eq]
  rfl
/-- append of a text's bytes to a row of bytes of the call's own. -/
theorem own_append_str {P : Program} {w : World} {t u ty e : TypeId} (T : SlT P t e eByte 1) (hu : P.underlying u = some .string) (hz : (P.info? e).map (·.zero) = some (some (.int .u8 0)))
    {base : Nat} {v : Value} {xs : List UInt8} (hO : OwnR w base e eByte v xs) (s : List UInt8) (hl : xs.length + s.length ≤ 140737488355328) (hbase : base ≤ w.heap.size) :
    ∃ v' w', (Builtin.append_ #[t, u] ty #[v, .string (str s)]).run P w = .ok v' w' ∧ OwnR w' base e eByte v' (xs ++ s) ∧ w.grownBy w' v.ownBlock ∧ (v'.ownBlock = v.ownBlock ∨ ∀ k, v'.ownBlock = some k → w.heap.size ≤ k) := by
  obtain ⟨i, z, h1, h2, h3, h4, h5⟩ := T.info
  have hz0 : i.zero = some (.int .u8 0) := by simpa [h1] using hz
  have hsz : (str s).size = s.length := rfl
  have h3' : i.size = 1 := h3
  obtain ⟨v', w', r1, r2, r3, _⟩ := Lib.run_append_own_string (P := P) w base t u ty e i T.under hu h1 hz0 h3 h4 v xs.length (eByte.all xs) hO (str s) (by unfold maxLen; rw [hsz]; omega) (by rw [hsz]; exact hl) hbase
  rw [str_cells, hsz] at r2
  refine ⟨v', w', r1, ⟨by rw [eByte.all_length, List.length_append], ?_⟩, r3, ?_⟩
  · have := r2.2
    rw [show eByte.all xs ++ eByte.all s = eByte.all (xs ++ s) by rw [eByte_all, eByte_all, eByte_all, List.map_append]] at this
    rw [List.length_append]
    exact this
  · rcases hO.2 with ⟨rfl, h0⟩ | ⟨g, cap, cur, rfl, hbg, hg, hnc, hcm, hcs, htake⟩
    · -- nil: what is handed back is nil, or lies above (the base may be the heap's end)
      have hO2 : w.ownsRow w.heap.size e 1 (.slice none 0 0) xs.length (eByte.all xs) := ⟨by rw [eByte.all_length]; rfl, .inl ⟨rfl, h0⟩⟩
      obtain ⟨v2, w2, q1, q2, _, _⟩ := Lib.run_append_own_string (P := P) w w.heap.size t u ty e i T.under hu h1 hz0 h3 h4 (.slice none 0 0) xs.length (eByte.all xs) hO2 (str s) (by unfold maxLen; rw [hsz]; omega) (by rw [hsz]; exact hl) (Nat.le_refl _)
      rw [q1] at r1
      injection r1 with e1 e2
      subst e1
      exact .inr fun k hk => (q2.lt k hk).1
    · by_cases hroom : xs.length + s.length ≤ cap
      · have hcs' : cur.size = cap := by have : eByte.sz = 1 := rfl; rw [this] at hcs; omega
        have hr := Lib.run_append_room_string (P := P) w t u ty e i T.under hu h1 h3 g xs.length cap cur hg (str s) hroom (by rw [hsz, hcs']; exact hroom)
        rw [hr] at r1
        injection r1 with e1 e2
        subst e1
        exact .inl rfl
      · have holds : ∀ j u, (eByte.all xs)[j]? = some u → w.cell? ((⟨g, 0, none⟩ : Addr).add j) = some u := by
          have hO3 : OwnR w base e eByte (.slice (some ⟨g, 0, none⟩) xs.length cap) xs := hO
          exact World.ownsRow.cells (g := g) hO3 rfl
        have hr := Lib.run_append_grow_string (P := P) w t u ty e i (.int .u8 0) T.under hu h1 hz0 ⟨g, 0, none⟩ xs.length cap (eByte.all xs) (by rw [h3]; exact eByte.all_length xs) holds (str s) (by rw [hsz]; omega) (by rw [hsz]; omega) (by rw [h4, hsz]; exact growslice_fits (by omega) (by omega))
        rw [hr] at r1
        injection r1 with e1 e2
        subst e1
        exact .inr fun k hk => by simp [Value.ownBlock] at hk; omega
theorem st_append_str {P : Program} {ops : Array Oper} {o : Oper} {rest : List Oper} {a : Act} {w : World} {Q : Exit → Act → World → Prop} {t u e : TypeId} (T : SlT P t e eByte 1) (hu : P.underlying u = some .string) (hz : (P.info? e).map (·.zero) = some (some (.int .u8 0))) (hgd : o.guard = none) (s x : Operand)
    (ho : o.op = .call { callee := .builtin .append, args := #[s, x], argTypes := #[t, u] })
    {base : Nat} {v : Value} {xs : List UInt8} (hs : a.eval s = v) (hO : OwnR w base e eByte v xs) (l : List UInt8) (hx : a.eval x = .string (str l)) (hl : xs.length + l.length ≤ 140737488355328) (hbase : base ≤ w.heap.size)
    (h : ∀ v' w', OwnR w' base e eByte v' (xs ++ l) → w.grownBy w' v.ownBlock → (v'.ownBlock = v.ownBlock ∨ ∀ k, v'.ownBlock = some k → w.heap.size ≤ k) → wpList P ops Q rest (a.put o.dst v') w') : wpList P ops Q (o :: rest) a w := by
  refine wpList_plain hgd fun K hK => ?_
  obtain ⟨v', w', hr, h2, h3, h4⟩ := own_append_str (ty := o.type) T hu hz hO l hl hbase
  unfold Oper.wp execOp
  simp only [ho, resolve, invoke, builtin, Sem.run_bind, Sem.run_pure, Result.andThen_ok, List.map_toArray, List.map_cons, List.map_nil, hs, hx, hr]
  exact hK _ _ (h v' w' h2 h3 h4)

theorem bld_info : (Try.prog.info? 5).map (·.zero) = some (some (.int .u8 0)) := by kernel_rfl
theorem bld_size : (Try.prog.info? 53).map (·.size) = some 2 := by kernel_rfl
theorem bld_lies : liesAt Try.prog Try.prog.depth 53 (2 / Try.prog.cellsOf 53) 0 53 1 = true := by kernel_rfl
theorem bld_byte : Try.prog.cellsOf 5 = 1 := by kernel_rfl

set_option maxHeartbeats 1000000 in
set_option maxRecDepth 100000 in
theorem copyCheck_used (b : Nat) (w : World) (h0 : w.cell? ⟨b, 0, none⟩ = some (.pointer (some ⟨b, 0, none⟩))) :
    Calls Try.prog 42 #[.pointer (some ⟨b, 0, none⟩)] w fun e w' => e = .returned (.tuple #[]) ∧ w' = w := by
  obtain ⟨j, hj, _⟩ := Option.map_eq_some_iff.1 bld_size
  go_enter Try.func42, Try.ntmps42
  go_wp2
  rw [Lib.run_neq_ptr_same w _ Try.underlying51 hj]
  go_wp2
  go_end0
  exact ⟨rfl, rfl⟩
set_option maxHeartbeats 1000000 in
set_option maxRecDepth 100000 in
theorem copyCheck_fresh (b : Nat) (w : World) (h0 : w.cell? ⟨b, 0, none⟩ = some (.pointer none)) (hsh : w.shape? b = some (53, 2)) (hfz : w.frozen? ⟨b, 0, none⟩ = false) :
    Calls Try.prog 42 #[.pointer (some ⟨b, 0, none⟩)] w fun e w' => e = .returned (.tuple #[]) ∧ w' = w.setCell ⟨b, 0, none⟩ (.pointer (some ⟨b, 0, none⟩)) := by
  obtain ⟨j, hj, hjs⟩ := Option.map_eq_some_iff.1 bld_size
  go_enter Try.func42, Try.ntmps42
  go_wp2
  rw [Lib.run_to_unsafe w ⟨b, 0, none⟩ Try.underlying51 Try.underlying69 hj (by rw [hjs]; decide) hsh (Nat.zero_lt_succ 1)]
  simp only [Result.andThen]
  rw [Oper.upon_value]
  go_wp2
  rw [run_callFunc_extern Try.func45 (by kernel_rfl) (by kernel_rfl) (by kernel_rfl) (e := Extern.AbiNoEscape.same) (by kernel_rfl)]
  rw [Lib.run_noEscape]
  simp only [Result.andThen]
  rw [Oper.upon_value]
  go_wp2
  rw [Lib.run_from_unsafe w ⟨b, 0, none⟩ Try.underlying69 Try.underlying51 hj hsh bld_lies]
  simp only [Result.andThen]
  rw [Oper.upon_value]
  go_wp2
  go_end0
  exact ⟨rfl, rfl⟩
/-- A builder's first cell: nil, or where it stands. -/
def Bp (g : Nat) (p : Value) : Prop := p = .pointer none ∨ p = .pointer (some ⟨g, 0, none⟩)
theorem copyCheck_calls {g : Nat} {p v : Value} {w : World} (hp : Bp g p) (hB : Blk w g #[p, v] 53) :
    Calls Try.prog 42 #[.pointer (some ⟨g, 0, none⟩)] w fun e w' => ∃ u, e = .returned u ∧ u = .tuple #[] ∧ Blk w' g #[.pointer (some ⟨g, 0, none⟩), v] 53 ∧ w.grownBy w' (some g) := by
  rcases hp with rfl | rfl
  · refine (copyCheck_fresh g w ((hB.cell 0).trans rfl) (by have h : w.heap[g]? = _ := hB; simp [World.shape?, h]) (Lib.frozen_of_heap hB 0)).mono ?_
    rintro e w' ⟨rfl, rfl⟩
    exact ⟨_, rfl, rfl, hB.set 0 _, ⟨rfl, rfl, rfl, by simp [World.setCell], fun k _ hk => Below.heap_setCell _ _ _ _ (fun e => hk (by rw [e]))⟩⟩
  · refine (copyCheck_used g w ((hB.cell 0).trans rfl)).mono ?_
    rintro e w' ⟨rfl, rfl⟩
    exact ⟨_, rfl, rfl, hB, ⟨rfl, rfl, rfl, Nat.le_refl _, fun _ _ _ => rfl⟩⟩
end Go.Proofs.Ytkebpmcgmmhifaa

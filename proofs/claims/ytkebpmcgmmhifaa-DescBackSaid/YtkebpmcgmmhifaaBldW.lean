/- strings.Builder's WriteByte, WriteString, String. -/
import Derived.Test.YtkebpmcgmmhifaaBld
import Derived.Test.YtkebpmcgmmhifaaCuts
import Derived.Test.YtkebpmcgmmhifaaOwnRd
namespace Go.Proofs.Ytkebpmcgmmhifaa
open Go.RowKit Go.WideShapes Go.ChangeShapes
set_option linter.unusedSimpArgs false
set_option linter.unusedVariables false

theorem bl_one_sl : One Try.prog 38 := one_of Try.underlying38 rfl (by kernel_rfl)
theorem bl_fld : FieldAt Try.prog 53 1 1 := fieldAt_of (s := 0) Try.underlying53 (by kernel_rfl)
theorem bl_run_copy {o : Oper} {a : Act} (x0 : Operand) {ts : Array TypeId} (ho : o.op = .call { callee := .value (.func 42), args := #[x0], argTypes := ts }) {v0 : Value} (h0 : a.eval x0 = v0) (W : World) : (execOp a.eval o).run Try.prog W = .ok (.enter 42 #[v0]) W := by
  unfold execOp
  simp only [ho]
  subst h0
  go_simp
theorem bl_run_lit {o : Oper} {a : Act} (x0 : Operand) (ho : o.op = .buildSlice 38 1 #[(0, x0)]) {m0 : Int} (h0 : a.eval x0 = .int .u8 m0) (W : World) : (execOp a.eval o).run Try.prog W = .ok (.value (.slice (some ⟨W.heap.size, 0, none⟩) 1 1)) (W.alloc (.cells #[.int .u8 m0] 5)) := by
  unfold execOp
  simp only [ho, List.map_toArray, List.map_cons, List.map_nil, h0]
  go_simp
/-- What a write leaves. -/
def BldOut (w w' : World) (base g : Nat) (v : Value) (xs : List UInt8) : Prop := ∃ v', Blk w' g #[.pointer (some ⟨g, 0, none⟩), v'] 53 ∧ OwnR w' base 5 eByte v' xs ∧ Off v' g ∧ (v'.ownBlock = v.ownBlock ∨ ∀ k, v'.ownBlock = some k → w.heap.size ≤ k) ∧ Fr (bS g v) w w'

section
variable {w : World} {base g : Nat} {p v : Value} {xs : List UInt8}
attribute [local irreducible] Go.wpList Go.Code.wp
set_option maxRecDepth 100000 in
theorem writeByte_calls (c : UInt8) (hp : Bp g p) (hB : Blk w g #[p, v] 53) (hO : OwnR w base 5 eByte v xs) (n0 : Off v g) (hbase : base ≤ w.heap.size) (hl : xs.length + 1 ≤ 140737488355328) :
    Calls Try.prog 27 #[.pointer (some ⟨g, 0, none⟩), .int .u8 (c.toNat : Int)] w fun e w' => ∃ u, e = .returned u ∧ u = .nilIface ∧ BldOut w w' base g v (xs ++ [c]) := by
  have fr : Fr (bS g v) w w := Fr.refl _ _
  have hgl := hB.lt
  have hvl := hO.lt
  go_enter Try.func27, Try.ntmps27
  refine wp_seq ?_
  refine wp_region_lit ?_
  refine st_mv .nilIface ?_
  simp only [nf0, nf1, nf2, nf3, nf4]
  refine wpList_nil ?_
  show Code.wp _ _ _ _ _
  refine wp_seq ?_
  refine wp_region_lit ?_
  refine st_mv (.pointer (some ⟨g, 0, none⟩)) ?_
  simp only [nf0, nf1, nf2, nf3, nf4]
  refine st_call (by rfl) (bl_run_copy (.tmp 5) rfl rfl _) (copyCheck_calls hp hB) ?_
  rintro _ w1 ⟨rfl, hB1, hg1⟩
  simp only [nf0, nf1, nf2, nf3, nf4]
  replace hO := hO.keptB hg1 n0
  replace fr := fr_in fr hg1 (by simp [bS])
  refine wpList_nil ?_
  show Code.wp _ _ _ _ _
  refine wp_seq ?_
  refine wp_region_lit ?_
  refine st_mv (.pointer (some ⟨g, 0, none⟩)) ?_
  simp only [nf0, nf1, nf2, nf3, nf4]
  refine st_mv (.pointer (some ⟨g, 0, none⟩)) ?_
  simp only [nf0, nf1, nf2, nf3, nf4]
  refine st_value (v := (.pointer (some ⟨g, 0, none⟩))) (by rfl) (run_check (.tmp 8) rfl rfl _) ?_
  simp only [nf0, nf1, nf2, nf3, nf4]
  refine st_value (v := (.pointer (some ⟨g, 1, none⟩))) (by rfl) (run_fieldA (.tmp 9) rfl bl_fld rfl rfl _) ?_
  simp only [nf0, nf1, nf2, nf3, nf4]
  refine st_value (v := v) (by rfl) (run_loadB (.tmp 10) rfl bl_one_sl rfl hB1 rfl) ?_
  simp only [nf0, nf1, nf2, nf3, nf4]
  refine st_mv (.int .u8 (c.toNat : Int)) ?_
  simp only [nf0, nf1, nf2, nf3, nf4]
  refine st_lit (n := 1) (by rfl) (bl_run_lit (.tmp 12) rfl rfl _) ?_
  intro g2 w2 B2 hb2 lo2
  simp only [nf0, nf1, nf2, nf3, nf4]
  have hB2 := hB1.below hb2
  have hO2 := hO.same hb2
  replace fr := fr_step fr hb2
  have hbs : base ≤ w2.heap.size := Nat.le_trans hbase fr.size
  refine st_append slByte rfl (.tmp 11) (.tmp 13) rfl rfl hO2 ([c] : List UInt8) rfl rfl B2 (by simp [Enc.all, eByte]) (by simp only [List.length_cons, List.length_nil]; omega) hbs ?_
  intro v3 w3 O3 hg3 hat3
  change _ = v.ownBlock ∨ _ at hat3
  have hg3 : World.grownBy _ _ v.ownBlock := hg3
  simp only [nf0, nf1, nf2, nf3, nf4]
  have n3 := (n0 : Off _ _).app hB2 hat3
  have hB3 := hB2.keptR hg3 n0
  have hs2 := fr.size
  replace fr := fr_o fr hg3 (fun j hj => .inl (by simp [bS, hj]))
  refine st_value (v := (.pointer (some ⟨g, 0, none⟩))) (by rfl) (run_check (.tmp 7) rfl rfl _) ?_
  simp only [nf0, nf1, nf2, nf3, nf4]
  refine st_value (v := (.pointer (some ⟨g, 1, none⟩))) (by rfl) (run_fieldA (.tmp 15) rfl bl_fld rfl rfl _) ?_
  simp only [nf0, nf1, nf2, nf3, nf4]
  refine st_cell (v := v3) (by rfl) (run_storeB (.tmp 16) (.tmp 14) rfl bl_one_sl hB3 (show 1 < 2 by decide) rfl rfl (OwnR.cell1 O3).1 (OwnR.cell1 O3).2) hB3 ?_
  intro w4 B4 hg4
  simp only [nf0, nf1, nf2, nf3, nf4]
  have O4 := O3.keptB hg4 n3
  replace fr := fr_in fr hg4 (by simp [bS])
  refine wpList_nil ?_
  show Code.wp _ _ _ _ _
  refine wp_seq ?_
  refine wp_region_lit ?_
  refine st_mv .nilIface ?_
  simp only [nf0, nf1, nf2, nf3, nf4]
  refine wpList_nil ?_
  show Code.wp _ _ _ _ _
  refine wp_ret ?_
  first | show bodyPost _ _ _ _ _ _ | (simp only [Exit.then, Exit.inBlock]; show bodyPost _ _ _ _ _ _)
  exact bodyPost_ret (results_tmp rfl _ _ _) rfl ⟨_, rfl, rfl, v3, B4, O4, n3, hat3.imp id (fun h k hk => by rw [h] at hk; injection hk with hk; omega), fr⟩

set_option maxRecDepth 100000 in
theorem writeString_calls (s : List UInt8) (hp : Bp g p) (hB : Blk w g #[p, v] 53) (hO : OwnR w base 5 eByte v xs) (n0 : Off v g) (hbase : base ≤ w.heap.size) (hl : xs.length + s.length ≤ 140737488355328) :
    Calls Try.prog 28 #[.pointer (some ⟨g, 0, none⟩), .string (str s)] w fun e w' => ∃ u, e = .returned u ∧ u = .tuple #[.int .i64 ((s.length : Nat) : Int), .nilIface] ∧ BldOut w w' base g v (xs ++ s) := by
  have fr : Fr (bS g v) w w := Fr.refl _ _
  have hgl := hB.lt
  have hvl := hO.lt
  go_enter Try.func28, Try.ntmps28
  refine wp_seq ?_
  refine wp_region_lit ?_
  refine st_mv (.int .i64 0) ?_
  simp only [nf0, nf1, nf2, nf3, nf4]
  refine st_mv .nilIface ?_
  simp only [nf0, nf1, nf2, nf3, nf4]
  refine wpList_nil ?_
  show Code.wp _ _ _ _ _
  refine wp_seq ?_
  refine wp_region_lit ?_
  refine st_mv (.pointer (some ⟨g, 0, none⟩)) ?_
  simp only [nf0, nf1, nf2, nf3, nf4]
  refine st_call (by rfl) (bl_run_copy (.tmp 6) rfl rfl _) (copyCheck_calls hp hB) ?_
  rintro _ w1 ⟨rfl, hB1, hg1⟩
  simp only [nf0, nf1, nf2, nf3, nf4]
  replace hO := hO.keptB hg1 n0
  replace fr := fr_in fr hg1 (by simp [bS])
  refine wpList_nil ?_
  show Code.wp _ _ _ _ _
  refine wp_seq ?_
  refine wp_region_lit ?_
  refine st_mv (.pointer (some ⟨g, 0, none⟩)) ?_
  simp only [nf0, nf1, nf2, nf3, nf4]
  refine st_mv (.pointer (some ⟨g, 0, none⟩)) ?_
  simp only [nf0, nf1, nf2, nf3, nf4]
  refine st_value (v := (.pointer (some ⟨g, 0, none⟩))) (by rfl) (run_check (.tmp 9) rfl rfl _) ?_
  simp only [nf0, nf1, nf2, nf3, nf4]
  refine st_value (v := (.pointer (some ⟨g, 1, none⟩))) (by rfl) (run_fieldA (.tmp 10) rfl bl_fld rfl rfl _) ?_
  simp only [nf0, nf1, nf2, nf3, nf4]
  refine st_value (v := v) (by rfl) (run_loadB (.tmp 11) rfl bl_one_sl rfl hB1 rfl) ?_
  simp only [nf0, nf1, nf2, nf3, nf4]
  refine st_mv (.string (str s)) ?_
  simp only [nf0, nf1, nf2, nf3, nf4]
  have hbs : base ≤ w1.heap.size := Nat.le_trans hbase fr.size
  have hs2 := fr.size
  refine st_append_str slByte Try.underlying9 bld_info rfl (.tmp 12) (.tmp 13) rfl rfl hO s rfl hl hbs ?_
  intro v3 w3 O3 hg3 hat3
  change _ = v.ownBlock ∨ _ at hat3
  have hg3 : World.grownBy _ _ v.ownBlock := hg3
  simp only [nf0, nf1, nf2, nf3, nf4]
  have n3 : Off v3 g := (n0 : Off _ _).hatB hB1.lt hat3
  have hB3 := hB1.keptR hg3 n0
  replace fr := fr_o fr hg3 (fun j hj => .inl (by simp [bS, hj]))
  refine st_value (v := (.pointer (some ⟨g, 0, none⟩))) (by rfl) (run_check (.tmp 8) rfl rfl _) ?_
  simp only [nf0, nf1, nf2, nf3, nf4]
  refine st_value (v := (.pointer (some ⟨g, 1, none⟩))) (by rfl) (run_fieldA (.tmp 15) rfl bl_fld rfl rfl _) ?_
  simp only [nf0, nf1, nf2, nf3, nf4]
  refine st_cell (v := v3) (by rfl) (run_storeB (.tmp 16) (.tmp 14) rfl bl_one_sl hB3 (show 1 < 2 by decide) rfl rfl (OwnR.cell1 O3).1 (OwnR.cell1 O3).2) hB3 ?_
  intro w4 B4 hg4
  simp only [nf0, nf1, nf2, nf3, nf4]
  have O4 := O3.keptB hg4 n3
  replace fr := fr_in fr hg4 (by simp [bS])
  refine wpList_nil ?_
  show Code.wp _ _ _ _ _
  refine wp_seq ?_
  refine wp_region_lit ?_
  refine st_mv (.string (str s)) ?_
  simp only [nf0, nf1, nf2, nf3, nf4]
  refine st_value (v := (.int .i64 ((s.length : Nat) : Int))) (by rfl) (run_len_text (.tmp 17) rfl Try.underlying9 rfl _) ?_
  simp only [nf0, nf1, nf2, nf3, nf4]
  refine st_mv (.int .i64 ((s.length : Nat) : Int)) ?_
  simp only [nf0, nf1, nf2, nf3, nf4]
  refine st_mv .nilIface ?_
  simp only [nf0, nf1, nf2, nf3, nf4]
  refine wpList_nil ?_
  show Code.wp _ _ _ _ _
  refine wp_ret ?_
  first | show bodyPost _ _ _ _ _ _ | (simp only [Exit.then, Exit.inBlock]; show bodyPost _ _ _ _ _ _)
  exact bodyPost_ret (results_tmp2 rfl _ _ _) rfl ⟨_, rfl, rfl, v3, B4, O4, n3, hat3.imp id (fun h k hk => by have := h k hk; omega), fr⟩
end
end Go.Proofs.Ytkebpmcgmmhifaa

/- The document's examples (law31's lives). -/
import Derived.Test.YtckmihjekgbcmaaDoorCodeHead
namespace Go.Proofs.YtckmihjekgbcmaaDoor
open Go.RowKit Go.WideShapes Go.ChangeShapes
set_option linter.unusedSimpArgs false
set_option linter.unusedVariables false

theorem k_run_call_7_2 {o : Oper} {a : Act} (x0 : Operand) (x1 : Operand) {ts : Array TypeId} (ho : o.op = .call { callee := .value (.func 7), args := #[x0, x1], argTypes := ts }) {v0 : Value} (h0 : a.eval x0 = v0) {v1 : Value} (h1 : a.eval x1 = v1) (W : World) : (execOp a.eval o).run Tryd.prog W = .ok (.enter 7 #[v0, v1]) W := by
  unfold execOp
  simp only [ho]
  subst h0 h1
  go_simp
theorem k_run_call_12_2 {o : Oper} {a : Act} (x0 : Operand) (x1 : Operand) {ts : Array TypeId} (ho : o.op = .call { callee := .value (.func 12), args := #[x0, x1], argTypes := ts }) {v0 : Value} (h0 : a.eval x0 = v0) {v1 : Value} (h1 : a.eval x1 = v1) (W : World) : (execOp a.eval o).run Tryd.prog W = .ok (.enter 12 #[v0, v1]) W := by
  unfold execOp
  simp only [ho]
  subst h0 h1
  go_simp
theorem k_run_call_28_1 {o : Oper} {a : Act} (x0 : Operand) {ts : Array TypeId} (ho : o.op = .call { callee := .value (.func 28), args := #[x0], argTypes := ts }) {v0 : Value} (h0 : a.eval x0 = v0) (W : World) : (execOp a.eval o).run Tryd.prog W = .ok (.enter 28 #[v0]) W := by
  unfold execOp
  simp only [ho]
  subst h0
  go_simp
theorem k_run_lit_22_5 {o : Oper} {a : Act} (x0 : Operand) (x1 : Operand) (x2 : Operand) (x3 : Operand) (x4 : Operand) (ho : o.op = .buildSlice 22 5 #[(0, x0), (1, x1), (2, x2), (3, x3), (4, x4)]) {m0 : Int} (h0 : a.eval x0 = (.int .u8 m0)) {m1 : Int} (h1 : a.eval x1 = (.int .u8 m1)) {m2 : Int} (h2 : a.eval x2 = (.int .u8 m2)) {m3 : Int} (h3 : a.eval x3 = (.int .u8 m3)) {m4 : Int} (h4 : a.eval x4 = (.int .u8 m4)) (W : World) : (execOp a.eval o).run Tryd.prog W = .ok (.value (.slice (some ⟨W.heap.size, 0, none⟩) 5 5)) (W.alloc (.cells #[(.int .u8 m0), (.int .u8 m1), (.int .u8 m2), (.int .u8 m3), (.int .u8 m4)] 5)) := by
  unfold execOp
  simp only [ho, List.map_toArray, List.map_cons, List.map_nil, h0, h1, h2, h3, h4]
  go_simp
theorem k_run_lit_67_5 {o : Oper} {a : Act} (x0 : Operand) (x1 : Operand) (x2 : Operand) (x3 : Operand) (x4 : Operand) (ho : o.op = .buildSlice 67 5 #[(0, x0), (1, x1), (2, x2), (3, x3), (4, x4)]) {m0 : Int} (h0 : a.eval x0 = (.int .i64 m0)) {m1 : Int} (h1 : a.eval x1 = (.int .i64 m1)) {m2 : Int} (h2 : a.eval x2 = (.int .i64 m2)) {m3 : Int} (h3 : a.eval x3 = (.int .i64 m3)) {m4 : Int} (h4 : a.eval x4 = (.int .i64 m4)) (W : World) : (execOp a.eval o).run Tryd.prog W = .ok (.value (.slice (some ⟨W.heap.size, 0, none⟩) 5 5)) (W.alloc (.cells #[(.int .i64 m0), (.int .i64 m1), (.int .i64 m2), (.int .i64 m3), (.int .i64 m4)] 3)) := by
  unfold execOp
  simp only [ho, List.map_toArray, List.map_cons, List.map_nil, h0, h1, h2, h3, h4]
  go_simp

attribute [local irreducible] Go.wpList Go.Code.wp
set_option maxRecDepth 100000 in
set_option maxHeartbeats 4000000 in
theorem codeLives_calls (w : World) (hT : Tab w) : Calls Tryd.prog 11 #[] w fun e w' => e = .returned (.bool true) ∧ Below w.heap.size w w' := by
  have bel : Below w.heap.size w w := Below.refl _ _
  go_enter Tryd.func11, Tryd.ntmps11
  refine wp_seq ?_
  refine wp_region_lit ?_
  refine st_mv (.bool false) ?_
  simp only [nf0, nf1, nf2, nf3, nf4]
  refine wpList_nil ?_
  show Code.wp _ _ _ _ _
  refine wp_seq ?_
  refine wp_region_facts2_lit (C := Abv w) 18 [.ex (fun v_ z_ => OwnR z_ w.heap.size 5 eByte v_ ([] ++ vb (zig 64))) (fun v_ z_ y_ hG h => h.same hG), .val (.string (str ([] ++ vb (zig 64)))), .val (.bool true), .val (.bool true), .ex (fun v_ z_ => OwnR z_ w.heap.size 5 eByte v_ ([] ++ vb (zig (-1)))) (fun v_ z_ y_ hG h => h.same hG), .val (.string (str ([] ++ vb (zig (-1))))), .val (.bool true), .val (.bool true), .val (.bool true), .ex (fun v_ z_ => OwnR z_ w.heap.size 3 (eInt .i64) v_ ([0, 1, 2, 3, 8] : List Int)) (fun v_ z_ y_ hG h => h.same hG), .val (.agg (setA (mk ([0, 1, 2, 3, 8] : List Int)))), .ex (fun v_ z_ => OwnR z_ w.heap.size 5 eByte v_ ([] ++ setB (mk ([0, 1, 2, 3, 8] : List Int)))) (fun v_ z_ y_ hG h => h.same hG), .val (.string (str ([] ++ setB (mk ([0, 1, 2, 3, 8] : List Int))))), .ex (fun v_ z_ => OwnR z_ w.heap.size 5 eByte v_ ([4, 0, 6, 6, 0] : List UInt8)) (fun v_ z_ y_ hG h => h.same hG), .val (.string (str ([4, 0, 6, 6, 0] : List UInt8))), .val (.bool true), .val (.bool true), .val (.bool true)] w.heap.size (by kernel_rfl) (by simp) (by kernel_rfl) (by kernel_rfl) (fun _ h => h.size) (Abv.start _) ?_
  simp only [List.take_succ_cons, List.take_zero, List.drop_succ_cons, List.drop_zero]
  refine fst2_ex (fun W hC hh => ok2_callex (by rfl) (k_run_call_7_2 (.const (.slice none 0 0)) (.const (.int .i64 64)) rfl rfl rfl W) ((putInt_calls none [] 0 64 (by decide) W (Reads.nil _ _) (by simp) (fun _ => rfl)).mono fun e W' ⟨v_, h1_, h2_, h3_⟩ => ⟨v_, h1_, h2_.lower hC.size, hC.step h3_, h3_⟩)) fun v3 => ?_
  simp only [nf0, nf1, nf2, nf3, nf4]
  refine fst2_val (fun W hC hh => ok2_value (v := (.string (str ([] ++ vb (zig 64))))) (by rfl) (run_convB (.tmp 1) rfl rfl (hh _ (.head _) (by show (0 : Nat) ∈ _; decide))) rfl hC (G0.refl _)) ?_
  simp only [nf0, nf1, nf2, nf3, nf4]
  refine fst2_val (fun W hC hh => ok2_value (v := (.bool true)) (by rfl) (run_eql_text_t (.tmp 2) (.const (.string ⟨#[128, 1]⟩)) (l := ([] ++ vb (zig 64))) (m := [128, 1]) rfl rfl rfl pl1 W) rfl hC (G0.refl _)) ?_
  simp only [nf0, nf1, nf2, nf3, nf4]
  refine fst2_val (fun W hC hh => ok2_value (v := (.bool true)) (by rfl) (by rfl) rfl hC (G0.refl _)) ?_
  simp only [nf0, nf1, nf2, nf3, nf4]
  refine fst2_ex (fun W hC hh => ok2_callex (by rfl) (k_run_call_7_2 (.const (.slice none 0 0)) (.const (.int .i64 (-1))) rfl rfl rfl W) ((putInt_calls none [] 0 (-1) (by decide) W (Reads.nil _ _) (by simp) (fun _ => rfl)).mono fun e W' ⟨v_, h1_, h2_, h3_⟩ => ⟨v_, h1_, h2_.lower hC.size, hC.step h3_, h3_⟩)) fun v6 => ?_
  simp only [nf0, nf1, nf2, nf3, nf4]
  refine fst2_val (fun W hC hh => ok2_value (v := (.string (str ([] ++ vb (zig (-1)))))) (by rfl) (run_convB (.tmp 5) rfl rfl (hh _ (.head _) (by show (4 : Nat) ∈ _; decide))) rfl hC (G0.refl _)) ?_
  simp only [nf0, nf1, nf2, nf3, nf4]
  refine fst2_val (fun W hC hh => ok2_value (v := (.bool true)) (by rfl) (run_eql_text_t (.tmp 6) (.const (.string ⟨#[1]⟩)) (l := ([] ++ vb (zig (-1)))) (m := [1]) rfl rfl rfl pl2 W) rfl hC (G0.refl _)) ?_
  simp only [nf0, nf1, nf2, nf3, nf4]
  refine fst2_val (fun W hC hh => ok2_value (v := (.bool true)) (by rfl) (by rfl) rfl hC (G0.refl _)) ?_
  simp only [nf0, nf1, nf2, nf3, nf4]
  refine fst2_val (fun W hC hh => ok2_value (v := (.bool true)) (by rfl) (by rfl) rfl hC (G0.refl _)) ?_
  simp only [nf0, nf1, nf2, nf3, nf4]
  refine fst2_ex (fun W hC hh => ok2_ex (by rfl) (k_run_lit_67_5 (.const (.int .i64 0)) (.const (.int .i64 1)) (.const (.int .i64 2)) (.const (.int .i64 3)) (.const (.int .i64 8)) rfl rfl rfl rfl rfl rfl W) (OwnR.built (xs := ([0, 1, 2, 3, 8] : List Int)) (Blk.new _ _ _ _ rfl) (by rfl) hC.size (by simp) rfl) (hC.step (bl_alloc (Below.refl _ _) _)) (bl_alloc (Below.refl _ _) _)) fun v7 => ?_
  simp only [nf0, nf1, nf2, nf3, nf4]
  refine fst2_val (fun W hC hh => ok2_call (by rfl) (k_run_call_28_1 (.tmp 10) rfl rfl W) ((make_own (hh _ (.head _) (by show (9 : Nat) ∈ _; decide)) (by simp)).mono fun e W' ⟨h1, h2⟩ => ⟨h1, hC.step h2, h2⟩)) ?_
  simp only [nf0, nf1, nf2, nf3, nf4]
  refine fst2_ex (fun W hC hh => ok2_callex (by rfl) (k_run_call_12_2 (.const (.slice none 0 0)) (.tmp 11) rfl rfl rfl W) ((putSet_calls none [] 0 (mk ([0, 1, 2, 3, 8] : List Int)) (mk_sm _) W (Reads.nil _ _) (by simp) (fun _ => rfl) (hT.same (bl_step bel hC))).mono fun e W' ⟨v_, h1_, h2_, h3_⟩ => ⟨v_, h1_, h2_.lower hC.size, hC.step h3_, h3_⟩)) fun v10 => ?_
  simp only [nf0, nf1, nf2, nf3, nf4]
  refine fst2_val (fun W hC hh => ok2_value (v := (.string (str ([] ++ setB (mk ([0, 1, 2, 3, 8] : List Int)))))) (by rfl) (run_convB (.tmp 12) rfl rfl (hh _ (.head _) (by show (11 : Nat) ∈ _; decide))) rfl hC (G0.refl _)) ?_
  simp only [nf0, nf1, nf2, nf3, nf4]
  refine fst2_ex (fun W hC hh => ok2_ex (by rfl) (k_run_lit_22_5 (.const (.int .u8 4)) (.const (.int .u8 0)) (.const (.int .u8 6)) (.const (.int .u8 6)) (.const (.int .u8 0)) rfl rfl rfl rfl rfl rfl W) (OwnR.built (xs := ([4, 0, 6, 6, 0] : List UInt8)) (Blk.new _ _ _ _ rfl) (by rfl) hC.size (by simp) rfl) (hC.step (bl_alloc (Below.refl _ _) _)) (bl_alloc (Below.refl _ _) _)) fun v11 => ?_
  simp only [nf0, nf1, nf2, nf3, nf4]
  refine fst2_val (fun W hC hh => ok2_value (v := (.string (str ([4, 0, 6, 6, 0] : List UInt8)))) (by rfl) (run_convB (.tmp 14) rfl rfl (hh _ (.head _) (by show (13 : Nat) ∈ _; decide))) rfl hC (G0.refl _)) ?_
  simp only [nf0, nf1, nf2, nf3, nf4]
  refine fst2_val (fun W hC hh => ok2_value (v := (.bool true)) (by rfl) (run_eql_text_t (.tmp 13) (.tmp 15) (l := ([] ++ setB (mk ([0, 1, 2, 3, 8] : List Int)))) (m := ([4, 0, 6, 6, 0] : List UInt8)) rfl rfl rfl pl3 W) rfl hC (G0.refl _)) ?_
  simp only [nf0, nf1, nf2, nf3, nf4]
  refine fst2_val (fun W hC hh => ok2_value (v := (.bool true)) (by rfl) (by rfl) rfl hC (G0.refl _)) ?_
  simp only [nf0, nf1, nf2, nf3, nf4]
  refine fst2_val (fun W hC hh => ok2_value (v := (.bool true)) (by rfl) (by rfl) rfl hC (G0.refl _)) ?_
  simp only [nf0, nf1, nf2, nf3, nf4]
  refine fst2_nil fun w12 hC hh hnd => ?_
  replace hC : Below w.heap.size w w12 := hC
  clear hh hnd
  replace bel := bl_step bel hC
  clear hC
  refine wpList_nil ?_
  show Code.wp _ _ _ _ _
  refine wp_ret ?_
  first | show bodyPost _ _ _ _ _ _ | (simp only [Exit.then, Exit.inBlock]; show bodyPost _ _ _ _ _ _)
  exact bodyPost_ret (results_tmp rfl _ _ _) rfl ⟨rfl, bel⟩
end Go.Proofs.YtckmihjekgbcmaaDoor

/- Tokens, rows of such. -/
import Derived.Test.YtkebpmcgmmhifaaAggs
namespace Go.Proofs.Ytkebpmcgmmhifaa
open Go.RowKit Go.WideShapes Go.ChangeShapes
set_option linter.unusedSimpArgs false
set_option linter.unusedVariables false

/-! ### api.Place -/
abbrev TPl := Int × Int × Int
def ePl : Enc TPl := ⟨3, fun p => [.int .i64 p.1, .int .i64 p.2.1, .int .i64 p.2.2], fun _ => rfl, fun _ u hu => by simp at hu; rcases hu with rfl | rfl | rfl <;> rfl⟩
theorem aggPl : AggT Try.prog 26 3 := aggT Try.underlying26 rfl (by kernel_rfl)
def plAt (l : List TPl) (i : Nat) : TPl := l.getD i (0, 0, 0)
theorem plAt_get {l : List TPl} {i : Nat} (h : i < l.length) : l[i]? = some (plAt l i) := by unfold plAt; simp [h]
theorem plAt_mem {l : List TPl} {i : Nat} (h : i < l.length) : plAt l i ∈ l := by unfold plAt; simp [h]
def okPl (p : TPl) : Prop := (-9223372036854775808 ≤ p.1 ∧ p.1 ≤ 9223372036854775807) ∧ (-9223372036854775808 ≤ p.2.1 ∧ p.2.1 ≤ 9223372036854775807) ∧ (-9223372036854775808 ≤ p.2.2 ∧ p.2.2 ≤ 9223372036854775807)
theorem undPl : Try.prog.underlying 26 = some (.struct (Try.prog.fieldsOf 26)) := by rw [Program.fieldsOf, Try.underlying26]
theorem eqIPl {d : Nat} (p q : TPl) (W : World) : (Op.equalIn (d + 4) 26 (.agg (ePl.enc p).toArray) (.agg (ePl.enc q).toArray)).run Try.prog W = .ok (decide (p = q)) W := by
    refine eqI_struct undPl (by kernel_rfl) (fs := [("Off", 3, 0), ("Line", 3, 1), ("Col", 3, 2)]) (by kernel_rfl) ?_
    obtain ⟨a0, a1, a2⟩ := p
    obtain ⟨b0, b1, b2⟩ := q
    rw [eqL_one (v := .int .i64 a0) (u := .int .i64 b0) (b := decide (a0 = b0)) (by decide) (by kernel_rfl) (by rfl) (by rfl) (eqI_int Try.underlying3 _ _)]
    rw [eqL_one (v := .int .i64 a1) (u := .int .i64 b1) (b := decide (a1 = b1)) (by decide) (by kernel_rfl) (by rfl) (by rfl) (eqI_int Try.underlying3 _ _)]
    rw [eqL_one (v := .int .i64 a2) (u := .int .i64 b2) (b := decide (a2 = b2)) (by decide) (by kernel_rfl) (by rfl) (by rfl) (eqI_int Try.underlying3 _ _)]
    rw [eqL_nil]
    by_cases h0 : a0 = b0
    rotate_left
    · rw [if_neg (by simpa using h0)]; congr 1; rw [eq_comm, decide_eq_false_iff_not]; intro e; simp only [Prod.mk.injEq] at e; exact h0 (by first | exact e | exact e.1)
    rw [if_pos (by simpa using h0)]
    by_cases h1 : a1 = b1
    rotate_left
    · rw [if_neg (by simpa using h1)]; congr 1; rw [eq_comm, decide_eq_false_iff_not]; intro e; simp only [Prod.mk.injEq] at e; exact h1 (by first | exact e | exact e.2.1)
    rw [if_pos (by simpa using h1)]
    by_cases h2 : a2 = b2
    rotate_left
    · rw [if_neg (by simpa using h2)]; congr 1; rw [eq_comm, decide_eq_false_iff_not]; intro e; simp only [Prod.mk.injEq] at e; exact h2 (by first | exact e | exact e.2.2)
    rw [if_pos (by simpa using h2)]
    subst h0 h1 h2; simp
theorem eqPl : EqA Try.prog 26 ePl (fun _ => True) where
  guard := by kernel_rfl
  eq := fun d p q W _ _ => eqIPl (d := d + 1) p q W
theorem pl_snoc {l : List TPl} {k : Nat} (h : k < l.length) : l.take (k + 1) = l.take k ++ [plAt l k] := by rw [List.take_add_one, plAt_get h]; rfl
theorem pl_ext {l m : List TPl} (hl : l.length = m.length) (h : ∀ k, k < l.length → plAt l k = plAt m k) : l = m := by
  apply List.ext_getElem hl
  intro i h1 h2
  have := h i h1
  have e1 := plAt_get h1
  have e2 := plAt_get h2
  rw [List.getElem?_eq_getElem h1] at e1
  rw [List.getElem?_eq_getElem h2] at e2
  injection e1 with e1; injection e2 with e2
  rw [e1, e2, this]
def rPl : Nat → List Value → Prop
  | 0, cs => ∃ n, cs = [.int .i64 n] ∧ (Lit.int .i64 n).wf = true
  | 1, cs => ∃ n, cs = [.int .i64 n] ∧ (Lit.int .i64 n).wf = true
  | 2, cs => ∃ n, cs = [.int .i64 n] ∧ (Lit.int .i64 n).wf = true
  | _, _ => True
theorem flatPl : Flat Try.prog 26 (fun cs => ∃ p, cs = ePl.enc p ∧ okPl p) := by
  intro H enc w base spare held fuel cs x hx
  have h3 := flat_struct (P := Try.prog) (t := 26) rPl Try.underlying26 (by
    intro i f hf
    match i, hf with
    | 0, hf => simp at hf; subst hf; show Flat Try.prog 3 (fun cs => ∃ n, cs = [.int .i64 n] ∧ (Lit.int .i64 n).wf = true); exact flat_int Try.underlying3
    | 1, hf => simp at hf; subst hf; show Flat Try.prog 3 (fun cs => ∃ n, cs = [.int .i64 n] ∧ (Lit.int .i64 n).wf = true); exact flat_int Try.underlying3
    | 2, hf => simp at hf; subst hf; show Flat Try.prog 3 (fun cs => ∃ n, cs = [.int .i64 n] ∧ (Lit.int .i64 n).wf = true); exact flat_int Try.underlying3
    | k + 3, hf => simp at hf) hx
  obtain ⟨hl, hi⟩ := h3
  have hc : Try.prog.cellsOf 26 = 3 := by kernel_rfl
  rw [hc] at hl
  have hu0 : Try.prog.cellsOf 3 = 1 := by kernel_rfl
  obtain ⟨x0, h0, w0⟩ := hi 0 _ rfl
  change List.take (Try.prog.cellsOf 3) (List.drop 0 cs) = _ at h0
  rw [hu0] at h0
  have hu1 : Try.prog.cellsOf 3 = 1 := by kernel_rfl
  obtain ⟨x1, h1, w1⟩ := hi 1 _ rfl
  change List.take (Try.prog.cellsOf 3) (List.drop 1 cs) = _ at h1
  rw [hu1] at h1
  have hu2 : Try.prog.cellsOf 3 = 1 := by kernel_rfl
  obtain ⟨x2, h2, w2⟩ := hi 2 _ rfl
  change List.take (Try.prog.cellsOf 3) (List.drop 2 cs) = _ at h2
  rw [hu2] at h2
  match cs, hl with
  | [c0, c1, c2], _ =>
    simp only [List.drop_succ_cons, List.drop_zero, List.take_succ_cons, List.take_zero, List.cons.injEq, and_true] at h0
    subst h0
    simp only [List.drop_succ_cons, List.drop_zero, List.take_succ_cons, List.take_zero, List.cons.injEq, and_true] at h1
    subst h1
    simp only [List.drop_succ_cons, List.drop_zero, List.take_succ_cons, List.take_zero, List.cons.injEq, and_true] at h2
    subst h2
    exact ⟨(x0, x1, x2), rfl, I64_of' w0, I64_of' w1, I64_of' w2⟩
/-! ### api.Token -/
abbrev TTok := Int × List UInt8 × TPl
def eTok : Enc TTok := ⟨5, fun p => [.int .i64 p.1, .string (str p.2.1), .int .i64 p.2.2.1, .int .i64 p.2.2.2.1, .int .i64 p.2.2.2.2], fun _ => rfl, fun _ u hu => by simp at hu; rcases hu with rfl | rfl | rfl | rfl | rfl <;> rfl⟩
theorem slTok : SlT Try.prog 23 33 eTok 48 := slT_of Try.underlying23 (z := .agg #[.int .i64 0, .string ⟨#[]⟩, .int .i64 0, .int .i64 0, .int .i64 0]) (by kernel_rfl) rfl (by decide) (by omega)
theorem aggTok : AggT Try.prog 33 5 := aggT Try.underlying33 rfl (by kernel_rfl)
def tokAt (l : List TTok) (i : Nat) : TTok := l.getD i (0, [], (0, 0, 0))
theorem tokAt_get {l : List TTok} {i : Nat} (h : i < l.length) : l[i]? = some (tokAt l i) := by unfold tokAt; simp [h]
theorem tokAt_mem {l : List TTok} {i : Nat} (h : i < l.length) : tokAt l i ∈ l := by unfold tokAt; simp [h]
def okTok (p : TTok) : Prop := (-9223372036854775808 ≤ p.1 ∧ p.1 ≤ 9223372036854775807) ∧ p.2.1.length ≤ 9223372036854775807 ∧ okPl p.2.2
theorem undTok : Try.prog.underlying 33 = some (.struct (Try.prog.fieldsOf 33)) := by rw [Program.fieldsOf, Try.underlying33]
theorem eqITok {d : Nat} (p q : TTok) (W : World) : (Op.equalIn (d + 5) 33 (.agg (eTok.enc p).toArray) (.agg (eTok.enc q).toArray)).run Try.prog W = .ok (decide (p = q)) W := by
    refine eqI_struct undTok (by kernel_rfl) (fs := [("Kind", 3, 0), ("Text", 9, 1), ("At", 26, 2)]) (by kernel_rfl) ?_
    obtain ⟨a0, a1, a2⟩ := p
    obtain ⟨b0, b1, b2⟩ := q
    rw [eqL_one (v := .int .i64 a0) (u := .int .i64 b0) (b := decide (a0 = b0)) (by decide) (by kernel_rfl) (by rfl) (by rfl) (eqI_int Try.underlying3 _ _)]
    rw [eqL_one (v := .string (str a1)) (u := .string (str b1)) (b := decide (a1 = b1)) (by decide) (by kernel_rfl) (by rfl) (by rfl) (eqI_str Try.underlying9 _ _)]
    have ea2 : ((eTok.enc (a0, a1, a2)).toArray).extract 2 (2 + 3) = (ePl.enc a2).toArray := by simp [eTok, ePl]
    have eb2 : ((eTok.enc (b0, b1, b2)).toArray).extract 2 (2 + 3) = (ePl.enc b2).toArray := by simp [eTok, ePl]
    rw [eqL_sub (s := 3) (b := decide (a2 = b2)) (by decide) (by kernel_rfl) (by kernel_rfl) (by rw [ea2, eb2]; exact eqIPl a2 b2 W)]
    rw [eqL_nil]
    by_cases h0 : a0 = b0
    rotate_left
    · rw [if_neg (by simpa using h0)]; congr 1; rw [eq_comm, decide_eq_false_iff_not]; intro e; simp only [Prod.mk.injEq] at e; exact h0 (by first | exact e | exact e.1)
    rw [if_pos (by simpa using h0)]
    by_cases h1 : a1 = b1
    rotate_left
    · rw [if_neg (by simpa using h1)]; congr 1; rw [eq_comm, decide_eq_false_iff_not]; intro e; simp only [Prod.mk.injEq] at e; exact h1 (by first | exact e | exact e.2.1)
    rw [if_pos (by simpa using h1)]
    by_cases h2 : a2 = b2
    rotate_left
    · rw [if_neg (by simpa using h2)]; congr 1; rw [eq_comm, decide_eq_false_iff_not]; intro e; simp only [Prod.mk.injEq] at e; exact h2 (by first | exact e | exact e.2.2)
    rw [if_pos (by simpa using h2)]
    subst h0 h1 h2; simp
theorem eqTok : EqA Try.prog 33 eTok (fun _ => True) where
  guard := by kernel_rfl
  eq := fun d p q W _ _ => eqITok (d := d + 0) p q W
theorem tok_snoc {l : List TTok} {k : Nat} (h : k < l.length) : l.take (k + 1) = l.take k ++ [tokAt l k] := by rw [List.take_add_one, tokAt_get h]; rfl
theorem tok_ext {l m : List TTok} (hl : l.length = m.length) (h : ∀ k, k < l.length → tokAt l k = tokAt m k) : l = m := by
  apply List.ext_getElem hl
  intro i h1 h2
  have := h i h1
  have e1 := tokAt_get h1
  have e2 := tokAt_get h2
  rw [List.getElem?_eq_getElem h1] at e1
  rw [List.getElem?_eq_getElem h2] at e2
  injection e1 with e1; injection e2 with e2
  rw [e1, e2, this]
def rTok : Nat → List Value → Prop
  | 0, cs => ∃ n, cs = [.int .i64 n] ∧ (Lit.int .i64 n).wf = true
  | 1, cs => ∃ s : ByteArray, cs = [.string s] ∧ s.size ≤ maxLen
  | 2, cs => ∃ p, cs = ePl.enc p ∧ okPl p
  | _, _ => True
theorem flatTok : Flat Try.prog 33 (fun cs => ∃ p, cs = eTok.enc p ∧ okTok p) := by
  intro H enc w base spare held fuel cs x hx
  have h3 := flat_struct (P := Try.prog) (t := 33) rTok Try.underlying33 (by
    intro i f hf
    match i, hf with
    | 0, hf => simp at hf; subst hf; show Flat Try.prog 3 (fun cs => ∃ n, cs = [.int .i64 n] ∧ (Lit.int .i64 n).wf = true); exact flat_int Try.underlying3
    | 1, hf => simp at hf; subst hf; show Flat Try.prog 9 (fun cs => ∃ s : ByteArray, cs = [.string s] ∧ s.size ≤ maxLen); exact flat_string Try.underlying9
    | 2, hf => simp at hf; subst hf; show Flat Try.prog 26 (fun cs => ∃ p, cs = ePl.enc p ∧ okPl p); exact flatPl
    | k + 3, hf => simp at hf) hx
  obtain ⟨hl, hi⟩ := h3
  have hc : Try.prog.cellsOf 33 = 5 := by kernel_rfl
  rw [hc] at hl
  have hu0 : Try.prog.cellsOf 3 = 1 := by kernel_rfl
  obtain ⟨x0, h0, w0⟩ := hi 0 _ rfl
  change List.take (Try.prog.cellsOf 3) (List.drop 0 cs) = _ at h0
  rw [hu0] at h0
  have hu1 : Try.prog.cellsOf 9 = 1 := by kernel_rfl
  obtain ⟨x1, h1, w1⟩ := hi 1 _ rfl
  change List.take (Try.prog.cellsOf 9) (List.drop 1 cs) = _ at h1
  rw [hu1] at h1
  have hu2 : Try.prog.cellsOf 26 = 3 := by kernel_rfl
  obtain ⟨x2, h2, w2⟩ := hi 2 _ rfl
  change List.take (Try.prog.cellsOf 26) (List.drop 2 cs) = _ at h2
  rw [hu2] at h2
  match cs, hl with
  | [c0, c1, c2, c3, c4], _ =>
    simp only [List.drop_succ_cons, List.drop_zero, List.take_succ_cons, List.take_zero, List.cons.injEq, and_true] at h0
    subst h0
    simp only [List.drop_succ_cons, List.drop_zero, List.take_succ_cons, List.take_zero, List.cons.injEq, and_true] at h1
    subst h1
    simp only [ePl, List.drop_succ_cons, List.drop_zero, List.take_succ_cons, List.take_zero, List.cons.injEq, and_true] at h2
    obtain ⟨e2_0, e2_1, e2_2⟩ := h2
    subst e2_0 e2_1 e2_2
    exact ⟨(x0, x1.data.toList, x2), by show _ = ([.int .i64 ((x0, x1.data.toList, x2) : TTok).1, .string (str ((x0, x1.data.toList, x2) : TTok).2.1), .int .i64 ((x0, x1.data.toList, x2) : TTok).2.2.1, .int .i64 ((x0, x1.data.toList, x2) : TTok).2.2.2.1, .int .i64 ((x0, x1.data.toList, x2) : TTok).2.2.2.2] : List Value); simp only [str_of], I64_of' w0, (by have h := w1; unfold maxLen at h; simpa using h), w2⟩
theorem openToks {H : Type} {enc : TypeId × Value → H} {w : World} {r : Reach} {b0 base : Nat} {spare : Nat → Bool} {held : Bool} {v : Value} {d : DataW H} {ps : List MemPlace}
    (hval : Value.okWide Try.prog w r b0 23 v) (h : DataW.Trod enc Try.prog w base spare held 23 v d ps) :
    ∃ (A : Option Addr) (xs : List TTok) (cap : Nat), v = .slice A xs.length cap ∧ xs.length ≤ cap ∧ (A = none → cap = 0) ∧ (∀ x ∈ xs, okTok x) ∧ Reads w A (eTok.all xs) := by
  obtain ⟨A, len, cap, rfl, hs⟩ := open_slice_of Try.underlying23 flatTok hval h
  obtain ⟨xs, rfl, ho, hr⟩ := slice_list eTok _ (by kernel_rfl) (by decide) hs
  exact ⟨A, xs, cap, rfl, hs.1, hs.2.2.1, ho, hr⟩
end Go.Proofs.Ytkebpmcgmmhifaa

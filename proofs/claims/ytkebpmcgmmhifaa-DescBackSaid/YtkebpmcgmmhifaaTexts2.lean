/- Texts cut at both ends; a struct within a struct's variable. -/
import Derived.Test.YtkebpmcgmmhifaaChars2
import Derived.Test.YtkebpmcgmmhifaaAggs
namespace Go.Proofs.Ytkebpmcgmmhifaa
open Go.RowKit Go.WideShapes Go.ChangeShapes

theorem str_extract (l : List UInt8) (p q : Nat) : (str l).extract p q = str ((l.take q).drop p) := by
  apply ByteArray.ext
  rw [ByteArray.data_extract]
  apply Array.ext'
  rw [Array.toList_extract]
  simp only [str, List.extract_eq_take_drop]
  rw [List.drop_take]
theorem bounds_text (P : Program) (W : World) (n p q : Nat) (hpq : p ≤ q) (hq : q ≤ n) (lo hi : Option Value) (hlo : lo = some (.int .i64 (p : Int)) ∨ (lo = none ∧ p = 0)) (hhi : hi = some (.int .i64 (q : Int)) ∨ (hi = none ∧ q = n)) :
    (Instr.sliceBounds false n n lo hi none).run P W = .ok (p, q, n) W := by
  rcases hlo with rfl | ⟨rfl, rfl⟩ <;> rcases hhi with rfl | ⟨rfl, rfl⟩ <;> simp [Instr.sliceBounds, Instr.sliceBound, asIntOf, hpq, hq]
section
variable {P : Program} {o : Oper} {a : Act} (x y z : Operand) {t : TypeId}
theorem run_sub_text (ho : o.op = .slice t x (some y) (some z) none) (ht : P.underlying t = some .string) {l : List UInt8} {p q : Nat} {I J : Int} (hx : a.eval x = .string (str l)) (hy : a.eval y = .int .i64 I) (hz : a.eval z = .int .i64 J) (hI : I = (p : Int)) (hJ : J = (q : Int)) (hpq : p ≤ q) (hq : q ≤ l.length) (W : World) :
    (execOp a.eval o).run P W = .ok (.value (.string (str ((l.take q).drop p)))) W := by
  subst hI hJ
  have r1 := run_sliceAt_string (P := P) W t (.string (str l)) (some (.int .i64 (p : Int))) (some (.int .i64 (q : Int))) none ht
  have hb := bounds_text P W l.length p q hpq hq _ _ (.inl rfl) (.inl rfl)
  unfold execOp; simp only [ho]; generalize a.eval = ρ at *
  simp only [Option.map_none, Option.map_some, hx, hy, hz, Sem.run_bind, r1, Instr.slice, run_underlying ht, Result.andThen_ok, str_size, hb]
  simp [hb, str_extract]
theorem run_from_text (ho : o.op = .slice t x (some y) none none) (ht : P.underlying t = some .string) {l : List UInt8} {p : Nat} {I : Int} (hx : a.eval x = .string (str l)) (hy : a.eval y = .int .i64 I) (hI : I = (p : Int)) (hp : p ≤ l.length) (W : World) :
    (execOp a.eval o).run P W = .ok (.value (.string (str (l.drop p)))) W := by
  subst hI
  have r1 := run_sliceAt_string (P := P) W t (.string (str l)) (some (.int .i64 (p : Int))) none none ht
  have hb := bounds_text P W l.length p l.length hp (Nat.le_refl _) _ _ (.inl rfl) (.inr ⟨rfl, rfl⟩)
  unfold execOp; simp only [ho]; generalize a.eval = ρ at *
  simp only [Option.map_none, Option.map_some, hx, hy, Sem.run_bind, r1, Instr.slice, run_underlying ht, Result.andThen_ok, str_size, hb]
  simp [hb, str_extract]
theorem run_to_text (ho : o.op = .slice t x none (some z) none) (ht : P.underlying t = some .string) {l : List UInt8} {q : Nat} {J : Int} (hx : a.eval x = .string (str l)) (hz : a.eval z = .int .i64 J) (hJ : J = (q : Int)) (hq : q ≤ l.length) (W : World) :
    (execOp a.eval o).run P W = .ok (.value (.string (str (l.take q)))) W := by
  subst hJ
  have r1 := run_sliceAt_string (P := P) W t (.string (str l)) none (some (.int .i64 (q : Int))) none ht
  have hb := bounds_text P W l.length 0 q (Nat.zero_le _) hq _ _ (.inr ⟨rfl, rfl⟩) (.inl rfl)
  unfold execOp; simp only [ho]; generalize a.eval = ρ at *
  simp only [Option.map_none, Option.map_some, hx, hz, Sem.run_bind, r1, Instr.slice, run_underlying ht, Result.andThen_ok, str_size, hb]
  simp [hb, str_extract]
/-- A struct that lies within a variable's. -/
theorem run_loadP {W : World} (ho : o.op = .load t x) {vs : List Value} (T : AggT P t vs.length) {g off : Nat} (hx : a.eval x = .pointer (some ⟨g, off, none⟩)) {cs : Array Value} {t' : TypeId} (hB : Blk W g cs t') (hv : (cs.toList.drop off).take vs.length = vs) :
    (execOp a.eval o).run P W = .ok (.value (.agg vs.toArray)) W := by
  obtain ⟨d, z, h1, h2, h3, h4⟩ := T
  have hc : W.rangeAt g off vs := fun j v hj => by
    rw [← hv] at hj
    rw [List.getElem?_take] at hj
    split at hj
    · rw [List.getElem?_drop] at hj
      rw [hB.cell]; simpa using hj
    · cases hj
  have hl := run_loadVar_mid (P := P) W g off t vs d hc h1 h2 (by rw [h3, Option.map_some, h4])
  unfold execOp
  simp only [ho, hx, Instr.loadAt, Instr.sureAddr, Sem.run_bind, Sem.run_pure, Result.andThen_ok, hl]
end
/-- Results that lie in a variable: a struct. -/
theorem loadVar_agg {P : Program} {ty t : TypeId} {w : World} {g : Nat} {cs : Array Value} (T : AggT P ty cs.size) (hB : Blk w g cs t) : (loadVar ty ⟨g, 0, none⟩).run P w = .ok (.agg cs) w := by
  obtain ⟨d, z, h1, h2, h3, h4⟩ := T
  have hc : w.rangeAt g 0 cs.toList := fun j v hv => by rw [Nat.zero_add, hB.cell]; simpa using hv
  have hl := run_loadVar_mid (P := P) w g 0 ty cs.toList d hc h1 h2 (by rw [h3, Option.map_some, h4]; simp)
  simpa using hl
theorem results_agg1 {P : Program} {fn : Func} {p : Tmp} {ty t : TypeId} (h : fn.results = #[.cell p ty]) {tmps : Array Value} {w : World} {g : Nat} {cs : Array Value} (T : AggT P ty cs.size) (hp : tmps.getD p undef = .pointer (some ⟨g, 0, none⟩)) (hB : Blk w g cs t) : (results fn tmps).run P w = .ok (.agg cs) w := by
  have hp' : tmps[p]?.getD undef = .pointer (some ⟨g, 0, none⟩) := by simpa using hp
  simp only [results, h]
  simp [Sem.run_bind, hp', asAddr, loadVar_agg T hB]
theorem results_agg1t {P : Program} {fn : Func} {p u : Tmp} {ty t : TypeId} (h : fn.results = #[.cell p ty, .tmp u]) {tmps : Array Value} {w : World} {g : Nat} {cs : Array Value} (T : AggT P ty cs.size) (hp : tmps.getD p undef = .pointer (some ⟨g, 0, none⟩)) (hB : Blk w g cs t) : (results fn tmps).run P w = .ok (.tuple #[.agg cs, tmps.getD u undef]) w := by
  have hp' : tmps[p]?.getD undef = .pointer (some ⟨g, 0, none⟩) := by simpa using hp
  simp only [results, h]
  simp [Sem.run_bind, hp', asAddr, loadVar_agg T hB]
theorem results_t2agg {P : Program} {fn : Func} {p u v : Tmp} {ty t : TypeId} (h : fn.results = #[.tmp u, .tmp v, .cell p ty]) {tmps : Array Value} {w : World} {g : Nat} {cs : Array Value} (T : AggT P ty cs.size) (hp : tmps.getD p undef = .pointer (some ⟨g, 0, none⟩)) (hB : Blk w g cs t) : (results fn tmps).run P w = .ok (.tuple #[tmps.getD u undef, tmps.getD v undef, .agg cs]) w := by
  have hp' : tmps[p]?.getD undef = .pointer (some ⟨g, 0, none⟩) := by simpa using hp
  simp only [results, h]
  simp [Sem.run_bind, hp', asAddr, loadVar_agg T hB]
end Go.Proofs.Ytkebpmcgmmhifaa

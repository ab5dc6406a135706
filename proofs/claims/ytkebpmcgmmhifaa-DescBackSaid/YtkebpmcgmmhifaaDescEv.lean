/- Tokens of given texts, reckoned out; fields of a row's structs; a place of any number. -/
import Derived.Test.YtkebpmcgmmhifaaDescAllW
namespace Go.Proofs.Ytkebpmcgmmhifaa
open Go.RowKit Go.WideShapes Go.ChangeShapes

def extF (P : Int → Bool) (l : List UInt8) : Nat → Nat → Nat
  | 0, i => i
  | d + 1, i => if i < l.length then if P (chr l i) = true then extF P l d (i + 1) else i else i
theorem ext_F {P : Int → Bool} {l : List UInt8} : ∀ {d i : Nat}, l.length ≤ i + d → ext P l i = extF P l d i
  | 0, i, h => ext_end (by omega)
  | d + 1, i, h => by
    rw [ext, extF]
    split
    · split
      · exact ext_F (by omega)
      · rfl
    · rfl
def wendF (l : List UInt8) (i : Nat) : Nat := if kd (chr l i) = 1 then extF inW l l.length i else if kd (chr l i) = 2 then extF inL l l.length i else i + 1
theorem wend_F (l : List UInt8) (i : Nat) : wend l i = wendF l i := by unfold wend wendF; rw [ext_F (d := l.length) (by omega), ext_F (d := l.length) (by omega)]
def tokF (l : List UInt8) (i : Nat) : TTok := (tkind (kd (chr l i)), (l.take (wendF l i)).drop i, plc l i)
def terrF (l : List UInt8) (i : Nat) : Int := if kd (chr l i) = 1 then (if 32 < wendF l i - i then 2 else 0) else if kd (chr l i) = 2 ∨ kd (chr l i) = 5 then 0 else 20
def toksF (l : List UInt8) : Nat → Nat → List TTok × Int × Nat
  | 0, _ => ([], 0, 0)
  | f + 1, i => if i < l.length then
      if kd (chr l i) = 6 then toksF l f (i + 1)
      else if kd (chr l i) = 7 then toksF l f (extF noNL l l.length i)
      else if terrF l i ≠ 0 then ([], terrF l i, i)
      else (tokF l i :: (toksF l f (wendF l i)).1, (toksF l f (wendF l i)).2)
    else ([], 0, 0)
theorem toks_F {l : List UInt8} : ∀ {f i : Nat}, toks l f i = toksF l f i
  | 0, i => rfl
  | f + 1, i => by
    rw [toks, toksF, toks_F (f := f), toks_F (f := f), toks_F (f := f), wend_F, ext_F (d := l.length) (by omega)]
    unfold terr terrF tokI tokF
    rw [wend_F]
theorem desA_F {l : List UInt8} (h : l.length ≤ 65536) : desA l = toksF l (l.length + 1) 0 := by unfold desA; rw [if_neg (by omega)]; exact toks_F
def clampN (off : Int) (n : Nat) : Nat := (max 0 (min off (n : Int))).toNat
theorem clampN_in {i n : Nat} (h : i ≤ n) : clampN (i : Int) n = i := by unfold clampN; omega
/-! ### fields of a row's elements -/
theorem Reads.cellE {α : Type} {E : Enc α} {w : World} {b off i j : Nat} {xs : List α} {u : α} {v : Value} (h : Reads w (some ⟨b, off, none⟩) (E.all xs)) (hu : xs[i]? = some u) (hv : (E.enc u)[j]? = some v) : w.cell? ⟨b, off + i * E.sz + j, none⟩ = some v := by
  have hj : j < E.sz := by rw [← E.len u]; exact (List.getElem?_eq_some_iff.1 hv).1
  obtain ⟨b', off', e, hc⟩ := h (i * E.sz + j) v (by rw [E.all_get xs i j u hu hj]; exact hv)
  injection e with e; injection e with e1 e2; subst e1 e2
  rw [Nat.add_assoc]
  exact hc
section
variable {P : Program} {o : Oper} {a : Act} (x y : Operand) {t : TypeId} {W : World}
theorem run_loadC (ho : o.op = .load t x) (T : One P t) {b k : Nat} (hx : a.eval x = .pointer (some ⟨b, k, none⟩)) {v : Value} (hc : W.cell? ⟨b, k, none⟩ = some v) : (execOp a.eval o).run P W = .ok (.value v) W := by
  obtain ⟨d, z, h1, h2, h3, h4⟩ := T
  exact run_load1 x ho h1 (by cases d <;> first | rfl | cases h2) ⟨z, h3, h4⟩ hx hc
theorem run_loadES {α : Type} {E : Enc α} (ho : o.op = .load t x) {vs : List Value} (T : AggT P t vs.length) {b off i j : Nat} {xs : List α} (hx : a.eval x = .pointer (some ⟨b, off + i * E.sz + j, none⟩)) (hr : Reads W (some ⟨b, off, none⟩) (E.all xs)) {u : α} (hu : xs[i]? = some u) (hv : ((E.enc u).drop j).take vs.length = vs) :
    (execOp a.eval o).run P W = .ok (.value (.agg vs.toArray)) W := by
  obtain ⟨d, z, h1, h2, h3, h4⟩ := T
  have hc : W.rangeAt b (off + i * E.sz + j) vs := fun q v hq => by
    rw [← hv, List.getElem?_take] at hq
    split at hq
    · rw [List.getElem?_drop] at hq
      have := hr.cellE hu hq
      rw [← Nat.add_assoc] at this
      exact this
    · cases hq
  have hl := run_loadVar_mid (P := P) W b (off + i * E.sz + j) t vs d hc h1 h2 (by rw [h3, Option.map_some, h4])
  unfold execOp
  simp only [ho, hx, Instr.loadAt, Instr.sureAddr, Sem.run_bind, Sem.run_pure, Result.andThen_ok, hl]
end
end Go.Proofs.Ytkebpmcgmmhifaa

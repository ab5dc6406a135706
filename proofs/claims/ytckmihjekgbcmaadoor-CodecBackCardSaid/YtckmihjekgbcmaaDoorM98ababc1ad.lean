/- Lemmas that the chapter's laws rest on: CodeSetRd, Aggs, Evts, CodeFives, Range, CodeRefFives, CodeSames, Facts6, OwnRd, CodeAdds. -/
import Derived.Test.YtckmihjekgbcmaaDoorMcd6d615d65
import Derived.Deep.MidRow
import Derived.Laws.StructEq
import Derived.RangeFuncNested
import Derived.RangeFuncCalls
import Derived.RangeFuncLeaves
import Derived.Shelf.Abstract
/- Reading a set, as GetSet does it: the number that stands at a place in three parts; one row; where reading fails. -/
namespace Go.Proofs.YtckmihjekgbcmaaDoor
open Go.RowKit Go.WideShapes Go.ChangeShapes

def nv (l : List UInt8) (p : Nat) : Int := match getAt l p with | some (u, _) => zag u | none => 0
def ne (l : List UInt8) (p : Nat) : Nat := match getAt l p with | some (_, m) => p + m | none => 0
def nk (l : List UInt8) (p : Nat) : Bool := (getAt l p).isSome
theorem gres_tot (l : List UInt8) (p : Nat) : gres p (getAt l p) = .tuple #[.int .i64 (nv l p), .int .i64 ((ne l p : Nat) : Int), .bool (nk l p)] := by
  unfold nv ne nk
  cases getAt l p with
  | none => rfl
  | some x => rfl
theorem getInt_tot (A : Option Addr) (l : List UInt8) (cap p : Nat) (hcap : l.length ≤ cap) (hl : l.length ≤ 10000000) (hp : p ≤ l.length) (w : World) (hr : Reads w A (eByte.all l)) : Calls Tryd.prog 8 #[.slice A l.length cap, .int .i64 (p : Int)] w fun e w' => e = .returned (.tuple #[.int .i64 (nv l p), .int .i64 ((ne l p : Nat) : Int), .bool (nk l p)]) ∧ Below w.heap.size w w' := by
  rw [← gres_tot]; exact getInt_in A l cap p hcap hl hp w hr
theorem ne_le (l : List UInt8) (p : Nat) : ne l p ≤ l.length := by
  unfold ne
  cases h : getAt l p with
  | none => exact Nat.zero_le _
  | some x => exact (getAt_len h).2.2
theorem gi_lt : ∀ {cs : List UInt8} {i u r k : Nat}, u < 2 ^ (7 * i) → i ≤ 9 → cs.length + i ≤ 10 → gi cs i u = some (r, k) → r < 2 ^ 64
  | [], i, u, r, k, _, _, _, h => by simp [gi] at h
  | c :: cs, i, u, r, k, hu, hi, hl, h => by
    rw [gi] at h
    rw [List.length_cons] at hl
    have hs := sum_lt (c := c) hu
    split at h
    · by_cases h9 : i = 9
      · cases cs with
        | nil => simp [gi] at h
        | cons d ds => rw [List.length_cons] at hl; omega
      · exact gi_lt hs (by omega) (by omega) h
    · split at h
      · cases h
      · rename_i h4 h5
        injection h with h; injection h with h1 h2
        subst h1
        have hc : c.toNat < 128 := by omega
        have hm : c.toNat % 128 = c.toNat := Nat.mod_eq_of_lt hc
        rw [hm] at hs
        by_cases h9 : i = 9
        · subst h9
          have : c.toNat ≤ 1 := by omega
          calc u + c.toNat * 2 ^ (7 * 9) < 2 ^ (7 * 9) + 1 * 2 ^ (7 * 9) := Nat.add_lt_add_of_lt_of_le hu (Nat.mul_le_mul_right _ this)
            _ = 2 ^ 64 := by decide
        · exact Nat.lt_of_lt_of_le hs (Nat.pow_le_pow_right (by omega) (by omega))
theorem getAt_lt {l : List UInt8} {p u m : Nat} (h : getAt l p = some (u, m)) : u < 2 ^ 64 :=
  gi_lt (i := 0) (u := 0) (by decide) (by omega) (by rw [List.length_take]; omega) h
theorem nv_I64 (l : List UInt8) (p : Nat) : -9223372036854775808 ≤ nv l p ∧ nv l p ≤ 9223372036854775807 := by
  unfold nv
  cases h : getAt l p with
  | none => simp
  | some x =>
    have := getAt_lt (u := x.1) (m := x.2) h
    show -9223372036854775808 ≤ zag x.1 ∧ zag x.1 ≤ 9223372036854775807
    unfold zag; split <;> omega

theorem readRows_at (l : List UInt8) (c p f S : Nat) : readRows l (c + 1) p f S = if nk l p = true ∧ nk l (ne l p) = true ∧ ¬ (nv l p < 0 ∨ nv l (ne l p) < 0 ∨ 1024 - (f : Int) ≤ nv l p ∨ 1024 - (f : Int) - nv l p ≤ nv l (ne l p))
    then readRows l c (ne l (ne l p)) (min (f + (nv l p).toNat + (nv l (ne l p)).toNat + 2) 1024) (S ||| rng ((f : Int) + nv l p) ((f : Int) + nv l p + nv l (ne l p))) else none := by
  rw [readRows]
  cases h1 : getAt l p with
  | none => simp [nk, h1]
  | some x =>
    obtain ⟨u1, m1⟩ := x
    have e1 : ne l p = p + m1 := by simp [ne, h1]
    have e2 : nv l p = zag u1 := by simp [nv, h1]
    have e3 : nk l p = true := by simp [nk, h1]
    rw [e1, e2, e3]
    dsimp only
    cases h2 : getAt l (p + m1) with
    | none => simp [nk, h2]
    | some y =>
      obtain ⟨u2, m2⟩ := y
      have f1 : ne l (p + m1) = p + m1 + m2 := by simp [ne, h2]
      have f2 : nv l (p + m1) = zag u2 := by simp [nv, h2]
      have f3 : nk l (p + m1) = true := by simp [nk, h2]
      rw [f1, f2, f3]
      dsimp only
      by_cases hb : zag u1 < 0 ∨ zag u2 < 0 ∨ 1024 - (f : Int) ≤ zag u1 ∨ 1024 - (f : Int) - zag u1 ≤ zag u2
      · rw [if_pos hb, if_neg (by simp [hb])]
      · rw [if_neg hb, if_pos ⟨rfl, rfl, hb⟩]
/-- One more row. -/
theorem rr_go {l : List UInt8} {c k p S : Nat} {f f' : Int} {R : Option (Nat × Nat)} (h : readRows l (c - k) p f.toNat S = R) (hk : k < c) (h0 : 0 ≤ f) (hf : f ≤ 1024)
    (g1 : nk l p = true) (g2 : nk l (ne l p) = true) (a1 : ¬ nv l p < 0) (a2 : ¬ nv l (ne l p) < 0) (b1 : ¬ 1024 - f ≤ nv l p) (b2 : ¬ 1024 - f - nv l p ≤ nv l (ne l p))
    (hf' : f' = min (f + nv l p + (nv l (ne l p) + 2)) 1024) : readRows l (c - (k + 1)) (ne l (ne l p)) f'.toNat (S ||| rng (f + nv l p) (f + nv l p + nv l (ne l p))) = R := by
  obtain ⟨f, rfl⟩ : ∃ m : Nat, f = m := ⟨f.toNat, by omega⟩
  rw [Int.toNat_natCast, show c - k = (c - (k + 1)) + 1 by omega, readRows_at, if_pos ⟨g1, g2, by omega⟩] at h
  rw [← h, hf']
  congr 1
  omega
theorem rr_no {l : List UInt8} {c k p S : Nat} {f : Int} {R : Option (Nat × Nat)} (h : readRows l (c - k) p f.toNat S = R) (hk : k < c) (h0 : 0 ≤ f)
    (hb : nk l p = true → nk l (ne l p) = true → ¬ nv l p < 0 → ¬ nv l (ne l p) < 0 → ¬ 1024 - f ≤ nv l p → ¬ 1024 - f - nv l p ≤ nv l (ne l p) → False) : R = none := by
  obtain ⟨f, rfl⟩ : ∃ m : Nat, f = m := ⟨f.toNat, by omega⟩
  rw [Int.toNat_natCast, show c - k = (c - (k + 1)) + 1 by omega, readRows_at, if_neg (fun ⟨g1, g2, g3⟩ => hb g1 g2 (by omega) (by omega) (by omega) (by omega))] at h
  exact h.symm
theorem rr_end {l : List UInt8} {c k p S : Nat} {f : Int} {R : Option (Nat × Nat)} (h : readRows l (c - k) p f.toNat S = R) (hk : c ≤ k) : R = some (S, p) := by
  rw [show c - k = 0 by omega, readRows] at h
  exact h.symm
theorem setAt_at (l : List UInt8) (p : Nat) : setAt l p = if nk l p = true ∧ 0 ≤ nv l p ∧ nv l p ≤ 1024 then readRows l (nv l p).toNat (ne l p) 0 0 else none := by
  unfold setAt nk nv ne
  cases h1 : getAt l p with
  | none => simp
  | some x =>
    dsimp only
    by_cases hb : zag x.1 < 0 ∨ 1024 < zag x.1
    · rw [if_pos hb, if_neg (by omega)]
    · rw [if_neg hb, if_pos ⟨rfl, by omega, by omega⟩]
theorem setAt_no {l : List UInt8} {p : Nat} (h : nk l p = true → ¬ nv l p < 0 → ¬ 1024 < nv l p → False) : setAt l p = none := by
  rw [setAt_at, if_neg fun ⟨a, b, c⟩ => h a (by omega) (by omega)]
theorem setAt_go {l : List UInt8} {p : Nat} (a : nk l p = true) (b : ¬ nv l p < 0) (c : ¬ 1024 < nv l p) : readRows l ((nv l p).toNat - 0) (ne l p) (0 : Int).toNat 0 = setAt l p := by
  rw [setAt_at, if_pos ⟨a, by omega, by omega⟩]; rfl
def sv (o : Option (Nat × Nat)) : Nat := match o with | some (S, _) => S | none => 0
def se (o : Option (Nat × Nat)) : Nat := match o with | some (_, e) => e | none => 0
def sres (o : Option (Nat × Nat)) : Value := .tuple #[.agg (setA (sv o)), .int .i64 ((se o : Nat) : Int), .bool o.isSome]
theorem setAt_sm {l : List UInt8} {p : Nat} : Sm (sv (setAt l p)) := by
  cases h : setAt l p with
  | none => exact fun _ _ => Nat.zero_testBit _
  | some x =>
    rw [setAt_at] at h
    split at h
    · exact readRows_sm (S := 0) (fun k hk => by simp) h
    · cases h
theorem results_set2' {fn : Func} {p u v : Tmp} (h : fn.results = #[.cell p 33, .tmp u, .tmp v]) (tmps : Array Value) (w : World) (g : Nat) (S : Nat) {t : TypeId}
    (hp : tmps.getD p undef = .pointer (some ⟨g, 0, none⟩)) (hg : Blk w g (setA S) t) : (results fn tmps).run Tryd.prog w = .ok (.tuple #[.agg (setA S), tmps.getD u undef, tmps.getD v undef]) w := by
  have hp' : tmps[p]?.getD undef = .pointer (some ⟨g, 0, none⟩) := by simpa using hp
  have l1 := run_loadVar_row w g t _ _ _ _ hg Tryd.underlying33 rfl (info_setA S)
  simp [results, h, hp', asAddr, l1]
end Go.Proofs.YtckmihjekgbcmaaDoor

/- Structs in rows and in variables: loads, stores, cuts, '==' field by field. -/
namespace Go.Proofs.YtckmihjekgbcmaaDoor
open Go.RowKit Go.WideShapes Go.ChangeShapes

/-- t is a struct (or an array) of so many cells. -/
def AggT (P : Program) (t : TypeId) (n : Nat) : Prop := ∃ d i, P.underlying t = some d ∧ d.isRow = true ∧ P.info? t = some i ∧ i.size = n
theorem aggT {P : Program} {t : TypeId} {d : TypeDesc} {n : Nat} (h1 : P.underlying t = some d) (h2 : d.isRow = true) (h3 : (P.info? t).map (·.size) = some n) : AggT P t n := by
  cases hi : P.info? t with
  | none => simp [hi] at h3
  | some i => simp [hi] at h3; exact ⟨d, i, h1, h2, hi, h3⟩
section
variable {P : Program} {o : Oper} {a : Act} (x y : Operand) {t : TypeId} {W : World}
theorem run_loadE {α : Type} {E : Enc α} (ho : o.op = .load t x) (T : AggT P t E.sz) {b off i : Nat} {xs : List α} (hx : a.eval x = .pointer (some ⟨b, off + i * E.sz, none⟩)) (hr : Reads W (some ⟨b, off, none⟩) (E.all xs)) {u : α} (hu : xs[i]? = some u) :
    (execOp a.eval o).run P W = .ok (.value (.agg (E.enc u).toArray)) W := by
  obtain ⟨d, z, h1, h2, h3, h4⟩ := T
  have hc : W.rangeAt b (off + i * E.sz) (E.enc u) := fun j v hv => by
    have hj : j < E.sz := by rw [← E.len u]; exact (List.getElem?_eq_some_iff.1 hv).1
    obtain ⟨b', off', e, hc⟩ := hr (i * E.sz + j) v (by rw [E.all_get xs i j u hu hj]; exact hv)
    injection e with e; injection e with e1 e2; subst e1 e2
    rw [Nat.add_assoc]
    exact hc
  have hl := run_loadVar_mid (P := P) W b (off + i * E.sz) t (E.enc u) d hc h1 h2 (by rw [h3, Option.map_some, h4, E.len])
  unfold execOp
  simp only [ho, hx, Instr.loadAt, Instr.sureAddr, Sem.run_bind, Sem.run_pure, Result.andThen_ok, hl]
theorem run_loadW (ho : o.op = .load t x) {cs : Array Value} (T : AggT P t cs.size) {g : Nat} (hx : a.eval x = .pointer (some ⟨g, 0, none⟩)) {t' : TypeId} (hB : Blk W g cs t') : (execOp a.eval o).run P W = .ok (.value (.agg cs)) W := by
  obtain ⟨d, z, h1, h2, h3, h4⟩ := T
  have hc : W.rangeAt g 0 cs.toList := fun j v hv => by rw [Nat.zero_add, hB.cell]; simpa using hv
  have hl := run_loadVar_mid (P := P) W g 0 t cs.toList d hc h1 h2 (by rw [h3, Option.map_some, h4]; simp)
  unfold execOp
  simp only [ho, hx, Instr.loadAt, Instr.sureAddr, Sem.run_bind, Sem.run_pure, Result.andThen_ok, hl, Array.toArray_toList]
theorem run_storeW (ho : o.op = .store t x y) {old cs : Array Value} (T : AggT P t cs.size) {g : Nat} (hx : a.eval x = .pointer (some ⟨g, 0, none⟩)) (hy : a.eval y = .agg cs) {t' : TypeId} (hB : Blk W g old t') (hs : old.size = cs.size) (h1 : cs.all (·.oneCell') = true) :
    (execOp a.eval o).run P W = .ok .skip (W.setRow g cs) := by
  obtain ⟨d, z, _, _, h3, h4⟩ := T
  unfold execOp
  simp only [ho, hx, hy, Instr.storeAt, Instr.sureAddr, Sem.run_bind, Sem.run_pure, Result.andThen_ok]
  rw [run_storeVar_row W g t' t old cs hB (by rw [h3, Option.map_some, h4]) hs h1]
  rfl
end
theorem Reads.takeE {α : Type} {E : Enc α} {w : World} {A : Option Addr} {xs : List α} (h : Reads w A (E.all xs)) (n : Nat) : Reads w A (E.all (xs.take n)) := by rw [E.all_take]; exact h.take _
theorem Reads.posE {α : Type} {E : Enc α} {w : World} {A : Option Addr} {xs : List α} (h : Reads w A (E.all xs)) (hp : 0 < E.sz) (hx : 0 < xs.length) : ∃ b off, A = some ⟨b, off, none⟩ ∧ True := by
  obtain ⟨b, off, hA, _⟩ := h.at_ (by rw [E.all_length]; exact Nat.mul_pos hx hp)
  exact ⟨b, off, hA, trivial⟩

/-! ### '==' field by field -/
def eqL (d : Nat) (xs ys : Array Value) : List (String × TypeId × Nat) → Sem Bool
  | [] => pure true
  | f :: fs =>
    if f.1 ≠ "_" then do
      let a ← part f.2.1 xs f.2.2
      let b ← part f.2.1 ys f.2.2
      let r ← Op.equalIn d f.2.1 a b
      if (!r) = true then pure false else eqL d xs ys fs
    else eqL d xs ys fs
theorem eqFields_eqL (d : Nat) (xs ys : Array Value) : ∀ fs : List Field, Op.eqFields d xs ys fs = eqL d xs ys (fs.map fun f => (f.name, f.type, f.offset))
  | [] => rfl
  | f :: fs => by
    have ih := eqFields_eqL d xs ys fs
    simp only [Op.eqFields, eqL, List.map_cons, ih]
section
variable {P : Program} {d : Nat} {xs ys : Array Value} {fs : List (String × TypeId × Nat)} {n : String} {t : TypeId} {off : Nat} {W : World}
theorem eqL_nil : (eqL d xs ys []).run P W = .ok true W := rfl
theorem eqL_one {v u : Value} {b : Bool} (hn : n ≠ "_") (ha : (isAgg t).run P W = .ok false W) (hv : xs[off]? = some v) (hu : ys[off]? = some u) (he : (Op.equalIn d t v u).run P W = .ok b W) :
    (eqL d xs ys ((n, t, off) :: fs)).run P W = if b = true then (eqL d xs ys fs).run P W else .ok false W := by
  have p1 : (part t xs off).run P W = .ok v W := by simp [part, ha, hv]
  have p2 : (part t ys off).run P W = .ok u W := by simp [part, ha, hu]
  rw [eqL, if_pos (show (n, t, off).1 ≠ "_" from hn)]
  simp only [Sem.run_bind, p1, p2, he, Result.andThen_ok]
  cases b <;> simp
theorem eqL_sub {b : Bool} {s : Nat} (hn : n ≠ "_") (ha : (isAgg t).run P W = .ok true W) (hs : (sizeOf t).run P W = .ok s W) (he : (Op.equalIn d t (.agg (xs.extract off (off + s))) (.agg (ys.extract off (off + s)))).run P W = .ok b W) :
    (eqL d xs ys ((n, t, off) :: fs)).run P W = if b = true then (eqL d xs ys fs).run P W else .ok false W := by
  have p1 : (part t xs off).run P W = .ok (.agg (xs.extract off (off + s))) W := by simp [part, ha, hs]
  have p2 : (part t ys off).run P W = .ok (.agg (ys.extract off (off + s))) W := by simp [part, ha, hs]
  rw [eqL, if_pos (show (n, t, off).1 ≠ "_" from hn)]
  simp only [Sem.run_bind, p1, p2, he, Result.andThen_ok]
  cases b <;> simp
theorem eqI_str (h : P.underlying t = some .string) (l m : List UInt8) : (Op.equalIn (d + 1) t (.string (str l)) (.string (str m))).run P W = .ok (decide (l = m)) W := by
  rw [run_equalIn_string W d t _ _ h, str_toList, str_toList, list_beq]
theorem eqI_int {k : IntKind} (h : P.underlying t = some (.int k)) (a b : Int) : (Op.equalIn (d + 1) t (.int k a) (.int k b)).run P W = .ok (decide (a = b)) W := by
  rw [run_equalIn_int W d t k k a b h]
  congr 1
theorem eqI_bool (h : P.underlying t = some .bool) (a b : Bool) : (Op.equalIn (d + 1) t (.bool a) (.bool b)).run P W = .ok (decide (a = b)) W := by
  rw [run_equalIn_bool' W d t a b h]
  congr 1
theorem eqI_struct {fs : List (String × TypeId × Nat)} {r : Bool} (hu : P.underlying t = some (.struct (P.fieldsOf t))) (hp : P.stoodInHeld t = false) (hf : ((P.fieldsOf t).toList.map fun f => (f.name, f.type, f.offset)) = fs) (h : (eqL d xs ys fs).run P W = .ok r W) :
    (Op.equalIn (d + 1) t (.agg xs) (.agg ys)).run P W = .ok r W := by
  rw [run_equalIn_agg W d t xs ys hu hp, eqFields_eqL, hf, h]
end
/-- Two values of a struct are equal where the things that they stand for are. -/
structure EqA {α : Type} [DecidableEq α] (P : Program) (t : TypeId) (E : Enc α) (ok : α → Prop) : Prop where
  guard : P.eqGuardType P.depth t = false
  eq : ∀ (d : Nat) (p q : α) (W : World), ok p → ok q → (Op.equalIn (d + 5) t (.agg (E.enc p).toArray) (.agg (E.enc q).toArray)).run P W = .ok (decide (p = q)) W
section
variable {P : Program} {o : Oper} {a : Act} (x y : Operand) {t t' : TypeId} {α : Type} [DecidableEq α] {E : Enc α} {ok : α → Prop}
theorem run_eql_agg (ho : o.op = .binOp .eql t x y t') (T : EqA P t E ok) {p q : α} (hx : a.eval x = .agg (E.enc p).toArray) (hy : a.eval y = .agg (E.enc q).toArray) (hp : ok p) (hq : ok q) (W : World) : (execOp a.eval o).run P W = .ok (.value (.bool (decide (p = q)))) W := by
  have h1 := run_eqGuard_agg (P := P) W .eql t x y (E.enc p).toArray (E.enc q).toArray T.guard
  have h2 := run_eql_struct (P := P) W t (E.enc p).toArray (E.enc q).toArray
  rw [show (10000 : Nat) = 9995 + 5 from rfl, T.eq 9995 p q W hp hq] at h2
  unfold execOp
  simp only [ho, hx, hy]
  simp [h1, h2]
theorem run_neq_agg (ho : o.op = .binOp .neq t x y t') (T : EqA P t E ok) {p q : α} (hx : a.eval x = .agg (E.enc p).toArray) (hy : a.eval y = .agg (E.enc q).toArray) (hp : ok p) (hq : ok q) (W : World) : (execOp a.eval o).run P W = .ok (.value (.bool (!decide (p = q)))) W := by
  have h1 := run_eqGuard_agg (P := P) W .neq t x y (E.enc p).toArray (E.enc q).toArray T.guard
  have h2 := run_neq_struct (P := P) W t (E.enc p).toArray (E.enc q).toArray
  rw [show (10000 : Nat) = 9995 + 5 from rfl, T.eq 9995 p q W hp hq] at h2
  unfold execOp
  simp only [ho, hx, hy]
  simp [h1, h2]
end
/-- &a[i] of an array in a variable. -/
theorem run_indexArr {P : Program} {o : Oper} {a : Act} (x y : Operand) {t e : TypeId} {n sz : Nat} (ho : o.op = .indexAddr t x y) (ht : P.underlying t = some (.array n e)) (hs : (P.info? e).map (·.size) = some sz) {b i k k' : Nat} (hx : a.eval x = .pointer (some ⟨b, k, none⟩)) {K : IntKind} {X : Int} (hy : a.eval y = .int K X) (hX : X = (i : Int)) (hk : k + i * sz = k') (h : i < n) (W : World) :
    (execOp a.eval o).run P W = .ok (.value (.pointer (some ⟨b, k', none⟩))) W := by
  subst hX hk
  cases hi : P.info? e with
  | none => simp [hi] at hs
  | some z =>
    simp [hi] at hs
    have h0 : (i : Int) < (n : Int) := by omega
    unfold execOp; simp only [ho, hx, hy]
    simp [Instr.indexAt, asIntOf, run_underlying ht, Instr.sureAddr, sizeOf, typeInfo, hi, h, hs, add_none, Addr.add]
theorem results_cell1t {P : Program} {fn : Func} {p u : Tmp} {ty t : TypeId} (h : fn.results = #[.cell p ty, .tmp u]) (T : One P ty) {tmps : Array Value} {w : World} {g : Nat} {v : Value} (hp : tmps.getD p undef = .pointer (some ⟨g, 0, none⟩)) (hB : Blk w g #[v] t) : (results fn tmps).run P w = .ok (.tuple #[v, tmps.getD u undef]) w := by
  obtain ⟨d, i, h1, h2, h3, h4⟩ := T
  have hagg : (isAgg ty).run P w = .ok false w := by
    unfold isAgg
    rw [Sem.run_bind, run_underlying h1 w]
    cases d <;> simp_all [plainT]
  have hc : w.cell? ⟨g, 0, none⟩ = some v := by rw [hB.cell]; rfl
  have hp' : tmps[p]?.getD undef = .pointer (some ⟨g, 0, none⟩) := by simpa using hp
  simp only [results, h]
  simp [Sem.run_bind, hp', asAddr, loadVar, hagg, hc]
theorem I64_of' {n : Int} (h : (Lit.int .i64 n).wf = true) : -9223372036854775808 ≤ n ∧ n ≤ 9223372036854775807 := by
  simp [Lit.wf, IntKind.min, IntKind.max, IntKind.bits, IntKind.signed] at h
  omega
theorem U64_of {n : Int} (h : (Lit.int .u64 n).wf = true) : 0 ≤ n ∧ n < 18446744073709551616 := by
  simp [Lit.wf, IntKind.min, IntKind.max, IntKind.bits, IntKind.signed] at h
  omega
theorem I32_of {n : Int} (h : (Lit.int .i32 n).wf = true) : -2147483648 ≤ n ∧ n ≤ 2147483647 := by
  simp [Lit.wf, IntKind.min, IntKind.max, IntKind.bits, IntKind.signed] at h
  omega
end Go.Proofs.YtckmihjekgbcmaaDoor

/- Events, entries, rows of such. -/
namespace Go.Proofs.YtckmihjekgbcmaaDoor
open Go.RowKit Go.WideShapes Go.ChangeShapes
set_option linter.unusedSimpArgs false
set_option linter.unusedVariables false

/-! ### api.Event -/
abbrev TEvt := Int × Int × Int × Int × Int
def eEvt : Enc TEvt := ⟨5, fun p => [.int .i64 p.1, .int .i64 p.2.1, .int .i64 p.2.2.1, .int .i64 p.2.2.2.1, .int .i64 p.2.2.2.2], fun _ => rfl, fun _ u hu => by simp at hu; rcases hu with rfl | rfl | rfl | rfl | rfl <;> rfl⟩
theorem slEvt : SlT Tryd.prog 39 42 eEvt 40 := slT_of Tryd.underlying39 (z := .agg #[.int .i64 0, .int .i64 0, .int .i64 0, .int .i64 0, .int .i64 0]) (by kernel_rfl) rfl (by decide) (by omega)
theorem aggEvt : AggT Tryd.prog 42 5 := aggT Tryd.underlying42 rfl (by kernel_rfl)
def evtAt (l : List TEvt) (i : Nat) : TEvt := l.getD i (0, 0, 0, 0, 0)
theorem evtAt_get {l : List TEvt} {i : Nat} (h : i < l.length) : l[i]? = some (evtAt l i) := by unfold evtAt; simp [h]
theorem evtAt_mem {l : List TEvt} {i : Nat} (h : i < l.length) : evtAt l i ∈ l := by unfold evtAt; simp [h]
def okEvt (p : TEvt) : Prop := (-9223372036854775808 ≤ p.1 ∧ p.1 ≤ 9223372036854775807) ∧ (-9223372036854775808 ≤ p.2.1 ∧ p.2.1 ≤ 9223372036854775807) ∧ (-9223372036854775808 ≤ p.2.2.1 ∧ p.2.2.1 ≤ 9223372036854775807) ∧ (-9223372036854775808 ≤ p.2.2.2.1 ∧ p.2.2.2.1 ≤ 9223372036854775807) ∧ (-9223372036854775808 ≤ p.2.2.2.2 ∧ p.2.2.2.2 ≤ 9223372036854775807)
theorem undEvt : Tryd.prog.underlying 42 = some (.struct (Tryd.prog.fieldsOf 42)) := by rw [Program.fieldsOf, Tryd.underlying42]
theorem eqIEvt {d : Nat} (p q : TEvt) (W : World) : (Op.equalIn (d + 4) 42 (.agg (eEvt.enc p).toArray) (.agg (eEvt.enc q).toArray)).run Tryd.prog W = .ok (decide (p = q)) W := by
    refine eqI_struct undEvt (by kernel_rfl) (fs := [("Kind", 3, 0), ("Task", 3, 1), ("Cpu", 3, 2), ("A", 3, 3), ("B", 3, 4)]) (by kernel_rfl) ?_
    obtain ⟨a0, a1, a2, a3, a4⟩ := p
    obtain ⟨b0, b1, b2, b3, b4⟩ := q
    rw [eqL_one (v := .int .i64 a0) (u := .int .i64 b0) (b := decide (a0 = b0)) (by decide) (by kernel_rfl) (by rfl) (by rfl) (eqI_int Tryd.underlying3 _ _)]
    rw [eqL_one (v := .int .i64 a1) (u := .int .i64 b1) (b := decide (a1 = b1)) (by decide) (by kernel_rfl) (by rfl) (by rfl) (eqI_int Tryd.underlying3 _ _)]
    rw [eqL_one (v := .int .i64 a2) (u := .int .i64 b2) (b := decide (a2 = b2)) (by decide) (by kernel_rfl) (by rfl) (by rfl) (eqI_int Tryd.underlying3 _ _)]
    rw [eqL_one (v := .int .i64 a3) (u := .int .i64 b3) (b := decide (a3 = b3)) (by decide) (by kernel_rfl) (by rfl) (by rfl) (eqI_int Tryd.underlying3 _ _)]
    rw [eqL_one (v := .int .i64 a4) (u := .int .i64 b4) (b := decide (a4 = b4)) (by decide) (by kernel_rfl) (by rfl) (by rfl) (eqI_int Tryd.underlying3 _ _)]
    rw [eqL_nil]
    by_cases h0 : a0 = b0
    rotate_left
    · rw [if_neg (by simpa using h0)]; congr 1; rw [eq_comm, decide_eq_false_iff_not]; intro e; simp only [Prod.mk.injEq] at e; exact h0 (by first | exact e | exact e.1)
    rw [if_pos (by simpa using h0)]
    by_cases h1 : a1 = b1
    rotate_left
    · rw [if_neg (by simpa using h1)]; congr 1; rw [eq_comm, decide_eq_false_iff_not]; intro e; simp only [Prod.mk.injEq] at e; exact h1 (by first | exact e | exact e.2.1)
    rw [if_pos (by simpa using h1)]
    by_cases h2 : a2 = b2
    rotate_left
    · rw [if_neg (by simpa using h2)]; congr 1; rw [eq_comm, decide_eq_false_iff_not]; intro e; simp only [Prod.mk.injEq] at e; exact h2 (by first | exact e | exact e.2.2.1)
    rw [if_pos (by simpa using h2)]
    by_cases h3 : a3 = b3
    rotate_left
    · rw [if_neg (by simpa using h3)]; congr 1; rw [eq_comm, decide_eq_false_iff_not]; intro e; simp only [Prod.mk.injEq] at e; exact h3 (by first | exact e | exact e.2.2.2.1)
    rw [if_pos (by simpa using h3)]
    by_cases h4 : a4 = b4
    rotate_left
    · rw [if_neg (by simpa using h4)]; congr 1; rw [eq_comm, decide_eq_false_iff_not]; intro e; simp only [Prod.mk.injEq] at e; exact h4 (by first | exact e | exact e.2.2.2.2)
    rw [if_pos (by simpa using h4)]
    subst h0 h1 h2 h3 h4; simp
theorem eqEvt : EqA Tryd.prog 42 eEvt (fun _ => True) where
  guard := by kernel_rfl
  eq := fun d p q W _ _ => eqIEvt (d := d + 1) p q W
theorem evt_snoc {l : List TEvt} {k : Nat} (h : k < l.length) : l.take (k + 1) = l.take k ++ [evtAt l k] := by rw [List.take_add_one, evtAt_get h]; rfl
theorem evt_ext {l m : List TEvt} (hl : l.length = m.length) (h : ∀ k, k < l.length → evtAt l k = evtAt m k) : l = m := by
  apply List.ext_getElem hl
  intro i h1 h2
  have := h i h1
  have e1 := evtAt_get h1
  have e2 := evtAt_get h2
  rw [List.getElem?_eq_getElem h1] at e1
  rw [List.getElem?_eq_getElem h2] at e2
  injection e1 with e1; injection e2 with e2
  rw [e1, e2, this]
def rEvt : Nat → List Value → Prop
  | 0, cs => ∃ n, cs = [.int .i64 n] ∧ (Lit.int .i64 n).wf = true
  | 1, cs => ∃ n, cs = [.int .i64 n] ∧ (Lit.int .i64 n).wf = true
  | 2, cs => ∃ n, cs = [.int .i64 n] ∧ (Lit.int .i64 n).wf = true
  | 3, cs => ∃ n, cs = [.int .i64 n] ∧ (Lit.int .i64 n).wf = true
  | 4, cs => ∃ n, cs = [.int .i64 n] ∧ (Lit.int .i64 n).wf = true
  | _, _ => True
theorem flatEvt : Flat Tryd.prog 42 (fun cs => ∃ p, cs = eEvt.enc p ∧ okEvt p) := by
  intro H enc w base spare held fuel cs x hx
  have h3 := flat_struct (P := Tryd.prog) (t := 42) rEvt Tryd.underlying42 (by
    intro i f hf
    match i, hf with
    | 0, hf => simp at hf; subst hf; show Flat Tryd.prog 3 (fun cs => ∃ n, cs = [.int .i64 n] ∧ (Lit.int .i64 n).wf = true); exact flat_int Tryd.underlying3
    | 1, hf => simp at hf; subst hf; show Flat Tryd.prog 3 (fun cs => ∃ n, cs = [.int .i64 n] ∧ (Lit.int .i64 n).wf = true); exact flat_int Tryd.underlying3
    | 2, hf => simp at hf; subst hf; show Flat Tryd.prog 3 (fun cs => ∃ n, cs = [.int .i64 n] ∧ (Lit.int .i64 n).wf = true); exact flat_int Tryd.underlying3
    | 3, hf => simp at hf; subst hf; show Flat Tryd.prog 3 (fun cs => ∃ n, cs = [.int .i64 n] ∧ (Lit.int .i64 n).wf = true); exact flat_int Tryd.underlying3
    | 4, hf => simp at hf; subst hf; show Flat Tryd.prog 3 (fun cs => ∃ n, cs = [.int .i64 n] ∧ (Lit.int .i64 n).wf = true); exact flat_int Tryd.underlying3
    | k + 5, hf => simp at hf) hx
  obtain ⟨hl, hi⟩ := h3
  have hc : Tryd.prog.cellsOf 42 = 5 := by kernel_rfl
  rw [hc] at hl
  have hu0 : Tryd.prog.cellsOf 3 = 1 := by kernel_rfl
  obtain ⟨x0, h0, w0⟩ := hi 0 _ rfl
  change List.take (Tryd.prog.cellsOf 3) (List.drop 0 cs) = _ at h0
  rw [hu0] at h0
  have hu1 : Tryd.prog.cellsOf 3 = 1 := by kernel_rfl
  obtain ⟨x1, h1, w1⟩ := hi 1 _ rfl
  change List.take (Tryd.prog.cellsOf 3) (List.drop 1 cs) = _ at h1
  rw [hu1] at h1
  have hu2 : Tryd.prog.cellsOf 3 = 1 := by kernel_rfl
  obtain ⟨x2, h2, w2⟩ := hi 2 _ rfl
  change List.take (Tryd.prog.cellsOf 3) (List.drop 2 cs) = _ at h2
  rw [hu2] at h2
  have hu3 : Tryd.prog.cellsOf 3 = 1 := by kernel_rfl
  obtain ⟨x3, h3, w3⟩ := hi 3 _ rfl
  change List.take (Tryd.prog.cellsOf 3) (List.drop 3 cs) = _ at h3
  rw [hu3] at h3
  have hu4 : Tryd.prog.cellsOf 3 = 1 := by kernel_rfl
  obtain ⟨x4, h4, w4⟩ := hi 4 _ rfl
  change List.take (Tryd.prog.cellsOf 3) (List.drop 4 cs) = _ at h4
  rw [hu4] at h4
  match cs, hl with
  | [c0, c1, c2, c3, c4], _ =>
    simp only [List.drop_succ_cons, List.drop_zero, List.take_succ_cons, List.take_zero, List.cons.injEq, and_true] at h0
    subst h0
    simp only [List.drop_succ_cons, List.drop_zero, List.take_succ_cons, List.take_zero, List.cons.injEq, and_true] at h1
    subst h1
    simp only [List.drop_succ_cons, List.drop_zero, List.take_succ_cons, List.take_zero, List.cons.injEq, and_true] at h2
    subst h2
    simp only [List.drop_succ_cons, List.drop_zero, List.take_succ_cons, List.take_zero, List.cons.injEq, and_true] at h3
    subst h3
    simp only [List.drop_succ_cons, List.drop_zero, List.take_succ_cons, List.take_zero, List.cons.injEq, and_true] at h4
    subst h4
    exact ⟨(x0, x1, x2, x3, x4), rfl, I64_of' w0, I64_of' w1, I64_of' w2, I64_of' w3, I64_of' w4⟩
theorem openEvts {H : Type} {enc : TypeId × Value → H} {w : World} {r : Reach} {b0 base : Nat} {spare : Nat → Bool} {held : Bool} {v : Value} {d : DataW H} {ps : List MemPlace}
    (hval : Value.okWide Tryd.prog w r b0 39 v) (h : DataW.Trod enc Tryd.prog w base spare held 39 v d ps) :
    ∃ (A : Option Addr) (xs : List TEvt) (cap : Nat), v = .slice A xs.length cap ∧ xs.length ≤ cap ∧ (A = none → cap = 0) ∧ (∀ x ∈ xs, okEvt x) ∧ Reads w A (eEvt.all xs) := by
  obtain ⟨A, len, cap, rfl, hs⟩ := open_slice_of Tryd.underlying39 flatEvt hval h
  obtain ⟨xs, rfl, ho, hr⟩ := slice_list eEvt _ (by kernel_rfl) (by decide) hs
  exact ⟨A, xs, cap, rfl, hs.1, hs.2.2.1, ho, hr⟩
/-! ### api.Entry -/
abbrev TEnt := Int × Int × Int × Int × Int
def eEnt : Enc TEnt := ⟨5, fun p => [.int .i64 p.1, .int .i64 p.2.1, .int .i64 p.2.2.1, .int .i64 p.2.2.2.1, .int .u64 p.2.2.2.2], fun _ => rfl, fun _ u hu => by simp at hu; rcases hu with rfl | rfl | rfl | rfl | rfl <;> rfl⟩
theorem slEnt : SlT Tryd.prog 40 46 eEnt 40 := slT_of Tryd.underlying40 (z := .agg #[.int .i64 0, .int .i64 0, .int .i64 0, .int .i64 0, .int .u64 0]) (by kernel_rfl) rfl (by decide) (by omega)
theorem aggEnt : AggT Tryd.prog 46 5 := aggT Tryd.underlying46 rfl (by kernel_rfl)
def entAt (l : List TEnt) (i : Nat) : TEnt := l.getD i (0, 0, 0, 0, 0)
theorem entAt_get {l : List TEnt} {i : Nat} (h : i < l.length) : l[i]? = some (entAt l i) := by unfold entAt; simp [h]
theorem entAt_mem {l : List TEnt} {i : Nat} (h : i < l.length) : entAt l i ∈ l := by unfold entAt; simp [h]
def okEnt (p : TEnt) : Prop := (-9223372036854775808 ≤ p.1 ∧ p.1 ≤ 9223372036854775807) ∧ (-9223372036854775808 ≤ p.2.1 ∧ p.2.1 ≤ 9223372036854775807) ∧ (-9223372036854775808 ≤ p.2.2.1 ∧ p.2.2.1 ≤ 9223372036854775807) ∧ (-9223372036854775808 ≤ p.2.2.2.1 ∧ p.2.2.2.1 ≤ 9223372036854775807) ∧ (0 ≤ p.2.2.2.2 ∧ p.2.2.2.2 < 18446744073709551616)
theorem undEnt : Tryd.prog.underlying 46 = some (.struct (Tryd.prog.fieldsOf 46)) := by rw [Program.fieldsOf, Tryd.underlying46]
theorem eqIEnt {d : Nat} (p q : TEnt) (W : World) : (Op.equalIn (d + 4) 46 (.agg (eEnt.enc p).toArray) (.agg (eEnt.enc q).toArray)).run Tryd.prog W = .ok (decide (p = q)) W := by
    refine eqI_struct undEnt (by kernel_rfl) (fs := [("Kind", 3, 0), ("A", 3, 1), ("B", 3, 2), ("C", 3, 3), ("Draw", 44, 4)]) (by kernel_rfl) ?_
    obtain ⟨a0, a1, a2, a3, a4⟩ := p
    obtain ⟨b0, b1, b2, b3, b4⟩ := q
    rw [eqL_one (v := .int .i64 a0) (u := .int .i64 b0) (b := decide (a0 = b0)) (by decide) (by kernel_rfl) (by rfl) (by rfl) (eqI_int Tryd.underlying3 _ _)]
    rw [eqL_one (v := .int .i64 a1) (u := .int .i64 b1) (b := decide (a1 = b1)) (by decide) (by kernel_rfl) (by rfl) (by rfl) (eqI_int Tryd.underlying3 _ _)]
    rw [eqL_one (v := .int .i64 a2) (u := .int .i64 b2) (b := decide (a2 = b2)) (by decide) (by kernel_rfl) (by rfl) (by rfl) (eqI_int Tryd.underlying3 _ _)]
    rw [eqL_one (v := .int .i64 a3) (u := .int .i64 b3) (b := decide (a3 = b3)) (by decide) (by kernel_rfl) (by rfl) (by rfl) (eqI_int Tryd.underlying3 _ _)]
    rw [eqL_one (v := .int .u64 a4) (u := .int .u64 b4) (b := decide (a4 = b4)) (by decide) (by kernel_rfl) (by rfl) (by rfl) (eqI_int Tryd.underlying44 _ _)]
    rw [eqL_nil]
    by_cases h0 : a0 = b0
    rotate_left
    · rw [if_neg (by simpa using h0)]; congr 1; rw [eq_comm, decide_eq_false_iff_not]; intro e; simp only [Prod.mk.injEq] at e; exact h0 (by first | exact e | exact e.1)
    rw [if_pos (by simpa using h0)]
    by_cases h1 : a1 = b1
    rotate_left
    · rw [if_neg (by simpa using h1)]; congr 1; rw [eq_comm, decide_eq_false_iff_not]; intro e; simp only [Prod.mk.injEq] at e; exact h1 (by first | exact e | exact e.2.1)
    rw [if_pos (by simpa using h1)]
    by_cases h2 : a2 = b2
    rotate_left
    · rw [if_neg (by simpa using h2)]; congr 1; rw [eq_comm, decide_eq_false_iff_not]; intro e; simp only [Prod.mk.injEq] at e; exact h2 (by first | exact e | exact e.2.2.1)
    rw [if_pos (by simpa using h2)]
    by_cases h3 : a3 = b3
    rotate_left
    · rw [if_neg (by simpa using h3)]; congr 1; rw [eq_comm, decide_eq_false_iff_not]; intro e; simp only [Prod.mk.injEq] at e; exact h3 (by first | exact e | exact e.2.2.2.1)
    rw [if_pos (by simpa using h3)]
    by_cases h4 : a4 = b4
    rotate_left
    · rw [if_neg (by simpa using h4)]; congr 1; rw [eq_comm, decide_eq_false_iff_not]; intro e; simp only [Prod.mk.injEq] at e; exact h4 (by first | exact e | exact e.2.2.2.2)
    rw [if_pos (by simpa using h4)]
    subst h0 h1 h2 h3 h4; simp
theorem eqEnt : EqA Tryd.prog 46 eEnt (fun _ => True) where
  guard := by kernel_rfl
  eq := fun d p q W _ _ => eqIEnt (d := d + 1) p q W
theorem ent_snoc {l : List TEnt} {k : Nat} (h : k < l.length) : l.take (k + 1) = l.take k ++ [entAt l k] := by rw [List.take_add_one, entAt_get h]; rfl
theorem ent_ext {l m : List TEnt} (hl : l.length = m.length) (h : ∀ k, k < l.length → entAt l k = entAt m k) : l = m := by
  apply List.ext_getElem hl
  intro i h1 h2
  have := h i h1
  have e1 := entAt_get h1
  have e2 := entAt_get h2
  rw [List.getElem?_eq_getElem h1] at e1
  rw [List.getElem?_eq_getElem h2] at e2
  injection e1 with e1; injection e2 with e2
  rw [e1, e2, this]
def rEnt : Nat → List Value → Prop
  | 0, cs => ∃ n, cs = [.int .i64 n] ∧ (Lit.int .i64 n).wf = true
  | 1, cs => ∃ n, cs = [.int .i64 n] ∧ (Lit.int .i64 n).wf = true
  | 2, cs => ∃ n, cs = [.int .i64 n] ∧ (Lit.int .i64 n).wf = true
  | 3, cs => ∃ n, cs = [.int .i64 n] ∧ (Lit.int .i64 n).wf = true
  | 4, cs => ∃ n, cs = [.int .u64 n] ∧ (Lit.int .u64 n).wf = true
  | _, _ => True
theorem flatEnt : Flat Tryd.prog 46 (fun cs => ∃ p, cs = eEnt.enc p ∧ okEnt p) := by
  intro H enc w base spare held fuel cs x hx
  have h3 := flat_struct (P := Tryd.prog) (t := 46) rEnt Tryd.underlying46 (by
    intro i f hf
    match i, hf with
    | 0, hf => simp at hf; subst hf; show Flat Tryd.prog 3 (fun cs => ∃ n, cs = [.int .i64 n] ∧ (Lit.int .i64 n).wf = true); exact flat_int Tryd.underlying3
    | 1, hf => simp at hf; subst hf; show Flat Tryd.prog 3 (fun cs => ∃ n, cs = [.int .i64 n] ∧ (Lit.int .i64 n).wf = true); exact flat_int Tryd.underlying3
    | 2, hf => simp at hf; subst hf; show Flat Tryd.prog 3 (fun cs => ∃ n, cs = [.int .i64 n] ∧ (Lit.int .i64 n).wf = true); exact flat_int Tryd.underlying3
    | 3, hf => simp at hf; subst hf; show Flat Tryd.prog 3 (fun cs => ∃ n, cs = [.int .i64 n] ∧ (Lit.int .i64 n).wf = true); exact flat_int Tryd.underlying3
    | 4, hf => simp at hf; subst hf; show Flat Tryd.prog 44 (fun cs => ∃ n, cs = [.int .u64 n] ∧ (Lit.int .u64 n).wf = true); exact flat_int Tryd.underlying44
    | k + 5, hf => simp at hf) hx
  obtain ⟨hl, hi⟩ := h3
  have hc : Tryd.prog.cellsOf 46 = 5 := by kernel_rfl
  rw [hc] at hl
  have hu0 : Tryd.prog.cellsOf 3 = 1 := by kernel_rfl
  obtain ⟨x0, h0, w0⟩ := hi 0 _ rfl
  change List.take (Tryd.prog.cellsOf 3) (List.drop 0 cs) = _ at h0
  rw [hu0] at h0
  have hu1 : Tryd.prog.cellsOf 3 = 1 := by kernel_rfl
  obtain ⟨x1, h1, w1⟩ := hi 1 _ rfl
  change List.take (Tryd.prog.cellsOf 3) (List.drop 1 cs) = _ at h1
  rw [hu1] at h1
  have hu2 : Tryd.prog.cellsOf 3 = 1 := by kernel_rfl
  obtain ⟨x2, h2, w2⟩ := hi 2 _ rfl
  change List.take (Tryd.prog.cellsOf 3) (List.drop 2 cs) = _ at h2
  rw [hu2] at h2
  have hu3 : Tryd.prog.cellsOf 3 = 1 := by kernel_rfl
  obtain ⟨x3, h3, w3⟩ := hi 3 _ rfl
  change List.take (Tryd.prog.cellsOf 3) (List.drop 3 cs) = _ at h3
  rw [hu3] at h3
  have hu4 : Tryd.prog.cellsOf 44 = 1 := by kernel_rfl
  obtain ⟨x4, h4, w4⟩ := hi 4 _ rfl
  change List.take (Tryd.prog.cellsOf 44) (List.drop 4 cs) = _ at h4
  rw [hu4] at h4
  match cs, hl with
  | [c0, c1, c2, c3, c4], _ =>
    simp only [List.drop_succ_cons, List.drop_zero, List.take_succ_cons, List.take_zero, List.cons.injEq, and_true] at h0
    subst h0
    simp only [List.drop_succ_cons, List.drop_zero, List.take_succ_cons, List.take_zero, List.cons.injEq, and_true] at h1
    subst h1
    simp only [List.drop_succ_cons, List.drop_zero, List.take_succ_cons, List.take_zero, List.cons.injEq, and_true] at h2
    subst h2
    simp only [List.drop_succ_cons, List.drop_zero, List.take_succ_cons, List.take_zero, List.cons.injEq, and_true] at h3
    subst h3
    simp only [List.drop_succ_cons, List.drop_zero, List.take_succ_cons, List.take_zero, List.cons.injEq, and_true] at h4
    subst h4
    exact ⟨(x0, x1, x2, x3, x4), rfl, I64_of' w0, I64_of' w1, I64_of' w2, I64_of' w3, U64_of w4⟩
theorem openEnts {H : Type} {enc : TypeId × Value → H} {w : World} {r : Reach} {b0 base : Nat} {spare : Nat → Bool} {held : Bool} {v : Value} {d : DataW H} {ps : List MemPlace}
    (hval : Value.okWide Tryd.prog w r b0 40 v) (h : DataW.Trod enc Tryd.prog w base spare held 40 v d ps) :
    ∃ (A : Option Addr) (xs : List TEnt) (cap : Nat), v = .slice A xs.length cap ∧ xs.length ≤ cap ∧ (A = none → cap = 0) ∧ (∀ x ∈ xs, okEnt x) ∧ Reads w A (eEnt.all xs) := by
  obtain ⟨A, len, cap, rfl, hs⟩ := open_slice_of Tryd.underlying40 flatEnt hval h
  obtain ⟨xs, rfl, ho, hr⟩ := slice_list eEnt _ (by kernel_rfl) (by decide) hs
  exact ⟨A, xs, cap, rfl, hs.1, hs.2.2.1, ho, hr⟩
end Go.Proofs.YtckmihjekgbcmaaDoor

/- Rows of five numbers in bytes: plain laws. -/
namespace Go.Proofs.YtckmihjekgbcmaaDoor
open Go.RowKit Go.WideShapes Go.ChangeShapes

def evL (p : TEvt) : List Int := [p.1, p.2.1, p.2.2.1, p.2.2.2.1, p.2.2.2.2]
def enL (p : TEnt) : List Int := [p.1, p.2.1, p.2.2.1, p.2.2.2.1, IntKind.i64.wrap p.2.2.2.2]
def enOf (p : TEvt) : TEnt := (p.1, p.2.1, p.2.2.1, p.2.2.2.1, IntKind.u64.wrap p.2.2.2.2)
theorem evL_I64 {p : TEvt} (h : okEvt p) : ∀ n ∈ evL p, I64 n := by
  obtain ⟨h0, h1, h2, h3, h4⟩ := h
  intro n hn
  simp only [evL, List.mem_cons, List.not_mem_nil, or_false] at hn
  unfold I64
  rcases hn with rfl | rfl | rfl | rfl | rfl <;> omega
theorem wrapI_I64 (n : Int) : I64 (IntKind.i64.wrap n) := by unfold I64; rw [IntKind.wrap_i64]; omega
theorem enL_I64 {p : TEnt} (h : okEnt p) : ∀ n ∈ enL p, I64 n := by
  obtain ⟨h0, h1, h2, h3, h4⟩ := h
  intro n hn
  simp only [enL, List.mem_cons, List.not_mem_nil, or_false] at hn
  have hw := wrapI_I64 p.2.2.2.2
  unfold I64 at *
  rcases hn with rfl | rfl | rfl | rfl | rfl <;> omega
theorem wrap_back {n : Int} (h : I64 n) : IntKind.i64.wrap (IntKind.u64.wrap n) = n := by
  unfold I64 at h
  rw [IntKind.wrap_i64, wrap_u64z]; omega
theorem enL_enOf {p : TEvt} (h : okEvt p) : enL (enOf p) = evL p := by
  unfold enL enOf evL
  rw [wrap_back (show I64 p.2.2.2.2 from h.2.2.2.2)]
theorem okEnt_enOf {p : TEvt} (h : okEvt p) : okEnt (enOf p) := by
  obtain ⟨h0, h1, h2, h3, h4⟩ := h
  refine ⟨h0, h1, h2, h3, ?_⟩
  show 0 ≤ IntKind.u64.wrap _ ∧ IntKind.u64.wrap _ < _
  rw [wrap_u64z]; omega
theorem flat_take {α : Type} (E : α → List Int) {xs : List α} {k : Nat} {x : α} (h : xs[k]? = some x) : (xs.take (k + 1)).flatMap E = (xs.take k).flatMap E ++ E x := by
  rw [List.take_add_one, List.flatMap_append, h]; simp
theorem flat_mem {α : Type} {E : α → List Int} {ok : α → Prop} {xs : List α} (h : ∀ x ∈ xs, ok x) (hE : ∀ x, ok x → ∀ n ∈ E x, I64 n) : ∀ n ∈ xs.flatMap E, I64 n := by
  intro n hn
  obtain ⟨x, hx, hnx⟩ := List.mem_flatMap.1 hn
  exact hE x (h x hx) n hnx
theorem flat_len {α : Type} {E : α → List Int} (h5 : ∀ x, (E x).length = 5) : ∀ xs : List α, (xs.flatMap E).length = 5 * xs.length
  | [] => rfl
  | x :: xs => by rw [List.flatMap_cons, List.length_append, h5, flat_len h5 xs, List.length_cons]; omega
theorem ev_take_len {α : Type} {E : α → List Int} {ok : α → Prop} {xs : List α} (h : ∀ x ∈ xs, ok x) (hE : ∀ x, ok x → ∀ n ∈ E x, I64 n) (h5 : ∀ x, (E x).length = 5) (k : Nat) : (vbs ((xs.take k).flatMap E)).length ≤ 50 * xs.length := by
  have h1 := vbs_len (ns := (xs.take k).flatMap E) (flat_mem (fun x hx => h x (List.mem_of_mem_take hx)) hE)
  rw [flat_len h5, List.length_take] at h1
  omega
theorem evL5 (x : TEvt) : (evL x).length = 5 := rfl
theorem enL5 (x : TEnt) : (enL x).length = 5 := rfl

/-! ### reading rows -/
def five (l : List UInt8) (p : Nat) : TEvt := (nv l p, nv l (ne l p), nv l (ne l (ne l p)), nv l (ne l (ne l (ne l p))), nv l (ne l (ne l (ne l (ne l p)))))
def k5 (l : List UInt8) (p : Nat) : Prop := nk l p = true ∧ nk l (ne l p) = true ∧ nk l (ne l (ne l p)) = true ∧ nk l (ne l (ne l (ne l p))) = true ∧ nk l (ne l (ne l (ne l (ne l p)))) = true
instance (l : List UInt8) (p : Nat) : Decidable (k5 l p) := by unfold k5; exact inferInstance
def e5 (l : List UInt8) (p : Nat) : Nat := ne l (ne l (ne l (ne l (ne l p))))
def fv (l : List UInt8) : Nat → Nat → List TEvt × Int
  | 0, _ => ([], -1)
  | f + 1, p => if p < l.length then if k5 l p then (five l p :: (fv l f (e5 l p)).1, (fv l f (e5 l p)).2) else ([], (p : Int)) else ([], -1)
def fvA (l : List UInt8) : List TEvt × Int := fv l (l.length + 1) 0
theorem five_ok (l : List UInt8) (p : Nat) : okEvt (five l p) := ⟨nv_I64 _ _, nv_I64 _ _, nv_I64 _ _, nv_I64 _ _, nv_I64 _ _⟩
theorem ne_gt {l : List UInt8} {p : Nat} (h : nk l p = true) : p < ne l p := by
  unfold nk at h
  unfold ne
  cases hg : getAt l p with
  | none => rw [hg] at h; cases h
  | some x => have := getAt_len (u := x.1) (m := x.2) hg; show p < p + x.2; omega
theorem e5_gt {l : List UInt8} {p : Nat} (h : k5 l p) : p < e5 l p := by
  obtain ⟨h0, h1, h2, h3, h4⟩ := h
  have g0 := ne_gt h0; have g1 := ne_gt h1; have g2 := ne_gt h2; have g3 := ne_gt h3; have g4 := ne_gt h4
  unfold e5; omega
theorem e5_le (l : List UInt8) (p : Nat) : e5 l p ≤ l.length := ne_le l _
/-- Where reading of rows stands. -/
def FR (l : List UInt8) (f p : Nat) (xs : List TEvt) : Prop := l.length + 1 ≤ f + p ∧ xs ++ (fv l f p).1 = (fvA l).1 ∧ (fv l f p).2 = (fvA l).2
theorem fr_start (l : List UInt8) : FR l (l.length + 1) 0 [] := ⟨by omega, rfl, rfl⟩
theorem fr_go {l : List UInt8} {f p : Nat} {xs : List TEvt} (h : FR l f p xs) (hp : p < l.length) (hk : k5 l p) : FR l (f - 1) (e5 l p) (xs ++ [five l p]) := by
  obtain ⟨h1, h2, h3⟩ := h
  have hg := e5_gt hk
  cases f with
  | zero => omega
  | succ f =>
    rw [fv, if_pos hp, if_pos hk] at h2 h3
    refine ⟨by omega, ?_, ?_⟩
    · rw [Nat.add_sub_cancel, ← h2]; simp
    · rw [Nat.add_sub_cancel, ← h3]
theorem fr_bad {l : List UInt8} {f p : Nat} {xs : List TEvt} (h : FR l f p xs) (hp : p < l.length) (hk : ¬ k5 l p) : (fvA l).2 = (p : Int) := by
  obtain ⟨h1, h2, h3⟩ := h
  cases f with
  | zero => omega
  | succ f => rw [fv, if_pos hp, if_neg hk] at h3; exact h3.symm
theorem fr_end {l : List UInt8} {f p : Nat} {xs : List TEvt} (h : FR l f p xs) (hp : l.length ≤ p) : (fvA l).2 = -1 ∧ xs = (fvA l).1 := by
  obtain ⟨h1, h2, h3⟩ := h
  cases f with
  | zero => rw [fv, List.append_nil] at h2; exact ⟨h3.symm, h2⟩
  | succ f => rw [fv, if_neg (by omega), List.append_nil] at h2; rw [fv, if_neg (by omega)] at h3; exact ⟨h3.symm, h2⟩
theorem fv_len {l : List UInt8} : ∀ {f p : Nat}, p ≤ l.length → (fv l f p).1.length ≤ l.length - p
  | 0, p, _ => by simp [fv]
  | f + 1, p, hp => by
    rw [fv]
    split
    · split
      · rename_i h1 h2
        have h3 := e5_gt h2
        have h4 := fv_len (f := f) (e5_le l p)
        have h5 := e5_le l p
        rw [List.length_cons]; omega
      · simp
    · simp
theorem fvA_len (l : List UInt8) : (fvA l).1.length ≤ l.length := by have := fv_len (l := l) (f := l.length + 1) (Nat.zero_le _); unfold fvA; omega
theorem fr_len {l : List UInt8} {f p : Nat} {xs : List TEvt} (h : FR l f p xs) : xs.length ≤ l.length := by
  have h2 := congrArg List.length h.2.1
  have := fvA_len l
  rw [List.length_append] at h2; omega
theorem fv_bad {l : List UInt8} : ∀ {f p : Nat}, (fv l f p).2 = -1 ∨ (0 ≤ (fv l f p).2 ∧ (fv l f p).2 < l.length)
  | 0, p => .inl rfl
  | f + 1, p => by
    rw [fv]
    split
    · split
      · exact fv_bad (f := f)
      · exact .inr ⟨by omega, by show (p : Int) < _; omega⟩
    · exact .inl rfl
theorem fvA_bad (l : List UInt8) : (fvA l).2 = -1 ∨ (0 ≤ (fvA l).2 ∧ (fvA l).2 < l.length) := fv_bad
theorem fv_ok {l : List UInt8} : ∀ {f p : Nat}, ∀ x ∈ (fv l f p).1, okEvt x
  | 0, p, x, h => by simp [fv] at h
  | f + 1, p, x, h => by
    rw [fv] at h
    split at h
    · split at h
      · rcases List.mem_cons.1 h with rfl | h
        · exact five_ok l p
        · exact fv_ok _ h
      · simp at h
    · simp at h
theorem fvA_ok (l : List UInt8) : ∀ x ∈ (fvA l).1, okEvt x := fv_ok
/-- The rows that there are: none, where there is a fault. -/
def fvR (l : List UInt8) : List TEvt := if (fvA l).2 = -1 then (fvA l).1 else []
end Go.Proofs.YtckmihjekgbcmaaDoor

/- Ranges over a function, in walks that gen/wy.py prints: the caller's law at the plain walk, a round's walk, the iterator's call of yield. -/
namespace Go.Proofs.YtckmihjekgbcmaaDoor
open Go.RowKit Go.WideShapes Go.ChangeShapes

/-- The rounds of a loop that has few. -/
def rnds (P : Program) (c : Code) (Q : Exit → Act → World → Prop) : Nat → Act → World → Prop
  | 0, a, w => c.wp P (Exit.then (fun _ _ => False) Q) a w
  | n + 1, a, w => c.wp P (Exit.then (rnds P c Q n) Q) a w
theorem then_mono' {Q : Exit → Act → World → Prop} {f g : Act → World → Prop} (h : ∀ a w, f a w → g a w) : ∀ e a w, Exit.then f Q e a w → Exit.then g Q e a w := by
  intro e a w
  cases e <;> simp only [Exit.then] <;> first | exact h a w | exact id
theorem wp_loop_rnds {P : Program} {c : Code} {Q : Exit → Act → World → Prop} {a : Act} {w : World} (n : Nat) (h : rnds P c Q n a w) : (Code.loop c).wp P Q a w := by
  refine wp_loop_left (rnds P c Q) n h fun n a w hn => ?_
  cases n with
  | zero => exact wp_mono hn (then_mono' fun _ _ f => f.elim)
  | succ n => exact wp_mono hn (then_mono' fun a' w' f => ⟨n, Nat.lt_succ_self n, f⟩)

/-- The wide fence, in a round or not. -/
abbrev FW (ro : Option Nat) : Fence := { fn := fun _ => True, depth := none, alive := false, round := ro }
def nodefer (o : Oper) : Bool := match o.op with | .defer _ => false | _ => true
theorem fw_calls {ro : Option Nat} {n : Nat} {P : Program} {f : FuncId} {args : Array Value} {w : World} {R : Ending → World → Prop} (h : Calls P f args w R) : CallsIn (FW ro) n P f args w R := by
  cases ro with
  | none => exact callsIn_wide.2 h
  | some l => exact CallsIn.inRound l (callsIn_wide.2 h)

/-- All cells' blocks but those of S are as they were. -/
structure Kc (S : List Nat) (w w' : World) : Prop where
  size : w.heap.size ≤ w'.heap.size
  same : ∀ (j : Nat) (o : Obj), j ∉ S → w.heap[j]? = some o → o.isCells = true → w'.heap[j]? = some o
theorem Kc.of_fr {S : List Nat} {w w' : World} (h : Fr S w w') : Kc S w w' := ⟨h.size, fun j o hj ho _ => (h.block j (Array.getElem?_eq_some_iff.1 ho).1 hj).trans ho⟩
theorem Kc.trans {S : List Nat} {a b c : World} (h : Kc S a b) (k : Kc S b c) : Kc S a c := ⟨Nat.le_trans h.size k.size, fun j o hj ho hc => k.same j o hj (h.same j o hj ho hc) hc⟩
theorem Blk.kc {S : List Nat} {w w' : World} {g : Nat} {cs : Array Value} {t : TypeId} (h : Blk w g cs t) (k : Kc S w w') (n : g ∉ S) : Blk w' g cs t := k.same g _ n h rfl
theorem Reads.kc {S : List Nat} {w w' : World} {A : Option Addr} {cells : List Value} (h : Reads w A cells) (k : Kc S w w') (n : ∀ ad, A = some ad → ad.block ∉ S) : Reads w' A cells := by
  intro j u hj
  obtain ⟨b, off, hA, hc⟩ := h j u hj
  refine ⟨b, off, hA, ?_⟩
  have hb := n _ hA
  unfold World.cell? at hc ⊢
  cases ho : w.heap[b]? with
  | none => simp [ho] at hc
  | some o =>
    cases o with
    | cells cs t fr => rw [k.same b _ hb ho rfl]; simpa [ho] using hc
    | _ => simp [ho] at hc

theorem Fr.of_grown {w w' : World} {g : Nat} (h : w.grownBy w' (some g)) : Fr [g] w w' := ⟨h.os, h.tape, h.output, h.size, fun j hj hn => h.block j hj (fun e => hn (by injection e with e; simp [e]))⟩

/-- The block of a range's deferred calls: none. -/
def Dfr (W : World) (D : Nat) : Prop := W.heap[D]? = some (.deferred (some []))
theorem Dfr.below {W W' : World} {D : Nat} (h : Dfr W D) (k : Below W.heap.size W W') : Dfr W' D := (k.block D (Array.getElem?_eq_some_iff.1 h).1).trans h
theorem Dfr.kept {W W' : World} {D g : Nat} {cs : Array Value} {t : TypeId} (h : Dfr W D) (hB : Blk W g cs t) (k : W.grownBy W' (some g)) : Dfr W' D :=
  (k.block D (Array.getElem?_eq_some_iff.1 h).1 (fun e => by injection e with e; subst e; unfold Dfr at h; unfold Blk at hB; rw [hB] at h; injection h with h; cases h)).trans h
theorem Dfr.ne {W : World} {D g : Nat} {cs : Array Value} {t : TypeId} (h : Dfr W D) (hB : Blk W g cs t) : g ≠ D := fun e => by subst e; unfold Dfr at h; unfold Blk at hB; rw [hB] at h; injection h with h; cases h
theorem Dfr.fr {S : List Nat} {W W' : World} {D : Nat} (h : Dfr W D) (k : Fr S W W') (n : D ∉ S) : Dfr W' D := (k.block D (Array.getElem?_eq_some_iff.1 h).1 n).trans h

section
variable {ro : Option Nat} {n : Nat} {P : Program} {ops : Array Oper} {o : Oper} {rest : List Oper} {a : Act} {w : World} {Q : Exit → Act → World → Prop}
theorem si_sem (hd : nodefer o = true) : o.semAt (FW ro).round a.eval = execOp a.eval o := Oper.semAt_eq _ _ _ (fun c h => by simp [nodefer, h] at hd)
theorem si_value {v : Value} (hw : Region.wanted o (yielded ops a.tmps) = true) (h : (execOp a.eval o).run P w = .ok (.value v) w) (k : wpListIn (FW ro) n P ops Q rest (a.put o.dst v) w) (hd : nodefer o = true := by rfl) : wpListIn (FW ro) n P ops Q (o :: rest) a w := by
  unfold wpListIn
  rw [if_pos hw]
  refine ⟨fun _ _ => trivial, ?_⟩
  rw [si_sem hd, h]
  exact k
theorem si_mv (v : Value) (k : wpListIn (FW ro) n P ops Q rest (a.put o.dst v) w) (hw : Region.wanted o (yielded ops a.tmps) = true := by rfl) (h : (execOp a.eval o).run P w = .ok (.value v) w := by rfl) (hd : nodefer o = true := by rfl) : wpListIn (FW ro) n P ops Q (o :: rest) a w := si_value hw h k hd
theorem si_not (hw : Region.wanted o (yielded ops a.tmps) = false) (k : wpListIn (FW ro) n P ops Q rest (a.put o.dst undef) w) : wpListIn (FW ro) n P ops Q (o :: rest) a w := by
  unfold wpListIn
  rw [if_neg (by simp [hw])]
  exact ⟨fun _ _ => trivial, k⟩
theorem si_nob {j t : Nat} {b c : Bool} (hg : o.guard = some (j, b)) {p : Oper} (hp : ops[j]? = some p) (hd : p.dst = some t) (hv : a.tmps[t]? = some (.bool c)) (hc : (c == b) = false) (k : wpListIn (FW ro) n P ops Q rest (a.put o.dst undef) w) : wpListIn (FW ro) n P ops Q (o :: rest) a w := by
  refine si_not ?_ k
  simp only [Region.wanted, hg, yielded, hp, Option.bind_some, hd, hv]
  simpa using hc
theorem si_nou {j t : Nat} {b : Bool} (hg : o.guard = some (j, b)) {p : Oper} (hp : ops[j]? = some p) (hd : p.dst = some t) (hv : a.tmps[t]? = some undef) (k : wpListIn (FW ro) n P ops Q rest (a.put o.dst undef) w) : wpListIn (FW ro) n P ops Q (o :: rest) a w := by
  refine si_not ?_ k
  simp only [Region.wanted, hg, yielded, hp, Option.bind_some, hd, hv]
  rfl
theorem si_call {g : FuncId} {args : Array Value} {R : Value → World → Prop} (hw : Region.wanted o (yielded ops a.tmps) = true) (h : (execOp a.eval o).run P w = .ok (.enter g args) w)
    (c : Calls P g args w fun e w' => ∃ v, e = .returned v ∧ R v w') (k : ∀ v w', R v w' → wpListIn (FW ro) n P ops Q rest (a.put o.dst v) w') (hd : nodefer o = true := by rfl) : wpListIn (FW ro) n P ops Q (o :: rest) a w := by
  unfold wpListIn
  rw [if_pos hw]
  refine ⟨fun _ _ => trivial, ?_⟩
  rw [si_sem hd, h, Oper.uponIn_enter]
  exact ⟨fun h => (by cases h), fw_calls (c.mono fun e w' ⟨v, he, hr⟩ => by subst he; exact k _ _ hr)⟩
theorem si_call1 {g : FuncId} {args : Array Value} {v : Value} {R : World → Prop} (hw : Region.wanted o (yielded ops a.tmps) = true) (h : (execOp a.eval o).run P w = .ok (.enter g args) w)
    (c : Calls P g args w fun e w' => e = .returned v ∧ R w') (k : ∀ w', R w' → wpListIn (FW ro) n P ops Q rest (a.put o.dst v) w') (hd : nodefer o = true := by rfl) : wpListIn (FW ro) n P ops Q (o :: rest) a w :=
  si_call (R := fun u w' => u = v ∧ R w') hw h (c.mono fun _ _ ⟨h1, h2⟩ => ⟨v, h1, rfl, h2⟩) (fun _ w' ⟨h1, h2⟩ => h1 ▸ k w' h2) hd
theorem si_cell {g i : Nat} {cs : Array Value} {v : Value} {t : TypeId} (hw : Region.wanted o (yielded ops a.tmps) = true) (h : (execOp a.eval o).run P w = .ok .skip (w.setCell ⟨g, i, none⟩ v)) (hg : Blk w g cs t)
    (k : ∀ w', Blk w' g (cs.setIfInBounds i v) t → w.grownBy w' (some g) → wpListIn (FW ro) n P ops Q rest (a.put o.dst undef) w') (hd : nodefer o = true := by rfl) : wpListIn (FW ro) n P ops Q (o :: rest) a w := by
  unfold wpListIn
  rw [if_pos hw]
  refine ⟨fun _ _ => trivial, ?_⟩
  rw [si_sem hd, h]
  exact k _ (hg.set i v) ⟨rfl, rfl, rfl, by simp [World.setCell], fun k _ hk => Below.heap_setCell _ _ _ _ (fun e => hk (by rw [e]))⟩
theorem si_new {cs : Array Value} {t : TypeId} (hw : Region.wanted o (yielded ops a.tmps) = true) (h : (execOp a.eval o).run P w = .ok (.value (.pointer (some ⟨w.heap.size, 0, none⟩))) (w.alloc (.cells cs t)))
    (k : ∀ g w', Blk w' g cs t → Below w.heap.size w w' → w.heap.size ≤ g → wpListIn (FW ro) n P ops Q rest (a.put o.dst (.pointer (some ⟨g, 0, none⟩))) w') (hd : nodefer o = true := by rfl) : wpListIn (FW ro) n P ops Q (o :: rest) a w := by
  unfold wpListIn
  rw [if_pos hw]
  refine ⟨fun _ _ => trivial, ?_⟩
  rw [si_sem hd, h]
  exact k _ _ (Blk.new _ _ _ _ rfl) (bl_alloc (Below.refl _ _) _) (Nat.le_refl _)
/-- The iterator's call of yield. -/
theorem run_yield2 {x y z : Operand} {ts : Array TypeId} (ho : o.op = .call { callee := .value x, args := #[y, z], argTypes := ts }) {l : Nat} {u v : Value} (hx : a.eval x = .func (.yield l) #[] #[]) (hy : a.eval y = u) (hz : a.eval z = v) {fn : FuncId} {tmps : Array Value} {assign body : Code}
    (hr : (Instr.yield l #[u, v]).run P w = .ok (.round l fn tmps assign body) w) : (execOp a.eval o).run P w = .ok (.round l fn tmps assign body) w := by
  subst hy hz
  unfold execOp
  simp only [ho]
  generalize a.eval = ρ at *
  simp [go_sem, resolve, hx, hr]
theorem si_yield {x y z : Operand} {ts : Array TypeId} (ho : o.op = .call { callee := .value x, args := #[y, z], argTypes := ts }) {l : Nat} {u v : Value} (hw : Region.wanted o (yielded ops a.tmps) = true) (hx : a.eval x = .func (.yield l) #[] #[]) (hy : a.eval y = u) (hz : a.eval z = v) {R1 R2 : World → Prop}
    (Y : YieldAt Fence.wide n P l #[u, v] w fun e w' => (e = .returned (.bool true) ∧ R1 w') ∨ (e = .returned (.bool false) ∧ R2 w'))
    (k1 : ∀ w', R1 w' → wpListIn (FW none) (n + 1) P ops Q rest (a.put o.dst (.bool true)) w') (k2 : ∀ w', R2 w' → wpListIn (FW none) (n + 1) P ops Q rest (a.put o.dst (.bool false)) w') (hd : nodefer o = true := by rfl) : wpListIn (FW none) (n + 1) P ops Q (o :: rest) a w := by
  obtain ⟨fn, tmps, assign, body, h1, h2⟩ := Y
  unfold wpListIn
  rw [if_pos hw]
  refine ⟨fun _ _ => trivial, ?_⟩
  rw [si_sem hd, run_yield2 ho hx hy hz h1, Oper.uponIn_round]
  refine ⟨fun h => (by cases h), ?_⟩
  rw [Nat.add_sub_cancel]
  refine RoundIn.mono (F := FW none) h2 ?_
  rintro e w' (⟨rfl, h⟩ | ⟨rfl, h⟩)
  · exact k1 _ h
  · exact k2 _ h
theorem wp_region_wide {id : Nat} {l : List Oper} (n : Nat) (h : wpListIn (FW none) n P l.toArray Q l a w) : (Code.region id l.toArray false).wp P Q a w := (wpIn_wide (n := n)).1 (wpIn_region_lit h)
end

/-- How a round may be left: it goes on, or it leaves the function. -/
def rPost (S : List Nat) (I Ix : World → Prop) (W : World) : Exit → Act → World → Prop
  | .normal, _, W' => Fr S W W' ∧ I W'
  | .ret, _, W' => Fr S W W' ∧ Ix W'
  | _, _, _ => False

/-- What is said of a world bears whatever is done to what is no cells, from B on; or new blocks. -/
def Abd (B : Nat) (I : World → Prop) : Prop := ∀ (A A' : World) (row : Option Nat), I A → A.grownBy A' row → (∀ r, row = some r → B ≤ r ∧ ∃ o : Obj, A.heap[r]? = some o ∧ o.isCells = false) → I A'
theorem Abd.alloc {B : Nat} {I : World → Prop} (h : Abd B I) {W : World} (o : Obj) (hi : I W) : I (W.alloc o) := h W _ none hi (World.grownBy_alloc W o none) (fun r e => by cases e)
theorem Abd.put {B : Nat} {I : World → Prop} (h : Abd B I) {W : World} {l : Nat} {o : Obj} (o' : Obj) (hi : I W) (hB : B ≤ l) (hl : W.heap[l]? = some o) (ho : o.isCells = false) : I (W.putObj l o') :=
  h W _ (some l) hi (grownBy_putObj' W l o') (fun r e => by cases e; exact ⟨hB, o, hl, ho⟩)

/-- An iterator: it hands yield the values ev 0, ev 1, .. up to ev m; a round may change the blocks of S and make new ones. -/
def SeqAt (P : Program) (gf : FuncId) (lb : Array Value) (m : Nat) (ev : Nat → Array Value) (S : List Nat) (w : World) : Prop :=
  ∀ (l : Nat) (J : Nat → World → Prop) (Jx : World → Prop) (W : World), Below w.heap.size w W → (∀ k A B, J k A → Below A.heap.size A B → J k B) →
    (∀ k A, J k A → k < m → YieldAt Fence.wide 1 P l (ev k) A fun e W' => (e = .returned (.bool true) ∧ J (k + 1) W' ∧ Kc S A W') ∨ (e = .returned (.bool false) ∧ Jx W')) →
    J 0 W → Calls P gf (#[.func (.yield l) #[] #[]] ++ lb) W fun e W' => (∃ v, e = .returned v) ∧ (J m W' ∨ Jx W')

abbrev mark (D : Nat) : Deferred := { target := .collected D, args := #[] }
/-- The caller's law. -/
theorem wp_range {P : Program} {g : Operand} {ps : Array Tmp} {assign body : Code} {Q : Exit → Act → World → Prop} {a : Act} {w : World} {gf : Nat} {lb : Array Value}
    (hg : a.eval g = .func (.func gf) #[] lb) (hdf : a.defers = []) (eg : ∀ args w, (callFunc gf args).run P w = .ok (.enter gf args) w) {m : Nat} {ev : Nat → Array Value} {S : List Nat} (hS : ∀ j, j ∈ S → j < w.heap.size)
    (hseq : SeqAt P gf lb m ev S w) (hps : ∀ k, (ev k).size = ps.size) (I Ix : Nat → World → Prop) (hI : ∀ k, Abd w.heap.size (I k)) (hIx : ∀ k, Abd w.heap.size (Ix k)) (h0 : I 0 w) (a₁ : Nat → Act)
    (hassign : ∀ (l k : Nat) (W : World) (K : Act → World → Prop), K (a₁ k) W → assign.wpIn (FW (some l)) 1 P (Exit.then K (fun _ _ _ => False)) { tmps := (ps.zip (ev k)).foldl (fun t (p, v) => t.setIfInBounds p v) a.tmps, defers := [] } W)
    (hbody : ∀ (l k : Nat) (W : World), I k W → k < m → body.wpIn (FW (some l)) 1 P (rPost S (I (k + 1)) (Ix k) W) (a₁ k) W)
    (hdone : ∀ (D : Nat) (W : World), w.heap.size ≤ D → I m W → Dfr W D → Q .normal { tmps := a.tmps, defers := [mark D] } W)
    (hstop : ∀ (D k : Nat) (W : World), w.heap.size ≤ D → k < m → Ix k W → Dfr W D → Q .ret { tmps := a.tmps, defers := [mark D] } W) :
    (Code.rangeFunc g ps assign body).wp P Q a w := by
  refine (wpIn_wide (n := 3)).1 (wpIn_rangeFunc ?_)
  intro fn _
  obtain ⟨rec, hrec⟩ : ∃ rec : LoopState → Option Code → Loop, rec = fun st pe => { state := st, pending := pe, fn, tmps := a.tmps, params := ps, assign, body, defers := w.heap.size } := ⟨_, rfl⟩
  obtain ⟨W1, hW1⟩ : ∃ W1, (w.alloc (.deferred (some []))).alloc (.loop (rec .ready none)) = W1 := ⟨_, rfl⟩
  have hL1 : W1.heap[w.heap.size + 1]? = some (.loop (rec .ready none)) := by
    rw [← hW1]; have := World.alloc_heap_new (w.alloc (.deferred (some []))) (.loop (rec .ready none)); rwa [World.size_alloc] at this
  have hK1 : Dfr W1 w.heap.size := by
    rw [← hW1]; exact (Below.heap_alloc _ _ _ (by simp)).trans (World.alloc_heap_new w _)
  have hI1 : I 0 W1 := by rw [← hW1]; exact (hI 0).alloc _ ((hI 0).alloc _ h0)
  have hb1 : Below w.heap.size w W1 := by rw [← hW1]; exact ((Below.refl _ w).alloc (Nat.le_refl _) _).alloc (by simp) _
  refine ⟨w.heap.size + 1, [mark w.heap.size], W1, { target := .fn (.func gf) lb, args := #[.func (.yield (w.heap.size + 1)) #[] #[]] }, W1, gf, #[.func (.yield (w.heap.size + 1)) #[] #[]] ++ lb, W1, ?_, ?_, fun _ _ => trivial, ?_, fun h => (by cases h), ?_⟩
  · rw [← hW1, hrec]; exact run_enterLoop_outer _ _ _ _ _
  · simp only [resolve, hg]
    simp [go_sem]
  · simp [invoke, go_sem, eg]
  · refine fw_calls (ro := none) ?_
    refine (hseq (w.heap.size + 1) (fun k W => I k W ∧ W.heap[w.heap.size + 1]? = some (.loop (rec .ready none)) ∧ Dfr W w.heap.size)
      (fun W => ∃ k, k < m ∧ Ix k W ∧ W.heap[w.heap.size + 1]? = some (.loop (rec .done (some .ret))) ∧ Dfr W w.heap.size) W1 hb1 ?_ ?_ ⟨hI1, hL1, hK1⟩).mono ?_
    · rintro k A B ⟨hi, hl, hk⟩ hb
      exact ⟨hI k A B none hi ⟨hb.os, hb.tape, hb.output, hb.size, fun j hj _ => hb.block j hj⟩ (fun r e => by cases e), (hb.block _ (Array.getElem?_eq_some_iff.1 hl).1).trans hl, hk.below hb⟩
    · rintro k W ⟨hi, hl, hk⟩ hlt
      have hy := run_yield (P := P) (args := ev k) hl (by rw [hrec]; exact hps k)
      rw [hrec] at hy
      refine ⟨fn, _, assign, body, hy, roundIn_of_wpIn trivial (hassign _ k W _ ⟨_, run_beginRound hl (by rw [hrec]), ?_⟩)⟩
      have hlW : w.heap.size + 1 < W.heap.size := (Array.getElem?_eq_some_iff.1 hl).1
      have hl2 : (W.putObj (w.heap.size + 1) (.loop { rec .ready none with state := .busy })).heap[w.heap.size + 1]? = some (.loop { rec .ready none with state := .busy }) := World.putObj_heap_same hlW
      have hk2 : Dfr (W.putObj (w.heap.size + 1) (.loop { rec .ready none with state := .busy })) w.heap.size := (World.putObj_heap_other (by omega)).trans hk
      have kcp : ∀ (V : World) (r : Loop) (o : Obj), V.heap[w.heap.size + 1]? = some (.loop r) → Kc S V (V.putObj (w.heap.size + 1) o) := fun V r o hv => ⟨by simp, fun j o2 _ hj hc => (World.putObj_heap_other (fun e => by subst e; rw [hv] at hj; injection hj with hj; subst hj; cases hc)).trans hj⟩
      have fin : ∀ (jump : Option Code) (W3 : World), Fr S (W.putObj (w.heap.size + 1) (.loop { rec .ready none with state := .busy })) W3 →
          (Instr.endRound (w.heap.size + 1) jump).run P W3 = .ok (.bool jump.isNone) (W3.putObj (w.heap.size + 1) (.loop (rec (if jump.isNone then .ready else .done) jump))) ∧
          W3.heap[w.heap.size + 1]? = some (.loop { rec .ready none with state := .busy }) ∧
          (W3.putObj (w.heap.size + 1) (.loop (rec (if jump.isNone then .ready else .done) jump))).heap[w.heap.size + 1]? = some (.loop (rec (if jump.isNone then .ready else .done) jump)) ∧
          Dfr (W3.putObj (w.heap.size + 1) (.loop (rec (if jump.isNone then .ready else .done) jump))) w.heap.size := fun jump W3 hf => by
        have hl3 := (hf.block (w.heap.size + 1) (by simpa using hlW) (fun e => by have := hS _ e; omega)).trans hl2
        have hk3 := hk2.fr hf (fun e => by have := hS _ e; omega)
        have := run_endRound (P := P) jump hl3
        rw [hrec] at this ⊢
        exact ⟨this, by rw [hrec] at hl3; exact hl3, World.putObj_heap_same (Array.getElem?_eq_some_iff.1 hl3).1, (World.putObj_heap_other (by omega)).trans hk3⟩
      refine wpIn_mono (hbody _ k _ ((hI k).put _ hi (by omega) hl rfl) hlt) ?_
      intro e a3 W3 hp
      cases e with
      | normal =>
        obtain ⟨hf, hi3⟩ := hp
        obtain ⟨hr, hl3, hl4, hk4⟩ := fin none W3 hf
        exact ⟨_, _, hr, .inl ⟨rfl, ⟨(hI _).put _ hi3 (by omega) hl3 rfl, hl4, hk4⟩, ((kcp W _ _ hl).trans (Kc.of_fr hf)).trans (kcp W3 _ _ hl3)⟩⟩
      | ret =>
        obtain ⟨hf, hi3⟩ := hp
        obtain ⟨hr, hl3, hl4, hk4⟩ := fin (some .ret) W3 hf
        exact ⟨_, _, hr, .inr ⟨rfl, k, hlt, (hIx _).put _ hi3 (by omega) hl3 rfl, hl4, hk4⟩⟩
      | exit id => exact hp.elim
      | goto t => exact hp.elim
      | panic c => exact hp.elim
      | outgrown => exact hp.elim
    · rintro e W2 ⟨⟨v, rfl⟩, (⟨hi, hl, hk⟩ | ⟨k, hlt, hi, hl, hk⟩)⟩
      · refine ⟨none, _, by have := run_endLoop (P := P) hl (by rw [hrec]; simp); rw [hrec] at this; exact this, ?_⟩
        rw [hdf]
        exact hdone _ _ (Nat.le_refl _) ((hI m).put _ hi (by omega) hl rfl) ((World.putObj_heap_other (by omega)).trans hk)
      · refine ⟨some .ret, _, by have := run_endLoop (P := P) hl (by rw [hrec]; simp); rw [hrec] at this; exact this, ?_⟩
        rw [hdf]
        exact wpIn_ret (hstop _ k _ (Nat.le_refl _) hlt ((hIx k).put _ hi (by omega) hl rfl) ((World.putObj_heap_other (by omega)).trans hk))

/-! ### a function that holds such a loop, as it is left -/
theorem calls_marks {P : Program} {f : FuncId} {fn : Func} {c : Code} {args : Array Value} {w : World} {R : Ending → World → Prop} (hf : P.funcs[f]? = some fn) (hb : fn.body = some c)
    (h : c.wp P (bodyPostM Fence.wide 3 P fn R) { tmps := args ++ Array.replicate (fn.ntmps - args.size) undef, defers := [] } w) : Calls P f args w R := callsIn_wide.1 (callsIn_of_wp_marks (n := 3) hf hb trivial (wpIn_wide.2 h))
theorem results_cell1 {P : Program} {fn : Func} {p : Tmp} {ty t : TypeId} (h : fn.results = #[.cell p ty]) (T : One P ty) {tmps : Array Value} {w : World} {g : Nat} {v : Value} (hp : tmps.getD p undef = .pointer (some ⟨g, 0, none⟩)) (hB : Blk w g #[v] t) : (results fn tmps).run P w = .ok v w := by
  obtain ⟨d, i, h1, h2, h3, h4⟩ := T
  have hagg : (isAgg ty).run P w = .ok false w := by
    unfold isAgg
    rw [Sem.run_bind, run_underlying h1 w]
    cases d <;> simp_all [plainT]
  have hc : w.cell? ⟨g, 0, none⟩ = some v := by rw [hB.cell]; rfl
  have hp' : tmps[p]?.getD undef = .pointer (some ⟨g, 0, none⟩) := by simpa using hp
  simp only [results, h]
  simp [Sem.run_bind, hp', asAddr, loadVar, hagg, hc]
theorem postM_ret {P : Program} {fn : Func} {R : Ending → World → Prop} {a : Act} {w : World} {v : Value} (hr : (results fn a.tmps).run P w = .ok v w) (hd : a.defers = []) (hR : R (.returned v) w) : bodyPostM Fence.wide 3 P fn R .ret a w := by
  show LeavesInM _ _ _ _ _ _ _ _ _
  rw [hd]
  exact ⟨v, hr, hR⟩
theorem postM_mark {P : Program} {fn : Func} {R : Ending → World → Prop} {a : Act} {w : World} {v : Value} {D : Nat} (hd : a.defers = [mark D]) (hD : Dfr w D) (hr : (results fn a.tmps).run P (w.putObj D (.deferred none)) = .ok v (w.putObj D (.deferred none))) (hR : R (.returned v) (w.putObj D (.deferred none))) : bodyPostM Fence.wide 3 P fn R .ret a w := by
  show LeavesInM _ _ _ _ _ _ _ _ _
  rw [hd]
  refine ⟨by simp, .inl ⟨_, _, rfl, run_takeDeferred hD, ?_⟩⟩
  exact ⟨v, hr, hR⟩
theorem Blk.putD {w : World} {D g : Nat} {cs : Array Value} {t : TypeId} (h : Blk w g cs t) (hD : Dfr w D) (o : Obj) : Blk (w.putObj D o) g cs t := (World.putObj_heap_other (hD.ne h)).trans h
theorem bl_putD {B : Nat} {w0 w : World} {D : Nat} (h : Below B w0 w) (hD : B ≤ D) (o : Obj) : Below B w0 (w.putObj D o) :=
  ⟨h.os, h.tape, h.output, by simpa using h.size, fun k hk => (World.putObj_heap_other (by omega)).trans (h.block k hk)⟩
theorem fr_putD {S : List Nat} {w0 w : World} {D : Nat} (h : Fr S w0 w) (hD : w0.heap.size ≤ D) (o : Obj) : Fr S w0 (w.putObj D o) :=
  ⟨h.os, h.tape, h.output, by simpa using h.size, fun k hk hn => (World.putObj_heap_other (by omega)).trans (h.block k hk hn)⟩
/-- What came in is read on, whatever happens to blocks that came later. -/
theorem Reads.frS {S : List Nat} {w0 W W' : World} {A : Option Addr} {cells : List Value} (h0 : Reads w0 A cells) (hS : ∀ j, j ∈ S → w0.heap.size ≤ j) (h : Reads W A cells) (k : Fr S W W') : Reads W' A cells := by
  intro j u hj
  obtain ⟨b, off, hA, hc⟩ := h j u hj
  refine ⟨b, off, hA, ?_⟩
  obtain ⟨b', off', hA', hc'⟩ := h0 j u hj
  rw [hA] at hA'; injection hA' with e; injection e with e1 e2; subst e1 e2
  have hb := World.block_lt_of_cell? w0 _ hc'
  have hb2 := World.block_lt_of_cell? W _ hc
  have : b ∉ S := fun e => by have := hS b e; simp at hb; omega
  exact (World.cell?_of_block (k.block b (by simpa using hb2) this)).trans hc
theorem lt1 {m r : Nat} (h : r < m) : ∀ j, j ∈ [r] → j < m := by simpa using h
theorem lt2 {m r b : Nat} (h : r < m) (k : b < m) : ∀ j, j ∈ [r, b] → j < m := by simp [h, k]
theorem lt3 {m r b c : Nat} (h : r < m) (k : b < m) (l : c < m) : ∀ j, j ∈ [r, b, c] → j < m := by simp [h, k, l]
theorem lt4 {m r b c d : Nat} (h : r < m) (k : b < m) (l : c < m) (q : d < m) : ∀ j, j ∈ [r, b, c, d] → j < m := by simp [h, k, l, q]
theorem lo3 {m r b c : Nat} (h : m ≤ r) (k : m ≤ b) (l : m ≤ c) : ∀ j, j ∈ [r, b, c] → m ≤ j := by simp [h, k, l]
theorem lo4 {m r b c d : Nat} (h : m ≤ r) (k : m ≤ b) (l : m ≤ c) (q : m ≤ d) : ∀ j, j ∈ [r, b, c, d] → m ≤ j := by simp [h, k, l, q]
theorem ni3 {g r b c : Nat} (h : g ≠ r) (k : g ≠ b) (l : g ≠ c) : g ∉ [r, b, c] := by simp [h, k, l]
theorem ni4 {g r b c d : Nat} (h : g ≠ r) (k : g ≠ b) (l : g ≠ c) (q : g ≠ d) : g ∉ [r, b, c, d] := by simp [h, k, l, q]
/-- What holds of cells holds behind a turn of what is no cells. -/
theorem Blk.own {W W' : World} {row : Option Nat} {g : Nat} {cs : Array Value} {t : TypeId} (h : Blk W g cs t) (hg : W.grownBy W' row) (hr : ∀ r, row = some r → ∃ o : Obj, W.heap[r]? = some o ∧ o.isCells = false) : Blk W' g cs t :=
  (hg.block g h.lt (fun e => by obtain ⟨o, ho, hc⟩ := hr g e.symm; unfold Blk at h; rw [h] at ho; injection ho with ho; subst ho; cases hc)).trans h
theorem Reads.own {W W' : World} {row : Option Nat} {A : Option Addr} {cells : List Value} (h : Reads W A cells) (hg : W.grownBy W' row) (hr : ∀ r, row = some r → ∃ o : Obj, W.heap[r]? = some o ∧ o.isCells = false) : Reads W' A cells := by
  intro j u hj
  obtain ⟨b, off, hA, hc⟩ := h j u hj
  exact ⟨b, off, hA, cell_kept hc hg hr⟩
theorem bl_own {w0 w W W' : World} {row : Option Nat} (h : Below w0.heap.size w0 W) (hs : w0.heap.size ≤ w.heap.size) (hg : W.grownBy W' row) (hr : ∀ r, row = some r → w.heap.size ≤ r) : Below w0.heap.size w0 W' := h.grown hg h.size (fun k e => Nat.le_trans hs (hr k e))
theorem fr_own' {S : List Nat} {w0 w W W' : World} {row : Option Nat} (h : Fr S w0 W) (hs : w0.heap.size ≤ w.heap.size) (hg : W.grownBy W' row) (hr : ∀ r, row = some r → w.heap.size ≤ r) : Fr S w0 W' :=
  ⟨hg.os.trans h.os, hg.tape.trans h.tape, hg.output.trans h.output, Nat.le_trans h.size hg.size, fun j hj hn => (hg.block j (Nat.lt_of_lt_of_le hj h.size) (fun e => by have := hr j e.symm; omega)).trans (h.block j hj hn)⟩
/-- A row of the iterator's own lies beyond what rounds may change. -/
theorem OwnR.notin {α : Type} {w : World} {base : Nat} {e : TypeId} {E : Enc α} {A : Option Addr} {l c : Nat} {xs : List α} (h : OwnR w base e E (.slice A l c) xs) {S : List Nat} (hS : ∀ j, j ∈ S → j < base) : ∀ ad, A = some ad → ad.block ∉ S := by
  rintro ad rfl hb
  have := (h.lt ad.block rfl).1
  have := hS _ hb
  omega
theorem gb_none {w w' : World} (h : Below w.heap.size w w') : w.grownBy w' none := ⟨h.os, h.tape, h.output, h.size, fun j hj _ => h.block j hj⟩
theorem Below.own {B : Nat} {w W W' : World} {row : Option Nat} (h : Below B w W) (hB : B ≤ W.heap.size) (hg : W.grownBy W' row) (hr : ∀ r, row = some r → B ≤ r) : Below B w W' := h.grown hg hB (fun k e => hr k e)
theorem Fr.own {S : List Nat} {w W W' : World} {row : Option Nat} (h : Fr S w W) (hg : W.grownBy W' row) (hr : ∀ r, row = some r → w.heap.size ≤ r) : Fr S w W' :=
  ⟨hg.os.trans h.os, hg.tape.trans h.tape, hg.output.trans h.output, Nat.le_trans h.size hg.size, fun j hj hn => (hg.block j (Nat.lt_of_lt_of_le hj h.size) (fun e => by have := hr j e.symm; omega)).trans (h.block j hj hn)⟩
end Go.Proofs.YtckmihjekgbcmaaDoor

/- The document's rows of five numbers. -/
namespace Go.Proofs.YtckmihjekgbcmaaDoor
open Go.RowKit Go.WideShapes Go.ChangeShapes
set_option linter.unusedSimpArgs false
set_option linter.unusedVariables false

theorem v_zero_73 : ZeroOf Tryd.prog 73 #[.int .i64 0, .int .i64 0, .int .i64 0, .int .i64 0, .int .i64 0] := zeroOf (z := .agg #[.int .i64 0, .int .i64 0, .int .i64 0, .int .i64 0, .int .i64 0]) (by kernel_rfl) rfl
theorem v_one_3 : One Tryd.prog 3 := one_of Tryd.underlying3 rfl (by kernel_rfl)
theorem v_run_call_9_2 {o : Oper} {a : Act} (x0 : Operand) (x1 : Operand) {ts : Array TypeId} (ho : o.op = .call { callee := .value (.func 9), args := #[x0, x1], argTypes := ts }) {v0 : Value} (h0 : a.eval x0 = v0) {v1 : Value} (h1 : a.eval x1 = v1) (W : World) : (execOp a.eval o).run Tryd.prog W = .ok (.enter 9 #[v0, v1]) W := by
  unfold execOp
  simp only [ho]
  subst h0 h1
  go_simp
theorem v_run_lit_48_1 {o : Oper} {a : Act} (x0 : Operand) (ho : o.op = .buildSlice 48 1 #[(0, x0)]) {m0 : TEvt} (h0 : a.eval x0 = .agg #[.int .i64 m0.1, .int .i64 m0.2.1, .int .i64 m0.2.2.1, .int .i64 m0.2.2.2.1, .int .i64 m0.2.2.2.2]) (W : World) : (execOp a.eval o).run Tryd.prog W = .ok (.value (.slice (some ⟨W.heap.size, 0, none⟩) 1 1)) (W.alloc (.cells #[.int .i64 m0.1, .int .i64 m0.2.1, .int .i64 m0.2.2.1, .int .i64 m0.2.2.2.1, .int .i64 m0.2.2.2.2] 73)) := by
  unfold execOp
  simp only [ho, List.map_toArray, List.map_cons, List.map_nil, h0]
  go_simp
def nm (l : List UInt8) (p : Nat) : Nat := match getAt l p with | some (_, m) => m | none => 0
theorem gres2_tot (l : List UInt8) (p : Nat) : gres2 (getAt l p) = .tuple #[.int .i64 (nv l p), .int .i64 ((nm l p : Nat) : Int)] := by
  unfold nv nm
  cases getAt l p with
  | none => rfl
  | some x => rfl
theorem refGet_tot (A : Option Addr) (l : List UInt8) (cap p : Nat) (hcap : l.length ≤ cap) (hl : l.length ≤ 10000000) (hp : p ≤ l.length) (w : World) (hr : Reads w A (eByte.all l)) : Calls Tryd.prog 9 #[.slice A l.length cap, .int .i64 (p : Int)] w fun e w' => e = .returned (.tuple #[.int .i64 (nv l p), .int .i64 ((nm l p : Nat) : Int)]) ∧ Below w.heap.size w w' := by
  rw [← gres2_tot]; exact refGet_in A l cap p hcap hl hp w hr
theorem nm_yes {l : List UInt8} {p : Nat} (h : nm l p ≠ 0) : nk l p = true := by
  unfold nm at h; unfold nk
  cases hg : getAt l p with
  | none => rw [hg] at h; exact absurd rfl h
  | some x => rfl
theorem nm_no {l : List UInt8} {p : Nat} (h : nm l p = 0) : nk l p = false := by
  unfold nm at h; unfold nk
  cases hg : getAt l p with
  | none => rfl
  | some x => rw [hg] at h; have := getAt_len (u := x.1) (m := x.2) hg; simp at h; omega
theorem nm_ne {l : List UInt8} {p : Nat} (h : nk l p = true) : ne l p = p + nm l p := by
  unfold nk at h; unfold nm ne
  cases hg : getAt l p with
  | none => rw [hg] at h; cases h
  | some x => rfl
theorem slArr : SlT Tryd.prog 48 73 eEvt 40 := slT_of Tryd.underlying48 (z := .agg #[.int .i64 0, .int .i64 0, .int .i64 0, .int .i64 0, .int .i64 0]) (by kernel_rfl) rfl (by decide) (by omega)
theorem aggArr : AggT Tryd.prog 73 5 := aggT Tryd.underlying73 rfl (by kernel_rfl)

attribute [local irreducible] Go.wpList Go.Code.wp
set_option maxRecDepth 100000 in
set_option maxHeartbeats 4000000 in
theorem fives_calls (A : Option Addr) (l : List UInt8) (cap : Nat) (hcap : l.length ≤ cap) (hl : l.length ≤ 100000) (w : World) (hr : Reads w A (eByte.all l)) : Calls Tryd.prog 17 #[.slice A l.length cap] w fun e w' => ∃ u, e = .returned u ∧ ∃ v, u = .tuple #[v, .int .i64 (fvA l).2] ∧ OwnR w' w.heap.size 73 eEvt v (fvR l) ∧ Below w.heap.size w w' := by
  have bel : Below w.heap.size w w := Below.refl _ _
  go_enter Tryd.func17, Tryd.ntmps17
  refine wp_seq ?_
  refine wp_region_lit ?_
  refine st_mv (.slice none 0 0) ?_
  simp only [nf0, nf1, nf2, nf3, nf4]
  refine st_mv (.int .i64 0) ?_
  simp only [nf0, nf1, nf2, nf3, nf4]
  refine wpList_nil ?_
  show Code.wp _ _ _ _ _
  refine wp_seq ?_
  refine wp_region_lit ?_
  have O1 : OwnR w w.heap.size 73 eEvt (.slice none 0 0) [] := OwnR.nil _ _ _ _
  refine st_mv (.slice none 0 0) ?_
  simp only [nf0, nf1, nf2, nf3, nf4]
  refine wpList_nil ?_
  show Code.wp _ _ _ _ _
  refine wp_seq ?_
  refine wp_region_lit ?_
  refine st_mv (.int .i64 0) ?_
  simp only [nf0, nf1, nf2, nf3, nf4]
  refine wpList_nil ?_
  show Code.wp _ _ _ _ _
  refine wp_seq ?_
  refine wp_block ?_
  refine wp_loop_left (fun n_ a_ wr_ => (fun J3 => ∃ (p : Nat) (f : Nat) (xs : List TEvt) (vv : Value), n_ = l.length - p ∧ a_ = ⟨#[.slice A l.length cap, J3 1, J3 2, J3 3, vv, .int .i64 (p : Int), J3 6, J3 7, J3 8, J3 9, J3 10, J3 11, J3 12, J3 13, J3 14, J3 15, J3 16, J3 17, J3 18, J3 19, J3 20, J3 21, J3 22, J3 23, J3 24, J3 25, J3 26, J3 27, J3 28, J3 29, J3 30, J3 31, J3 32, J3 33, J3 34, J3 35, J3 36, J3 37, J3 38, J3 39], []⟩ ∧ OwnR wr_ w.heap.size 73 eEvt vv xs ∧ Below w.heap.size w wr_ ∧ (p ≤ l.length) ∧ (FR l f p xs)) (jk a_)) (l.length - 0) ⟨0, (l.length + 1), [], (.slice none 0 0), rfl, rfl, O1, bel, (Nat.zero_le _), (fr_start l)⟩ ?_
  clear O1
  clear bel
  intro n_ a_ w4 h_
  revert h_
  generalize jk a_ = J3
  rintro ⟨p, f, xs, vv, hms, rfl, O1, bel, hp, hR⟩
  have hn0 := ne_le l p
  refine wp_seq ?_
  refine wp_seq ?_
  refine wp_region_lit ?_
  refine st_mv (.int .i64 (p : Int)) ?_
  simp only [nf0, nf1, nf2, nf3, nf4]
  refine st_mv (.slice A l.length cap) ?_
  simp only [nf0, nf1, nf2, nf3, nf4]
  refine st_value (v := (.int .i64 (l.length : Int))) (by rfl) (run_len (.tmp 12) rfl ⟨_, Tryd.underlying22⟩ rfl w4) ?_
  simp only [nf0, nf1, nf2, nf3, nf4]
  refine st_value (v := (.bool (decide ((p : Int) < (l.length : Int))))) (by rfl) (run_lss (.tmp 11) (.tmp 13) rfl rfl rfl w4) ?_
  simp only [nf0, nf1, nf2, nf3, nf4]
  refine wpList_nil ?_
  show Code.wp _ _ _ _ _
  cases hg5 : decide ((p : Int) < (l.length : Int))
  · have hp6 := of_decide_eq_false hg5
    refine wp_cond_false rfl ?_
    refine wp_exit ?_
    show Code.wp _ _ _ _ _
    refine wp_seq ?_
    refine wp_region_lit ?_
    refine st_mv vv ?_
    simp only [nf0, nf1, nf2, nf3, nf4]
    refine st_mv vv ?_
    simp only [nf0, nf1, nf2, nf3, nf4]
    refine st_mv (.int .i64 (-1)) ?_
    simp only [nf0, nf1, nf2, nf3, nf4]
    refine wpList_nil ?_
    show Code.wp _ _ _ _ _
    refine wp_ret ?_
    first | show bodyPost _ _ _ _ _ _ | (simp only [Exit.then, Exit.inBlock]; show bodyPost _ _ _ _ _ _)
    obtain ⟨hE, hX⟩ := fr_end hR (by omega)
    subst hX
    exact bodyPost_ret (results_tmp2 rfl _ _ _) rfl ⟨_, rfl, _, by rw [hE]; rfl, by unfold fvR; rw [if_pos hE]; exact O1, bel⟩
  have hp7 := of_decide_eq_true hg5
  refine wp_cond_true rfl ?_
  refine wp_skip ?_
  show Code.wp _ _ _ _ _
  refine wp_block ?_
  refine wp_seq ?_
  refine wp_region_lit ?_
  refine st_mv (.int .i64 (p : Int)) ?_
  simp only [nf0, nf1, nf2, nf3, nf4]
  refine st_mv (.int .i64 (p : Int)) ?_
  simp only [nf0, nf1, nf2, nf3, nf4]
  refine wpList_nil ?_
  show Code.wp _ _ _ _ _
  refine wp_seq ?_
  refine wp_region_lit ?_
  refine st_new (cs := #[.int .i64 0, .int .i64 0, .int .i64 0, .int .i64 0, .int .i64 0]) (t := 73) (by rfl) (run_allocV rfl v_zero_73 _) ?_
  intro g8 w9 B10 hb11 lo12
  simp only [nf0, nf1, nf2, nf3, nf4]
  have n13 := O1.off lo12
  replace lo12 := low_le bel lo12
  replace O1 := O1.same hb11
  replace bel := bl_step bel hb11
  clear hb11
  refine wpList_nil ?_
  show Code.wp _ _ _ _ _
  refine wp_seq ?_
  refine wp_seq ?_
  refine wp_region_lit ?_
  refine st_mv (.int .i64 0) ?_
  simp only [nf0, nf1, nf2, nf3, nf4]
  refine wpList_nil ?_
  show Code.wp _ _ _ _ _
  refine wp_block ?_
  refine wp_loop_rnds 5 ?_
  show Code.wp _ _ _ _ _
  refine wp_seq ?_
  refine wp_seq ?_
  refine wp_region_lit ?_
  refine st_mv (.int .i64 0) ?_
  simp only [nf0, nf1, nf2, nf3, nf4]
  refine st_value (v := (.bool true)) (by rfl) ((run_lss (.tmp 16) (.const (.int .i64 5)) rfl rfl rfl w9).trans (by rw [decide_eq_true (by omega)])) ?_
  simp only [nf0, nf1, nf2, nf3, nf4]
  refine wpList_nil ?_
  show Code.wp _ _ _ _ _
  refine wp_cond_true rfl ?_
  refine wp_skip ?_
  show Code.wp _ _ _ _ _
  refine wp_seq ?_
  refine wp_block ?_
  refine wp_seq ?_
  refine wp_region_lit ?_
  refine st_mv (.slice A l.length cap) ?_
  simp only [nf0, nf1, nf2, nf3, nf4]
  refine st_mv (.int .i64 (p : Int)) ?_
  simp only [nf0, nf1, nf2, nf3, nf4]
  refine st_call1 (v := (.tuple #[.int .i64 (nv l p), .int .i64 ((nm l p : Nat) : Int)])) (by rfl) (v_run_call_9_2 (.tmp 21) (.tmp 22) rfl rfl rfl _) (refGet_tot A l cap p hcap (by omega) (by omega) w9 (hr.same bel)) ?_
  intro w14 hb15
  simp only [nf0, nf1, nf2, nf3, nf4]
  replace O1 := O1.same hb15
  replace B10 := B10.below hb15
  replace bel := bl_step bel hb15
  clear hb15
  refine st_mv (.tuple #[.int .i64 (nv l p), .int .i64 ((nm l p : Nat) : Int)]) ?_
  simp only [nf0, nf1, nf2, nf3, nf4]
  refine st_mv (.int .i64 (nv l p)) ?_
  simp only [nf0, nf1, nf2, nf3, nf4]
  refine st_mv (.int .i64 ((nm l p : Nat) : Int)) ?_
  simp only [nf0, nf1, nf2, nf3, nf4]
  refine st_mv (.int .i64 (nv l p)) ?_
  simp only [nf0, nf1, nf2, nf3, nf4]
  refine st_mv (.int .i64 ((nm l p : Nat) : Int)) ?_
  simp only [nf0, nf1, nf2, nf3, nf4]
  refine wpList_nil ?_
  show Code.wp _ _ _ _ _
  refine wp_seq ?_
  refine wp_seq ?_
  refine wp_region_lit ?_
  refine st_mv (.int .i64 ((nm l p : Nat) : Int)) ?_
  simp only [nf0, nf1, nf2, nf3, nf4]
  refine st_value (v := (.bool (decide (((nm l p : Nat) : Int) = 0)))) (by rfl) (run_eql_int (.tmp 26) (.const (.int .i64 0)) rfl rfl rfl w14) ?_
  simp only [nf0, nf1, nf2, nf3, nf4]
  refine wpList_nil ?_
  show Code.wp _ _ _ _ _
  cases hg16 : decide (((nm l p : Nat) : Int) = 0)
  rotate_left
  · have hp66 := of_decide_eq_true hg16
    refine wp_cond_true rfl ?_
    refine wp_seq ?_
    refine wp_region_lit ?_
    refine st_mv (.int .i64 (p : Int)) ?_
    simp only [nf0, nf1, nf2, nf3, nf4]
    refine st_mv (.slice none 0 0) ?_
    simp only [nf0, nf1, nf2, nf3, nf4]
    refine st_mv (.int .i64 (p : Int)) ?_
    simp only [nf0, nf1, nf2, nf3, nf4]
    refine wpList_nil ?_
    show Code.wp _ _ _ _ _
    refine wp_ret ?_
    first | show bodyPost _ _ _ _ _ _ | (simp only [Exit.then, Exit.inBlock]; show bodyPost _ _ _ _ _ _)
    have hk : nk l p = false := nm_no (by omega)
    have hE := fr_bad hR (by omega) (fun h => by have h_ := h.1; rw [hk] at h_; cases h_)
    exact bodyPost_ret (results_tmp2 rfl _ _ _) rfl ⟨_, rfl, _, by rw [hE]; rfl, by unfold fvR; rw [if_neg (by omega)]; exact OwnR.nil _ _ _ _, bel⟩
  have hp17 := of_decide_eq_false hg16
  refine wp_cond_false rfl ?_
  refine wp_skip ?_
  show Code.wp _ _ _ _ _
  refine wp_seq ?_
  have hk0 : nk l p = true := nm_yes (by omega)
  have hq0 := nm_ne hk0
  have hn1 := ne_le l (ne l p)
  refine wp_region_lit ?_
  refine st_mv (.int .i64 0) ?_
  simp only [nf0, nf1, nf2, nf3, nf4]
  refine st_mv (.int .i64 (nv l p)) ?_
  simp only [nf0, nf1, nf2, nf3, nf4]
  refine st_value (v := (.pointer (some ⟨g8, 0, none⟩))) (by rfl) (run_indexArr (.tmp 7) (.tmp 29) rfl Tryd.underlying73 (sz := 1) (by kernel_rfl) (i := 0) (k' := 0) rfl rfl rfl (by rfl) (by omega) w14) ?_
  simp only [nf0, nf1, nf2, nf3, nf4]
  refine st_cell (v := (.int .i64 (nv l p))) (by rfl) (run_storeB (.tmp 31) (.tmp 30) rfl v_one_3 B10 (show 0 < 5 by decide) rfl rfl rfl rfl) B10 ?_
  intro w18 B20 hg19
  simp only [nf0, nf1, nf2, nf3, nf4]
  replace O1 := O1.keptB hg19 n13
  replace bel := bl_kept0 bel hg19 lo12
  clear hg19
  clear B10
  replace B20 : Blk w18 g8 #[.int .i64 (nv l p), .int .i64 0, .int .i64 0, .int .i64 0, .int .i64 0] 73 := B20
  refine wpList_nil ?_
  show Code.wp _ _ _ _ _
  refine wp_region_lit ?_
  refine st_mv (.int .i64 (p : Int)) ?_
  simp only [nf0, nf1, nf2, nf3, nf4]
  refine st_mv (.int .i64 ((nm l p : Nat) : Int)) ?_
  simp only [nf0, nf1, nf2, nf3, nf4]
  refine st_value (v := (.int .i64 ((ne l p : Nat) : Int))) (by rfl) ((run_add_in (.tmp 32) (.tmp 33) rfl rfl rfl (by omega) w18).trans (by rw [show (p : Int) + ((nm l p : Nat) : Int) = ((ne l p : Nat) : Int) from by omega])) ?_
  simp only [nf0, nf1, nf2, nf3, nf4]
  refine st_mv (.int .i64 ((ne l p : Nat) : Int)) ?_
  simp only [nf0, nf1, nf2, nf3, nf4]
  refine wpList_nil ?_
  show Code.wp _ _ _ _ _
  refine wp_region_lit ?_
  refine st_mv (.int .i64 0) ?_
  simp only [nf0, nf1, nf2, nf3, nf4]
  refine st_value (v := (.int .i64 1)) (by rfl) (run_add_in (m := 0) (n := 1) (.tmp 18) (.const (.int .i64 1)) rfl rfl rfl (by omega) w18) ?_
  simp only [nf0, nf1, nf2, nf3, nf4]
  refine st_mv (.int .i64 1) ?_
  simp only [nf0, nf1, nf2, nf3, nf4]
  refine wpList_nil ?_
  show Code.wp _ _ _ _ _
  refine wp_seq ?_
  refine wp_seq ?_
  refine wp_region_lit ?_
  refine st_mv (.int .i64 1) ?_
  simp only [nf0, nf1, nf2, nf3, nf4]
  refine st_value (v := (.bool true)) (by rfl) ((run_lss (.tmp 16) (.const (.int .i64 5)) rfl rfl rfl w18).trans (by rw [decide_eq_true (by omega)])) ?_
  simp only [nf0, nf1, nf2, nf3, nf4]
  refine wpList_nil ?_
  show Code.wp _ _ _ _ _
  refine wp_cond_true rfl ?_
  refine wp_skip ?_
  show Code.wp _ _ _ _ _
  refine wp_seq ?_
  refine wp_block ?_
  refine wp_seq ?_
  refine wp_region_lit ?_
  refine st_mv (.slice A l.length cap) ?_
  simp only [nf0, nf1, nf2, nf3, nf4]
  refine st_mv (.int .i64 ((ne l p : Nat) : Int)) ?_
  simp only [nf0, nf1, nf2, nf3, nf4]
  refine st_call1 (v := (.tuple #[.int .i64 (nv l (ne l p)), .int .i64 ((nm l (ne l p) : Nat) : Int)])) (by rfl) (v_run_call_9_2 (.tmp 21) (.tmp 22) rfl rfl rfl _) (refGet_tot A l cap (ne l p) hcap (by omega) (by omega) w18 (hr.same bel)) ?_
  intro w21 hb22
  simp only [nf0, nf1, nf2, nf3, nf4]
  replace O1 := O1.same hb22
  replace B20 := B20.below hb22
  replace bel := bl_step bel hb22
  clear hb22
  refine st_mv (.tuple #[.int .i64 (nv l (ne l p)), .int .i64 ((nm l (ne l p) : Nat) : Int)]) ?_
  simp only [nf0, nf1, nf2, nf3, nf4]
  refine st_mv (.int .i64 (nv l (ne l p))) ?_
  simp only [nf0, nf1, nf2, nf3, nf4]
  refine st_mv (.int .i64 ((nm l (ne l p) : Nat) : Int)) ?_
  simp only [nf0, nf1, nf2, nf3, nf4]
  refine st_mv (.int .i64 (nv l (ne l p))) ?_
  simp only [nf0, nf1, nf2, nf3, nf4]
  refine st_mv (.int .i64 ((nm l (ne l p) : Nat) : Int)) ?_
  simp only [nf0, nf1, nf2, nf3, nf4]
  refine wpList_nil ?_
  show Code.wp _ _ _ _ _
  refine wp_seq ?_
  refine wp_seq ?_
  refine wp_region_lit ?_
  refine st_mv (.int .i64 ((nm l (ne l p) : Nat) : Int)) ?_
  simp only [nf0, nf1, nf2, nf3, nf4]
  refine st_value (v := (.bool (decide (((nm l (ne l p) : Nat) : Int) = 0)))) (by rfl) (run_eql_int (.tmp 26) (.const (.int .i64 0)) rfl rfl rfl w21) ?_
  simp only [nf0, nf1, nf2, nf3, nf4]
  refine wpList_nil ?_
  show Code.wp _ _ _ _ _
  cases hg23 : decide (((nm l (ne l p) : Nat) : Int) = 0)
  rotate_left
  · have hp65 := of_decide_eq_true hg23
    refine wp_cond_true rfl ?_
    refine wp_seq ?_
    refine wp_region_lit ?_
    refine st_mv (.int .i64 (p : Int)) ?_
    simp only [nf0, nf1, nf2, nf3, nf4]
    refine st_mv (.slice none 0 0) ?_
    simp only [nf0, nf1, nf2, nf3, nf4]
    refine st_mv (.int .i64 (p : Int)) ?_
    simp only [nf0, nf1, nf2, nf3, nf4]
    refine wpList_nil ?_
    show Code.wp _ _ _ _ _
    refine wp_ret ?_
    first | show bodyPost _ _ _ _ _ _ | (simp only [Exit.then, Exit.inBlock]; show bodyPost _ _ _ _ _ _)
    have hk : nk l (ne l p) = false := nm_no (by omega)
    have hE := fr_bad hR (by omega) (fun h => by have h_ := h.2.1; rw [hk] at h_; cases h_)
    exact bodyPost_ret (results_tmp2 rfl _ _ _) rfl ⟨_, rfl, _, by rw [hE]; rfl, by unfold fvR; rw [if_neg (by omega)]; exact OwnR.nil _ _ _ _, bel⟩
  have hp24 := of_decide_eq_false hg23
  refine wp_cond_false rfl ?_
  refine wp_skip ?_
  show Code.wp _ _ _ _ _
  refine wp_seq ?_
  have hk1 : nk l (ne l p) = true := nm_yes (by omega)
  have hq1 := nm_ne hk1
  have hn2 := ne_le l (ne l (ne l p))
  refine wp_region_lit ?_
  refine st_mv (.int .i64 1) ?_
  simp only [nf0, nf1, nf2, nf3, nf4]
  refine st_mv (.int .i64 (nv l (ne l p))) ?_
  simp only [nf0, nf1, nf2, nf3, nf4]
  refine st_value (v := (.pointer (some ⟨g8, 1, none⟩))) (by rfl) (run_indexArr (.tmp 7) (.tmp 29) rfl Tryd.underlying73 (sz := 1) (by kernel_rfl) (i := 1) (k' := 1) rfl rfl rfl (by rfl) (by omega) w21) ?_
  simp only [nf0, nf1, nf2, nf3, nf4]
  refine st_cell (v := (.int .i64 (nv l (ne l p)))) (by rfl) (run_storeB (.tmp 31) (.tmp 30) rfl v_one_3 B20 (show 1 < 5 by decide) rfl rfl rfl rfl) B20 ?_
  intro w25 B27 hg26
  simp only [nf0, nf1, nf2, nf3, nf4]
  replace O1 := O1.keptB hg26 n13
  replace bel := bl_kept0 bel hg26 lo12
  clear hg26
  clear B20
  replace B27 : Blk w25 g8 #[.int .i64 (nv l p), .int .i64 (nv l (ne l p)), .int .i64 0, .int .i64 0, .int .i64 0] 73 := B27
  refine wpList_nil ?_
  show Code.wp _ _ _ _ _
  refine wp_region_lit ?_
  refine st_mv (.int .i64 ((ne l p : Nat) : Int)) ?_
  simp only [nf0, nf1, nf2, nf3, nf4]
  refine st_mv (.int .i64 ((nm l (ne l p) : Nat) : Int)) ?_
  simp only [nf0, nf1, nf2, nf3, nf4]
  refine st_value (v := (.int .i64 ((ne l (ne l p) : Nat) : Int))) (by rfl) ((run_add_in (.tmp 32) (.tmp 33) rfl rfl rfl (by omega) w25).trans (by rw [show ((ne l p : Nat) : Int) + ((nm l (ne l p) : Nat) : Int) = ((ne l (ne l p) : Nat) : Int) from by omega])) ?_
  simp only [nf0, nf1, nf2, nf3, nf4]
  refine st_mv (.int .i64 ((ne l (ne l p) : Nat) : Int)) ?_
  simp only [nf0, nf1, nf2, nf3, nf4]
  refine wpList_nil ?_
  show Code.wp _ _ _ _ _
  refine wp_region_lit ?_
  refine st_mv (.int .i64 1) ?_
  simp only [nf0, nf1, nf2, nf3, nf4]
  refine st_value (v := (.int .i64 2)) (by rfl) (run_add_in (m := 1) (n := 1) (.tmp 18) (.const (.int .i64 1)) rfl rfl rfl (by omega) w25) ?_
  simp only [nf0, nf1, nf2, nf3, nf4]
  refine st_mv (.int .i64 2) ?_
  simp only [nf0, nf1, nf2, nf3, nf4]
  refine wpList_nil ?_
  show Code.wp _ _ _ _ _
  refine wp_seq ?_
  refine wp_seq ?_
  refine wp_region_lit ?_
  refine st_mv (.int .i64 2) ?_
  simp only [nf0, nf1, nf2, nf3, nf4]
  refine st_value (v := (.bool true)) (by rfl) ((run_lss (.tmp 16) (.const (.int .i64 5)) rfl rfl rfl w25).trans (by rw [decide_eq_true (by omega)])) ?_
  simp only [nf0, nf1, nf2, nf3, nf4]
  refine wpList_nil ?_
  show Code.wp _ _ _ _ _
  refine wp_cond_true rfl ?_
  refine wp_skip ?_
  show Code.wp _ _ _ _ _
  refine wp_seq ?_
  refine wp_block ?_
  refine wp_seq ?_
  refine wp_region_lit ?_
  refine st_mv (.slice A l.length cap) ?_
  simp only [nf0, nf1, nf2, nf3, nf4]
  refine st_mv (.int .i64 ((ne l (ne l p) : Nat) : Int)) ?_
  simp only [nf0, nf1, nf2, nf3, nf4]
  refine st_call1 (v := (.tuple #[.int .i64 (nv l (ne l (ne l p))), .int .i64 ((nm l (ne l (ne l p)) : Nat) : Int)])) (by rfl) (v_run_call_9_2 (.tmp 21) (.tmp 22) rfl rfl rfl _) (refGet_tot A l cap (ne l (ne l p)) hcap (by omega) (by omega) w25 (hr.same bel)) ?_
  intro w28 hb29
  simp only [nf0, nf1, nf2, nf3, nf4]
  replace O1 := O1.same hb29
  replace B27 := B27.below hb29
  replace bel := bl_step bel hb29
  clear hb29
  refine st_mv (.tuple #[.int .i64 (nv l (ne l (ne l p))), .int .i64 ((nm l (ne l (ne l p)) : Nat) : Int)]) ?_
  simp only [nf0, nf1, nf2, nf3, nf4]
  refine st_mv (.int .i64 (nv l (ne l (ne l p)))) ?_
  simp only [nf0, nf1, nf2, nf3, nf4]
  refine st_mv (.int .i64 ((nm l (ne l (ne l p)) : Nat) : Int)) ?_
  simp only [nf0, nf1, nf2, nf3, nf4]
  refine st_mv (.int .i64 (nv l (ne l (ne l p)))) ?_
  simp only [nf0, nf1, nf2, nf3, nf4]
  refine st_mv (.int .i64 ((nm l (ne l (ne l p)) : Nat) : Int)) ?_
  simp only [nf0, nf1, nf2, nf3, nf4]
  refine wpList_nil ?_
  show Code.wp _ _ _ _ _
  refine wp_seq ?_
  refine wp_seq ?_
  refine wp_region_lit ?_
  refine st_mv (.int .i64 ((nm l (ne l (ne l p)) : Nat) : Int)) ?_
  simp only [nf0, nf1, nf2, nf3, nf4]
  refine st_value (v := (.bool (decide (((nm l (ne l (ne l p)) : Nat) : Int) = 0)))) (by rfl) (run_eql_int (.tmp 26) (.const (.int .i64 0)) rfl rfl rfl w28) ?_
  simp only [nf0, nf1, nf2, nf3, nf4]
  refine wpList_nil ?_
  show Code.wp _ _ _ _ _
  cases hg30 : decide (((nm l (ne l (ne l p)) : Nat) : Int) = 0)
  rotate_left
  · have hp64 := of_decide_eq_true hg30
    refine wp_cond_true rfl ?_
    refine wp_seq ?_
    refine wp_region_lit ?_
    refine st_mv (.int .i64 (p : Int)) ?_
    simp only [nf0, nf1, nf2, nf3, nf4]
    refine st_mv (.slice none 0 0) ?_
    simp only [nf0, nf1, nf2, nf3, nf4]
    refine st_mv (.int .i64 (p : Int)) ?_
    simp only [nf0, nf1, nf2, nf3, nf4]
    refine wpList_nil ?_
    show Code.wp _ _ _ _ _
    refine wp_ret ?_
    first | show bodyPost _ _ _ _ _ _ | (simp only [Exit.then, Exit.inBlock]; show bodyPost _ _ _ _ _ _)
    have hk : nk l (ne l (ne l p)) = false := nm_no (by omega)
    have hE := fr_bad hR (by omega) (fun h => by have h_ := h.2.2.1; rw [hk] at h_; cases h_)
    exact bodyPost_ret (results_tmp2 rfl _ _ _) rfl ⟨_, rfl, _, by rw [hE]; rfl, by unfold fvR; rw [if_neg (by omega)]; exact OwnR.nil _ _ _ _, bel⟩
  have hp31 := of_decide_eq_false hg30
  refine wp_cond_false rfl ?_
  refine wp_skip ?_
  show Code.wp _ _ _ _ _
  refine wp_seq ?_
  have hk2 : nk l (ne l (ne l p)) = true := nm_yes (by omega)
  have hq2 := nm_ne hk2
  have hn3 := ne_le l (ne l (ne l (ne l p)))
  refine wp_region_lit ?_
  refine st_mv (.int .i64 2) ?_
  simp only [nf0, nf1, nf2, nf3, nf4]
  refine st_mv (.int .i64 (nv l (ne l (ne l p)))) ?_
  simp only [nf0, nf1, nf2, nf3, nf4]
  refine st_value (v := (.pointer (some ⟨g8, 2, none⟩))) (by rfl) (run_indexArr (.tmp 7) (.tmp 29) rfl Tryd.underlying73 (sz := 1) (by kernel_rfl) (i := 2) (k' := 2) rfl rfl rfl (by rfl) (by omega) w28) ?_
  simp only [nf0, nf1, nf2, nf3, nf4]
  refine st_cell (v := (.int .i64 (nv l (ne l (ne l p))))) (by rfl) (run_storeB (.tmp 31) (.tmp 30) rfl v_one_3 B27 (show 2 < 5 by decide) rfl rfl rfl rfl) B27 ?_
  intro w32 B34 hg33
  simp only [nf0, nf1, nf2, nf3, nf4]
  replace O1 := O1.keptB hg33 n13
  replace bel := bl_kept0 bel hg33 lo12
  clear hg33
  clear B27
  replace B34 : Blk w32 g8 #[.int .i64 (nv l p), .int .i64 (nv l (ne l p)), .int .i64 (nv l (ne l (ne l p))), .int .i64 0, .int .i64 0] 73 := B34
  refine wpList_nil ?_
  show Code.wp _ _ _ _ _
  refine wp_region_lit ?_
  refine st_mv (.int .i64 ((ne l (ne l p) : Nat) : Int)) ?_
  simp only [nf0, nf1, nf2, nf3, nf4]
  refine st_mv (.int .i64 ((nm l (ne l (ne l p)) : Nat) : Int)) ?_
  simp only [nf0, nf1, nf2, nf3, nf4]
  refine st_value (v := (.int .i64 ((ne l (ne l (ne l p)) : Nat) : Int))) (by rfl) ((run_add_in (.tmp 32) (.tmp 33) rfl rfl rfl (by omega) w32).trans (by rw [show ((ne l (ne l p) : Nat) : Int) + ((nm l (ne l (ne l p)) : Nat) : Int) = ((ne l (ne l (ne l p)) : Nat) : Int) from by omega])) ?_
  simp only [nf0, nf1, nf2, nf3, nf4]
  refine st_mv (.int .i64 ((ne l (ne l (ne l p)) : Nat) : Int)) ?_
  simp only [nf0, nf1, nf2, nf3, nf4]
  refine wpList_nil ?_
  show Code.wp _ _ _ _ _
  refine wp_region_lit ?_
  refine st_mv (.int .i64 2) ?_
  simp only [nf0, nf1, nf2, nf3, nf4]
  refine st_value (v := (.int .i64 3)) (by rfl) (run_add_in (m := 2) (n := 1) (.tmp 18) (.const (.int .i64 1)) rfl rfl rfl (by omega) w32) ?_
  simp only [nf0, nf1, nf2, nf3, nf4]
  refine st_mv (.int .i64 3) ?_
  simp only [nf0, nf1, nf2, nf3, nf4]
  refine wpList_nil ?_
  show Code.wp _ _ _ _ _
  refine wp_seq ?_
  refine wp_seq ?_
  refine wp_region_lit ?_
  refine st_mv (.int .i64 3) ?_
  simp only [nf0, nf1, nf2, nf3, nf4]
  refine st_value (v := (.bool true)) (by rfl) ((run_lss (.tmp 16) (.const (.int .i64 5)) rfl rfl rfl w32).trans (by rw [decide_eq_true (by omega)])) ?_
  simp only [nf0, nf1, nf2, nf3, nf4]
  refine wpList_nil ?_
  show Code.wp _ _ _ _ _
  refine wp_cond_true rfl ?_
  refine wp_skip ?_
  show Code.wp _ _ _ _ _
  refine wp_seq ?_
  refine wp_block ?_
  refine wp_seq ?_
  refine wp_region_lit ?_
  refine st_mv (.slice A l.length cap) ?_
  simp only [nf0, nf1, nf2, nf3, nf4]
  refine st_mv (.int .i64 ((ne l (ne l (ne l p)) : Nat) : Int)) ?_
  simp only [nf0, nf1, nf2, nf3, nf4]
  refine st_call1 (v := (.tuple #[.int .i64 (nv l (ne l (ne l (ne l p)))), .int .i64 ((nm l (ne l (ne l (ne l p))) : Nat) : Int)])) (by rfl) (v_run_call_9_2 (.tmp 21) (.tmp 22) rfl rfl rfl _) (refGet_tot A l cap (ne l (ne l (ne l p))) hcap (by omega) (by omega) w32 (hr.same bel)) ?_
  intro w35 hb36
  simp only [nf0, nf1, nf2, nf3, nf4]
  replace O1 := O1.same hb36
  replace B34 := B34.below hb36
  replace bel := bl_step bel hb36
  clear hb36
  refine st_mv (.tuple #[.int .i64 (nv l (ne l (ne l (ne l p)))), .int .i64 ((nm l (ne l (ne l (ne l p))) : Nat) : Int)]) ?_
  simp only [nf0, nf1, nf2, nf3, nf4]
  refine st_mv (.int .i64 (nv l (ne l (ne l (ne l p))))) ?_
  simp only [nf0, nf1, nf2, nf3, nf4]
  refine st_mv (.int .i64 ((nm l (ne l (ne l (ne l p))) : Nat) : Int)) ?_
  simp only [nf0, nf1, nf2, nf3, nf4]
  refine st_mv (.int .i64 (nv l (ne l (ne l (ne l p))))) ?_
  simp only [nf0, nf1, nf2, nf3, nf4]
  refine st_mv (.int .i64 ((nm l (ne l (ne l (ne l p))) : Nat) : Int)) ?_
  simp only [nf0, nf1, nf2, nf3, nf4]
  refine wpList_nil ?_
  show Code.wp _ _ _ _ _
  refine wp_seq ?_
  refine wp_seq ?_
  refine wp_region_lit ?_
  refine st_mv (.int .i64 ((nm l (ne l (ne l (ne l p))) : Nat) : Int)) ?_
  simp only [nf0, nf1, nf2, nf3, nf4]
  refine st_value (v := (.bool (decide (((nm l (ne l (ne l (ne l p))) : Nat) : Int) = 0)))) (by rfl) (run_eql_int (.tmp 26) (.const (.int .i64 0)) rfl rfl rfl w35) ?_
  simp only [nf0, nf1, nf2, nf3, nf4]
  refine wpList_nil ?_
  show Code.wp _ _ _ _ _
  cases hg37 : decide (((nm l (ne l (ne l (ne l p))) : Nat) : Int) = 0)
  rotate_left
  · have hp63 := of_decide_eq_true hg37
    refine wp_cond_true rfl ?_
    refine wp_seq ?_
    refine wp_region_lit ?_
    refine st_mv (.int .i64 (p : Int)) ?_
    simp only [nf0, nf1, nf2, nf3, nf4]
    refine st_mv (.slice none 0 0) ?_
    simp only [nf0, nf1, nf2, nf3, nf4]
    refine st_mv (.int .i64 (p : Int)) ?_
    simp only [nf0, nf1, nf2, nf3, nf4]
    refine wpList_nil ?_
    show Code.wp _ _ _ _ _
    refine wp_ret ?_
    first | show bodyPost _ _ _ _ _ _ | (simp only [Exit.then, Exit.inBlock]; show bodyPost _ _ _ _ _ _)
    have hk : nk l (ne l (ne l (ne l p))) = false := nm_no (by omega)
    have hE := fr_bad hR (by omega) (fun h => by have h_ := h.2.2.2.1; rw [hk] at h_; cases h_)
    exact bodyPost_ret (results_tmp2 rfl _ _ _) rfl ⟨_, rfl, _, by rw [hE]; rfl, by unfold fvR; rw [if_neg (by omega)]; exact OwnR.nil _ _ _ _, bel⟩
  have hp38 := of_decide_eq_false hg37
  refine wp_cond_false rfl ?_
  refine wp_skip ?_
  show Code.wp _ _ _ _ _
  refine wp_seq ?_
  have hk3 : nk l (ne l (ne l (ne l p))) = true := nm_yes (by omega)
  have hq3 := nm_ne hk3
  have hn4 := ne_le l (ne l (ne l (ne l (ne l p))))
  refine wp_region_lit ?_
  refine st_mv (.int .i64 3) ?_
  simp only [nf0, nf1, nf2, nf3, nf4]
  refine st_mv (.int .i64 (nv l (ne l (ne l (ne l p))))) ?_
  simp only [nf0, nf1, nf2, nf3, nf4]
  refine st_value (v := (.pointer (some ⟨g8, 3, none⟩))) (by rfl) (run_indexArr (.tmp 7) (.tmp 29) rfl Tryd.underlying73 (sz := 1) (by kernel_rfl) (i := 3) (k' := 3) rfl rfl rfl (by rfl) (by omega) w35) ?_
  simp only [nf0, nf1, nf2, nf3, nf4]
  refine st_cell (v := (.int .i64 (nv l (ne l (ne l (ne l p)))))) (by rfl) (run_storeB (.tmp 31) (.tmp 30) rfl v_one_3 B34 (show 3 < 5 by decide) rfl rfl rfl rfl) B34 ?_
  intro w39 B41 hg40
  simp only [nf0, nf1, nf2, nf3, nf4]
  replace O1 := O1.keptB hg40 n13
  replace bel := bl_kept0 bel hg40 lo12
  clear hg40
  clear B34
  replace B41 : Blk w39 g8 #[.int .i64 (nv l p), .int .i64 (nv l (ne l p)), .int .i64 (nv l (ne l (ne l p))), .int .i64 (nv l (ne l (ne l (ne l p)))), .int .i64 0] 73 := B41
  refine wpList_nil ?_
  show Code.wp _ _ _ _ _
  refine wp_region_lit ?_
  refine st_mv (.int .i64 ((ne l (ne l (ne l p)) : Nat) : Int)) ?_
  simp only [nf0, nf1, nf2, nf3, nf4]
  refine st_mv (.int .i64 ((nm l (ne l (ne l (ne l p))) : Nat) : Int)) ?_
  simp only [nf0, nf1, nf2, nf3, nf4]
  refine st_value (v := (.int .i64 ((ne l (ne l (ne l (ne l p))) : Nat) : Int))) (by rfl) ((run_add_in (.tmp 32) (.tmp 33) rfl rfl rfl (by omega) w39).trans (by rw [show ((ne l (ne l (ne l p)) : Nat) : Int) + ((nm l (ne l (ne l (ne l p))) : Nat) : Int) = ((ne l (ne l (ne l (ne l p))) : Nat) : Int) from by omega])) ?_
  simp only [nf0, nf1, nf2, nf3, nf4]
  refine st_mv (.int .i64 ((ne l (ne l (ne l (ne l p))) : Nat) : Int)) ?_
  simp only [nf0, nf1, nf2, nf3, nf4]
  refine wpList_nil ?_
  show Code.wp _ _ _ _ _
  refine wp_region_lit ?_
  refine st_mv (.int .i64 3) ?_
  simp only [nf0, nf1, nf2, nf3, nf4]
  refine st_value (v := (.int .i64 4)) (by rfl) (run_add_in (m := 3) (n := 1) (.tmp 18) (.const (.int .i64 1)) rfl rfl rfl (by omega) w39) ?_
  simp only [nf0, nf1, nf2, nf3, nf4]
  refine st_mv (.int .i64 4) ?_
  simp only [nf0, nf1, nf2, nf3, nf4]
  refine wpList_nil ?_
  show Code.wp _ _ _ _ _
  refine wp_seq ?_
  refine wp_seq ?_
  refine wp_region_lit ?_
  refine st_mv (.int .i64 4) ?_
  simp only [nf0, nf1, nf2, nf3, nf4]
  refine st_value (v := (.bool true)) (by rfl) ((run_lss (.tmp 16) (.const (.int .i64 5)) rfl rfl rfl w39).trans (by rw [decide_eq_true (by omega)])) ?_
  simp only [nf0, nf1, nf2, nf3, nf4]
  refine wpList_nil ?_
  show Code.wp _ _ _ _ _
  refine wp_cond_true rfl ?_
  refine wp_skip ?_
  show Code.wp _ _ _ _ _
  refine wp_seq ?_
  refine wp_block ?_
  refine wp_seq ?_
  refine wp_region_lit ?_
  refine st_mv (.slice A l.length cap) ?_
  simp only [nf0, nf1, nf2, nf3, nf4]
  refine st_mv (.int .i64 ((ne l (ne l (ne l (ne l p))) : Nat) : Int)) ?_
  simp only [nf0, nf1, nf2, nf3, nf4]
  refine st_call1 (v := (.tuple #[.int .i64 (nv l (ne l (ne l (ne l (ne l p))))), .int .i64 ((nm l (ne l (ne l (ne l (ne l p)))) : Nat) : Int)])) (by rfl) (v_run_call_9_2 (.tmp 21) (.tmp 22) rfl rfl rfl _) (refGet_tot A l cap (ne l (ne l (ne l (ne l p)))) hcap (by omega) (by omega) w39 (hr.same bel)) ?_
  intro w42 hb43
  simp only [nf0, nf1, nf2, nf3, nf4]
  replace O1 := O1.same hb43
  replace B41 := B41.below hb43
  replace bel := bl_step bel hb43
  clear hb43
  refine st_mv (.tuple #[.int .i64 (nv l (ne l (ne l (ne l (ne l p))))), .int .i64 ((nm l (ne l (ne l (ne l (ne l p)))) : Nat) : Int)]) ?_
  simp only [nf0, nf1, nf2, nf3, nf4]
  refine st_mv (.int .i64 (nv l (ne l (ne l (ne l (ne l p)))))) ?_
  simp only [nf0, nf1, nf2, nf3, nf4]
  refine st_mv (.int .i64 ((nm l (ne l (ne l (ne l (ne l p)))) : Nat) : Int)) ?_
  simp only [nf0, nf1, nf2, nf3, nf4]
  refine st_mv (.int .i64 (nv l (ne l (ne l (ne l (ne l p)))))) ?_
  simp only [nf0, nf1, nf2, nf3, nf4]
  refine st_mv (.int .i64 ((nm l (ne l (ne l (ne l (ne l p)))) : Nat) : Int)) ?_
  simp only [nf0, nf1, nf2, nf3, nf4]
  refine wpList_nil ?_
  show Code.wp _ _ _ _ _
  refine wp_seq ?_
  refine wp_seq ?_
  refine wp_region_lit ?_
  refine st_mv (.int .i64 ((nm l (ne l (ne l (ne l (ne l p)))) : Nat) : Int)) ?_
  simp only [nf0, nf1, nf2, nf3, nf4]
  refine st_value (v := (.bool (decide (((nm l (ne l (ne l (ne l (ne l p)))) : Nat) : Int) = 0)))) (by rfl) (run_eql_int (.tmp 26) (.const (.int .i64 0)) rfl rfl rfl w42) ?_
  simp only [nf0, nf1, nf2, nf3, nf4]
  refine wpList_nil ?_
  show Code.wp _ _ _ _ _
  cases hg44 : decide (((nm l (ne l (ne l (ne l (ne l p)))) : Nat) : Int) = 0)
  rotate_left
  · have hp62 := of_decide_eq_true hg44
    refine wp_cond_true rfl ?_
    refine wp_seq ?_
    refine wp_region_lit ?_
    refine st_mv (.int .i64 (p : Int)) ?_
    simp only [nf0, nf1, nf2, nf3, nf4]
    refine st_mv (.slice none 0 0) ?_
    simp only [nf0, nf1, nf2, nf3, nf4]
    refine st_mv (.int .i64 (p : Int)) ?_
    simp only [nf0, nf1, nf2, nf3, nf4]
    refine wpList_nil ?_
    show Code.wp _ _ _ _ _
    refine wp_ret ?_
    first | show bodyPost _ _ _ _ _ _ | (simp only [Exit.then, Exit.inBlock]; show bodyPost _ _ _ _ _ _)
    have hk : nk l (ne l (ne l (ne l (ne l p)))) = false := nm_no (by omega)
    have hE := fr_bad hR (by omega) (fun h => by have h_ := h.2.2.2.2; rw [hk] at h_; cases h_)
    exact bodyPost_ret (results_tmp2 rfl _ _ _) rfl ⟨_, rfl, _, by rw [hE]; rfl, by unfold fvR; rw [if_neg (by omega)]; exact OwnR.nil _ _ _ _, bel⟩
  have hp45 := of_decide_eq_false hg44
  refine wp_cond_false rfl ?_
  refine wp_skip ?_
  show Code.wp _ _ _ _ _
  refine wp_seq ?_
  have hk4 : nk l (ne l (ne l (ne l (ne l p)))) = true := nm_yes (by omega)
  have hq4 := nm_ne hk4
  have hn5 := ne_le l (ne l (ne l (ne l (ne l (ne l p)))))
  refine wp_region_lit ?_
  refine st_mv (.int .i64 4) ?_
  simp only [nf0, nf1, nf2, nf3, nf4]
  refine st_mv (.int .i64 (nv l (ne l (ne l (ne l (ne l p)))))) ?_
  simp only [nf0, nf1, nf2, nf3, nf4]
  refine st_value (v := (.pointer (some ⟨g8, 4, none⟩))) (by rfl) (run_indexArr (.tmp 7) (.tmp 29) rfl Tryd.underlying73 (sz := 1) (by kernel_rfl) (i := 4) (k' := 4) rfl rfl rfl (by rfl) (by omega) w42) ?_
  simp only [nf0, nf1, nf2, nf3, nf4]
  refine st_cell (v := (.int .i64 (nv l (ne l (ne l (ne l (ne l p))))))) (by rfl) (run_storeB (.tmp 31) (.tmp 30) rfl v_one_3 B41 (show 4 < 5 by decide) rfl rfl rfl rfl) B41 ?_
  intro w46 B48 hg47
  simp only [nf0, nf1, nf2, nf3, nf4]
  replace O1 := O1.keptB hg47 n13
  replace bel := bl_kept0 bel hg47 lo12
  clear hg47
  clear B41
  replace B48 : Blk w46 g8 #[.int .i64 (nv l p), .int .i64 (nv l (ne l p)), .int .i64 (nv l (ne l (ne l p))), .int .i64 (nv l (ne l (ne l (ne l p)))), .int .i64 (nv l (ne l (ne l (ne l (ne l p)))))] 73 := B48
  refine wpList_nil ?_
  show Code.wp _ _ _ _ _
  refine wp_region_lit ?_
  refine st_mv (.int .i64 ((ne l (ne l (ne l (ne l p))) : Nat) : Int)) ?_
  simp only [nf0, nf1, nf2, nf3, nf4]
  refine st_mv (.int .i64 ((nm l (ne l (ne l (ne l (ne l p)))) : Nat) : Int)) ?_
  simp only [nf0, nf1, nf2, nf3, nf4]
  refine st_value (v := (.int .i64 ((ne l (ne l (ne l (ne l (ne l p)))) : Nat) : Int))) (by rfl) ((run_add_in (.tmp 32) (.tmp 33) rfl rfl rfl (by omega) w46).trans (by rw [show ((ne l (ne l (ne l (ne l p))) : Nat) : Int) + ((nm l (ne l (ne l (ne l (ne l p)))) : Nat) : Int) = ((ne l (ne l (ne l (ne l (ne l p)))) : Nat) : Int) from by omega])) ?_
  simp only [nf0, nf1, nf2, nf3, nf4]
  refine st_mv (.int .i64 ((ne l (ne l (ne l (ne l (ne l p)))) : Nat) : Int)) ?_
  simp only [nf0, nf1, nf2, nf3, nf4]
  refine wpList_nil ?_
  show Code.wp _ _ _ _ _
  refine wp_region_lit ?_
  refine st_mv (.int .i64 4) ?_
  simp only [nf0, nf1, nf2, nf3, nf4]
  refine st_value (v := (.int .i64 5)) (by rfl) (run_add_in (m := 4) (n := 1) (.tmp 18) (.const (.int .i64 1)) rfl rfl rfl (by omega) w46) ?_
  simp only [nf0, nf1, nf2, nf3, nf4]
  refine st_mv (.int .i64 5) ?_
  simp only [nf0, nf1, nf2, nf3, nf4]
  refine wpList_nil ?_
  show Code.wp _ _ _ _ _
  refine wp_seq ?_
  refine wp_seq ?_
  refine wp_region_lit ?_
  refine st_mv (.int .i64 5) ?_
  simp only [nf0, nf1, nf2, nf3, nf4]
  refine st_value (v := (.bool false)) (by rfl) ((run_lss (.tmp 16) (.const (.int .i64 5)) rfl rfl rfl w46).trans (by rw [decide_eq_false (by omega)])) ?_
  simp only [nf0, nf1, nf2, nf3, nf4]
  refine wpList_nil ?_
  show Code.wp _ _ _ _ _
  refine wp_cond_false rfl ?_
  refine wp_exit ?_
  show Code.wp _ _ _ _ _
  refine wp_region_lit ?_
  refine st_mv vv ?_
  simp only [nf0, nf1, nf2, nf3, nf4]
  refine st_value (v := (.agg #[.int .i64 (nv l p), .int .i64 (nv l (ne l p)), .int .i64 (nv l (ne l (ne l p))), .int .i64 (nv l (ne l (ne l (ne l p)))), .int .i64 (nv l (ne l (ne l (ne l (ne l p)))))])) (by rfl) (run_loadW (.tmp 7) rfl (cs := #[.int .i64 (nv l p), .int .i64 (nv l (ne l p)), .int .i64 (nv l (ne l (ne l p))), .int .i64 (nv l (ne l (ne l (ne l p)))), .int .i64 (nv l (ne l (ne l (ne l (ne l p)))))]) aggArr rfl B48) ?_
  simp only [nf0, nf1, nf2, nf3, nf4]
  refine st_lit (by rfl) (v_run_lit_48_1 (.tmp 36) rfl (m0 := ((nv l p), (nv l (ne l p)), (nv l (ne l (ne l p))), (nv l (ne l (ne l (ne l p)))), (nv l (ne l (ne l (ne l (ne l p))))))) rfl _) ?_
  intro g49 w50 B51 hb52 lo53
  simp only [nf0, nf1, nf2, nf3, nf4]
  have n54 := O1.off lo53
  have n55 := B48.ne lo53
  replace lo53 := low_le bel lo53
  replace O1 := O1.same hb52
  replace B48 := B48.below hb52
  replace bel := bl_step bel hb52
  clear hb52
  refine st_append slArr rfl (.tmp 35) (.tmp 37) rfl rfl O1 ([((nv l p), (nv l (ne l p)), (nv l (ne l (ne l p))), (nv l (ne l (ne l (ne l p)))), (nv l (ne l (ne l (ne l (ne l p))))))] : List TEvt) rfl rfl B51 (by simp [Enc.all, eEvt]) (by have := fr_len hR; simp only [List.length_cons, List.length_nil]; omega) bel.size ?_
  intro v56 w57 O58 hg59 hat60
  simp only [nf0, nf1, nf2, nf3, nf4]
  have n61 := (n13 : Off _ _).app B48 hat60
  replace B48 := B48.keptR hg59 n13
  replace bel := bl_app bel O1 hg59
  clear O1 hg59 hat60
  refine st_mv v56 ?_
  simp only [nf0, nf1, nf2, nf3, nf4]
  refine wpList_nil ?_
  show ∃ m, m < _ ∧ _
  exact ⟨_, (by have := e5_gt (l := l) (p := p) ⟨hk0, hk1, hk2, hk3, hk4⟩; omega), (e5 l p), (f - 1), (xs ++ [five l p]), v56, rfl, rfl, O58, bel, (by exact e5_le l p), (by exact fr_go hR (by omega) ⟨hk0, hk1, hk2, hk3, hk4⟩)⟩
end Go.Proofs.YtckmihjekgbcmaaDoor

/- The law's rows as events and entries; whether two rows are the same. -/
namespace Go.Proofs.YtckmihjekgbcmaaDoor
open Go.RowKit Go.WideShapes Go.ChangeShapes
set_option linter.unusedSimpArgs false
set_option linter.unusedVariables false

theorem x_zero_73 : ZeroOf Tryd.prog 73 #[.int .i64 0, .int .i64 0, .int .i64 0, .int .i64 0, .int .i64 0] := zeroOf (z := .agg #[.int .i64 0, .int .i64 0, .int .i64 0, .int .i64 0, .int .i64 0]) (by kernel_rfl) rfl
theorem x_one_3 : One Tryd.prog 3 := one_of Tryd.underlying3 rfl (by kernel_rfl)
theorem x_run_lit_39_1 {o : Oper} {a : Act} (x0 : Operand) (ho : o.op = .buildSlice 39 1 #[(0, x0)]) {m0 : TEvt} (h0 : a.eval x0 = .agg #[.int .i64 m0.1, .int .i64 m0.2.1, .int .i64 m0.2.2.1, .int .i64 m0.2.2.2.1, .int .i64 m0.2.2.2.2]) (W : World) : (execOp a.eval o).run Tryd.prog W = .ok (.value (.slice (some ⟨W.heap.size, 0, none⟩) 1 1)) (W.alloc (.cells #[.int .i64 m0.1, .int .i64 m0.2.1, .int .i64 m0.2.2.1, .int .i64 m0.2.2.2.1, .int .i64 m0.2.2.2.2] 42)) := by
  unfold execOp
  simp only [ho, List.map_toArray, List.map_cons, List.map_nil, h0]
  go_simp
theorem x_run_lit_40_1 {o : Oper} {a : Act} (x0 : Operand) (ho : o.op = .buildSlice 40 1 #[(0, x0)]) {m0 : TEnt} (h0 : a.eval x0 = .agg #[.int .i64 m0.1, .int .i64 m0.2.1, .int .i64 m0.2.2.1, .int .i64 m0.2.2.2.1, .int .u64 m0.2.2.2.2]) (W : World) : (execOp a.eval o).run Tryd.prog W = .ok (.value (.slice (some ⟨W.heap.size, 0, none⟩) 1 1)) (W.alloc (.cells #[.int .i64 m0.1, .int .i64 m0.2.1, .int .i64 m0.2.2.1, .int .i64 m0.2.2.2.1, .int .u64 m0.2.2.2.2] 46)) := by
  unfold execOp
  simp only [ho, List.map_toArray, List.map_cons, List.map_nil, h0]
  go_simp

attribute [local irreducible] Go.wpList Go.Code.wp
set_option maxRecDepth 100000 in
set_option maxHeartbeats 4000000 in
theorem lawFives_calls (A : Option Addr) (xs : List TEvt) (cap : Nat) (hcap : xs.length ≤ cap) (hl : xs.length ≤ 100000) (w : World) (hr : Reads w A (eEvt.all xs)) : Calls Tryd.prog 18 #[.slice A xs.length cap] w fun e w' => ∃ u, e = .returned u ∧ ∃ v1 v2, u = .tuple #[v1, v2] ∧ OwnR w' w.heap.size 42 eEvt v1 xs ∧ OwnR w' w.heap.size 46 eEnt v2 (xs.map enOf) ∧ Off2 v1 v2 ∧ Below w.heap.size w w' := by
  have bel : Below w.heap.size w w := Below.refl _ _
  go_enter Tryd.func18, Tryd.ntmps18
  refine wp_seq ?_
  refine wp_region_lit ?_
  refine st_mv (.slice none 0 0) ?_
  simp only [nf0, nf1, nf2, nf3, nf4]
  refine st_mv (.slice none 0 0) ?_
  simp only [nf0, nf1, nf2, nf3, nf4]
  refine wpList_nil ?_
  show Code.wp _ _ _ _ _
  refine wp_seq ?_
  refine wp_region_lit ?_
  have O1 : OwnR w w.heap.size 42 eEvt (.slice none 0 0) [] := OwnR.nil _ _ _ _
  refine st_mv (.slice none 0 0) ?_
  simp only [nf0, nf1, nf2, nf3, nf4]
  refine wpList_nil ?_
  show Code.wp _ _ _ _ _
  refine wp_seq ?_
  refine wp_region_lit ?_
  have O3 : OwnR w w.heap.size 46 eEnt (.slice none 0 0) [] := OwnR.nil _ _ _ _
  have n5 : Off2 (.slice none 0 0) (.slice none 0 0) := Off2.nil _
  refine st_mv (.slice none 0 0) ?_
  simp only [nf0, nf1, nf2, nf3, nf4]
  refine wpList_nil ?_
  show Code.wp _ _ _ _ _
  refine wp_seq ?_
  refine wp_seq ?_
  refine wp_region_lit ?_
  refine st_mv (.slice A xs.length cap) ?_
  simp only [nf0, nf1, nf2, nf3, nf4]
  refine st_value (v := (.int .i64 (xs.length : Int))) (by rfl) (run_len (.tmp 8) rfl ⟨_, Tryd.underlying48⟩ rfl w) ?_
  simp only [nf0, nf1, nf2, nf3, nf4]
  refine st_mv (.int .i64 0) ?_
  simp only [nf0, nf1, nf2, nf3, nf4]
  refine wpList_nil ?_
  show Code.wp _ _ _ _ _
  refine wp_block ?_
  refine wp_loop_left (fun n_ a_ wr_ => (fun J6 => ∃ (k : Nat) (va : Value) (vb_ : Value), n_ = xs.length - k ∧ a_ = ⟨#[.slice A xs.length cap, J6 1, .slice none 0 0, .slice none 0 0, va, vb_, J6 6, J6 7, .slice A xs.length cap, .int .i64 (xs.length : Int), .int .i64 (k : Int), J6 11, J6 12, J6 13, J6 14, J6 15, J6 16, J6 17, J6 18, J6 19, J6 20, J6 21, J6 22, J6 23, J6 24, J6 25, J6 26, J6 27, J6 28, J6 29, J6 30, J6 31, J6 32, J6 33, J6 34, J6 35, J6 36, J6 37, J6 38, J6 39, J6 40, J6 41, J6 42, J6 43, J6 44, J6 45], []⟩ ∧ OwnR wr_ w.heap.size 42 eEvt va (xs.take k) ∧ OwnR wr_ w.heap.size 46 eEnt vb_ ((xs.take k).map enOf) ∧ Off2 va vb_ ∧ Below w.heap.size w wr_ ∧ (k ≤ xs.length)) (jk a_)) (xs.length - 0) ⟨0, (.slice none 0 0), (.slice none 0 0), rfl, rfl, (by rw [List.take_zero]; exact O1), (by rw [List.take_zero]; exact O3), n5.symm, bel, (Nat.zero_le _)⟩ ?_
  clear O1
  clear O3
  clear n5
  clear bel
  intro n_ a_ w8 h_
  revert h_
  generalize jk a_ = J6
  rintro ⟨k, va, vb_, hms, rfl, O1, O3, n7, bel, hk⟩
  refine wp_seq ?_
  refine wp_region_lit ?_
  refine st_value (v := (.bool (decide ((k : Int) < (xs.length : Int))))) (by rfl) (run_lss (.tmp 10) (.tmp 9) rfl rfl rfl w8) ?_
  simp only [nf0, nf1, nf2, nf3, nf4]
  refine wpList_nil ?_
  show Code.wp _ _ _ _ _
  refine wp_seq ?_
  cases hg9 : decide ((k : Int) < (xs.length : Int))
  · have hp10 := of_decide_eq_false hg9
    refine wp_cond_false rfl ?_
    refine wp_exit ?_
    show Code.wp _ _ _ _ _
    refine wp_seq ?_
    refine wp_region_lit ?_
    refine st_mv va ?_
    simp only [nf0, nf1, nf2, nf3, nf4]
    refine st_mv vb_ ?_
    simp only [nf0, nf1, nf2, nf3, nf4]
    refine st_mv va ?_
    simp only [nf0, nf1, nf2, nf3, nf4]
    refine st_mv vb_ ?_
    simp only [nf0, nf1, nf2, nf3, nf4]
    refine wpList_nil ?_
    show Code.wp _ _ _ _ _
    refine wp_ret ?_
    first | show bodyPost _ _ _ _ _ _ | (simp only [Exit.then, Exit.inBlock]; show bodyPost _ _ _ _ _ _)
    obtain rfl : k = xs.length := by omega
    exact bodyPost_ret (results_tmp2 rfl _ _ _) rfl ⟨_, rfl, va, vb_, rfl, by have h := O1; rw [List.take_length] at h; exact h, by have h := O3; rw [List.take_length] at h; exact h, n7, bel⟩
  have hp11 := of_decide_eq_true hg9
  refine wp_cond_true rfl ?_
  refine wp_skip ?_
  show Code.wp _ _ _ _ _
  refine wp_seq ?_
  refine wp_block ?_
  refine wp_seq ?_
  obtain ⟨b12, o13, rfl, _⟩ := (hr.same bel).at_ (by rw [Enc.all_length]; exact Nat.mul_pos (by omega) (by decide))
  refine wp_region_lit ?_
  refine st_value (v := (.pointer (some ⟨b12, o13 + k * 5, none⟩))) (by rfl) (run_indexAddrN (.tmp 8) (.tmp 10) rfl Tryd.underlying48 slArr.sz (i := k) rfl rfl (by omega) w8) ?_
  simp only [nf0, nf1, nf2, nf3, nf4]
  refine st_value (v := (.agg #[.int .i64 ((evtAt xs k).1), .int .i64 ((evtAt xs k).2.1), .int .i64 ((evtAt xs k).2.2.1), .int .i64 ((evtAt xs k).2.2.2.1), .int .i64 ((evtAt xs k).2.2.2.2)])) (by rfl) (run_loadE (E := eEvt) (.tmp 12) rfl aggArr rfl (hr.same bel) (evtAt_get (by omega))) ?_
  simp only [nf0, nf1, nf2, nf3, nf4]
  refine st_new (cs := #[.int .i64 0, .int .i64 0, .int .i64 0, .int .i64 0, .int .i64 0]) (t := 73) (by rfl) (run_allocV rfl x_zero_73 _) ?_
  intro g14 w15 B16 hb17 lo18
  simp only [nf0, nf1, nf2, nf3, nf4]
  have n19 := O1.off lo18
  have n20 := O3.off lo18
  replace lo18 := low_le bel lo18
  replace O1 := O1.same hb17
  replace O3 := O3.same hb17
  replace bel := bl_step bel hb17
  clear hb17
  refine st_row (by rfl) (run_storeW (.tmp 7) (.tmp 13) rfl (cs := #[.int .i64 ((evtAt xs k).1), .int .i64 ((evtAt xs k).2.1), .int .i64 ((evtAt xs k).2.2.1), .int .i64 ((evtAt xs k).2.2.2.1), .int .i64 ((evtAt xs k).2.2.2.2)]) aggArr rfl rfl B16 rfl (by simp [Value.oneCell'])) B16 ?_
  intro w21 B23 hg22
  simp only [nf0, nf1, nf2, nf3, nf4]
  replace O1 := O1.keptB hg22 n19
  replace O3 := O3.keptB hg22 n20
  replace bel := bl_kept0 bel hg22 lo18
  clear hg22
  clear B16
  refine wpList_nil ?_
  show Code.wp _ _ _ _ _
  refine wp_seq ?_
  refine wp_region_lit ?_
  refine st_mv va ?_
  simp only [nf0, nf1, nf2, nf3, nf4]
  refine st_value (v := (.pointer (some ⟨g14, 0, none⟩))) (by rfl) (run_indexArr (.tmp 7) (.const (.int .i64 0)) rfl Tryd.underlying73 (sz := 1) (by kernel_rfl) (i := 0) (k' := 0) rfl rfl rfl (by rfl) (by omega) w21) ?_
  simp only [nf0, nf1, nf2, nf3, nf4]
  refine st_value (v := (.int .i64 ((evtAt xs k).1))) (by rfl) (run_loadB (.tmp 15) rfl x_one_3 rfl B23 rfl) ?_
  simp only [nf0, nf1, nf2, nf3, nf4]
  refine st_value (v := (.pointer (some ⟨g14, 1, none⟩))) (by rfl) (run_indexArr (.tmp 7) (.const (.int .i64 1)) rfl Tryd.underlying73 (sz := 1) (by kernel_rfl) (i := 1) (k' := 1) rfl rfl rfl (by rfl) (by omega) w21) ?_
  simp only [nf0, nf1, nf2, nf3, nf4]
  refine st_value (v := (.int .i64 ((evtAt xs k).2.1))) (by rfl) (run_loadB (.tmp 17) rfl x_one_3 rfl B23 rfl) ?_
  simp only [nf0, nf1, nf2, nf3, nf4]
  refine st_value (v := (.pointer (some ⟨g14, 2, none⟩))) (by rfl) (run_indexArr (.tmp 7) (.const (.int .i64 2)) rfl Tryd.underlying73 (sz := 1) (by kernel_rfl) (i := 2) (k' := 2) rfl rfl rfl (by rfl) (by omega) w21) ?_
  simp only [nf0, nf1, nf2, nf3, nf4]
  refine st_value (v := (.int .i64 ((evtAt xs k).2.2.1))) (by rfl) (run_loadB (.tmp 19) rfl x_one_3 rfl B23 rfl) ?_
  simp only [nf0, nf1, nf2, nf3, nf4]
  refine st_value (v := (.pointer (some ⟨g14, 3, none⟩))) (by rfl) (run_indexArr (.tmp 7) (.const (.int .i64 3)) rfl Tryd.underlying73 (sz := 1) (by kernel_rfl) (i := 3) (k' := 3) rfl rfl rfl (by rfl) (by omega) w21) ?_
  simp only [nf0, nf1, nf2, nf3, nf4]
  refine st_value (v := (.int .i64 ((evtAt xs k).2.2.2.1))) (by rfl) (run_loadB (.tmp 21) rfl x_one_3 rfl B23 rfl) ?_
  simp only [nf0, nf1, nf2, nf3, nf4]
  refine st_value (v := (.pointer (some ⟨g14, 4, none⟩))) (by rfl) (run_indexArr (.tmp 7) (.const (.int .i64 4)) rfl Tryd.underlying73 (sz := 1) (by kernel_rfl) (i := 4) (k' := 4) rfl rfl rfl (by rfl) (by omega) w21) ?_
  simp only [nf0, nf1, nf2, nf3, nf4]
  refine st_value (v := (.int .i64 ((evtAt xs k).2.2.2.2))) (by rfl) (run_loadB (.tmp 23) rfl x_one_3 rfl B23 rfl) ?_
  simp only [nf0, nf1, nf2, nf3, nf4]
  refine st_value (v := (.agg #[.int .i64 ((evtAt xs k).1), .int .i64 ((evtAt xs k).2.1), .int .i64 ((evtAt xs k).2.2.1), .int .i64 ((evtAt xs k).2.2.2.1), .int .i64 ((evtAt xs k).2.2.2.2)])) (by rfl) (run_buildV rfl (by kernel_rfl) w21) ?_
  simp only [nf0, nf1, nf2, nf3, nf4]
  refine st_lit (by rfl) (x_run_lit_39_1 (.tmp 25) rfl (m0 := (((evtAt xs k).1), ((evtAt xs k).2.1), ((evtAt xs k).2.2.1), ((evtAt xs k).2.2.2.1), ((evtAt xs k).2.2.2.2))) rfl _) ?_
  intro g24 w25 B26 hb27 lo28
  simp only [nf0, nf1, nf2, nf3, nf4]
  have n29 := O1.off lo28
  have n30 := O3.off lo28
  have n31 := B23.ne lo28
  replace lo28 := low_le bel lo28
  replace O1 := O1.same hb27
  replace O3 := O3.same hb27
  replace B23 := B23.below hb27
  replace bel := bl_step bel hb27
  clear hb27
  refine st_append slEvt rfl (.tmp 14) (.tmp 26) rfl rfl O1 ([(((evtAt xs k).1), ((evtAt xs k).2.1), ((evtAt xs k).2.2.1), ((evtAt xs k).2.2.2.1), ((evtAt xs k).2.2.2.2))] : List TEvt) rfl rfl B26 (by simp [Enc.all, eEvt]) (by simp only [List.length_cons, List.length_nil, List.length_map, List.length_take]; omega) bel.size ?_
  intro v32 w33 O34 hg35 hat36
  simp only [nf0, nf1, nf2, nf3, nf4]
  have n37 := Off2.app n7 O3 hat36
  replace O3 := O3.keptR hg35 n7.symm
  have n38 := (n19 : Off _ _).app B23 hat36
  replace B23 := B23.keptR hg35 n19
  replace bel := bl_app bel O1 hg35
  clear O1 hg35 hat36
  refine st_mv v32 ?_
  simp only [nf0, nf1, nf2, nf3, nf4]
  refine wpList_nil ?_
  show Code.wp _ _ _ _ _
  refine wp_region_lit ?_
  refine st_mv vb_ ?_
  simp only [nf0, nf1, nf2, nf3, nf4]
  refine st_value (v := (.pointer (some ⟨g14, 0, none⟩))) (by rfl) (run_indexArr (.tmp 7) (.const (.int .i64 0)) rfl Tryd.underlying73 (sz := 1) (by kernel_rfl) (i := 0) (k' := 0) rfl rfl rfl (by rfl) (by omega) w33) ?_
  simp only [nf0, nf1, nf2, nf3, nf4]
  refine st_value (v := (.int .i64 ((evtAt xs k).1))) (by rfl) (run_loadB (.tmp 29) rfl x_one_3 rfl B23 rfl) ?_
  simp only [nf0, nf1, nf2, nf3, nf4]
  refine st_value (v := (.pointer (some ⟨g14, 1, none⟩))) (by rfl) (run_indexArr (.tmp 7) (.const (.int .i64 1)) rfl Tryd.underlying73 (sz := 1) (by kernel_rfl) (i := 1) (k' := 1) rfl rfl rfl (by rfl) (by omega) w33) ?_
  simp only [nf0, nf1, nf2, nf3, nf4]
  refine st_value (v := (.int .i64 ((evtAt xs k).2.1))) (by rfl) (run_loadB (.tmp 31) rfl x_one_3 rfl B23 rfl) ?_
  simp only [nf0, nf1, nf2, nf3, nf4]
  refine st_value (v := (.pointer (some ⟨g14, 2, none⟩))) (by rfl) (run_indexArr (.tmp 7) (.const (.int .i64 2)) rfl Tryd.underlying73 (sz := 1) (by kernel_rfl) (i := 2) (k' := 2) rfl rfl rfl (by rfl) (by omega) w33) ?_
  simp only [nf0, nf1, nf2, nf3, nf4]
  refine st_value (v := (.int .i64 ((evtAt xs k).2.2.1))) (by rfl) (run_loadB (.tmp 33) rfl x_one_3 rfl B23 rfl) ?_
  simp only [nf0, nf1, nf2, nf3, nf4]
  refine st_value (v := (.pointer (some ⟨g14, 3, none⟩))) (by rfl) (run_indexArr (.tmp 7) (.const (.int .i64 3)) rfl Tryd.underlying73 (sz := 1) (by kernel_rfl) (i := 3) (k' := 3) rfl rfl rfl (by rfl) (by omega) w33) ?_
  simp only [nf0, nf1, nf2, nf3, nf4]
  refine st_value (v := (.int .i64 ((evtAt xs k).2.2.2.1))) (by rfl) (run_loadB (.tmp 35) rfl x_one_3 rfl B23 rfl) ?_
  simp only [nf0, nf1, nf2, nf3, nf4]
  refine st_value (v := (.pointer (some ⟨g14, 4, none⟩))) (by rfl) (run_indexArr (.tmp 7) (.const (.int .i64 4)) rfl Tryd.underlying73 (sz := 1) (by kernel_rfl) (i := 4) (k' := 4) rfl rfl rfl (by rfl) (by omega) w33) ?_
  simp only [nf0, nf1, nf2, nf3, nf4]
  refine st_value (v := (.int .i64 ((evtAt xs k).2.2.2.2))) (by rfl) (run_loadB (.tmp 37) rfl x_one_3 rfl B23 rfl) ?_
  simp only [nf0, nf1, nf2, nf3, nf4]
  refine st_value (v := (.int .u64 (IntKind.u64.wrap (evtAt xs k).2.2.2.2))) (by rfl) (run_conv_i64_u64 (.tmp 38) rfl Tryd.underlying3 Tryd.underlying44 (z := (evtAt xs k).2.2.2.2) rfl rfl w33) ?_
  simp only [nf0, nf1, nf2, nf3, nf4]
  refine st_value (v := (.agg #[.int .i64 ((evtAt xs k).1), .int .i64 ((evtAt xs k).2.1), .int .i64 ((evtAt xs k).2.2.1), .int .i64 ((evtAt xs k).2.2.2.1), .int .u64 (IntKind.u64.wrap (evtAt xs k).2.2.2.2)])) (by rfl) (run_buildV rfl (by kernel_rfl) w33) ?_
  simp only [nf0, nf1, nf2, nf3, nf4]
  refine st_lit (by rfl) (x_run_lit_40_1 (.tmp 40) rfl (m0 := (((evtAt xs k).1), ((evtAt xs k).2.1), ((evtAt xs k).2.2.1), ((evtAt xs k).2.2.2.1), (IntKind.u64.wrap (evtAt xs k).2.2.2.2))) rfl _) ?_
  intro g39 w40 B41 hb42 lo43
  simp only [nf0, nf1, nf2, nf3, nf4]
  have n44 := O3.off lo43
  have n45 := B23.ne lo43
  have n46 := O34.off lo43
  replace lo43 := low_le bel lo43
  replace O3 := O3.same hb42
  replace B23 := B23.below hb42
  replace O34 := O34.same hb42
  replace bel := bl_step bel hb42
  clear hb42
  refine st_append slEnt rfl (.tmp 28) (.tmp 41) rfl rfl O3 ([(((evtAt xs k).1), ((evtAt xs k).2.1), ((evtAt xs k).2.2.1), ((evtAt xs k).2.2.2.1), (IntKind.u64.wrap (evtAt xs k).2.2.2.2))] : List TEnt) rfl rfl B41 (by simp [Enc.all, eEnt]) (by simp only [List.length_cons, List.length_nil, List.length_map, List.length_take]; omega) bel.size ?_
  intro v47 w48 O49 hg50 hat51
  simp only [nf0, nf1, nf2, nf3, nf4]
  have n52 := (n20 : Off _ _).app B23 hat51
  replace B23 := B23.keptR hg50 n20
  have n53 := Off2.app n37.symm O34 hat51
  replace O34 := O34.keptR hg50 n37
  replace bel := bl_app bel O3 hg50
  clear O3 hg50 hat51
  refine st_mv v47 ?_
  simp only [nf0, nf1, nf2, nf3, nf4]
  refine wpList_nil ?_
  show Code.wp _ _ _ _ _
  refine wp_region_lit ?_
  refine st_value (v := (.int .i64 ((k : Int) + 1))) (by rfl) (run_add_in (.tmp 10) (.const (.int .i64 1)) rfl rfl rfl (by omega) w48) ?_
  simp only [nf0, nf1, nf2, nf3, nf4]
  refine st_mv (.int .i64 ((k : Int) + 1)) ?_
  simp only [nf0, nf1, nf2, nf3, nf4]
  refine wpList_nil ?_
  show ∃ m, m < _ ∧ _
  exact ⟨_, (by omega), (k + 1), v32, v47, rfl, rfl, (by rw [evt_snoc (by omega)]; exact O34), (by rw [evt_snoc (by omega), List.map_append]; exact O49), n53.symm, bel, (by omega)⟩
set_option maxRecDepth 100000 in
set_option maxHeartbeats 4000000 in
theorem sameEvents_calls (A B : Option Addr) (xs ys : List TEvt) (cap cap' : Nat) (hcap : xs.length ≤ cap) (hcap' : ys.length ≤ cap') (hl : xs.length ≤ 100000) (hl' : ys.length ≤ 100000) (w : World) (hr : Reads w A (eEvt.all xs)) (hr' : Reads w B (eEvt.all ys)) : Calls Tryd.prog 23 #[.slice A xs.length cap, .slice B ys.length cap'] w fun e w' => e = .returned (.bool (decide (xs = ys))) ∧ Below w.heap.size w w' := by
  have bel : Below w.heap.size w w := Below.refl _ _
  go_enter Tryd.func23, Tryd.ntmps23
  refine wp_seq ?_
  refine wp_region_lit ?_
  refine st_mv (.bool false) ?_
  simp only [nf0, nf1, nf2, nf3, nf4]
  refine wpList_nil ?_
  show Code.wp _ _ _ _ _
  refine wp_seq ?_
  refine wp_seq ?_
  refine wp_region_lit ?_
  refine st_mv (.slice A xs.length cap) ?_
  simp only [nf0, nf1, nf2, nf3, nf4]
  refine st_value (v := (.int .i64 (xs.length : Int))) (by rfl) (run_len (.tmp 6) rfl ⟨_, Tryd.underlying39⟩ rfl w) ?_
  simp only [nf0, nf1, nf2, nf3, nf4]
  refine st_mv (.slice B ys.length cap') ?_
  simp only [nf0, nf1, nf2, nf3, nf4]
  refine st_value (v := (.int .i64 (ys.length : Int))) (by rfl) (run_len (.tmp 8) rfl ⟨_, Tryd.underlying39⟩ rfl w) ?_
  simp only [nf0, nf1, nf2, nf3, nf4]
  refine st_value (v := (.bool (!decide ((xs.length : Int) = (ys.length : Int))))) (by rfl) (run_neq_int (.tmp 7) (.tmp 9) rfl rfl rfl w) ?_
  simp only [nf0, nf1, nf2, nf3, nf4]
  refine wpList_nil ?_
  show Code.wp _ _ _ _ _
  cases hg1 : decide ((xs.length : Int) = (ys.length : Int))
  · have hp2 := of_decide_eq_false hg1
    refine wp_cond_true rfl ?_
    refine wp_seq ?_
    refine wp_region_lit ?_
    refine st_mv (.bool false) ?_
    simp only [nf0, nf1, nf2, nf3, nf4]
    refine wpList_nil ?_
    show Code.wp _ _ _ _ _
    refine wp_ret ?_
    first | show bodyPost _ _ _ _ _ _ | (simp only [Exit.then, Exit.inBlock]; show bodyPost _ _ _ _ _ _)
    have hE : ¬ xs = ys := fun e => by subst e; omega
    exact bodyPost_ret (results_tmp rfl _ _ _) rfl ⟨by rw [decide_eq_false hE]; rfl, bel⟩
  have hp3 := of_decide_eq_true hg1
  refine wp_cond_false rfl ?_
  refine wp_skip ?_
  show Code.wp _ _ _ _ _
  refine wp_seq ?_
  refine wp_seq ?_
  refine wp_region_lit ?_
  refine st_mv (.slice A xs.length cap) ?_
  simp only [nf0, nf1, nf2, nf3, nf4]
  refine st_value (v := (.int .i64 (xs.length : Int))) (by rfl) (run_len (.tmp 11) rfl ⟨_, Tryd.underlying39⟩ rfl w) ?_
  simp only [nf0, nf1, nf2, nf3, nf4]
  refine st_mv (.int .i64 0) ?_
  simp only [nf0, nf1, nf2, nf3, nf4]
  refine wpList_nil ?_
  show Code.wp _ _ _ _ _
  refine wp_block ?_
  refine wp_loop_left (fun n_ a_ wr_ => (fun J4 => ∃ (k : Nat), n_ = xs.length - k ∧ a_ = ⟨#[.slice A xs.length cap, .slice B ys.length cap', J4 2, J4 3, J4 4, J4 5, J4 6, J4 7, J4 8, J4 9, J4 10, .slice A xs.length cap, .int .i64 (xs.length : Int), .int .i64 (k : Int), J4 14, J4 15, J4 16, J4 17, J4 18, J4 19, J4 20, J4 21, J4 22, J4 23, J4 24, J4 25], []⟩ ∧ Below w.heap.size w wr_ ∧ (k ≤ xs.length) ∧ (∀ j, j < k → evtAt xs j = evtAt ys j)) (jk a_)) (xs.length - 0) ⟨0, rfl, rfl, bel, (Nat.zero_le _), (fun j h => absurd h (Nat.not_lt_zero _))⟩ ?_
  clear bel
  intro n_ a_ w5 h_
  revert h_
  generalize jk a_ = J4
  rintro ⟨k, hms, rfl, bel, hk, hS⟩
  refine wp_seq ?_
  refine wp_region_lit ?_
  refine st_value (v := (.bool (decide ((k : Int) < (xs.length : Int))))) (by rfl) (run_lss (.tmp 13) (.tmp 12) rfl rfl rfl w5) ?_
  simp only [nf0, nf1, nf2, nf3, nf4]
  refine wpList_nil ?_
  show Code.wp _ _ _ _ _
  refine wp_seq ?_
  cases hg6 : decide ((k : Int) < (xs.length : Int))
  · have hp7 := of_decide_eq_false hg6
    refine wp_cond_false rfl ?_
    refine wp_exit ?_
    show Code.wp _ _ _ _ _
    refine wp_seq ?_
    refine wp_region_lit ?_
    refine st_mv (.bool true) ?_
    simp only [nf0, nf1, nf2, nf3, nf4]
    refine wpList_nil ?_
    show Code.wp _ _ _ _ _
    refine wp_ret ?_
    first | show bodyPost _ _ _ _ _ _ | (simp only [Exit.then, Exit.inBlock]; show bodyPost _ _ _ _ _ _)
    have hE : xs = ys := evt_ext (by omega) fun j hj => hS j (by omega)
    exact bodyPost_ret (results_tmp rfl _ _ _) rfl ⟨by rw [decide_eq_true hE]; rfl, bel⟩
  have hp8 := of_decide_eq_true hg6
  refine wp_cond_true rfl ?_
  refine wp_skip ?_
  show Code.wp _ _ _ _ _
  refine wp_seq ?_
  refine wp_block ?_
  refine wp_seq ?_
  refine wp_region_lit ?_
  refine st_mv (.int .i64 (k : Int)) ?_
  simp only [nf0, nf1, nf2, nf3, nf4]
  refine st_mv (.int .i64 (k : Int)) ?_
  simp only [nf0, nf1, nf2, nf3, nf4]
  refine wpList_nil ?_
  show Code.wp _ _ _ _ _
  refine wp_seq ?_
  obtain ⟨b9, o10, rfl, _⟩ := (hr.same bel).at_ (by rw [Enc.all_length]; exact Nat.mul_pos (by omega) (by decide))
  obtain ⟨b11, o12, rfl, _⟩ := (hr'.same bel).at_ (by rw [Enc.all_length]; exact Nat.mul_pos (by omega) (by decide))
  refine wp_region_facts_lit (C := Abv w5) (G := G0) [.val (.slice (some ⟨b9, o10, none⟩) xs.length cap), .val (.int .i64 (k : Int)), .val (.pointer (some ⟨b9, o10 + k * 5, none⟩)), .val (.agg #[.int .i64 ((evtAt xs k).1), .int .i64 ((evtAt xs k).2.1), .int .i64 ((evtAt xs k).2.2.1), .int .i64 ((evtAt xs k).2.2.2.1), .int .i64 ((evtAt xs k).2.2.2.2)]), .val (.slice (some ⟨b11, o12, none⟩) ys.length cap'), .val (.int .i64 (k : Int)), .val (.pointer (some ⟨b11, o12 + k * 5, none⟩)), .val (.agg #[.int .i64 ((evtAt ys k).1), .int .i64 ((evtAt ys k).2.1), .int .i64 ((evtAt ys k).2.2.1), .int .i64 ((evtAt ys k).2.2.2.1), .int .i64 ((evtAt ys k).2.2.2.2)]), .val (.bool (!decide ((evtAt xs k) = (evtAt ys k))))] (by kernel_rfl) (by kernel_rfl) (Abv.start _) ?_
  refine fsteps_val (fun W hC hh => opok_value (v := (.slice (some ⟨b9, o10, none⟩) xs.length cap)) (by rfl) (by rfl) rfl hC (G0.refl _)) ?_
  simp only [nf0, nf1, nf2, nf3, nf4]
  refine fsteps_val (fun W hC hh => opok_value (v := (.int .i64 (k : Int))) (by rfl) (by rfl) rfl hC (G0.refl _)) ?_
  simp only [nf0, nf1, nf2, nf3, nf4]
  refine fsteps_val (fun W hC hh => opok_value (v := (.pointer (some ⟨b9, o10 + k * 5, none⟩))) (by rfl) (run_indexAddrN (.tmp 16) (.tmp 17) rfl Tryd.underlying39 slEvt.sz (i := k) rfl rfl (by omega) W) rfl hC (G0.refl _)) ?_
  simp only [nf0, nf1, nf2, nf3, nf4]
  refine fsteps_val (fun W hC hh => opok_value (v := (.agg #[.int .i64 ((evtAt xs k).1), .int .i64 ((evtAt xs k).2.1), .int .i64 ((evtAt xs k).2.2.1), .int .i64 ((evtAt xs k).2.2.2.1), .int .i64 ((evtAt xs k).2.2.2.2)])) (by rfl) (run_loadE (E := eEvt) (.tmp 18) rfl aggEvt rfl (hr.same (bl_step bel hC)) (evtAt_get (by omega))) rfl hC (G0.refl _)) ?_
  simp only [nf0, nf1, nf2, nf3, nf4]
  refine fsteps_val (fun W hC hh => opok_value (v := (.slice (some ⟨b11, o12, none⟩) ys.length cap')) (by rfl) (by rfl) rfl hC (G0.refl _)) ?_
  simp only [nf0, nf1, nf2, nf3, nf4]
  refine fsteps_val (fun W hC hh => opok_value (v := (.int .i64 (k : Int))) (by rfl) (by rfl) rfl hC (G0.refl _)) ?_
  simp only [nf0, nf1, nf2, nf3, nf4]
  refine fsteps_val (fun W hC hh => opok_value (v := (.pointer (some ⟨b11, o12 + k * 5, none⟩))) (by rfl) (run_indexAddrN (.tmp 20) (.tmp 21) rfl Tryd.underlying39 slEvt.sz (i := k) rfl rfl (by omega) W) rfl hC (G0.refl _)) ?_
  simp only [nf0, nf1, nf2, nf3, nf4]
  refine fsteps_val (fun W hC hh => opok_value (v := (.agg #[.int .i64 ((evtAt ys k).1), .int .i64 ((evtAt ys k).2.1), .int .i64 ((evtAt ys k).2.2.1), .int .i64 ((evtAt ys k).2.2.2.1), .int .i64 ((evtAt ys k).2.2.2.2)])) (by rfl) (run_loadE (E := eEvt) (.tmp 22) rfl aggEvt rfl (hr'.same (bl_step bel hC)) (evtAt_get (by omega))) rfl hC (G0.refl _)) ?_
  simp only [nf0, nf1, nf2, nf3, nf4]
  refine fsteps_val (fun W hC hh => opok_value (v := (.bool (!decide ((evtAt xs k) = (evtAt ys k))))) (by rfl) (run_neq_agg (.tmp 19) (.tmp 23) rfl eqEvt (p := (evtAt xs k)) (q := (evtAt ys k)) rfl rfl trivial trivial W) rfl hC (G0.refl _)) ?_
  simp only [nf0, nf1, nf2, nf3, nf4]
  refine fsteps_nil fun w13 hC _ => ?_
  replace hC : Below w5.heap.size w5 w13 := hC
  replace bel := bl_step bel hC
  clear hC
  show Code.wp _ _ _ _ _
  cases hg14 : decide ((evtAt xs k) = (evtAt ys k))
  · have hp15 := of_decide_eq_false hg14
    refine wp_cond_true rfl ?_
    refine wp_seq ?_
    refine wp_region_lit ?_
    refine st_mv (.bool false) ?_
    simp only [nf0, nf1, nf2, nf3, nf4]
    refine wpList_nil ?_
    show Code.wp _ _ _ _ _
    refine wp_ret ?_
    first | show bodyPost _ _ _ _ _ _ | (simp only [Exit.then, Exit.inBlock]; show bodyPost _ _ _ _ _ _)
    have hE : ¬ xs = ys := fun e => hp15 (by rw [e])
    exact bodyPost_ret (results_tmp rfl _ _ _) rfl ⟨by rw [decide_eq_false hE]; rfl, bel⟩
  have hp16 := of_decide_eq_true hg14
  refine wp_cond_false rfl ?_
  refine wp_skip ?_
  show Code.wp _ _ _ _ _
  refine wp_region_lit ?_
  refine st_value (v := (.int .i64 ((k : Int) + 1))) (by rfl) (run_add_in (.tmp 13) (.const (.int .i64 1)) rfl rfl rfl (by omega) w13) ?_
  simp only [nf0, nf1, nf2, nf3, nf4]
  refine st_mv (.int .i64 ((k : Int) + 1)) ?_
  simp only [nf0, nf1, nf2, nf3, nf4]
  refine wpList_nil ?_
  show ∃ m, m < _ ∧ _
  exact ⟨_, (by omega), (k + 1), rfl, rfl, bel, (by omega), (fun j h => by rcases Nat.lt_or_ge j k with g | g; exact hS j g; obtain rfl : j = k := (by omega); exact hp16)⟩
set_option maxRecDepth 100000 in
set_option maxHeartbeats 4000000 in
theorem sameEntries_calls (A B : Option Addr) (xs ys : List TEnt) (cap cap' : Nat) (hcap : xs.length ≤ cap) (hcap' : ys.length ≤ cap') (hl : xs.length ≤ 100000) (hl' : ys.length ≤ 100000) (w : World) (hr : Reads w A (eEnt.all xs)) (hr' : Reads w B (eEnt.all ys)) : Calls Tryd.prog 24 #[.slice A xs.length cap, .slice B ys.length cap'] w fun e w' => e = .returned (.bool (decide (xs = ys))) ∧ Below w.heap.size w w' := by
  have bel : Below w.heap.size w w := Below.refl _ _
  go_enter Tryd.func24, Tryd.ntmps24
  refine wp_seq ?_
  refine wp_region_lit ?_
  refine st_mv (.bool false) ?_
  simp only [nf0, nf1, nf2, nf3, nf4]
  refine wpList_nil ?_
  show Code.wp _ _ _ _ _
  refine wp_seq ?_
  refine wp_seq ?_
  refine wp_region_lit ?_
  refine st_mv (.slice A xs.length cap) ?_
  simp only [nf0, nf1, nf2, nf3, nf4]
  refine st_value (v := (.int .i64 (xs.length : Int))) (by rfl) (run_len (.tmp 6) rfl ⟨_, Tryd.underlying40⟩ rfl w) ?_
  simp only [nf0, nf1, nf2, nf3, nf4]
  refine st_mv (.slice B ys.length cap') ?_
  simp only [nf0, nf1, nf2, nf3, nf4]
  refine st_value (v := (.int .i64 (ys.length : Int))) (by rfl) (run_len (.tmp 8) rfl ⟨_, Tryd.underlying40⟩ rfl w) ?_
  simp only [nf0, nf1, nf2, nf3, nf4]
  refine st_value (v := (.bool (!decide ((xs.length : Int) = (ys.length : Int))))) (by rfl) (run_neq_int (.tmp 7) (.tmp 9) rfl rfl rfl w) ?_
  simp only [nf0, nf1, nf2, nf3, nf4]
  refine wpList_nil ?_
  show Code.wp _ _ _ _ _
  cases hg1 : decide ((xs.length : Int) = (ys.length : Int))
  · have hp2 := of_decide_eq_false hg1
    refine wp_cond_true rfl ?_
    refine wp_seq ?_
    refine wp_region_lit ?_
    refine st_mv (.bool false) ?_
    simp only [nf0, nf1, nf2, nf3, nf4]
    refine wpList_nil ?_
    show Code.wp _ _ _ _ _
    refine wp_ret ?_
    first | show bodyPost _ _ _ _ _ _ | (simp only [Exit.then, Exit.inBlock]; show bodyPost _ _ _ _ _ _)
    have hE : ¬ xs = ys := fun e => by subst e; omega
    exact bodyPost_ret (results_tmp rfl _ _ _) rfl ⟨by rw [decide_eq_false hE]; rfl, bel⟩
  have hp3 := of_decide_eq_true hg1
  refine wp_cond_false rfl ?_
  refine wp_skip ?_
  show Code.wp _ _ _ _ _
  refine wp_seq ?_
  refine wp_seq ?_
  refine wp_region_lit ?_
  refine st_mv (.slice A xs.length cap) ?_
  simp only [nf0, nf1, nf2, nf3, nf4]
  refine st_value (v := (.int .i64 (xs.length : Int))) (by rfl) (run_len (.tmp 11) rfl ⟨_, Tryd.underlying40⟩ rfl w) ?_
  simp only [nf0, nf1, nf2, nf3, nf4]
  refine st_mv (.int .i64 0) ?_
  simp only [nf0, nf1, nf2, nf3, nf4]
  refine wpList_nil ?_
  show Code.wp _ _ _ _ _
  refine wp_block ?_
  refine wp_loop_left (fun n_ a_ wr_ => (fun J4 => ∃ (k : Nat), n_ = xs.length - k ∧ a_ = ⟨#[.slice A xs.length cap, .slice B ys.length cap', J4 2, J4 3, J4 4, J4 5, J4 6, J4 7, J4 8, J4 9, J4 10, .slice A xs.length cap, .int .i64 (xs.length : Int), .int .i64 (k : Int), J4 14, J4 15, J4 16, J4 17, J4 18, J4 19, J4 20, J4 21, J4 22, J4 23, J4 24, J4 25], []⟩ ∧ Below w.heap.size w wr_ ∧ (k ≤ xs.length) ∧ (∀ j, j < k → entAt xs j = entAt ys j)) (jk a_)) (xs.length - 0) ⟨0, rfl, rfl, bel, (Nat.zero_le _), (fun j h => absurd h (Nat.not_lt_zero _))⟩ ?_
  clear bel
  intro n_ a_ w5 h_
  revert h_
  generalize jk a_ = J4
  rintro ⟨k, hms, rfl, bel, hk, hS⟩
  refine wp_seq ?_
  refine wp_region_lit ?_
  refine st_value (v := (.bool (decide ((k : Int) < (xs.length : Int))))) (by rfl) (run_lss (.tmp 13) (.tmp 12) rfl rfl rfl w5) ?_
  simp only [nf0, nf1, nf2, nf3, nf4]
  refine wpList_nil ?_
  show Code.wp _ _ _ _ _
  refine wp_seq ?_
  cases hg6 : decide ((k : Int) < (xs.length : Int))
  · have hp7 := of_decide_eq_false hg6
    refine wp_cond_false rfl ?_
    refine wp_exit ?_
    show Code.wp _ _ _ _ _
    refine wp_seq ?_
    refine wp_region_lit ?_
    refine st_mv (.bool true) ?_
    simp only [nf0, nf1, nf2, nf3, nf4]
    refine wpList_nil ?_
    show Code.wp _ _ _ _ _
    refine wp_ret ?_
    first | show bodyPost _ _ _ _ _ _ | (simp only [Exit.then, Exit.inBlock]; show bodyPost _ _ _ _ _ _)
    have hE : xs = ys := ent_ext (by omega) fun j hj => hS j (by omega)
    exact bodyPost_ret (results_tmp rfl _ _ _) rfl ⟨by rw [decide_eq_true hE]; rfl, bel⟩
  have hp8 := of_decide_eq_true hg6
  refine wp_cond_true rfl ?_
  refine wp_skip ?_
  show Code.wp _ _ _ _ _
  refine wp_seq ?_
  refine wp_block ?_
  refine wp_seq ?_
  refine wp_region_lit ?_
  refine st_mv (.int .i64 (k : Int)) ?_
  simp only [nf0, nf1, nf2, nf3, nf4]
  refine st_mv (.int .i64 (k : Int)) ?_
  simp only [nf0, nf1, nf2, nf3, nf4]
  refine wpList_nil ?_
  show Code.wp _ _ _ _ _
  refine wp_seq ?_
  obtain ⟨b9, o10, rfl, _⟩ := (hr.same bel).at_ (by rw [Enc.all_length]; exact Nat.mul_pos (by omega) (by decide))
  obtain ⟨b11, o12, rfl, _⟩ := (hr'.same bel).at_ (by rw [Enc.all_length]; exact Nat.mul_pos (by omega) (by decide))
  refine wp_region_facts_lit (C := Abv w5) (G := G0) [.val (.slice (some ⟨b9, o10, none⟩) xs.length cap), .val (.int .i64 (k : Int)), .val (.pointer (some ⟨b9, o10 + k * 5, none⟩)), .val (.agg #[.int .i64 ((entAt xs k).1), .int .i64 ((entAt xs k).2.1), .int .i64 ((entAt xs k).2.2.1), .int .i64 ((entAt xs k).2.2.2.1), .int .u64 ((entAt xs k).2.2.2.2)]), .val (.slice (some ⟨b11, o12, none⟩) ys.length cap'), .val (.int .i64 (k : Int)), .val (.pointer (some ⟨b11, o12 + k * 5, none⟩)), .val (.agg #[.int .i64 ((entAt ys k).1), .int .i64 ((entAt ys k).2.1), .int .i64 ((entAt ys k).2.2.1), .int .i64 ((entAt ys k).2.2.2.1), .int .u64 ((entAt ys k).2.2.2.2)]), .val (.bool (!decide ((entAt xs k) = (entAt ys k))))] (by kernel_rfl) (by kernel_rfl) (Abv.start _) ?_
  refine fsteps_val (fun W hC hh => opok_value (v := (.slice (some ⟨b9, o10, none⟩) xs.length cap)) (by rfl) (by rfl) rfl hC (G0.refl _)) ?_
  simp only [nf0, nf1, nf2, nf3, nf4]
  refine fsteps_val (fun W hC hh => opok_value (v := (.int .i64 (k : Int))) (by rfl) (by rfl) rfl hC (G0.refl _)) ?_
  simp only [nf0, nf1, nf2, nf3, nf4]
  refine fsteps_val (fun W hC hh => opok_value (v := (.pointer (some ⟨b9, o10 + k * 5, none⟩))) (by rfl) (run_indexAddrN (.tmp 16) (.tmp 17) rfl Tryd.underlying40 slEnt.sz (i := k) rfl rfl (by omega) W) rfl hC (G0.refl _)) ?_
  simp only [nf0, nf1, nf2, nf3, nf4]
  refine fsteps_val (fun W hC hh => opok_value (v := (.agg #[.int .i64 ((entAt xs k).1), .int .i64 ((entAt xs k).2.1), .int .i64 ((entAt xs k).2.2.1), .int .i64 ((entAt xs k).2.2.2.1), .int .u64 ((entAt xs k).2.2.2.2)])) (by rfl) (run_loadE (E := eEnt) (.tmp 18) rfl aggEnt rfl (hr.same (bl_step bel hC)) (entAt_get (by omega))) rfl hC (G0.refl _)) ?_
  simp only [nf0, nf1, nf2, nf3, nf4]
  refine fsteps_val (fun W hC hh => opok_value (v := (.slice (some ⟨b11, o12, none⟩) ys.length cap')) (by rfl) (by rfl) rfl hC (G0.refl _)) ?_
  simp only [nf0, nf1, nf2, nf3, nf4]
  refine fsteps_val (fun W hC hh => opok_value (v := (.int .i64 (k : Int))) (by rfl) (by rfl) rfl hC (G0.refl _)) ?_
  simp only [nf0, nf1, nf2, nf3, nf4]
  refine fsteps_val (fun W hC hh => opok_value (v := (.pointer (some ⟨b11, o12 + k * 5, none⟩))) (by rfl) (run_indexAddrN (.tmp 20) (.tmp 21) rfl Tryd.underlying40 slEnt.sz (i := k) rfl rfl (by omega) W) rfl hC (G0.refl _)) ?_
  simp only [nf0, nf1, nf2, nf3, nf4]
  refine fsteps_val (fun W hC hh => opok_value (v := (.agg #[.int .i64 ((entAt ys k).1), .int .i64 ((entAt ys k).2.1), .int .i64 ((entAt ys k).2.2.1), .int .i64 ((entAt ys k).2.2.2.1), .int .u64 ((entAt ys k).2.2.2.2)])) (by rfl) (run_loadE (E := eEnt) (.tmp 22) rfl aggEnt rfl (hr'.same (bl_step bel hC)) (entAt_get (by omega))) rfl hC (G0.refl _)) ?_
  simp only [nf0, nf1, nf2, nf3, nf4]
  refine fsteps_val (fun W hC hh => opok_value (v := (.bool (!decide ((entAt xs k) = (entAt ys k))))) (by rfl) (run_neq_agg (.tmp 19) (.tmp 23) rfl eqEnt (p := (entAt xs k)) (q := (entAt ys k)) rfl rfl trivial trivial W) rfl hC (G0.refl _)) ?_
  simp only [nf0, nf1, nf2, nf3, nf4]
  refine fsteps_nil fun w13 hC _ => ?_
  replace hC : Below w5.heap.size w5 w13 := hC
  replace bel := bl_step bel hC
  clear hC
  show Code.wp _ _ _ _ _
  cases hg14 : decide ((entAt xs k) = (entAt ys k))
  · have hp15 := of_decide_eq_false hg14
    refine wp_cond_true rfl ?_
    refine wp_seq ?_
    refine wp_region_lit ?_
    refine st_mv (.bool false) ?_
    simp only [nf0, nf1, nf2, nf3, nf4]
    refine wpList_nil ?_
    show Code.wp _ _ _ _ _
    refine wp_ret ?_
    first | show bodyPost _ _ _ _ _ _ | (simp only [Exit.then, Exit.inBlock]; show bodyPost _ _ _ _ _ _)
    have hE : ¬ xs = ys := fun e => hp15 (by rw [e])
    exact bodyPost_ret (results_tmp rfl _ _ _) rfl ⟨by rw [decide_eq_false hE]; rfl, bel⟩
  have hp16 := of_decide_eq_true hg14
  refine wp_cond_false rfl ?_
  refine wp_skip ?_
  show Code.wp _ _ _ _ _
  refine wp_region_lit ?_
  refine st_value (v := (.int .i64 ((k : Int) + 1))) (by rfl) (run_add_in (.tmp 13) (.const (.int .i64 1)) rfl rfl rfl (by omega) w13) ?_
  simp only [nf0, nf1, nf2, nf3, nf4]
  refine st_mv (.int .i64 ((k : Int) + 1)) ?_
  simp only [nf0, nf1, nf2, nf3, nf4]
  refine wpList_nil ?_
  show ∃ m, m < _ ∧ _
  exact ⟨_, (by omega), (k + 1), rfl, rfl, bel, (by omega), (fun j h => by rcases Nat.lt_or_ge j k with g | g; exact hS j g; obtain rfl : j = k := (by omega); exact hp16)⟩
end Go.Proofs.YtckmihjekgbcmaaDoor

/- The law of a region that draws its order (Facts2), for tails that wait for what lies farther back. -/
namespace Go.Proofs.YtckmihjekgbcmaaDoor
open Go.RowKit

def tailB6 (ops : Array Oper) (m : Nat) : Bool := (List.range ops.size).all fun i => i < m || (List.range i).all fun j => (downs ops 6 i).contains j
section
variable {P : Program} {ops : Array Oper} {C : World → Prop} {N0 : Nat}
theorem wpAny_tailD {Q : Exit → Act → World → Prop} (hB : ∀ (i : Nat) (o : Oper), ops[i]? = some o → ∀ e ∈ o.after, Region.binds .any e = true → e.on < i) (m : Nat) (hT : ∀ i, m ≤ i → i < ops.size → ∀ j, j < i → j ∈ downs ops 6 i) :
    ∀ (d : Nat) (fuel : Nat) (listed : Array Bool) (a : Act) (w : World), m ≤ ops.size - d → d ≤ fuel → d ≤ ops.size → listed.size = ops.size → (∀ j, j < ops.size → listed.getD j false = decide (j < ops.size - d)) →
      wpList P ops Q (ops.toList.drop (ops.size - d)) a w → wpAny P .any ops Q fuel listed a w := by
  intro d
  induction d with
  | zero =>
    intro fuel listed a w _ _ _ hs hl h
    have hq : Q .normal a w := by
      rw [Nat.sub_zero, ← Array.length_toList, List.drop_length] at h
      exact h
    have hr : Region.ready .any ops listed = [] := by
      cases hr : Region.ready .any ops listed with
      | nil => rfl
      | cons j js =>
        exfalso
        obtain ⟨h0, o, ho, _⟩ := mem_ready.1 (show j ∈ Region.ready .any ops listed by rw [hr]; simp)
        have hj := (Array.getElem?_eq_some_iff.1 ho).1
        have := hl j hj
        have hlt : j < listed.size := by omega
        simp [hlt] at h0 this
        rw [h0] at this
        have := this.symm
        simp at this
        omega
    cases fuel with
    | zero => exact ⟨hr, hq⟩
    | succ fuel => exact ⟨fun _ => hq, fun i hi => by rw [hr] at hi; cases hi⟩
  | succ d ih =>
    intro fuel listed a w hm hf hd hs hl h
    obtain ⟨fuel, rfl⟩ : ∃ k, fuel = k + 1 := ⟨fuel - 1, by omega⟩
    have hi : ops.size - (d + 1) < ops.size := by omega
    have hdrop : ops.toList.drop (ops.size - (d + 1)) = ops[ops.size - (d + 1)] :: ops.toList.drop (ops.size - d) := by
      rw [List.drop_eq_getElem_cons (by simpa using hi)]
      simp [show ops.size - (d + 1) + 1 = ops.size - d from by omega]
    rw [hdrop] at h
    generalize hi0 : ops.size - (d + 1) = i at *
    have hge : ops[i]? = some ops[i] := by simp [hi]
    have hready : ∀ j ∈ Region.ready .any ops listed, j = i := by
      intro j hj
      obtain ⟨h0, o, ho, hall⟩ := mem_ready.1 hj
      have hjl := (Array.getElem?_eq_some_iff.1 ho).1
      have hlt : j < listed.size := by omega
      have hlj := hl j hjl
      simp [hlt] at h0 hlj
      rw [h0] at hlj
      have hji : ¬ j < i := by have := hlj.symm; simpa using this
      by_cases hij : i < j
      · exfalso
        have hdown : ∀ (q : Nat) (oq : Oper), ops[q]? = some oq → listed.getD q false = true → ∀ r ∈ predsOf oq, listed.getD r false = true := by
          intro q oq hoq hlq r hr
          have hql := (Array.getElem?_eq_some_iff.1 hoq).1
          simp only [predsOf, List.mem_map, List.mem_filter] at hr
          obtain ⟨e, ⟨he, hb⟩, rfl⟩ := hr
          have h1 := hB q oq hoq e (by simpa using he) hb
          rw [hl q hql] at hlq
          rw [hl e.on (by omega)]
          simp at hlq ⊢
          omega
        have := downs_listed listed hdown 6 j o ho (fun r hr => by
          simp only [predsOf, List.mem_map, List.mem_filter] at hr
          obtain ⟨e, ⟨he, hb⟩, rfl⟩ := hr
          exact hall e (by simpa using he) hb) i (hT j (by omega) hjl i hij)
        rw [hl i hi] at this
        simp at this
      · omega
    refine ⟨fun hr => ?_, fun j hj => ?_⟩
    · exfalso
      have : i ∈ Region.ready .any ops listed := by
        refine mem_ready.2 ⟨?_, ops[i], hge, fun e he hb => ?_⟩
        · have hlt : i < listed.size := by omega
          have := hl i hi
          simp [hlt] at this ⊢
          exact this
        · have h1 := hB i _ hge e he hb
          rw [hl e.on (by omega)]
          simp; omega
      rw [hr] at this
      cases this
    · obtain rfl := hready j hj
      have hnext : ∀ a w, wpList P ops Q (ops.toList.drop (ops.size - d)) a w → wpAny P .any ops Q fuel (listed.setIfInBounds j true) a w := fun a w hh => by
        refine ih fuel _ a w (by omega) (by omega) (by omega) (by simp [hs]) (fun q hq => ?_) hh
        by_cases hqj : q = j
        · subst hqj
          have hlt : q < listed.size := by omega
          simp [hlt]; omega
        · rw [getD_set_ne false (fun e => hqj e.symm), hl q hq]
          rw [decide_eq_decide]
          omega
      unfold wpOp
      simp only [hge]
      unfold wpList at h
      split
      · rename_i hw
        rw [if_pos hw] at h
        exact h.imp (Oper.wp_mono hnext) id
      · rename_i hw
        rw [if_neg hw] at h
        exact hnext _ _ h

theorem wpAny_of_facts2D {Q : Exit → Act → World → Prop} {fs0 : List Fct} {a0 : Act} {m : Nat} (hB : factsB ops a0.tmps.size = true) (hT : tailB6 ops m = true) (hN : ∀ w, C w → N0 ≤ w.heap.size) (hm : m ≤ ops.size)
    (h : fst2 P ops C N0 (wpList P ops Q (ops.toList.drop m)) 0 (ops.toList.take m) fs0 a0 [] []) : ∀ (fuel : Nat) (listed : Array Bool) (a : Act) (w : World) (vs : Nat → Value), FI2 ops C N0 fs0 m a0 listed a w vs →
    ((List.range ops.size).filter fun i => !listed.getD i false).length ≤ fuel → wpAny P .any ops Q fuel listed a w := by
  have hsel : Region.noSelect ops = true := by simp only [factsB, Bool.and_eq_true] at hB; exact hB.1
  have hedge : ∀ (i : Nat) (o : Oper), ops[i]? = some o → ∀ e ∈ o.after, Region.binds .any e = true → e.on < i := fun i o ho e he hb => (factsOk_of _ hB ho).1 e he hb
  have htail : ∀ i, m ≤ i → i < ops.size → ∀ j, j < i → j ∈ downs ops 6 i := by
    intro i hi hlt j hj
    simp only [tailB6, List.all_eq_true, List.mem_range, Bool.or_eq_true, decide_eq_true_eq] at hT
    have := (hT i hlt).resolve_left (by omega) j hj
    simpa using this
  have use : ∀ vs, Agr N0 fs0 vs → _ := fun vs hv => fst2_use (P := P) (ops := ops) (C := C) (N0 := N0) hv (ops.toList.take m) 0 fs0 a0 [] [] (by simp) (by simp) (by simp) (by simp) h
  have hlen : fs0.length = m := by
    have hv : ∃ vs, Agr N0 fs0 vs := ⟨fun i => match fs0[i]? with | some (.val c) => c | some (.new _ _) => .pointer (some ⟨N0, 0, none⟩) | _ => undef, fun i f hf => by
      cases f with
      | val c => simp [hf]
      | ex p hp => trivial
      | new cs t => exact ⟨N0, by simp [hf], Nat.le_refl _⟩⟩
    obtain ⟨vs, hv⟩ := hv
    have := (use vs hv).2.2
    rw [this, List.length_take, Array.length_toList]
    omega
  have fin : ∀ (fuel : Nat) (listed : Array Bool) (a : Act) (w : World) (vs : Nat → Value), FI2 ops C N0 fs0 m a0 listed a w vs → ops.size - m ≤ fuel → (∀ i, i < m → listed.getD i false = true) → wpAny P .any ops Q fuel listed a w := by
    intro fuel listed a w vs I hfuel hall
    obtain ⟨r1, r2, _⟩ := use vs I.agree
    have ea : a = putsFrom vs 0 (ops.toList.take m) a0 := by
      obtain ⟨ts, ds⟩ := a
      have e1 : ds = (putsFrom vs 0 (ops.toList.take m) a0).defers := by rw [putsFrom_defers]; exact I.defers
      have e2 : ts = (putsFrom vs 0 (ops.toList.take m) a0).tmps := by
        apply Array.ext_getElem?
        intro t
        by_cases hex : ∃ (j : Nat) (o : Oper), j < m ∧ ops[j]? = some o ∧ o.dst = some t
        · obtain ⟨j, o, hjm, hj, hd⟩ := hex
          have h1 := I.done j o t hj (hall j hjm) hd
          obtain ⟨_, hlt, _⟩ := factsOk_of _ hB hj
          rw [putsFrom_at vs t (ops.toList.take m) 0 a0 j o (by rw [List.getElem?_take, if_pos hjm]; simpa using hj) hd (hlt t hd) (fun i o' hi hij => by
            rw [List.getElem?_take] at hi
            split at hi
            · obtain ⟨_, _, h3⟩ := factsOk_of _ hB (show ops[i]? = some o' by simpa using hi)
              exact (h3 j o t hj hd).1 (Ne.symm hij)
            · cases hi)]
          simpa using h1
        · rw [putsFrom_other vs t (ops.toList.take m) 0 a0 (fun o ho hd => hex (by
            obtain ⟨i, hi, rfl⟩ := List.mem_iff_getElem.1 ho
            have him : i < m := by simp at hi; omega
            have his : i < ops.size := by simp at hi; omega
            exact ⟨i, _, him, by simp [his], hd⟩))]
          exact I.base t (fun i o hi hl hd => by
            by_cases him : i < m
            · exact hex ⟨i, o, him, hi, hd⟩
            · rw [I.head i (by omega)] at hl; cases hl)
      rw [e1, e2]
    rw [ea]
    have hl : ∀ i f, fs0[i]? = some f → listed.getD i false = true := fun i f hf => hall i (by have := (List.getElem?_eq_some_iff.1 hf).1; omega)
    refine wpAny_tailD hedge m htail (ops.size - m) fuel listed _ _ (by omega) hfuel (by omega) I.size (fun j hj => ?_) ?_
    · by_cases hjm : j < m
      · rw [hall j hjm]; simp; omega
      · rw [I.head j (by omega)]; simp; omega
    · rw [show ops.size - (ops.size - m) = m from by omega]
      exact r2 w I.cls (fun i f hf _ => I.facts i f hf (hl i f hf)) (fun i j f g hi hj hf hg _ _ hne => I.dist i j f g hi hj hf hg (hl i f hi) (hl j g hj) hne)
  -- one of the head that has not come up, the lowest, may come up
  have some_ready : ∀ (listed : Array Bool), listed.size = ops.size → Region.ready .any ops listed = [] → ∀ i, i < ops.size → listed.getD i false = true := by
    intro listed hs hr i
    induction i using Nat.strongRecOn with
    | _ i ih =>
      intro hi
      by_cases hl : listed.getD i false = true
      · exact hl
      · exfalso
        have hl' : listed.getD i true = false := by
          have : i < listed.size := by omega
          simp [this] at hl ⊢
          exact hl
        have hm : i ∈ Region.ready .any ops listed := by
          refine mem_ready.2 ⟨hl', ops[i], by simp [hi], fun e he hb => ?_⟩
          have := hedge i _ (show ops[i]? = some ops[i] by simp [hi]) e he hb
          exact ih e.on this (by omega)
        rw [hr] at hm
        cases hm
  intro fuel
  induction fuel with
  | zero =>
    intro listed a w vs I hc
    have hall : ∀ i, i < ops.size → listed.getD i false = true := by
      intro i hi
      have : (List.range ops.size).filter (fun i => !listed.getD i false) = [] := List.length_eq_zero_iff.1 (by omega)
      rw [List.filter_eq_nil_iff] at this
      have := this i (by simp [hi])
      simpa using this
    have hms : m = ops.size := by
      by_cases hlt : m < ops.size
      · have := hall m hlt; rw [I.head m (Nat.le_refl _)] at this; cases this
      · omega
    exact fin 0 listed a w vs I (by omega) fun i hi => hall i (by omega)
  | succ fuel ih =>
    intro listed a w vs I hc
    by_cases hdone : ∀ i, i < m → listed.getD i false = true
    · refine fin (fuel + 1) listed a w vs I ?_ hdone
      -- what is left is the tail
      have : ((List.range ops.size).filter fun i => !listed.getD i false).length ≥ ops.size - m := by
        have h1 : ((List.range ops.size).filter fun i => !listed.getD i false) = (List.range ops.size).filter (fun i => decide (m ≤ i)) := by
          refine List.filter_congr fun i hi => ?_
          by_cases him : i < m
          · rw [hdone i him]; simp; omega
          · rw [I.head i (by omega)]; simp; omega
        rw [h1]
        have h2 : ∀ n, ((List.range n).filter (fun i => decide (m ≤ i))).length = n - m := by
          intro n
          induction n with
          | zero => simp
          | succ n ihn =>
            rw [List.range_succ, List.filter_append, List.length_append, ihn]
            by_cases hmn : m ≤ n
            · simp [hmn]; omega
            · simp [hmn]; omega
        rw [h2]
        exact Nat.le_refl _
      omega
    refine ⟨fun hr => absurd (fun i hi => some_ready listed I.size hr i (by omega)) hdone, fun i hi => ?_⟩
    obtain ⟨h0, o, ho, hall⟩ := mem_ready.1 hi
    have hil := (Array.getElem?_eq_some_iff.1 ho).1
    have hls : i < listed.size := by rw [I.size]; exact hil
    have hun : listed.getD i false = false := by simp [hls] at h0 ⊢; exact h0
    obtain ⟨g1, g2, g3⟩ := factsOk_of _ hB ho
    have hpre : ∀ j ∈ predsOf o, listed.getD j false = true := by
      intro j hj
      simp only [predsOf, List.mem_map, List.mem_filter] at hj
      obtain ⟨e, ⟨he, hb⟩, rfl⟩ := hj
      exact hall e (by simpa using he) hb
    have him : i < m := by
      by_cases h' : i < m
      · exact h'
      · exfalso
        refine hdone fun j hj => ?_
        exact downs_listed listed I.down 6 i o ho hpre j (htail i (by omega) hil j (by omega))
    obtain ⟨r1, _, _⟩ := use vs I.agree
    obtain ⟨f, hf, hok⟩ := r1 i o (by rw [List.getElem?_take, if_pos him]; simpa using ho)
    rw [Nat.zero_add] at hf
    have hok := hok w I.cls fun j f hjf hj => I.facts j f hjf (hpre j hj)
    have htk : (ops.toList.take m).take i = ops.toList.take i := by rw [List.take_take, Nat.min_eq_left (by omega)]
    rw [htk] at hok
    -- the two states are alike at what the operation looks at
    have same : ∀ t ∈ o.looksAt ops, (putsFrom vs 0 (ops.toList.take i) a0).tmps[t]? = a.tmps[t]? := by
      intro t ht
      by_cases hex : ∃ (j : Nat) (o' : Oper), ops[j]? = some o' ∧ o'.dst = some t
      · obtain ⟨j, o', hj, hd⟩ := hex
        have hjp := (g3 j o' t hj hd).2 ht
        have hjl := hpre j hjp
        have hji : j < i := by
          simp only [predsOf, List.mem_map, List.mem_filter] at hjp
          obtain ⟨e, ⟨he, hb⟩, rfl⟩ := hjp
          exact g1 e (by simpa using he) hb
        obtain ⟨_, hlt, _⟩ := factsOk_of _ hB hj
        rw [putsFrom_at vs t (ops.toList.take i) 0 a0 j o' (by rw [List.getElem?_take, if_pos hji]; simpa using hj) hd (hlt t hd) (fun k ok hk hkj => by
          rw [List.getElem?_take] at hk
          split at hk
          · obtain ⟨_, _, h3⟩ := factsOk_of _ hB (show ops[k]? = some ok by simpa using hk)
            exact (h3 j o' t hj hd).1 (Ne.symm hkj)
          · cases hk)]
        rw [I.done j o' t hj hjl hd, Nat.zero_add]
      · rw [putsFrom_other vs t (ops.toList.take i) 0 a0 (fun o' ho' hd => hex (by
          obtain ⟨k, hk, rfl⟩ := List.mem_iff_getElem.1 (List.mem_of_mem_take ho')
          exact ⟨k, _, by rw [← Array.getElem?_toList]; exact List.getElem?_eq_getElem hk, hd⟩))]
        exact (I.base t (fun k ok hk _ hd => hex ⟨k, ok, hk, hd⟩)).symm
    have hok : opok2 P ops C N0 o f a w := by
      refine opok2_congr ?_ ?_ hok
      · refine execOp_congr o (fun cs b => Region.noSelect_spec hsel i o cs b ho) fun x hx => ?_
        cases x with
        | tmp t =>
          have := same t (List.mem_append_left _ (List.mem_filterMap.2 ⟨.tmp t, by simpa using hx, rfl⟩))
          simp only [Act.eval, Array.getD_eq_getD_getElem?, this]
        | _ => rfl
      · unfold Region.wanted
        cases hg : o.guard with
        | none => rfl
        | some gw =>
          obtain ⟨g, want⟩ := gw
          have : yielded ops (putsFrom vs 0 (ops.toList.take i) a0).tmps g = yielded ops a.tmps g := by
            unfold yielded
            cases ht : (ops[g]?).bind (·.dst) with
            | none => rfl
            | some t => rw [Option.bind_some, Option.bind_some, same t (by simp [Oper.looksAt, hg, ht])]
          simp only [this]
    refine wpOp_of_opok2 ho I.cls (hN w I.cls) hok fun v w' hv hC' hG hnew => ?_
    refine ih _ _ _ (fun j => if j = i then v else vs j) ⟨by simp [I.size], hC', ?_, ?_, ?_, ?_, ?_, ?_, ?_, ?_, ?_, ?_⟩ ?_
    · cases hd : o.dst <;> simpa [Act.put] using I.defers
    · cases hd : o.dst <;> simpa [Act.put] using I.tsize
    · intro j fj hj
      by_cases hji : j = i
      · subst hji
        rw [hf] at hj
        injection hj with hj
        subst hj
        simp only [if_true]
        cases f with
        | val c => exact hv
        | ex p hp => trivial
        | new cs t => obtain ⟨g, e1, e2, _⟩ := hv; exact ⟨g, e1, e2⟩
      · simpa [hji] using I.agree j fj hj
    · intro t ht
      have hne : o.dst ≠ some t := ht i o ho (by simp [hls])
      have : (a.put o.dst v).tmps[t]? = a.tmps[t]? := by
        cases hd : o.dst with
        | none => rfl
        | some d =>
          have hne' : d ≠ t := fun e => hne (by rw [hd, e])
          simp [Act.put, Array.getElem?_setIfInBounds_ne hne']
      rw [this]
      exact I.base t fun j oj hj hl => ht j oj hj (getD_set_true hl)
    · intro j oj d hj hl hd
      by_cases hji : j = i
      · subst hji
        rw [ho] at hj
        injection hj with hj
        subst hj
        have := g2 d hd
        rw [← I.tsize] at this
        simp [Act.put, hd, this]
      · rw [getD_set_ne false (Ne.symm hji)] at hl
        have h1 := I.done j oj d hj hl hd
        have hne : o.dst ≠ some d := (g3 j oj d hj hd).1 hji
        have : (a.put o.dst v).tmps[d]? = a.tmps[d]? := by
          cases hd' : o.dst with
          | none => rfl
          | some d' =>
            have hne' : d' ≠ d := fun e => hne (by rw [hd', e])
            simp [Act.put, Array.getElem?_setIfInBounds_ne hne']
        rw [this, h1]
        simp [hji]
    · intro j fj hj hl
      by_cases hji : j = i
      · subst hji
        rw [hf] at hj
        injection hj with hj
        subst hj
        simpa using hv
      · rw [getD_set_ne false (Ne.symm hji)] at hl
        simp only [hji, if_false]
        exact Fct.stay hG (I.facts j fj hj hl)
    · intro j k fj fk hj hk hnj hnk hlj hlk hne
      have ofnew : ∀ (q : Nat) (fq : Fct), fs0[q]? = some fq → fq.isNew = true → q ≠ i → (listed.setIfInBounds i true).getD q false = true → ∃ g, vs q = .pointer (some ⟨g, 0, none⟩) ∧ g < w.heap.size := fun q fq hq hnq hqi hlq => by
        rw [getD_set_ne false (Ne.symm hqi)] at hlq
        exact I.old q fq hq hnq hlq
      by_cases hji : j = i
      · subst hji
        rw [hf] at hj
        injection hj with hj
        subst hj
        obtain ⟨g, e1, e2⟩ := ofnew k fk hk hnk (Ne.symm hne) hlk
        simp only [if_true, (Ne.symm hne), if_false]
        rw [hnew hnj, e1]
        intro e
        injection e with e
        injection e with e
        injection e with e
        omega
      · by_cases hki : k = i
        · subst hki
          rw [hf] at hk
          injection hk with hk
          subst hk
          obtain ⟨g, e1, e2⟩ := ofnew j fj hj hnj hji hlj
          simp only [if_true, hji, if_false]
          rw [hnew hnk, e1]
          intro e
          injection e with e
          injection e with e
          injection e with e
          omega
        · simp only [hji, hki, if_false]
          rw [getD_set_ne false (Ne.symm hji)] at hlj
          rw [getD_set_ne false (Ne.symm hki)] at hlk
          exact I.dist j k fj fk hj hk hnj hnk hlj hlk hne
    · intro j fj hj hnj hlj
      by_cases hji : j = i
      · subst hji
        rw [hf] at hj
        injection hj with hj
        subst hj
        refine ⟨w.heap.size, by simp only [if_true]; exact hnew hnj, ?_⟩
        cases f with
        | new cs t =>
          obtain ⟨g, e1, _, hb⟩ := hv
          rw [hnew rfl] at e1
          injection e1 with e1
          injection e1 with e1
          injection e1 with e1
          subst e1
          exact hb.lt
        | val c => cases hnj
        | ex p hp => cases hnj
      · rw [getD_set_ne false (Ne.symm hji)] at hlj
        obtain ⟨g, e1, e2⟩ := I.old j fj hj hnj hlj
        exact ⟨g, by simpa [hji] using e1, Nat.lt_of_lt_of_le e2 hG.size⟩
    · intro j oj hj hlj q hq
      by_cases hji : j = i
      · subst hji
        rw [ho] at hj
        injection hj with hj
        subst hj
        exact getD_set_true (hpre q hq)
      · rw [getD_set_ne false (Ne.symm hji)] at hlj
        exact getD_set_true (I.down j oj hj hlj q hq)
    · intro j hj
      rw [getD_set_ne false (by omega)]
      exact I.head j hj
    · -- one less
      have hlen' : ((List.range ops.size).filter fun j => !(listed.setIfInBounds i true).getD j false).length < ((List.range ops.size).filter fun j => !listed.getD j false).length := by
        have e1 : ((List.range ops.size).filter fun j => !(listed.setIfInBounds i true).getD j false) = ((List.range ops.size).filter fun j => !listed.getD j false).filter (fun j => j != i) := by
          rw [List.filter_filter]
          refine List.filter_congr fun j hj => ?_
          by_cases hji : j = i
          · subst hji; simp [hls]
          · rw [getD_set_ne false (Ne.symm hji)]; simp [hji]
        rw [e1]
        refine List.length_filter_lt_length_iff_exists.2 ⟨i, ?_, by simp⟩
        simp [List.mem_filter, hil]
        simpa [hls] using hun
      omega

theorem wp_region_facts2D {id : Nat} {Q : Exit → Act → World → Prop} {a : Act} {w : World} {l tl : List Oper} (fs : List Fct) (N0 : Nat) (hm : P.follows .mixedOrders = true) (hB : factsB (l ++ tl).toArray a.tmps.size = true) (hT : tailB6 (l ++ tl).toArray l.length = true) (hN : ∀ w, C w → N0 ≤ w.heap.size) (hC : C w.drew)
    (h : fst2 P (l ++ tl).toArray C N0 (wpList P (l ++ tl).toArray Q tl) 0 l fs a [] []) : (Code.region id (l ++ tl).toArray true).wp P Q a w := by
  have e1 : (l ++ tl).toArray.toList.take l.length = l := by simp
  have e2 : (l ++ tl).toArray.toList.drop l.length = tl := by simp
  refine wp_region_any hm (wpAny_of_facts2D (m := l.length) hB hT hN (by simp) (by rw [e1, e2]; exact h) _ _ _ _ (fun i => match fs[i]? with | some (.val c) => c | some (.new _ _) => .pointer (some ⟨N0, 0, none⟩) | _ => undef) ⟨by simp, hC, rfl, rfl, ?_, ?_, ?_, ?_, ?_, ?_, ?_, ?_⟩ ?_)
  · intro i f hf
    cases f with
    | val c => simp [hf]
    | ex p hp => trivial
    | new cs t => exact ⟨N0, by simp [hf], Nat.le_refl _⟩
  · intro t _; rfl
  · intro i o d hi hl; rw [none_listed] at hl; cases hl
  · intro i f hf hl; rw [none_listed] at hl; cases hl
  · intro i j f g _ _ _ _ hl; rw [none_listed] at hl; cases hl
  · intro i f _ _ hl; rw [none_listed] at hl; cases hl
  · intro i o _ hl; rw [none_listed] at hl; cases hl
  · intro i _; exact none_listed _ _
  · refine Nat.le_trans (List.length_filter_le _ _) (by simp)
theorem wp_region_facts2_litD {id : Nat} {Q : Exit → Act → World → Prop} {a : Act} {w : World} {l : List Oper} (m : Nat) (fs : List Fct) (N0 : Nat) (hm : P.follows .mixedOrders = true) (hml : m ≤ l.length) (hB : factsB l.toArray a.tmps.size = true) (hT : tailB6 l.toArray m = true) (hN : ∀ w, C w → N0 ≤ w.heap.size) (hC : C w.drew)
    (h : fst2 P l.toArray C N0 (wpList P l.toArray Q (l.drop m)) 0 (l.take m) fs a [] []) : (Code.region id l.toArray true).wp P Q a w := by
  have e : l.take m ++ l.drop m = l := List.take_append_drop m l
  have r := wp_region_facts2D (P := P) (C := C) (id := id) (Q := Q) (a := a) (w := w) (l := l.take m) (tl := l.drop m) fs N0 hm
  rw [e, List.length_take, Nat.min_eq_left hml] at r
  exact r hB hT hN hC h
/-! ### One operation at a time -/
end
end Go.Proofs.YtckmihjekgbcmaaDoor

/- A row of the call's own, read where it lies. -/
namespace Go.Proofs.YtckmihjekgbcmaaDoor
open Go.RowKit Go.WideShapes Go.ChangeShapes
theorem OwnR.rdE {α : Type} {w : World} {base : Nat} {e : TypeId} {E : Enc α} {A : Option Addr} {c : Nat} {xs : List α} (h : OwnR w base e E (.slice A xs.length c) xs) : Reads w A (E.all xs) := by
  obtain ⟨A', c', hv, _, _, _, R⟩ := h.reads
  injection hv with h1 h2 h3
  subst h1
  exact R
theorem OwnR.rdN {w : World} {base : Nat} {e : TypeId} {A : Option Addr} {c : Nat} {xs : List Int} (h : OwnR w base e (eInt .i64) (.slice A xs.length c) xs) : Reads w A (xs.map (Value.int .i64)) := by
  have R := h.rdE
  rw [eInt_all] at R
  exact R
theorem OwnR.cell1 {α : Type} {w : World} {base : Nat} {e : TypeId} {E : Enc α} {v : Value} {xs : List α} (h : OwnR w base e E v xs) : v.oneCell' = true ∧ v.cells = #[v] := by
  obtain ⟨A, c, rfl, _⟩ := h.reads
  exact ⟨rfl, rfl⟩
/-- xs[:p], p a natural number; elements of any size. -/
theorem run_cutq {P : Program} {o : Oper} {a : Act} (x y : Operand) {t e : TypeId} (ho : o.op = .slice t x none (some y) none) (ht : P.underlying t = some (.slice e)) {s : Nat} (hs : ∃ i, P.info? e = some i ∧ i.size = s) {α : Type} {xs : List α} {A : Option Addr} {c p : Nat} {X : Int} (hx : a.eval x = .slice A xs.length c) (hy : a.eval y = .int .i64 X) (hX : X = (p : Int)) (hp : p ≤ xs.length) (hc : xs.length ≤ c) (W : World) :
    (execOp a.eval o).run P W = .ok (.value (.slice A (xs.take p).length c)) W := by
  subst hX
  obtain ⟨i, hi, _⟩ := hs
  have := run_cut x y ho ht ⟨i, hi⟩ hx hy ⟨by omega, by omega⟩ W
  rwa [show ((p : Nat) : Int).toNat = (xs.take p).length from by rw [List.length_take]; omega] at this
end Go.Proofs.YtckmihjekgbcmaaDoor

/- What the rows that are read are put behind: the function values of ParseEvents and ParseEntries. -/
namespace Go.Proofs.YtckmihjekgbcmaaDoor
open Go.RowKit Go.WideShapes Go.ChangeShapes
set_option linter.unusedSimpArgs false
set_option linter.unusedVariables false

theorem r_one_39 : One Tryd.prog 39 := one_of Tryd.underlying39 rfl (by kernel_rfl)
theorem r_run_lit_39_1 {o : Oper} {a : Act} (x0 : Operand) (ho : o.op = .buildSlice 39 1 #[(0, x0)]) {m0 : TEvt} (h0 : a.eval x0 = .agg #[.int .i64 m0.1, .int .i64 m0.2.1, .int .i64 m0.2.2.1, .int .i64 m0.2.2.2.1, .int .i64 m0.2.2.2.2]) (W : World) : (execOp a.eval o).run Tryd.prog W = .ok (.value (.slice (some ⟨W.heap.size, 0, none⟩) 1 1)) (W.alloc (.cells #[.int .i64 m0.1, .int .i64 m0.2.1, .int .i64 m0.2.2.1, .int .i64 m0.2.2.2.1, .int .i64 m0.2.2.2.2] 42)) := by
  unfold execOp
  simp only [ho, List.map_toArray, List.map_cons, List.map_nil, h0]
  go_simp
theorem r_one_40 : One Tryd.prog 40 := one_of Tryd.underlying40 rfl (by kernel_rfl)
theorem r_run_lit_40_1 {o : Oper} {a : Act} (x0 : Operand) (ho : o.op = .buildSlice 40 1 #[(0, x0)]) {m0 : TEnt} (h0 : a.eval x0 = .agg #[.int .i64 m0.1, .int .i64 m0.2.1, .int .i64 m0.2.2.1, .int .i64 m0.2.2.2.1, .int .u64 m0.2.2.2.2]) (W : World) : (execOp a.eval o).run Tryd.prog W = .ok (.value (.slice (some ⟨W.heap.size, 0, none⟩) 1 1)) (W.alloc (.cells #[.int .i64 m0.1, .int .i64 m0.2.1, .int .i64 m0.2.2.1, .int .i64 m0.2.2.2.1, .int .u64 m0.2.2.2.2] 46)) := by
  unfold execOp
  simp only [ho, List.map_toArray, List.map_cons, List.map_nil, h0]
  go_simp

attribute [local irreducible] Go.wpList Go.Code.wp
set_option maxRecDepth 100000 in
set_option maxHeartbeats 4000000 in
theorem addEvent_at {w0 w : World} {g : Nat} {v : Value} {xs : List TEvt} {b o : Nat} {ns : List Int} {cap : Nat} (h5 : ns.length = 5) (hcap : ns.length ≤ cap) (hr : Reads w (some ⟨b, o, none⟩) (ns.map (Value.int .i64))) (hB : Blk w g #[v] 39) (hO : OwnR w w0.heap.size 42 eEvt v xs) (n0 : Off v g) (bel : Below w0.heap.size w0 w) (hlo : w0.heap.size ≤ g) (hl : xs.length ≤ 1000000) : Calls Tryd.prog 35 #[.slice (some ⟨b, o, none⟩) ns.length cap, .pointer (some ⟨g, 0, none⟩)] w fun e w' => ∃ u, e = .returned u ∧ ∃ v', Blk w' g #[v'] 39 ∧ OwnR w' w0.heap.size 42 eEvt v' (xs ++ [(nth ns 0, nth ns 1, nth ns 2, nth ns 3, nth ns 4)]) ∧ Off v' g ∧ Below w0.heap.size w0 w' := by
  go_enter Tryd.func35, Tryd.ntmps35
  refine wp_region_facts2_litD (C := Abv w) 18 [.val v, .val (.slice (some ⟨b, o, none⟩) ns.length cap), .val (.pointer (some ⟨b, o + 0 * 1, none⟩)), .val (.int .i64 (nth ns 0)), .val (.slice (some ⟨b, o, none⟩) ns.length cap), .val (.pointer (some ⟨b, o + 1 * 1, none⟩)), .val (.int .i64 (nth ns 1)), .val (.slice (some ⟨b, o, none⟩) ns.length cap), .val (.pointer (some ⟨b, o + 2 * 1, none⟩)), .val (.int .i64 (nth ns 2)), .val (.slice (some ⟨b, o, none⟩) ns.length cap), .val (.pointer (some ⟨b, o + 3 * 1, none⟩)), .val (.int .i64 (nth ns 3)), .val (.slice (some ⟨b, o, none⟩) ns.length cap), .val (.pointer (some ⟨b, o + 4 * 1, none⟩)), .val (.int .i64 (nth ns 4)), .val (.agg #[.int .i64 (nth ns 0), .int .i64 (nth ns 1), .int .i64 (nth ns 2), .int .i64 (nth ns 3), .int .i64 (nth ns 4)]), .ex (fun v_ z_ => ∃ g, v_ = .slice (some ⟨g, 0, none⟩) 1 1 ∧ Blk z_ g #[.int .i64 (nth ns 0), .int .i64 (nth ns 1), .int .i64 (nth ns 2), .int .i64 (nth ns 3), .int .i64 (nth ns 4)] 42 ∧ w.heap.size ≤ g) (fun v_ z_ y_ hG ⟨g, h1, h2, h3⟩ => ⟨g, h1, h2.below hG, h3⟩)] w.heap.size (by kernel_rfl) (by simp) (by kernel_rfl) (by kernel_rfl) (fun _ h => h.size) (Abv.start _) ?_
  simp only [List.take_succ_cons, List.take_zero, List.drop_succ_cons, List.drop_zero]
  refine fst2_val (fun W hC hh => ok2_value (v := v) (by rfl) (run_loadB (.tmp 1) rfl r_one_39 rfl (hB.below hC) rfl) rfl hC (G0.refl _)) ?_
  simp only [nf0, nf1, nf2, nf3, nf4]
  refine fst2_val (fun W hC hh => ok2_value (v := (.slice (some ⟨b, o, none⟩) ns.length cap)) (by rfl) (by rfl) rfl hC (G0.refl _)) ?_
  simp only [nf0, nf1, nf2, nf3, nf4]
  refine fst2_val (fun W hC hh => ok2_value (v := (.pointer (some ⟨b, o + 0 * 1, none⟩))) (by rfl) (run_indexAddrN (.tmp 4) (.const (.int .i64 0)) rfl Tryd.underlying67 slInt.sz (i := 0) rfl (by exact (congrArg (Value.int .i64) (show 0 = ((0 : Nat) : Int) by omega))) (by omega) W) rfl hC (G0.refl _)) ?_
  simp only [nf0, nf1, nf2, nf3, nf4]
  refine fst2_val (fun W hC hh => ok2_value (v := (.int .i64 (nth ns 0))) (by rfl) (run_load1 (.tmp 5) rfl Tryd.underlying3 rfl slInt.sz rfl (Reads.intAt (hr.same hC) 0 (by omega))) rfl hC (G0.refl _)) ?_
  simp only [nf0, nf1, nf2, nf3, nf4]
  refine fst2_val (fun W hC hh => ok2_value (v := (.slice (some ⟨b, o, none⟩) ns.length cap)) (by rfl) (by rfl) rfl hC (G0.refl _)) ?_
  simp only [nf0, nf1, nf2, nf3, nf4]
  refine fst2_val (fun W hC hh => ok2_value (v := (.pointer (some ⟨b, o + 1 * 1, none⟩))) (by rfl) (run_indexAddrN (.tmp 7) (.const (.int .i64 1)) rfl Tryd.underlying67 slInt.sz (i := 1) rfl (by exact (congrArg (Value.int .i64) (show 1 = ((1 : Nat) : Int) by omega))) (by omega) W) rfl hC (G0.refl _)) ?_
  simp only [nf0, nf1, nf2, nf3, nf4]
  refine fst2_val (fun W hC hh => ok2_value (v := (.int .i64 (nth ns 1))) (by rfl) (run_load1 (.tmp 8) rfl Tryd.underlying3 rfl slInt.sz rfl (Reads.intAt (hr.same hC) 1 (by omega))) rfl hC (G0.refl _)) ?_
  simp only [nf0, nf1, nf2, nf3, nf4]
  refine fst2_val (fun W hC hh => ok2_value (v := (.slice (some ⟨b, o, none⟩) ns.length cap)) (by rfl) (by rfl) rfl hC (G0.refl _)) ?_
  simp only [nf0, nf1, nf2, nf3, nf4]
  refine fst2_val (fun W hC hh => ok2_value (v := (.pointer (some ⟨b, o + 2 * 1, none⟩))) (by rfl) (run_indexAddrN (.tmp 10) (.const (.int .i64 2)) rfl Tryd.underlying67 slInt.sz (i := 2) rfl (by exact (congrArg (Value.int .i64) (show 2 = ((2 : Nat) : Int) by omega))) (by omega) W) rfl hC (G0.refl _)) ?_
  simp only [nf0, nf1, nf2, nf3, nf4]
  refine fst2_val (fun W hC hh => ok2_value (v := (.int .i64 (nth ns 2))) (by rfl) (run_load1 (.tmp 11) rfl Tryd.underlying3 rfl slInt.sz rfl (Reads.intAt (hr.same hC) 2 (by omega))) rfl hC (G0.refl _)) ?_
  simp only [nf0, nf1, nf2, nf3, nf4]
  refine fst2_val (fun W hC hh => ok2_value (v := (.slice (some ⟨b, o, none⟩) ns.length cap)) (by rfl) (by rfl) rfl hC (G0.refl _)) ?_
  simp only [nf0, nf1, nf2, nf3, nf4]
  refine fst2_val (fun W hC hh => ok2_value (v := (.pointer (some ⟨b, o + 3 * 1, none⟩))) (by rfl) (run_indexAddrN (.tmp 13) (.const (.int .i64 3)) rfl Tryd.underlying67 slInt.sz (i := 3) rfl (by exact (congrArg (Value.int .i64) (show 3 = ((3 : Nat) : Int) by omega))) (by omega) W) rfl hC (G0.refl _)) ?_
  simp only [nf0, nf1, nf2, nf3, nf4]
  refine fst2_val (fun W hC hh => ok2_value (v := (.int .i64 (nth ns 3))) (by rfl) (run_load1 (.tmp 14) rfl Tryd.underlying3 rfl slInt.sz rfl (Reads.intAt (hr.same hC) 3 (by omega))) rfl hC (G0.refl _)) ?_
  simp only [nf0, nf1, nf2, nf3, nf4]
  refine fst2_val (fun W hC hh => ok2_value (v := (.slice (some ⟨b, o, none⟩) ns.length cap)) (by rfl) (by rfl) rfl hC (G0.refl _)) ?_
  simp only [nf0, nf1, nf2, nf3, nf4]
  refine fst2_val (fun W hC hh => ok2_value (v := (.pointer (some ⟨b, o + 4 * 1, none⟩))) (by rfl) (run_indexAddrN (.tmp 16) (.const (.int .i64 4)) rfl Tryd.underlying67 slInt.sz (i := 4) rfl (by exact (congrArg (Value.int .i64) (show 4 = ((4 : Nat) : Int) by omega))) (by omega) W) rfl hC (G0.refl _)) ?_
  simp only [nf0, nf1, nf2, nf3, nf4]
  refine fst2_val (fun W hC hh => ok2_value (v := (.int .i64 (nth ns 4))) (by rfl) (run_load1 (.tmp 17) rfl Tryd.underlying3 rfl slInt.sz rfl (Reads.intAt (hr.same hC) 4 (by omega))) rfl hC (G0.refl _)) ?_
  simp only [nf0, nf1, nf2, nf3, nf4]
  refine fst2_val (fun W hC hh => ok2_value (v := (.agg #[.int .i64 (nth ns 0), .int .i64 (nth ns 1), .int .i64 (nth ns 2), .int .i64 (nth ns 3), .int .i64 (nth ns 4)])) (by rfl) (run_buildV rfl (by kernel_rfl) W) rfl hC (G0.refl _)) ?_
  simp only [nf0, nf1, nf2, nf3, nf4]
  refine fst2_ex (fun W hC hh => ok2_ex (by rfl) (r_run_lit_39_1 (.tmp 19) rfl (m0 := ((nth ns 0), (nth ns 1), (nth ns 2), (nth ns 3), (nth ns 4))) rfl W) ⟨_, rfl, Blk.new _ _ _ _ rfl, hC.size⟩ (hC.step (bl_alloc (Below.refl _ _) _)) (bl_alloc (Below.refl _ _) _)) fun v1 => ?_
  simp only [nf0, nf1, nf2, nf3, nf4]
  refine fst2_nil fun w2 hC hh hnd => ?_
  replace hC : Below w.heap.size w w2 := hC
  obtain ⟨g3, rfl, B4, lo5⟩ := (List.forall_mem_cons.1 hh).1
  replace hh := (List.forall_mem_cons.1 hh).2
  have n6 := hB.ne lo5
  have n7 := hO.off lo5
  replace lo5 := low_le bel lo5
  clear hh hnd
  replace hB := hB.below hC
  replace hO := hO.same hC
  replace hr := hr.same hC
  replace bel := bl_step bel hC
  clear hC
  refine st_append slEvt rfl (.tmp 3) (.tmp 20) rfl rfl hO ([((nth ns 0), (nth ns 1), (nth ns 2), (nth ns 3), (nth ns 4))] : List TEvt) rfl rfl B4 (by simp [Enc.all, eEvt]) (by simp only [List.length_cons, List.length_nil]; omega) bel.size ?_
  intro v8 w9 O10 hg11 hat12
  simp only [nf0, nf1, nf2, nf3, nf4]
  have n13 := (n0 : Off _ _).app hB hat12
  replace hB := hB.keptR hg11 n0
  replace bel := bl_app bel hO hg11
  clear hO hg11 hat12
  refine st_cell (v := v8) (by rfl) (run_storeB (.tmp 1) (.tmp 21) rfl r_one_39 hB (show 0 < 1 by decide) rfl rfl (OwnR.cell1 O10).1 (OwnR.cell1 O10).2) hB ?_
  intro w14 B16 hg15
  simp only [nf0, nf1, nf2, nf3, nf4]
  replace O10 := O10.keptB hg15 n13
  replace bel := bl_kept0 bel hg15 hlo
  clear hg15
  clear hB
  replace B16 : Blk w14 g #[v8] 39 := B16
  refine wpList_nil ?_
  first | show bodyPost _ _ _ _ _ _ | (simp only [Exit.then, Exit.inBlock, if_true]; show bodyPost _ _ _ _ _ _)
  exact bodyPost_end (results_none rfl _ _ _) rfl ⟨_, rfl, _, B16, O10, n13, bel⟩
theorem addEvent_calls {w0 w : World} {g : Nat} {v : Value} {xs : List TEvt} {ns : List Int} {u : Value} (h5 : ns.length = 5) (hu : OwnR w w0.heap.size 3 (eInt .i64) u ns) (hB : Blk w g #[v] 39) (hO : OwnR w w0.heap.size 42 eEvt v xs) (n0 : Off v g) (bel : Below w0.heap.size w0 w) (hlo : w0.heap.size ≤ g) (hl : xs.length ≤ 1000000) : Calls Tryd.prog 35 #[u, .pointer (some ⟨g, 0, none⟩)] w fun e w' => ∃ u, e = .returned u ∧ ∃ v', Blk w' g #[v'] 39 ∧ OwnR w' w0.heap.size 42 eEvt v' (xs ++ [(nth ns 0, nth ns 1, nth ns 2, nth ns 3, nth ns 4)]) ∧ Off v' g ∧ Below w0.heap.size w0 w' := by
  obtain ⟨A, c, rfl, h1, h2, h3, R⟩ := hu.reads
  rw [eInt_all] at R
  obtain ⟨b, o, rfl, _⟩ := R.at_ (by rw [List.length_map]; omega)
  exact addEvent_at h5 h1 R hB hO n0 bel hlo hl
set_option maxRecDepth 100000 in
set_option maxHeartbeats 4000000 in
theorem addEntry_at {w0 w : World} {g : Nat} {v : Value} {xs : List TEnt} {b o : Nat} {ns : List Int} {cap : Nat} (h5 : ns.length = 5) (hcap : ns.length ≤ cap) (hr : Reads w (some ⟨b, o, none⟩) (ns.map (Value.int .i64))) (hB : Blk w g #[v] 40) (hO : OwnR w w0.heap.size 46 eEnt v xs) (n0 : Off v g) (bel : Below w0.heap.size w0 w) (hlo : w0.heap.size ≤ g) (hl : xs.length ≤ 1000000) : Calls Tryd.prog 36 #[.slice (some ⟨b, o, none⟩) ns.length cap, .pointer (some ⟨g, 0, none⟩)] w fun e w' => ∃ u, e = .returned u ∧ ∃ v', Blk w' g #[v'] 40 ∧ OwnR w' w0.heap.size 46 eEnt v' (xs ++ [(nth ns 0, nth ns 1, nth ns 2, nth ns 3, IntKind.u64.wrap (nth ns 4))]) ∧ Off v' g ∧ Below w0.heap.size w0 w' := by
  go_enter Tryd.func36, Tryd.ntmps36
  refine wp_region_facts2_litD (C := Abv w) 19 [.val v, .val (.slice (some ⟨b, o, none⟩) ns.length cap), .val (.pointer (some ⟨b, o + 0 * 1, none⟩)), .val (.int .i64 (nth ns 0)), .val (.slice (some ⟨b, o, none⟩) ns.length cap), .val (.pointer (some ⟨b, o + 1 * 1, none⟩)), .val (.int .i64 (nth ns 1)), .val (.slice (some ⟨b, o, none⟩) ns.length cap), .val (.pointer (some ⟨b, o + 2 * 1, none⟩)), .val (.int .i64 (nth ns 2)), .val (.slice (some ⟨b, o, none⟩) ns.length cap), .val (.pointer (some ⟨b, o + 3 * 1, none⟩)), .val (.int .i64 (nth ns 3)), .val (.slice (some ⟨b, o, none⟩) ns.length cap), .val (.pointer (some ⟨b, o + 4 * 1, none⟩)), .val (.int .i64 (nth ns 4)), .val (.int .u64 (IntKind.u64.wrap (nth ns 4))), .val (.agg #[.int .i64 (nth ns 0), .int .i64 (nth ns 1), .int .i64 (nth ns 2), .int .i64 (nth ns 3), .int .u64 (IntKind.u64.wrap (nth ns 4))]), .ex (fun v_ z_ => ∃ g, v_ = .slice (some ⟨g, 0, none⟩) 1 1 ∧ Blk z_ g #[.int .i64 (nth ns 0), .int .i64 (nth ns 1), .int .i64 (nth ns 2), .int .i64 (nth ns 3), .int .u64 (IntKind.u64.wrap (nth ns 4))] 46 ∧ w.heap.size ≤ g) (fun v_ z_ y_ hG ⟨g, h1, h2, h3⟩ => ⟨g, h1, h2.below hG, h3⟩)] w.heap.size (by kernel_rfl) (by simp) (by kernel_rfl) (by kernel_rfl) (fun _ h => h.size) (Abv.start _) ?_
  simp only [List.take_succ_cons, List.take_zero, List.drop_succ_cons, List.drop_zero]
  refine fst2_val (fun W hC hh => ok2_value (v := v) (by rfl) (run_loadB (.tmp 1) rfl r_one_40 rfl (hB.below hC) rfl) rfl hC (G0.refl _)) ?_
  simp only [nf0, nf1, nf2, nf3, nf4]
  refine fst2_val (fun W hC hh => ok2_value (v := (.slice (some ⟨b, o, none⟩) ns.length cap)) (by rfl) (by rfl) rfl hC (G0.refl _)) ?_
  simp only [nf0, nf1, nf2, nf3, nf4]
  refine fst2_val (fun W hC hh => ok2_value (v := (.pointer (some ⟨b, o + 0 * 1, none⟩))) (by rfl) (run_indexAddrN (.tmp 4) (.const (.int .i64 0)) rfl Tryd.underlying67 slInt.sz (i := 0) rfl (by exact (congrArg (Value.int .i64) (show 0 = ((0 : Nat) : Int) by omega))) (by omega) W) rfl hC (G0.refl _)) ?_
  simp only [nf0, nf1, nf2, nf3, nf4]
  refine fst2_val (fun W hC hh => ok2_value (v := (.int .i64 (nth ns 0))) (by rfl) (run_load1 (.tmp 5) rfl Tryd.underlying3 rfl slInt.sz rfl (Reads.intAt (hr.same hC) 0 (by omega))) rfl hC (G0.refl _)) ?_
  simp only [nf0, nf1, nf2, nf3, nf4]
  refine fst2_val (fun W hC hh => ok2_value (v := (.slice (some ⟨b, o, none⟩) ns.length cap)) (by rfl) (by rfl) rfl hC (G0.refl _)) ?_
  simp only [nf0, nf1, nf2, nf3, nf4]
  refine fst2_val (fun W hC hh => ok2_value (v := (.pointer (some ⟨b, o + 1 * 1, none⟩))) (by rfl) (run_indexAddrN (.tmp 7) (.const (.int .i64 1)) rfl Tryd.underlying67 slInt.sz (i := 1) rfl (by exact (congrArg (Value.int .i64) (show 1 = ((1 : Nat) : Int) by omega))) (by omega) W) rfl hC (G0.refl _)) ?_
  simp only [nf0, nf1, nf2, nf3, nf4]
  refine fst2_val (fun W hC hh => ok2_value (v := (.int .i64 (nth ns 1))) (by rfl) (run_load1 (.tmp 8) rfl Tryd.underlying3 rfl slInt.sz rfl (Reads.intAt (hr.same hC) 1 (by omega))) rfl hC (G0.refl _)) ?_
  simp only [nf0, nf1, nf2, nf3, nf4]
  refine fst2_val (fun W hC hh => ok2_value (v := (.slice (some ⟨b, o, none⟩) ns.length cap)) (by rfl) (by rfl) rfl hC (G0.refl _)) ?_
  simp only [nf0, nf1, nf2, nf3, nf4]
  refine fst2_val (fun W hC hh => ok2_value (v := (.pointer (some ⟨b, o + 2 * 1, none⟩))) (by rfl) (run_indexAddrN (.tmp 10) (.const (.int .i64 2)) rfl Tryd.underlying67 slInt.sz (i := 2) rfl (by exact (congrArg (Value.int .i64) (show 2 = ((2 : Nat) : Int) by omega))) (by omega) W) rfl hC (G0.refl _)) ?_
  simp only [nf0, nf1, nf2, nf3, nf4]
  refine fst2_val (fun W hC hh => ok2_value (v := (.int .i64 (nth ns 2))) (by rfl) (run_load1 (.tmp 11) rfl Tryd.underlying3 rfl slInt.sz rfl (Reads.intAt (hr.same hC) 2 (by omega))) rfl hC (G0.refl _)) ?_
  simp only [nf0, nf1, nf2, nf3, nf4]
  refine fst2_val (fun W hC hh => ok2_value (v := (.slice (some ⟨b, o, none⟩) ns.length cap)) (by rfl) (by rfl) rfl hC (G0.refl _)) ?_
  simp only [nf0, nf1, nf2, nf3, nf4]
  refine fst2_val (fun W hC hh => ok2_value (v := (.pointer (some ⟨b, o + 3 * 1, none⟩))) (by rfl) (run_indexAddrN (.tmp 13) (.const (.int .i64 3)) rfl Tryd.underlying67 slInt.sz (i := 3) rfl (by exact (congrArg (Value.int .i64) (show 3 = ((3 : Nat) : Int) by omega))) (by omega) W) rfl hC (G0.refl _)) ?_
  simp only [nf0, nf1, nf2, nf3, nf4]
  refine fst2_val (fun W hC hh => ok2_value (v := (.int .i64 (nth ns 3))) (by rfl) (run_load1 (.tmp 14) rfl Tryd.underlying3 rfl slInt.sz rfl (Reads.intAt (hr.same hC) 3 (by omega))) rfl hC (G0.refl _)) ?_
  simp only [nf0, nf1, nf2, nf3, nf4]
  refine fst2_val (fun W hC hh => ok2_value (v := (.slice (some ⟨b, o, none⟩) ns.length cap)) (by rfl) (by rfl) rfl hC (G0.refl _)) ?_
  simp only [nf0, nf1, nf2, nf3, nf4]
  refine fst2_val (fun W hC hh => ok2_value (v := (.pointer (some ⟨b, o + 4 * 1, none⟩))) (by rfl) (run_indexAddrN (.tmp 16) (.const (.int .i64 4)) rfl Tryd.underlying67 slInt.sz (i := 4) rfl (by exact (congrArg (Value.int .i64) (show 4 = ((4 : Nat) : Int) by omega))) (by omega) W) rfl hC (G0.refl _)) ?_
  simp only [nf0, nf1, nf2, nf3, nf4]
  refine fst2_val (fun W hC hh => ok2_value (v := (.int .i64 (nth ns 4))) (by rfl) (run_load1 (.tmp 17) rfl Tryd.underlying3 rfl slInt.sz rfl (Reads.intAt (hr.same hC) 4 (by omega))) rfl hC (G0.refl _)) ?_
  simp only [nf0, nf1, nf2, nf3, nf4]
  refine fst2_val (fun W hC hh => ok2_value (v := (.int .u64 (IntKind.u64.wrap (nth ns 4)))) (by rfl) (run_conv_i64_u64 (.tmp 18) rfl Tryd.underlying3 Tryd.underlying44 (z := nth ns 4) rfl rfl W) rfl hC (G0.refl _)) ?_
  simp only [nf0, nf1, nf2, nf3, nf4]
  refine fst2_val (fun W hC hh => ok2_value (v := (.agg #[.int .i64 (nth ns 0), .int .i64 (nth ns 1), .int .i64 (nth ns 2), .int .i64 (nth ns 3), .int .u64 (IntKind.u64.wrap (nth ns 4))])) (by rfl) (run_buildV rfl (by kernel_rfl) W) rfl hC (G0.refl _)) ?_
  simp only [nf0, nf1, nf2, nf3, nf4]
  refine fst2_ex (fun W hC hh => ok2_ex (by rfl) (r_run_lit_40_1 (.tmp 20) rfl (m0 := ((nth ns 0), (nth ns 1), (nth ns 2), (nth ns 3), (IntKind.u64.wrap (nth ns 4)))) rfl W) ⟨_, rfl, Blk.new _ _ _ _ rfl, hC.size⟩ (hC.step (bl_alloc (Below.refl _ _) _)) (bl_alloc (Below.refl _ _) _)) fun v1 => ?_
  simp only [nf0, nf1, nf2, nf3, nf4]
  refine fst2_nil fun w2 hC hh hnd => ?_
  replace hC : Below w.heap.size w w2 := hC
  obtain ⟨g3, rfl, B4, lo5⟩ := (List.forall_mem_cons.1 hh).1
  replace hh := (List.forall_mem_cons.1 hh).2
  have n6 := hB.ne lo5
  have n7 := hO.off lo5
  replace lo5 := low_le bel lo5
  clear hh hnd
  replace hB := hB.below hC
  replace hO := hO.same hC
  replace hr := hr.same hC
  replace bel := bl_step bel hC
  clear hC
  refine st_append slEnt rfl (.tmp 3) (.tmp 21) rfl rfl hO ([((nth ns 0), (nth ns 1), (nth ns 2), (nth ns 3), (IntKind.u64.wrap (nth ns 4)))] : List TEnt) rfl rfl B4 (by simp [Enc.all, eEnt]) (by simp only [List.length_cons, List.length_nil]; omega) bel.size ?_
  intro v8 w9 O10 hg11 hat12
  simp only [nf0, nf1, nf2, nf3, nf4]
  have n13 := (n0 : Off _ _).app hB hat12
  replace hB := hB.keptR hg11 n0
  replace bel := bl_app bel hO hg11
  clear hO hg11 hat12
  refine st_cell (v := v8) (by rfl) (run_storeB (.tmp 1) (.tmp 22) rfl r_one_40 hB (show 0 < 1 by decide) rfl rfl (OwnR.cell1 O10).1 (OwnR.cell1 O10).2) hB ?_
  intro w14 B16 hg15
  simp only [nf0, nf1, nf2, nf3, nf4]
  replace O10 := O10.keptB hg15 n13
  replace bel := bl_kept0 bel hg15 hlo
  clear hg15
  clear hB
  replace B16 : Blk w14 g #[v8] 40 := B16
  refine wpList_nil ?_
  first | show bodyPost _ _ _ _ _ _ | (simp only [Exit.then, Exit.inBlock, if_true]; show bodyPost _ _ _ _ _ _)
  exact bodyPost_end (results_none rfl _ _ _) rfl ⟨_, rfl, _, B16, O10, n13, bel⟩
theorem addEntry_calls {w0 w : World} {g : Nat} {v : Value} {xs : List TEnt} {ns : List Int} {u : Value} (h5 : ns.length = 5) (hu : OwnR w w0.heap.size 3 (eInt .i64) u ns) (hB : Blk w g #[v] 40) (hO : OwnR w w0.heap.size 46 eEnt v xs) (n0 : Off v g) (bel : Below w0.heap.size w0 w) (hlo : w0.heap.size ≤ g) (hl : xs.length ≤ 1000000) : Calls Tryd.prog 36 #[u, .pointer (some ⟨g, 0, none⟩)] w fun e w' => ∃ u, e = .returned u ∧ ∃ v', Blk w' g #[v'] 40 ∧ OwnR w' w0.heap.size 46 eEnt v' (xs ++ [(nth ns 0, nth ns 1, nth ns 2, nth ns 3, IntKind.u64.wrap (nth ns 4))]) ∧ Off v' g ∧ Below w0.heap.size w0 w' := by
  obtain ⟨A, c, rfl, h1, h2, h3, R⟩ := hu.reads
  rw [eInt_all] at R
  obtain ⟨b, o, rfl, _⟩ := R.at_ (by rw [List.length_map]; omega)
  exact addEntry_at h5 h1 R hB hO n0 bel hlo hl
end Go.Proofs.YtckmihjekgbcmaaDoor

/- Guarded operations that are not done; short forms of what a walk writes down; a region walked once to a relation (as Cut, but for seats without sets). -/
import Derived.Test.YtkebpmcgmmhifaaMem
namespace Go.Proofs.Ytkebpmcgmmhifaa
open Go.RowKit
theorem wp_seq_join {P : Program} {x y : Code} {Q : Exit → Act → World → Prop} {a : Act} {w : World} (R : Act → World → Prop) (h : x.wp P (fun e a' w' => e = .normal ∧ R a' w') a w) (k : ∀ a' w', R a' w' → y.wp P Q a' w') : (Code.seq x y).wp P Q a w :=
  wp_seq (wp_mono h fun e a' w' ⟨h1, h2⟩ => by subst h1; exact k a' w' h2)
/-- What the variables hold. -/
def jk (a : Act) (n : Nat) : Value := a.tmps.getD n undef
section
variable {P : Program} {ops : Array Oper} {Q : Exit → Act → World → Prop} {rest : List Oper} {o : Oper} {a : Act} {w : World}
theorem nf0 (a : Act) (d : Tmp) (v : Value) : a.put (some d) v = { a with tmps := a.tmps.setIfInBounds d v } := rfl
theorem nf1 (l : List Value) (i : Nat) (v : Value) : l.toArray.setIfInBounds i v = (l.set i v).toArray := List.setIfInBounds_toArray ..
theorem nf2 (x v : Value) (l : List Value) : (x :: l).set 0 v = v :: l := rfl
theorem nf3 (x v : Value) (l : List Value) (i : Nat) : (x :: l).set (i + 1) v = x :: l.set i v := rfl
theorem nf4 (a : Act) (v : Value) : a.put none v = a := rfl
/-- A value that is there by computation. -/
theorem st_mv (v : Value) (k : wpList P ops Q rest (a.put o.dst v) w) (hw : Region.wanted o (yielded ops a.tmps) = true := by rfl) (h : (execOp a.eval o).run P w = .ok (.value v) w := by rfl) : wpList P ops Q (o :: rest) a w := st_value hw h k
theorem st_nob {j t : Nat} {b c : Bool} (hg : o.guard = some (j, b)) {p : Oper} (hp : ops[j]? = some p) (hd : p.dst = some t) (hv : a.tmps[t]? = some (.bool c)) (hc : (c == b) = false) (k : wpList P ops Q rest (a.put o.dst undef) w) : wpList P ops Q (o :: rest) a w := by
  refine st_not ?_ k
  simp only [Region.wanted, hg, yielded, hp, Option.bind_some, hd, hv]
  simpa using hc
theorem st_nou {j t : Nat} {b : Bool} (hg : o.guard = some (j, b)) {p : Oper} (hp : ops[j]? = some p) (hd : p.dst = some t) (hv : a.tmps[t]? = some undef) (k : wpList P ops Q rest (a.put o.dst undef) w) : wpList P ops Q (o :: rest) a w := by
  refine st_not ?_ k
  simp only [Region.wanted, hg, yielded, hp, Option.bind_some, hd, hv]
  rfl
end
end Go.Proofs.Ytkebpmcgmmhifaa

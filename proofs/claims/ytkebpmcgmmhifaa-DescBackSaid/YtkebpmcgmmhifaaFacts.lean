/- A region that draws its order: of each operation a fact on what it yields; one walk of the text's order, each operation in any world in which what it waits for has been done, serves every order. -/
import Derived.Test.YtkebpmcgmmhifaaKit
import Derived.Still
namespace Go.Proofs.Ytkebpmcgmmhifaa
open Go.RowKit

/-- What is known of what an operation yields: the very value; or a fact on it that stays. -/
inductive Fact (G : World → World → Prop) where
  | val (v : Value)
  | ex (p : Value → World → Prop) (h : ∀ v w w', G w w' → p v w → p v w')

def Fact.holds {G : World → World → Prop} : Fact G → Value → World → Prop
  | .val c, v, _ => v = c
  | .ex p _, v, w => p v w

theorem Fact.stay {G : World → World → Prop} {f : Fact G} {v : Value} {w w' : World} (h : G w w') (k : f.holds v w) : f.holds v w' := by
  cases f with
  | val c => exact k
  | ex p hp => exact hp _ _ _ h k

/-- What an operation waits for. -/
def predsOf (o : Oper) : List Nat := (o.after.toList.filter (fun e => Region.binds .any e)).map (·.on)

def factsOk (ops : Array Oper) (n : Nat) (i : Nat) (o : Oper) : Bool :=
  (o.after.all fun e => !Region.binds .any e || decide (e.on < i)) &&
  (match o.dst with | some d => decide (d < n) | none => true) &&
  (List.range ops.size).all fun j => match (ops[j]?).bind (·.dst) with
    | some d => (i == j || o.dst != some d) && (!(o.looksAt ops).contains d || (predsOf o).contains j)
    | none => true
def factsB (ops : Array Oper) (n : Nat) : Bool :=
  Region.noSelect ops && (List.range ops.size).all fun i => match ops[i]? with | some o => factsOk ops n i o | none => true

section
variable {P : Program} {ops : Array Oper} {C : World → Prop} {G : World → World → Prop}

/-- An operation, carried out in this state and world, yields what the fact says. -/
def opok (P : Program) (ops : Array Oper) (C : World → Prop) (G : World → World → Prop) (o : Oper) (f : Fact G) (a : Act) (w : World) : Prop :=
  if Region.wanted o (yielded ops a.tmps) then
    match (execOp a.eval o).run P w with
    | .ok (.value v) w' => f.holds v w' ∧ C w' ∧ G w w'
    | .ok .skip w' => f.holds undef w' ∧ C w' ∧ G w w'
    | .ok (.enter g args) w' => Calls P g args w' fun e w'' => ∃ v, e = .returned v ∧ f.holds v w'' ∧ C w'' ∧ G w w''
    | _ => False
  else f.holds undef w ∧ G w w

def fsteps (P : Program) (ops : Array Oper) (C : World → Prop) (G : World → World → Prop) (Q : Act → World → Prop) : Nat → List Oper → List (Fact G) → Act → List (Nat × (World → Prop)) → Prop
  | i, o :: os, f :: fs, a, hs => (∀ w, C w → (∀ p ∈ hs, p.1 ∈ predsOf o → p.2 w) → opok P ops C G o f a w) ∧
    match f with
    | .val c => fsteps P ops C G Q (i + 1) os fs (a.put o.dst c) hs
    | .ex p _ => ∀ v, fsteps P ops C G Q (i + 1) os fs (a.put o.dst v) ((i, p v) :: hs)
  | _, [], [], a, hs => ∀ w, C w → (∀ p ∈ hs, p.2 w) → Q a w
  | _, _, _, _, _ => False

def putsFrom (vs : Nat → Value) : Nat → List Oper → Act → Act
  | _, [], a => a
  | k, o :: os, a => putsFrom vs (k + 1) os (a.put o.dst (vs k))

def Agree (fs0 : List (Fact G)) (vs : Nat → Value) : Prop := ∀ i c, fs0[i]? = some (.val c) → vs i = c

theorem fsteps_use {Q : Act → World → Prop} {fs0 : List (Fact G)} {vs : Nat → Value} (hv : Agree fs0 vs) : ∀ (os : List Oper) (k : Nat) (fs : List (Fact G)) (a : Act) (hs : List (Nat × (World → Prop))),
    (∀ j, fs[j]? = fs0[k + j]?) → (∀ p ∈ hs, ∃ (q : Value → World → Prop) (hq : _), fs0[p.1]? = some (Fact.ex q hq) ∧ p.2 = q (vs p.1)) → fsteps P ops C G Q k os fs a hs →
    (∀ j o, os[j]? = some o → ∃ f, fs0[k + j]? = some f ∧ ∀ w, C w → (∀ i ∈ predsOf o, ∀ (q : Value → World → Prop) (hq : _), fs0[i]? = some (Fact.ex q hq) → q (vs i) w) → opok P ops C G o f (putsFrom vs k (os.take j) a) w) ∧
    (∀ w, C w → (∀ (i : Nat) (q : Value → World → Prop) (hq : _), fs0[i]? = some (Fact.ex q hq) → q (vs i) w) → Q (putsFrom vs k os a) w)
  | [], k, [], a, hs, _, hh, h => by
    refine ⟨fun j o hj => by simp at hj, fun w hC hq => ?_⟩
    exact h w hC fun p hp => by
      obtain ⟨q, hq', h1, h2⟩ := hh p hp
      rw [h2]; exact hq _ _ _ h1
  | [], k, f :: fs, a, hs, _, hh, h => h.elim
  | o :: os, k, [], a, hs, _, hh, h => h.elim
  | o :: os, k, f :: fs, a, hs, hf, hh, h => by
    have hk : fs0[k]? = some f := by have := hf 0; simpa using this.symm
    have hf' : ∀ j, fs[j]? = fs0[k + 1 + j]? := fun j => by
      have := hf (j + 1)
      rw [show k + 1 + j = k + (j + 1) from by omega]
      simpa using this
    have key : ∃ hs', (∀ p ∈ hs', ∃ (q : Value → World → Prop) (hq : _), fs0[p.1]? = some (Fact.ex q hq) ∧ p.2 = q (vs p.1)) ∧ fsteps P ops C G Q (k + 1) os fs (a.put o.dst (vs k)) hs' := by
      cases f with
      | val c => rw [hv k c hk]; exact ⟨hs, hh, h.2⟩
      | ex p hp =>
        refine ⟨(k, p (vs k)) :: hs, ?_, h.2 (vs k)⟩
        intro x hx
        rcases List.mem_cons.1 hx with rfl | hx
        · exact ⟨p, hp, hk, rfl⟩
        · exact hh x hx
    obtain ⟨hs', hh', h'⟩ := key
    obtain ⟨r1, r2⟩ := fsteps_use hv os (k + 1) fs _ hs' hf' hh' h'
    refine ⟨fun j oj hj => ?_, r2⟩
    cases j with
    | zero =>
      simp only [List.getElem?_cons_zero, Option.some.injEq] at hj
      subst hj
      refine ⟨f, by simpa using hk, fun w hC hq => h.1 w hC fun p hp hin => ?_⟩
      obtain ⟨q, hq', h1, h2⟩ := hh p hp
      rw [h2]; exact hq _ hin _ _ h1
    | succ j =>
      obtain ⟨f', h1, h2⟩ := r1 j oj (by simpa using hj)
      exact ⟨f', by rw [← h1]; congr 1; omega, h2⟩

theorem putsFrom_size (vs : Nat → Value) : ∀ (os : List Oper) (k : Nat) (a : Act), (putsFrom vs k os a).tmps.size = a.tmps.size
  | [], _, _ => rfl
  | o :: os, k, a => by
    rw [putsFrom, putsFrom_size vs os]
    cases h : o.dst <;> simp [Act.put]
theorem putsFrom_defers (vs : Nat → Value) : ∀ (os : List Oper) (k : Nat) (a : Act), (putsFrom vs k os a).defers = a.defers
  | [], _, _ => rfl
  | o :: os, k, a => by
    rw [putsFrom, putsFrom_defers vs os]
    cases h : o.dst <;> simp [Act.put]
/-- A slot that none of them writes. -/
theorem putsFrom_other (vs : Nat → Value) (t : Nat) : ∀ (os : List Oper) (k : Nat) (a : Act), (∀ o ∈ os, o.dst ≠ some t) → (putsFrom vs k os a).tmps[t]? = a.tmps[t]?
  | [], _, _, _ => rfl
  | o :: os, k, a, h => by
    rw [putsFrom, putsFrom_other vs t os (k + 1) _ (fun x hx => h x (by simp [hx]))]
    have := h o (by simp)
    cases hd : o.dst with
    | none => rfl
    | some d =>
      have hne : d ≠ t := fun e => this (by rw [hd, e])
      simp [Act.put, Array.getElem?_setIfInBounds_ne hne]
/-- A slot that one of them writes. -/
theorem putsFrom_at (vs : Nat → Value) (t : Nat) : ∀ (os : List Oper) (k : Nat) (a : Act) (j : Nat) (o : Oper), os[j]? = some o → o.dst = some t → t < a.tmps.size →
    (∀ i o', os[i]? = some o' → i ≠ j → o'.dst ≠ some t) → (putsFrom vs k os a).tmps[t]? = some (vs (k + j))
  | [], _, _, j, o, h, _, _, _ => by simp at h
  | o :: os, k, a, 0, o', h, hd, ht, hne => by
    simp only [List.getElem?_cons_zero, Option.some.injEq] at h
    subst h
    rw [putsFrom, putsFrom_other vs t os]
    · simp [Act.put, hd, ht]
    · intro x hx
      obtain ⟨i, hi, rfl⟩ := List.mem_iff_getElem.1 hx
      exact hne (i + 1) _ (by simp [hi]) (by omega)
  | o :: os, k, a, j + 1, o', h, hd, ht, hne => by
    rw [putsFrom, putsFrom_at vs t os (k + 1) _ j o' (by simpa using h) hd (by cases h : o.dst <;> simpa [Act.put] using ht) (fun i o'' hi hij => hne (i + 1) o'' (by simpa using hi) (by omega))]
    congr 2; omega

theorem factsOk_of (n : Nat) (h : factsB ops n = true) {i : Nat} {o : Oper} (hi : ops[i]? = some o) :
    (∀ e ∈ o.after, Region.binds .any e = true → e.on < i) ∧ (∀ d, o.dst = some d → d < n) ∧ (∀ j o' d, ops[j]? = some o' → o'.dst = some d → (j ≠ i → o.dst ≠ some d) ∧ (d ∈ o.looksAt ops → j ∈ predsOf o)) := by
  have hlt := (Array.getElem?_eq_some_iff.1 hi).1
  simp only [factsB, Bool.and_eq_true, List.all_eq_true, List.mem_range] at h
  have h1 := h.2 i hlt
  simp only [hi, factsOk, Bool.and_eq_true, List.all_eq_true, List.mem_range] at h1
  obtain ⟨⟨h1, h2⟩, h3⟩ := h1
  refine ⟨fun e he hb => ?_, fun d hd => ?_, fun j o' d hj hd => ?_⟩
  · rw [Array.all_eq_true_iff_forall_mem] at h1
    have := h1 e he
    simpa [hb] using this
  · simpa [hd] using h2
  · have hjl := (Array.getElem?_eq_some_iff.1 hj).1
    have := h3 j hjl
    simp only [hj, Option.bind_some, hd, Bool.and_eq_true, Bool.or_eq_true] at this
    refine ⟨fun hne => ?_, fun hin => ?_⟩
    · have := this.1.resolve_left (by simp; omega)
      simpa using this
    · have := this.2.resolve_left (by simpa using hin)
      simpa using this

theorem opok_congr {o : Oper} {f : Fact G} {a b : Act} {w : World} (h1 : execOp a.eval o = execOp b.eval o) (h2 : Region.wanted o (yielded ops a.tmps) = Region.wanted o (yielded ops b.tmps)) (h : opok P ops C G o f a w) : opok P ops C G o f b w := by
  unfold opok at *
  rw [h1, h2] at h
  exact h

theorem wpOp_of_opok {Q : Exit → Act → World → Prop} {K : Act → World → Prop} {i : Nat} {o : Oper} {f : Fact G} {a : Act} {w : World} (hi : ops[i]? = some o) (hC : C w) (h : opok P ops C G o f a w)
    (hK : ∀ v w', f.holds v w' → C w' → G w w' → K (a.put o.dst v) w') : wpOp P ops Q i K a w := by
  unfold wpOp opok at *
  simp only [hi]
  by_cases hw : Region.wanted o (yielded ops a.tmps) = true
  · simp only [hw, if_true] at h ⊢
    refine .inl ?_
    unfold Oper.wp
    generalize (execOp a.eval o).run P w = r at *
    cases r with
    | ok n w' =>
      cases n <;> simp only [Oper.upon] at h ⊢
      case value v => exact hK _ _ h.1 h.2.1 h.2.2
      case skip => exact hK _ _ h.1 h.2.1 h.2.2
      case enter g args =>
        refine h.mono fun e w'' ⟨v, he, h1, h2, h3⟩ => ?_
        subst he
        exact hK _ _ h1 h2 h3
    | halt x w' => exact h.elim
  · simp only [hw, Bool.false_eq_true, if_false] at h ⊢
    exact hK _ _ h.1 hC h.2

structure FInv (ops : Array Oper) (C : World → Prop) (fs0 : List (Fact G)) (a0 : Act) (listed : Array Bool) (a : Act) (w : World) (vs : Nat → Value) : Prop where
  size : listed.size = ops.size
  cls : C w
  defers : a.defers = a0.defers
  tsize : a.tmps.size = a0.tmps.size
  agree : Agree fs0 vs
  base : ∀ t, (∀ i o, ops[i]? = some o → listed.getD i false = true → o.dst ≠ some t) → a.tmps[t]? = a0.tmps[t]?
  done : ∀ i o d, ops[i]? = some o → listed.getD i false = true → o.dst = some d → a.tmps[d]? = some (vs i)
  facts : ∀ (i : Nat) (q : Value → World → Prop) (hq : _), fs0[i]? = some (Fact.ex q hq) → listed.getD i false = true → q (vs i) w

theorem getD_true_of {listed : Array Bool} {i : Nat} (h : i < listed.size) (hn : listed.getD i true = false ∨ listed.getD i false = true) : listed.getD i false = true ∨ listed.getD i true = false := hn.symm

theorem wpAny_of_facts {Q : Exit → Act → World → Prop} {fs0 : List (Fact G)} {a0 : Act} (hB : factsB ops a0.tmps.size = true)
    (h : fsteps P ops C G (Q .normal) 0 ops.toList fs0 a0 []) : ∀ (fuel : Nat) (listed : Array Bool) (a : Act) (w : World) (vs : Nat → Value), FInv ops C fs0 a0 listed a w vs →
    ((List.range ops.size).filter fun i => !listed.getD i false).length ≤ fuel → wpAny P .any ops Q fuel listed a w := by
  have hsel : Region.noSelect ops = true := by simp only [factsB, Bool.and_eq_true] at hB; exact hB.1
  -- all have come up
  have fin : ∀ (listed : Array Bool) (a : Act) (w : World) (vs : Nat → Value), FInv ops C fs0 a0 listed a w vs → (∀ i, i < ops.size → listed.getD i false = true) → Q .normal a w := by
    intro listed a w vs I hall
    obtain ⟨r1, r2⟩ := fsteps_use (ops := ops) I.agree ops.toList 0 fs0 a0 [] (by simp) (by simp) h
    have ea : a = putsFrom vs 0 ops.toList a0 := by
      obtain ⟨ts, ds⟩ := a
      have e1 : ds = (putsFrom vs 0 ops.toList a0).defers := by rw [putsFrom_defers]; exact I.defers
      have e2 : ts = (putsFrom vs 0 ops.toList a0).tmps := by
        apply Array.ext_getElem?
        intro t
        by_cases hex : ∃ (j : Nat) (o : Oper), ops[j]? = some o ∧ o.dst = some t
        · obtain ⟨j, o, hj, hd⟩ := hex
          have hjl := (Array.getElem?_eq_some_iff.1 hj).1
          have h1 := I.done j o t hj (hall j hjl) hd
          obtain ⟨_, hlt, _⟩ := factsOk_of _ hB hj
          rw [putsFrom_at vs t ops.toList 0 a0 j o (by simpa using hj) hd (hlt t hd) (fun i o' hi hij => by
            obtain ⟨_, _, h3⟩ := factsOk_of _ hB (show ops[i]? = some o' by simpa using hi)
            exact (h3 j o t hj hd).1 (Ne.symm hij))]
          simpa using h1
        · rw [putsFrom_other vs t ops.toList 0 a0 (fun o ho hd => hex (by
            obtain ⟨i, hi, rfl⟩ := List.mem_iff_getElem.1 ho
            exact ⟨i, _, by rw [← Array.getElem?_toList]; exact List.getElem?_eq_getElem hi, hd⟩))]
          exact I.base t (fun i o hi _ hd => hex ⟨i, o, hi, hd⟩)
      rw [e1, e2]
    rw [ea]
    refine r2 w I.cls fun i q hq hi => I.facts i q hq hi ?_
    -- a fact's number is an operation's
    have hl : fs0.length = ops.size := by
      have : ∀ (os : List Oper) (k : Nat) (fs : List (Fact G)) (a : Act) (hs : List (Nat × (World → Prop))), fsteps P ops C G (Q .normal) k os fs a hs → fs.length = os.length := by
        intro os
        induction os with
        | nil => intro k fs a hs h; cases fs with
          | nil => rfl
          | cons f fs => exact h.elim
        | cons o os ih => intro k fs a hs h; cases fs with
          | nil => exact h.elim
          | cons f fs =>
            cases f with
            | val c => simp [ih _ _ _ _ h.2]
            | ex p hp => simp [ih _ _ _ _ (h.2 undef)]
      simpa using this _ _ _ _ _ h
    have := (List.getElem?_eq_some_iff.1 hi).1
    exact hall i (by omega)
  -- if none can come up, all have
  have none_ready : ∀ (listed : Array Bool), listed.size = ops.size → Region.ready .any ops listed = [] → ∀ i, i < ops.size → listed.getD i false = true := by
    intro listed hs hr i
    induction i using Nat.strongRecOn with
    | _ i ih =>
      intro hi
      by_cases hl : listed.getD i false = true
      · exact hl
      · exfalso
        have hl' : listed.getD i true = false := by
          have : i < listed.size := by omega
          simp [this] at hl ⊢
          exact hl
        have hm : i ∈ Region.ready .any ops listed := by
          refine mem_ready.2 ⟨hl', ops[i], by simp [hi], fun e he hb => ?_⟩
          obtain ⟨h1, _, _⟩ := factsOk_of _ hB (show ops[i]? = some ops[i] by simp [hi])
          have := h1 e he hb
          exact ih e.on this (by omega)
        rw [hr] at hm
        cases hm
  intro fuel
  induction fuel with
  | zero =>
    intro listed a w vs I hc
    have hall : ∀ i, i < ops.size → listed.getD i false = true := by
      intro i hi
      have : (List.range ops.size).filter (fun i => !listed.getD i false) = [] := List.length_eq_zero_iff.1 (by omega)
      rw [List.filter_eq_nil_iff] at this
      have := this i (by simp [hi])
      simpa using this
    refine ⟨?_, fin listed a w vs I hall⟩
    cases hr : Region.ready .any ops listed with
    | nil => rfl
    | cons j js =>
      exfalso
      have hj : j ∈ Region.ready .any ops listed := by rw [hr]; simp
      obtain ⟨h0, o, ho, _⟩ := mem_ready.1 hj
      have := hall j (Array.getElem?_eq_some_iff.1 ho).1
      have hlt : j < listed.size := by rw [I.size]; exact (Array.getElem?_eq_some_iff.1 ho).1
      simp [hlt] at h0 this
      rw [h0] at this; cases this
  | succ fuel ih =>
    intro listed a w vs I hc
    refine ⟨fun hr => fin listed a w vs I (none_ready listed I.size hr), fun i hi => ?_⟩
    obtain ⟨h0, o, ho, hall⟩ := mem_ready.1 hi
    have hil := (Array.getElem?_eq_some_iff.1 ho).1
    have hls : i < listed.size := by rw [I.size]; exact hil
    have hun : listed.getD i false = false := by simp [hls] at h0 ⊢; exact h0
    obtain ⟨g1, g2, g3⟩ := factsOk_of _ hB ho
    obtain ⟨r1, _⟩ := fsteps_use (ops := ops) I.agree ops.toList 0 fs0 a0 [] (by simp) (by simp) h
    obtain ⟨f, hf, hok⟩ := r1 i o (by simpa using ho)
    rw [Nat.zero_add] at hf
    have hpre : ∀ j ∈ predsOf o, listed.getD j false = true := by
      intro j hj
      simp only [predsOf, List.mem_map, List.mem_filter] at hj
      obtain ⟨e, ⟨he, hb⟩, rfl⟩ := hj
      exact hall e (by simpa using he) hb
    have hok := hok w I.cls fun j hj q hq hjf => I.facts j q hq hjf (hpre j hj)
    -- the two states are alike at what the operation looks at
    have same : ∀ t ∈ o.looksAt ops, (putsFrom vs 0 (ops.toList.take i) a0).tmps[t]? = a.tmps[t]? := by
      intro t ht
      by_cases hex : ∃ (j : Nat) (o' : Oper), ops[j]? = some o' ∧ o'.dst = some t
      · obtain ⟨j, o', hj, hd⟩ := hex
        have hjp := (g3 j o' t hj hd).2 ht
        have hjl := hpre j hjp
        have hji : j < i := by
          simp only [predsOf, List.mem_map, List.mem_filter] at hjp
          obtain ⟨e, ⟨he, hb⟩, rfl⟩ := hjp
          exact g1 e (by simpa using he) hb
        obtain ⟨_, hlt, _⟩ := factsOk_of _ hB hj
        rw [putsFrom_at vs t (ops.toList.take i) 0 a0 j o' (by rw [List.getElem?_take, if_pos hji]; simpa using hj) hd (hlt t hd) (fun k ok hk hkj => by
          rw [List.getElem?_take] at hk
          split at hk
          · obtain ⟨_, _, h3⟩ := factsOk_of _ hB (show ops[k]? = some ok by simpa using hk)
            exact (h3 j o' t hj hd).1 (Ne.symm hkj)
          · cases hk)]
        rw [I.done j o' t hj hjl hd, Nat.zero_add]
      · rw [putsFrom_other vs t (ops.toList.take i) 0 a0 (fun o' ho' hd => hex (by
          obtain ⟨k, hk, rfl⟩ := List.mem_iff_getElem.1 (List.mem_of_mem_take ho')
          exact ⟨k, _, by rw [← Array.getElem?_toList]; exact List.getElem?_eq_getElem hk, hd⟩))]
        exact (I.base t (fun k ok hk _ hd => hex ⟨k, ok, hk, hd⟩)).symm
    have hok : opok P ops C G o f a w := by
      refine opok_congr ?_ ?_ hok
      · refine execOp_congr o (fun cs b => Region.noSelect_spec hsel i o cs b ho) fun x hx => ?_
        cases x with
        | tmp t =>
          have := same t (List.mem_append_left _ (List.mem_filterMap.2 ⟨.tmp t, by simpa using hx, rfl⟩))
          simp only [Act.eval, Array.getD_eq_getD_getElem?, this]
        | _ => rfl
      · unfold Region.wanted
        cases hg : o.guard with
        | none => rfl
        | some gw =>
          obtain ⟨g, want⟩ := gw
          have : yielded ops (putsFrom vs 0 (ops.toList.take i) a0).tmps g = yielded ops a.tmps g := by
            unfold yielded
            cases ht : (ops[g]?).bind (·.dst) with
            | none => rfl
            | some t => rw [Option.bind_some, Option.bind_some, same t (by simp [Oper.looksAt, hg, ht])]
          simp only [this]
    refine wpOp_of_opok ho I.cls hok fun v w' hv hC' hG => ?_
    refine ih _ _ _ (fun j => if j = i then v else vs j) ⟨by simp [I.size], hC', ?_, ?_, ?_, ?_, ?_, ?_⟩ ?_
    · cases hd : o.dst <;> simpa [Act.put] using I.defers
    · cases hd : o.dst <;> simpa [Act.put] using I.tsize
    · intro j c hj
      by_cases hji : j = i
      · subst hji
        rw [hf] at hj
        injection hj with hj
        subst hj
        simpa [Fact.holds] using hv
      · simpa [hji] using I.agree j c hj
    · intro t ht
      have hne : o.dst ≠ some t := ht i o ho (by simp [hls])
      have : (a.put o.dst v).tmps[t]? = a.tmps[t]? := by
        cases hd : o.dst with
        | none => rfl
        | some d =>
          have hne' : d ≠ t := fun e => hne (by rw [hd, e])
          simp [Act.put, Array.getElem?_setIfInBounds_ne hne']
      rw [this]
      exact I.base t fun j oj hj hl => ht j oj hj (getD_set_true hl)
    · intro j oj d hj hl hd
      by_cases hji : j = i
      · subst hji
        rw [ho] at hj
        injection hj with hj
        subst hj
        have := g2 d hd
        rw [← I.tsize] at this
        simp [Act.put, hd, this]
      · rw [getD_set_ne false (Ne.symm hji)] at hl
        have h1 := I.done j oj d hj hl hd
        have hne : o.dst ≠ some d := (g3 j oj d hj hd).1 hji
        have : (a.put o.dst v).tmps[d]? = a.tmps[d]? := by
          cases hd' : o.dst with
          | none => rfl
          | some d' =>
            have hne' : d' ≠ d := fun e => hne (by rw [hd', e])
            simp [Act.put, Array.getElem?_setIfInBounds_ne hne']
        rw [this, h1]
        simp [hji]
    · intro j q hq hj hl
      by_cases hji : j = i
      · subst hji
        rw [hf] at hj
        injection hj with hj
        subst hj
        simpa [Fact.holds] using hv
      · rw [getD_set_ne false (Ne.symm hji)] at hl
        simp only [hji, if_false]
        exact hq _ _ _ hG (I.facts j q hq hj hl)
    · -- one less
      have hlen : ((List.range ops.size).filter fun j => !(listed.setIfInBounds i true).getD j false).length < ((List.range ops.size).filter fun j => !listed.getD j false).length := by
        have e1 : ((List.range ops.size).filter fun j => !(listed.setIfInBounds i true).getD j false) = ((List.range ops.size).filter fun j => !listed.getD j false).filter (fun j => j != i) := by
          rw [List.filter_filter]
          refine List.filter_congr fun j hj => ?_
          by_cases hji : j = i
          · subst hji; simp [hls]
          · rw [getD_set_ne false (Ne.symm hji)]; simp [hji]
        rw [e1]
        refine List.length_filter_lt_length_iff_exists.2 ⟨i, ?_, by simp⟩
        simp [List.mem_filter, hil]
        simpa [hls] using hun
      omega

/-- **One walk of the text's order.** -/
theorem wp_region_facts {id : Nat} {Q : Exit → Act → World → Prop} {a : Act} {w : World} (fs : List (Fact G)) (hm : P.follows .mixedOrders = true) (hB : factsB ops a.tmps.size = true) (hC : C w.drew)
    (h : fsteps P ops C G (Q .normal) 0 ops.toList fs a []) : (Code.region id ops true).wp P Q a w := by
  refine wp_region_any hm (wpAny_of_facts hB h _ _ _ _ (fun i => match fs[i]? with | some (.val c) => c | _ => undef) ⟨by simp, hC, rfl, rfl, ?_, ?_, ?_, ?_⟩ ?_)
  · intro i c hi; simp [hi]
  · intro t _; rfl
  · intro i o d hi hl; exfalso
    by_cases h' : i < ops.size <;> simp [h'] at hl
  · intro i q hq hi hl; exfalso
    by_cases h' : i < ops.size <;> simp [h'] at hl
  · refine Nat.le_trans (List.length_filter_le _ _) (by simp)

theorem wp_region_facts_lit {id : Nat} {Q : Exit → Act → World → Prop} {a : Act} {w : World} {l : List Oper} (fs : List (Fact G)) (hm : P.follows .mixedOrders = true) (hB : factsB l.toArray a.tmps.size = true) (hC : C w.drew)
    (h : fsteps P l.toArray C G (Q .normal) 0 l fs a []) : (Code.region id l.toArray true).wp P Q a w :=
  wp_region_facts fs hm hB hC (by simpa using h)

/-! ### One operation at a time -/
theorem fsteps_val {Q : Act → World → Prop} {i : Nat} {o : Oper} {os : List Oper} {c : Value} {fs : List (Fact G)} {a : Act} {hs : List (Nat × (World → Prop))} (h1 : ∀ w, C w → (∀ p ∈ hs, p.1 ∈ predsOf o → p.2 w) → opok P ops C G o (.val c) a w)
    (h2 : fsteps P ops C G Q (i + 1) os fs (a.put o.dst c) hs) : fsteps P ops C G Q i (o :: os) (.val c :: fs) a hs := ⟨h1, h2⟩
theorem fsteps_ex {Q : Act → World → Prop} {i : Nat} {o : Oper} {os : List Oper} {p : Value → World → Prop} {hp : ∀ v w w', G w w' → p v w → p v w'} {fs : List (Fact G)} {a : Act} {hs : List (Nat × (World → Prop))}
    (h1 : ∀ w, C w → (∀ p ∈ hs, p.1 ∈ predsOf o → p.2 w) → opok P ops C G o (.ex p hp) a w)
    (h2 : ∀ v, fsteps P ops C G Q (i + 1) os fs (a.put o.dst v) ((i, p v) :: hs)) : fsteps P ops C G Q i (o :: os) (.ex p hp :: fs) a hs := ⟨h1, h2⟩
theorem fsteps_nil {Q : Act → World → Prop} {i : Nat} {a : Act} {hs : List (Nat × (World → Prop))} (h : ∀ w, C w → (∀ p ∈ hs, p.2 w) → Q a w) : fsteps P ops C G Q i [] [] a hs := h

/-! ### How an operation is told -/
variable {o : Oper} {a : Act} {w : World}
theorem opok_value {v : Value} {f : Fact G} {w' : World} (hw : Region.wanted o (yielded ops a.tmps) = true) (h : (execOp a.eval o).run P w = .ok (.value v) w') (hf : f.holds v w') (hC : C w') (hG : G w w') : opok P ops C G o f a w := by
  unfold opok; rw [if_pos hw, h]; exact ⟨hf, hC, hG⟩
theorem opok_skip {f : Fact G} {w' : World} (hw : Region.wanted o (yielded ops a.tmps) = true) (h : (execOp a.eval o).run P w = .ok .skip w') (hf : f.holds undef w') (hC : C w') (hG : G w w') : opok P ops C G o f a w := by
  unfold opok; rw [if_pos hw, h]; exact ⟨hf, hC, hG⟩
theorem opok_call {g : FuncId} {args : Array Value} {f : Fact G} {w1 : World} (hw : Region.wanted o (yielded ops a.tmps) = true) (h : (execOp a.eval o).run P w = .ok (.enter g args) w1)
    (hc : Calls P g args w1 fun e w' => ∃ v, e = .returned v ∧ f.holds v w' ∧ C w' ∧ G w w') : opok P ops C G o f a w := by
  unfold opok; rw [if_pos hw, h]; exact hc
theorem opok_not {f : Fact G} (hw : Region.wanted o (yielded ops a.tmps) = false) (hf : f.holds undef w) (hG : G w w) : opok P ops C G o f a w := by
  unfold opok; rw [if_neg (by simp [hw])]; exact ⟨hf, hG⟩
end
end Go.Proofs.Ytkebpmcgmmhifaa

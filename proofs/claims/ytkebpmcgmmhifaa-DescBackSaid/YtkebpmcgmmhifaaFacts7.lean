/- A region that draws its order and writes, at its end, variables that it reads (XFacts, one step more). -/
import Derived.Test.YtkebpmcgmmhifaaFacts
namespace Go.Proofs.Ytkebpmcgmmhifaa
open Go.RowKit
def factsOk7 (ops : Array Oper) (n : Nat) (i : Nat) (o : Oper) : Bool :=
  (o.after.all fun e => !Region.binds .any e || decide (e.on < i)) &&
  (match o.dst with | some d => decide (d < n) | none => true) &&
  (List.range ops.size).all fun j => match ops[j]? with
    | some o' => match o'.dst with
      | some d => (i == j || o.dst != some d) && (!(o.looksAt ops).contains d || (predsOf o).contains j || (decide (i < j) && (predsOf o').contains i))
      | none => true
    | none => true
def factsB7 (ops : Array Oper) (n : Nat) : Bool :=
  Region.noSelect ops && (List.range ops.size).all fun i => match ops[i]? with | some o => factsOk7 ops n i o | none => true
section
variable {P : Program} {ops : Array Oper} {C : World → Prop} {G : World → World → Prop}
theorem factsOk7_of (n : Nat) (h : factsB7 ops n = true) {i : Nat} {o : Oper} (hi : ops[i]? = some o) :
    (∀ e ∈ o.after, Region.binds .any e = true → e.on < i) ∧ (∀ d, o.dst = some d → d < n) ∧ (∀ j o' d, ops[j]? = some o' → o'.dst = some d → (j ≠ i → o.dst ≠ some d) ∧ (d ∈ o.looksAt ops → j ∈ predsOf o ∨ (i < j ∧ i ∈ predsOf o'))) := by
  have hlt := (Array.getElem?_eq_some_iff.1 hi).1
  simp only [factsB7, Bool.and_eq_true, List.all_eq_true, List.mem_range] at h
  have h1 := h.2 i hlt
  simp only [hi, factsOk7, Bool.and_eq_true, List.all_eq_true, List.mem_range] at h1
  obtain ⟨⟨h1, h2⟩, h3⟩ := h1
  refine ⟨fun e he hb => ?_, fun d hd => ?_, fun j o' d hj hd => ?_⟩
  · rw [Array.all_eq_true_iff_forall_mem] at h1
    have := h1 e he
    simpa [hb] using this
  · simpa [hd] using h2
  · have hjl := (Array.getElem?_eq_some_iff.1 hj).1
    have := h3 j hjl
    simp only [hj, hd, Bool.and_eq_true, Bool.or_eq_true] at this
    refine ⟨fun hne => ?_, fun hin => ?_⟩
    · have := this.1.resolve_left (by simp; omega)
      simpa using this
    · have := this.2
      simp only [Bool.or_eq_true, Bool.not_eq_true', Bool.and_eq_true, decide_eq_true_eq] at this
      rcases this with (h4 | h4) | h4
      · exact absurd hin (by simpa using h4)
      · exact .inl (by simpa using h4)
      · exact .inr ⟨h4.1, by simpa using h4.2⟩

structure FInv7 (ops : Array Oper) (C : World → Prop) (fs0 : List (Fact G)) (a0 : Act) (listed : Array Bool) (a : Act) (w : World) (vs : Nat → Value) : Prop where
  size : listed.size = ops.size
  cls : C w
  closed : ∀ j oj, ops[j]? = some oj → listed.getD j false = true → ∀ k ∈ predsOf oj, listed.getD k false = true
  defers : a.defers = a0.defers
  tsize : a.tmps.size = a0.tmps.size
  agree : Agree fs0 vs
  base : ∀ t, (∀ i o, ops[i]? = some o → listed.getD i false = true → o.dst ≠ some t) → a.tmps[t]? = a0.tmps[t]?
  done : ∀ i o d, ops[i]? = some o → listed.getD i false = true → o.dst = some d → a.tmps[d]? = some (vs i)
  facts : ∀ (i : Nat) (q : Value → World → Prop) (hq : _), fs0[i]? = some (Fact.ex q hq) → listed.getD i false = true → q (vs i) w

theorem wpAny_of_facts7 {Q : Exit → Act → World → Prop} {fs0 : List (Fact G)} {a0 : Act} (hB : factsB7 ops a0.tmps.size = true)
    (h : fsteps P ops C G (Q .normal) 0 ops.toList fs0 a0 []) : ∀ (fuel : Nat) (listed : Array Bool) (a : Act) (w : World) (vs : Nat → Value), FInv7 ops C fs0 a0 listed a w vs →
    ((List.range ops.size).filter fun i => !listed.getD i false).length ≤ fuel → wpAny P .any ops Q fuel listed a w := by
  have hsel : Region.noSelect ops = true := by simp only [factsB7, Bool.and_eq_true] at hB; exact hB.1
  -- all have come up
  have fin : ∀ (listed : Array Bool) (a : Act) (w : World) (vs : Nat → Value), FInv7 ops C fs0 a0 listed a w vs → (∀ i, i < ops.size → listed.getD i false = true) → Q .normal a w := by
    intro listed a w vs I hall
    obtain ⟨r1, r2⟩ := fsteps_use (ops := ops) I.agree ops.toList 0 fs0 a0 [] (by simp) (by simp) h
    have ea : a = putsFrom vs 0 ops.toList a0 := by
      obtain ⟨ts, ds⟩ := a
      have e1 : ds = (putsFrom vs 0 ops.toList a0).defers := by rw [putsFrom_defers]; exact I.defers
      have e2 : ts = (putsFrom vs 0 ops.toList a0).tmps := by
        apply Array.ext_getElem?
        intro t
        by_cases hex : ∃ (j : Nat) (o : Oper), ops[j]? = some o ∧ o.dst = some t
        · obtain ⟨j, o, hj, hd⟩ := hex
          have hjl := (Array.getElem?_eq_some_iff.1 hj).1
          have h1 := I.done j o t hj (hall j hjl) hd
          obtain ⟨_, hlt, _⟩ := factsOk7_of _ hB hj
          rw [putsFrom_at vs t ops.toList 0 a0 j o (by simpa using hj) hd (hlt t hd) (fun i o' hi hij => by
            obtain ⟨_, _, h3⟩ := factsOk7_of _ hB (show ops[i]? = some o' by simpa using hi)
            exact (h3 j o t hj hd).1 (Ne.symm hij))]
          simpa using h1
        · rw [putsFrom_other vs t ops.toList 0 a0 (fun o ho hd => hex (by
            obtain ⟨i, hi, rfl⟩ := List.mem_iff_getElem.1 ho
            exact ⟨i, _, by rw [← Array.getElem?_toList]; exact List.getElem?_eq_getElem hi, hd⟩))]
          exact I.base t (fun i o hi _ hd => hex ⟨i, o, hi, hd⟩)
      rw [e1, e2]
    rw [ea]
    refine r2 w I.cls fun i q hq hi => I.facts i q hq hi ?_
    -- a fact's number is an operation's
    have hl : fs0.length = ops.size := by
      have : ∀ (os : List Oper) (k : Nat) (fs : List (Fact G)) (a : Act) (hs : List (Nat × (World → Prop))), fsteps P ops C G (Q .normal) k os fs a hs → fs.length = os.length := by
        intro os
        induction os with
        | nil => intro k fs a hs h; cases fs with
          | nil => rfl
          | cons f fs => exact h.elim
        | cons o os ih => intro k fs a hs h; cases fs with
          | nil => exact h.elim
          | cons f fs =>
            cases f with
            | val c => simp [ih _ _ _ _ h.2]
            | ex p hp => simp [ih _ _ _ _ (h.2 undef)]
      simpa using this _ _ _ _ _ h
    have := (List.getElem?_eq_some_iff.1 hi).1
    exact hall i (by omega)
  -- if none can come up, all have
  have none_ready : ∀ (listed : Array Bool), listed.size = ops.size → Region.ready .any ops listed = [] → ∀ i, i < ops.size → listed.getD i false = true := by
    intro listed hs hr i
    induction i using Nat.strongRecOn with
    | _ i ih =>
      intro hi
      by_cases hl : listed.getD i false = true
      · exact hl
      · exfalso
        have hl' : listed.getD i true = false := by
          have : i < listed.size := by omega
          simp [this] at hl ⊢
          exact hl
        have hm : i ∈ Region.ready .any ops listed := by
          refine mem_ready.2 ⟨hl', ops[i], by simp [hi], fun e he hb => ?_⟩
          obtain ⟨h1, _, _⟩ := factsOk7_of _ hB (show ops[i]? = some ops[i] by simp [hi])
          have := h1 e he hb
          exact ih e.on this (by omega)
        rw [hr] at hm
        cases hm
  intro fuel
  induction fuel with
  | zero =>
    intro listed a w vs I hc
    have hall : ∀ i, i < ops.size → listed.getD i false = true := by
      intro i hi
      have : (List.range ops.size).filter (fun i => !listed.getD i false) = [] := List.length_eq_zero_iff.1 (by omega)
      rw [List.filter_eq_nil_iff] at this
      have := this i (by simp [hi])
      simpa using this
    refine ⟨?_, fin listed a w vs I hall⟩
    cases hr : Region.ready .any ops listed with
    | nil => rfl
    | cons j js =>
      exfalso
      have hj : j ∈ Region.ready .any ops listed := by rw [hr]; simp
      obtain ⟨h0, o, ho, _⟩ := mem_ready.1 hj
      have := hall j (Array.getElem?_eq_some_iff.1 ho).1
      have hlt : j < listed.size := by rw [I.size]; exact (Array.getElem?_eq_some_iff.1 ho).1
      simp [hlt] at h0 this
      rw [h0] at this; cases this
  | succ fuel ih =>
    intro listed a w vs I hc
    refine ⟨fun hr => fin listed a w vs I (none_ready listed I.size hr), fun i hi => ?_⟩
    obtain ⟨h0, o, ho, hall⟩ := mem_ready.1 hi
    have hil := (Array.getElem?_eq_some_iff.1 ho).1
    have hls : i < listed.size := by rw [I.size]; exact hil
    have hun : listed.getD i false = false := by simp [hls] at h0 ⊢; exact h0
    obtain ⟨g1, g2, g3⟩ := factsOk7_of _ hB ho
    obtain ⟨r1, _⟩ := fsteps_use (ops := ops) I.agree ops.toList 0 fs0 a0 [] (by simp) (by simp) h
    obtain ⟨f, hf, hok⟩ := r1 i o (by simpa using ho)
    rw [Nat.zero_add] at hf
    have hpre : ∀ j ∈ predsOf o, listed.getD j false = true := by
      intro j hj
      simp only [predsOf, List.mem_map, List.mem_filter] at hj
      obtain ⟨e, ⟨he, hb⟩, rfl⟩ := hj
      exact hall e (by simpa using he) hb
    have hok := hok w I.cls fun j hj q hq hjf => I.facts j q hq hjf (hpre j hj)
    -- the two states are alike at what the operation looks at
    have same : ∀ t ∈ o.looksAt ops, (putsFrom vs 0 (ops.toList.take i) a0).tmps[t]? = a.tmps[t]? := by
      intro t ht
      by_cases hex : ∃ (j : Nat) (o' : Oper), ops[j]? = some o' ∧ o'.dst = some t
      · obtain ⟨j, o', hj, hd⟩ := hex
        rcases (g3 j o' t hj hd).2 ht with hjp | ⟨hlate, hwait⟩
        · have hjl := hpre j hjp
          have hji : j < i := by
            simp only [predsOf, List.mem_map, List.mem_filter] at hjp
            obtain ⟨e, ⟨he, hb⟩, rfl⟩ := hjp
            exact g1 e (by simpa using he) hb
          obtain ⟨_, hlt, _⟩ := factsOk7_of _ hB hj
          rw [putsFrom_at vs t (ops.toList.take i) 0 a0 j o' (by rw [List.getElem?_take, if_pos hji]; simpa using hj) hd (hlt t hd) (fun k ok hk hkj => by
            rw [List.getElem?_take] at hk
            split at hk
            · obtain ⟨_, _, h3⟩ := factsOk7_of _ hB (show ops[k]? = some ok by simpa using hk)
              exact (h3 j o' t hj hd).1 (Ne.symm hkj)
            · cases hk)]
          rw [I.done j o' t hj hjl hd, Nat.zero_add]
        · have honly : ∀ k ok, ops[k]? = some ok → ok.dst = some t → k = j := fun k ok hk hkd => by
            by_cases hkj : k = j
            · exact hkj
            · obtain ⟨_, _, h3⟩ := factsOk7_of _ hB hk
              exact absurd hkd ((h3 j o' t hj hd).1 (Ne.symm hkj))
          rw [putsFrom_other vs t (ops.toList.take i) 0 a0 (fun ok hok' hkd => by
            obtain ⟨k, hk, rfl⟩ := List.mem_iff_getElem.1 hok'
            have hk2 : k < i := by have := hk; simp at this; omega
            have hk3 : ops[k]? = some (ops.toList.take i)[k] := by
              rw [List.getElem_take, ← Array.getElem?_toList]; exact List.getElem?_eq_getElem _
            have := honly k _ hk3 hkd
            omega)]
          exact (I.base t (fun k ok hk hkl hkd => by
            have := honly k ok hk hkd
            subst this
            rw [hj] at hk; injection hk with hk; subst hk
            have := I.closed k o' hj hkl i hwait
            rw [hun] at this; cases this)).symm
      · rw [putsFrom_other vs t (ops.toList.take i) 0 a0 (fun o' ho' hd => hex (by
          obtain ⟨k, hk, rfl⟩ := List.mem_iff_getElem.1 (List.mem_of_mem_take ho')
          exact ⟨k, _, by rw [← Array.getElem?_toList]; exact List.getElem?_eq_getElem hk, hd⟩))]
        exact (I.base t (fun k ok hk _ hd => hex ⟨k, ok, hk, hd⟩)).symm
    have hok : opok P ops C G o f a w := by
      refine opok_congr ?_ ?_ hok
      · refine execOp_congr o (fun cs b => Region.noSelect_spec hsel i o cs b ho) fun x hx => ?_
        cases x with
        | tmp t =>
          have := same t (List.mem_append_left _ (List.mem_filterMap.2 ⟨.tmp t, by simpa using hx, rfl⟩))
          simp only [Act.eval, Array.getD_eq_getD_getElem?, this]
        | _ => rfl
      · unfold Region.wanted
        cases hg : o.guard with
        | none => rfl
        | some gw =>
          obtain ⟨g, want⟩ := gw
          have : yielded ops (putsFrom vs 0 (ops.toList.take i) a0).tmps g = yielded ops a.tmps g := by
            unfold yielded
            cases ht : (ops[g]?).bind (·.dst) with
            | none => rfl
            | some t => rw [Option.bind_some, Option.bind_some, same t (by simp [Oper.looksAt, hg, ht])]
          simp only [this]
    refine wpOp_of_opok ho I.cls hok fun v w' hv hC' hG => ?_
    refine ih _ _ _ (fun j => if j = i then v else vs j) ⟨by simp [I.size], hC', ?_, ?_, ?_, ?_, ?_, ?_, ?_⟩ ?_
    · intro j oj hj hl k hk
      by_cases hji : j = i
      · subst hji
        rw [ho] at hj; injection hj with hj; subst hj
        exact getD_set_true (hpre k hk)
      · rw [getD_set_ne false (Ne.symm hji)] at hl
        exact getD_set_true (I.closed j oj hj hl k hk)
    · cases hd : o.dst <;> simpa [Act.put] using I.defers
    · cases hd : o.dst <;> simpa [Act.put] using I.tsize
    · intro j c hj
      by_cases hji : j = i
      · subst hji
        rw [hf] at hj
        injection hj with hj
        subst hj
        simpa [Fact.holds] using hv
      · simpa [hji] using I.agree j c hj
    · intro t ht
      have hne : o.dst ≠ some t := ht i o ho (by simp [hls])
      have : (a.put o.dst v).tmps[t]? = a.tmps[t]? := by
        cases hd : o.dst with
        | none => rfl
        | some d =>
          have hne' : d ≠ t := fun e => hne (by rw [hd, e])
          simp [Act.put, Array.getElem?_setIfInBounds_ne hne']
      rw [this]
      exact I.base t fun j oj hj hl => ht j oj hj (getD_set_true hl)
    · intro j oj d hj hl hd
      by_cases hji : j = i
      · subst hji
        rw [ho] at hj
        injection hj with hj
        subst hj
        have := g2 d hd
        rw [← I.tsize] at this
        simp [Act.put, hd, this]
      · rw [getD_set_ne false (Ne.symm hji)] at hl
        have h1 := I.done j oj d hj hl hd
        have hne : o.dst ≠ some d := (g3 j oj d hj hd).1 hji
        have : (a.put o.dst v).tmps[d]? = a.tmps[d]? := by
          cases hd' : o.dst with
          | none => rfl
          | some d' =>
            have hne' : d' ≠ d := fun e => hne (by rw [hd', e])
            simp [Act.put, Array.getElem?_setIfInBounds_ne hne']
        rw [this, h1]
        simp [hji]
    · intro j q hq hj hl
      by_cases hji : j = i
      · subst hji
        rw [hf] at hj
        injection hj with hj
        subst hj
        simpa [Fact.holds] using hv
      · rw [getD_set_ne false (Ne.symm hji)] at hl
        simp only [hji, if_false]
        exact hq _ _ _ hG (I.facts j q hq hj hl)
    · -- one less
      have hlen : ((List.range ops.size).filter fun j => !(listed.setIfInBounds i true).getD j false).length < ((List.range ops.size).filter fun j => !listed.getD j false).length := by
        have e1 : ((List.range ops.size).filter fun j => !(listed.setIfInBounds i true).getD j false) = ((List.range ops.size).filter fun j => !listed.getD j false).filter (fun j => j != i) := by
          rw [List.filter_filter]
          refine List.filter_congr fun j hj => ?_
          by_cases hji : j = i
          · subst hji; simp [hls]
          · rw [getD_set_ne false (Ne.symm hji)]; simp [hji]
        rw [e1]
        refine List.length_filter_lt_length_iff_exists.2 ⟨i, ?_, by simp⟩
        simp [List.mem_filter, hil]
        simpa [hls] using hun
      omega

theorem wp_region_facts7 {id : Nat} {Q : Exit → Act → World → Prop} {a : Act} {w : World} (fs : List (Fact G)) (hm : P.follows .mixedOrders = true) (hB : factsB7 ops a.tmps.size = true) (hC : C w.drew)
    (h : fsteps P ops C G (Q .normal) 0 ops.toList fs a []) : (Code.region id ops true).wp P Q a w := by
  refine wp_region_any hm (wpAny_of_facts7 hB h _ _ _ _ (fun i => match fs[i]? with | some (.val c) => c | _ => undef) ⟨by simp, hC, ?_, rfl, rfl, ?_, ?_, ?_, ?_⟩ ?_)
  · intro j oj hj hl; exfalso
    by_cases h' : j < ops.size <;> simp [h'] at hl
  · intro i c hi; simp [hi]
  · intro t _; rfl
  · intro i o d hi hl; exfalso
    by_cases h' : i < ops.size <;> simp [h'] at hl
  · intro i q hq hi hl; exfalso
    by_cases h' : i < ops.size <;> simp [h'] at hl
  · refine Nat.le_trans (List.length_filter_le _ _) (by simp)

theorem wp_region_facts7_lit {id : Nat} {Q : Exit → Act → World → Prop} {a : Act} {w : World} {l : List Oper} (fs : List (Fact G)) (hm : P.follows .mixedOrders = true) (hB : factsB7 l.toArray a.tmps.size = true) (hC : C w.drew)
    (h : fsteps P l.toArray C G (Q .normal) 0 l fs a []) : (Code.region id l.toArray true).wp P Q a w :=
  wp_region_facts7 fs hm hB hC (by simpa using h)

end
end Go.Proofs.Ytkebpmcgmmhifaa

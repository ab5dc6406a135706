/- The law of a region that draws its order (Facts2), for tails that wait for what lies farther back. -/
import Derived.Test.YtkebpmcgmmhifaaFacts2
namespace Go.Proofs.Ytkebpmcgmmhifaa
open Go.RowKit

def tailB6 (ops : Array Oper) (m : Nat) : Bool := (List.range ops.size).all fun i => i < m || (List.range i).all fun j => (downs ops 6 i).contains j
section
variable {P : Program} {ops : Array Oper} {C : World → Prop} {N0 : Nat}
theorem wpAny_tailD {Q : Exit → Act → World → Prop} (hB : ∀ (i : Nat) (o : Oper), ops[i]? = some o → ∀ e ∈ o.after, Region.binds .any e = true → e.on < i) (m : Nat) (hT : ∀ i, m ≤ i → i < ops.size → ∀ j, j < i → j ∈ downs ops 6 i) :
    ∀ (d : Nat) (fuel : Nat) (listed : Array Bool) (a : Act) (w : World), m ≤ ops.size - d → d ≤ fuel → d ≤ ops.size → listed.size = ops.size → (∀ j, j < ops.size → listed.getD j false = decide (j < ops.size - d)) →
      wpList P ops Q (ops.toList.drop (ops.size - d)) a w → wpAny P .any ops Q fuel listed a w := by
  intro d
  induction d with
  | zero =>
    intro fuel listed a w _ _ _ hs hl h
    have hq : Q .normal a w := by
      rw [Nat.sub_zero, ← Array.length_toList, List.drop_length] at h
      exact h
    have hr : Region.ready .any ops listed = [] := by
      cases hr : Region.ready .any ops listed with
      | nil => rfl
      | cons j js =>
        exfalso
        obtain ⟨h0, o, ho, _⟩ := mem_ready.1 (show j ∈ Region.ready .any ops listed by rw [hr]; simp)
        have hj := (Array.getElem?_eq_some_iff.1 ho).1
        have := hl j hj
        have hlt : j < listed.size := by omega
        simp [hlt] at h0 this
        rw [h0] at this
        have := this.symm
        simp at this
        omega
    cases fuel with
    | zero => exact ⟨hr, hq⟩
    | succ fuel => exact ⟨fun _ => hq, fun i hi => by rw [hr] at hi; cases hi⟩
  | succ d ih =>
    intro fuel listed a w hm hf hd hs hl h
    obtain ⟨fuel, rfl⟩ : ∃ k, fuel = k + 1 := ⟨fuel - 1, by omega⟩
    have hi : ops.size - (d + 1) < ops.size := by omega
    have hdrop : ops.toList.drop (ops.size - (d + 1)) = ops[ops.size - (d + 1)] :: ops.toList.drop (ops.size - d) := by
      rw [List.drop_eq_getElem_cons (by simpa using hi)]
      simp [show ops.size - (d + 1) + 1 = ops.size - d from by omega]
    rw [hdrop] at h
    generalize hi0 : ops.size - (d + 1) = i at *
    have hge : ops[i]? = some ops[i] := by simp [hi]
    have hready : ∀ j ∈ Region.ready .any ops listed, j = i := by
      intro j hj
      obtain ⟨h0, o, ho, hall⟩ := mem_ready.1 hj
      have hjl := (Array.getElem?_eq_some_iff.1 ho).1
      have hlt : j < listed.size := by omega
      have hlj := hl j hjl
      simp [hlt] at h0 hlj
      rw [h0] at hlj
      have hji : ¬ j < i := by have := hlj.symm; simpa using this
      by_cases hij : i < j
      · exfalso
        have hdown : ∀ (q : Nat) (oq : Oper), ops[q]? = some oq → listed.getD q false = true → ∀ r ∈ predsOf oq, listed.getD r false = true := by
          intro q oq hoq hlq r hr
          have hql := (Array.getElem?_eq_some_iff.1 hoq).1
          simp only [predsOf, List.mem_map, List.mem_filter] at hr
          obtain ⟨e, ⟨he, hb⟩, rfl⟩ := hr
          have h1 := hB q oq hoq e (by simpa using he) hb
          rw [hl q hql] at hlq
          rw [hl e.on (by omega)]
          simp at hlq ⊢
          omega
        have := downs_listed listed hdown 6 j o ho (fun r hr => by
          simp only [predsOf, List.mem_map, List.mem_filter] at hr
          obtain ⟨e, ⟨he, hb⟩, rfl⟩ := hr
          exact hall e (by simpa using he) hb) i (hT j (by omega) hjl i hij)
        rw [hl i hi] at this
        simp at this
      · omega
    refine ⟨fun hr => ?_, fun j hj => ?_⟩
    · exfalso
      have : i ∈ Region.ready .any ops listed := by
        refine mem_ready.2 ⟨?_, ops[i], hge, fun e he hb => ?_⟩
        · have hlt : i < listed.size := by omega
          have := hl i hi
          simp [hlt] at this ⊢
          exact this
        · have h1 := hB i _ hge e he hb
          rw [hl e.on (by omega)]
          simp; omega
      rw [hr] at this
      cases this
    · obtain rfl := hready j hj
      have hnext : ∀ a w, wpList P ops Q (ops.toList.drop (ops.size - d)) a w → wpAny P .any ops Q fuel (listed.setIfInBounds j true) a w := fun a w hh => by
        refine ih fuel _ a w (by omega) (by omega) (by omega) (by simp [hs]) (fun q hq => ?_) hh
        by_cases hqj : q = j
        · subst hqj
          have hlt : q < listed.size := by omega
          simp [hlt]; omega
        · rw [getD_set_ne false (fun e => hqj e.symm), hl q hq]
          rw [decide_eq_decide]
          omega
      unfold wpOp
      simp only [hge]
      unfold wpList at h
      split
      · rename_i hw
        rw [if_pos hw] at h
        exact h.imp (Oper.wp_mono hnext) id
      · rename_i hw
        rw [if_neg hw] at h
        exact hnext _ _ h

theorem wpAny_of_facts2D {Q : Exit → Act → World → Prop} {fs0 : List Fct} {a0 : Act} {m : Nat} (hB : factsB ops a0.tmps.size = true) (hT : tailB6 ops m = true) (hN : ∀ w, C w → N0 ≤ w.heap.size) (hm : m ≤ ops.size)
    (h : fst2 P ops C N0 (wpList P ops Q (ops.toList.drop m)) 0 (ops.toList.take m) fs0 a0 [] []) : ∀ (fuel : Nat) (listed : Array Bool) (a : Act) (w : World) (vs : Nat → Value), FI2 ops C N0 fs0 m a0 listed a w vs →
    ((List.range ops.size).filter fun i => !listed.getD i false).length ≤ fuel → wpAny P .any ops Q fuel listed a w := by
  have hsel : Region.noSelect ops = true := by simp only [factsB, Bool.and_eq_true] at hB; exact hB.1
  have hedge : ∀ (i : Nat) (o : Oper), ops[i]? = some o → ∀ e ∈ o.after, Region.binds .any e = true → e.on < i := fun i o ho e he hb => (factsOk_of _ hB ho).1 e he hb
  have htail : ∀ i, m ≤ i → i < ops.size → ∀ j, j < i → j ∈ downs ops 6 i := by
    intro i hi hlt j hj
    simp only [tailB6, List.all_eq_true, List.mem_range, Bool.or_eq_true, decide_eq_true_eq] at hT
    have := (hT i hlt).resolve_left (by omega) j hj
    simpa using this
  have use : ∀ vs, Agr N0 fs0 vs → _ := fun vs hv => fst2_use (P := P) (ops := ops) (C := C) (N0 := N0) hv (ops.toList.take m) 0 fs0 a0 [] [] (by simp) (by simp) (by simp) (by simp) h
  have hlen : fs0.length = m := by
    have hv : ∃ vs, Agr N0 fs0 vs := ⟨fun i => match fs0[i]? with | some (.val c) => c | some (.new _ _) => .pointer (some ⟨N0, 0, none⟩) | _ => undef, fun i f hf => by
      cases f with
      | val c => simp [hf]
      | ex p hp => trivial
      | new cs t => exact ⟨N0, by simp [hf], Nat.le_refl _⟩⟩
    obtain ⟨vs, hv⟩ := hv
    have := (use vs hv).2.2
    rw [this, List.length_take, Array.length_toList]
    omega
  have fin : ∀ (fuel : Nat) (listed : Array Bool) (a : Act) (w : World) (vs : Nat → Value), FI2 ops C N0 fs0 m a0 listed a w vs → ops.size - m ≤ fuel → (∀ i, i < m → listed.getD i false = true) → wpAny P .any ops Q fuel listed a w := by
    intro fuel listed a w vs I hfuel hall
    obtain ⟨r1, r2, _⟩ := use vs I.agree
    have ea : a = putsFrom vs 0 (ops.toList.take m) a0 := by
      obtain ⟨ts, ds⟩ := a
      have e1 : ds = (putsFrom vs 0 (ops.toList.take m) a0).defers := by rw [putsFrom_defers]; exact I.defers
      have e2 : ts = (putsFrom vs 0 (ops.toList.take m) a0).tmps := by
        apply Array.ext_getElem?
        intro t
        by_cases hex : ∃ (j : Nat) (o : Oper), j < m ∧ ops[j]? = some o ∧ o.dst = some t
        · obtain ⟨j, o, hjm, hj, hd⟩ := hex
          have h1 := I.done j o t hj (hall j hjm) hd
          obtain ⟨_, hlt, _⟩ := factsOk_of _ hB hj
          rw [putsFrom_at vs t (ops.toList.take m) 0 a0 j o (by rw [List.getElem?_take, if_pos hjm]; simpa using hj) hd (hlt t hd) (fun i o' hi hij => by
            rw [List.getElem?_take] at hi
            split at hi
            · obtain ⟨_, _, h3⟩ := factsOk_of _ hB (show ops[i]? = some o' by simpa using hi)
              exact (h3 j o t hj hd).1 (Ne.symm hij)
            · cases hi)]
          simpa using h1
        · rw [putsFrom_other vs t (ops.toList.take m) 0 a0 (fun o ho hd => hex (by
            obtain ⟨i, hi, rfl⟩ := List.mem_iff_getElem.1 ho
            have him : i < m := by simp at hi; omega
            have his : i < ops.size := by simp at hi; omega
            exact ⟨i, _, him, by simp [his], hd⟩))]
          exact I.base t (fun i o hi hl hd => by
            by_cases him : i < m
            · exact hex ⟨i, o, him, hi, hd⟩
            · rw [I.head i (by omega)] at hl; cases hl)
      rw [e1, e2]
    rw [ea]
    have hl : ∀ i f, fs0[i]? = some f → listed.getD i false = true := fun i f hf => hall i (by have := (List.getElem?_eq_some_iff.1 hf).1; omega)
    refine wpAny_tailD hedge m htail (ops.size - m) fuel listed _ _ (by omega) hfuel (by omega) I.size (fun j hj => ?_) ?_
    · by_cases hjm : j < m
      · rw [hall j hjm]; simp; omega
      · rw [I.head j (by omega)]; simp; omega
    · rw [show ops.size - (ops.size - m) = m from by omega]
      exact r2 w I.cls (fun i f hf _ => I.facts i f hf (hl i f hf)) (fun i j f g hi hj hf hg _ _ hne => I.dist i j f g hi hj hf hg (hl i f hi) (hl j g hj) hne)
  -- one of the head that has not come up, the lowest, may come up
  have some_ready : ∀ (listed : Array Bool), listed.size = ops.size → Region.ready .any ops listed = [] → ∀ i, i < ops.size → listed.getD i false = true := by
    intro listed hs hr i
    induction i using Nat.strongRecOn with
    | _ i ih =>
      intro hi
      by_cases hl : listed.getD i false = true
      · exact hl
      · exfalso
        have hl' : listed.getD i true = false := by
          have : i < listed.size := by omega
          simp [this] at hl ⊢
          exact hl
        have hm : i ∈ Region.ready .any ops listed := by
          refine mem_ready.2 ⟨hl', ops[i], by simp [hi], fun e he hb => ?_⟩
          have := hedge i _ (show ops[i]? = some ops[i] by simp [hi]) e he hb
          exact ih e.on this (by omega)
        rw [hr] at hm
        cases hm
  intro fuel
  induction fuel with
  | zero =>
    intro listed a w vs I hc
    have hall : ∀ i, i < ops.size → listed.getD i false = true := by
      intro i hi
      have : (List.range ops.size).filter (fun i => !listed.getD i false) = [] := List.length_eq_zero_iff.1 (by omega)
      rw [List.filter_eq_nil_iff] at this
      have := this i (by simp [hi])
      simpa using this
    have hms : m = ops.size := by
      by_cases hlt : m < ops.size
      · have := hall m hlt; rw [I.head m (Nat.le_refl _)] at this; cases this
      · omega
    exact fin 0 listed a w vs I (by omega) fun i hi => hall i (by omega)
  | succ fuel ih =>
    intro listed a w vs I hc
    by_cases hdone : ∀ i, i < m → listed.getD i false = true
    · refine fin (fuel + 1) listed a w vs I ?_ hdone
      -- what is left is the tail
      have : ((List.range ops.size).filter fun i => !listed.getD i false).length ≥ ops.size - m := by
        have h1 : ((List.range ops.size).filter fun i => !listed.getD i false) = (List.range ops.size).filter (fun i => decide (m ≤ i)) := by
          refine List.filter_congr fun i hi => ?_
          by_cases him : i < m
          · rw [hdone i him]; simp; omega
          · rw [I.head i (by omega)]; simp; omega
        rw [h1]
        have h2 : ∀ n, ((List.range n).filter (fun i => decide (m ≤ i))).length = n - m := by
          intro n
          induction n with
          | zero => simp
          | succ n ihn =>
            rw [List.range_succ, List.filter_append, List.length_append, ihn]
            by_cases hmn : m ≤ n
            · simp [hmn]; omega
            · simp [hmn]; omega
        rw [h2]
        exact Nat.le_refl _
      omega
    refine ⟨fun hr => absurd (fun i hi => some_ready listed I.size hr i (by omega)) hdone, fun i hi => ?_⟩
    obtain ⟨h0, o, ho, hall⟩ := mem_ready.1 hi
    have hil := (Array.getElem?_eq_some_iff.1 ho).1
    have hls : i < listed.size := by rw [I.size]; exact hil
    have hun : listed.getD i false = false := by simp [hls] at h0 ⊢; exact h0
    obtain ⟨g1, g2, g3⟩ := factsOk_of _ hB ho
    have hpre : ∀ j ∈ predsOf o, listed.getD j false = true := by
      intro j hj
      simp only [predsOf, List.mem_map, List.mem_filter] at hj
      obtain ⟨e, ⟨he, hb⟩, rfl⟩ := hj
      exact hall e (by simpa using he) hb
    have him : i < m := by
      by_cases h' : i < m
      · exact h'
      · exfalso
        refine hdone fun j hj => ?_
        exact downs_listed listed I.down 6 i o ho hpre j (htail i (by omega) hil j (by omega))
    obtain ⟨r1, _, _⟩ := use vs I.agree
    obtain ⟨f, hf, hok⟩ := r1 i o (by rw [List.getElem?_take, if_pos him]; simpa using ho)
    rw [Nat.zero_add] at hf
    have hok := hok w I.cls fun j f hjf hj => I.facts j f hjf (hpre j hj)
    have htk : (ops.toList.take m).take i = ops.toList.take i := by rw [List.take_take, Nat.min_eq_left (by omega)]
    rw [htk] at hok
    -- the two states are alike at what the operation looks at
    have same : ∀ t ∈ o.looksAt ops, (putsFrom vs 0 (ops.toList.take i) a0).tmps[t]? = a.tmps[t]? := by
      intro t ht
      by_cases hex : ∃ (j : Nat) (o' : Oper), ops[j]? = some o' ∧ o'.dst = some t
      · obtain ⟨j, o', hj, hd⟩ := hex
        have hjp := (g3 j o' t hj hd).2 ht
        have hjl := hpre j hjp
        have hji : j < i := by
          simp only [predsOf, List.mem_map, List.mem_filter] at hjp
          obtain ⟨e, ⟨he, hb⟩, rfl⟩ := hjp
          exact g1 e (by simpa using he) hb
        obtain ⟨_, hlt, _⟩ := factsOk_of _ hB hj
        rw [putsFrom_at vs t (ops.toList.take i) 0 a0 j o' (by rw [List.getElem?_take, if_pos hji]; simpa using hj) hd (hlt t hd) (fun k ok hk hkj => by
          rw [List.getElem?_take] at hk
          split at hk
          · obtain ⟨_, _, h3⟩ := factsOk_of _ hB (show ops[k]? = some ok by simpa using hk)
            exact (h3 j o' t hj hd).1 (Ne.symm hkj)
          · cases hk)]
        rw [I.done j o' t hj hjl hd, Nat.zero_add]
      · rw [putsFrom_other vs t (ops.toList.take i) 0 a0 (fun o' ho' hd => hex (by
          obtain ⟨k, hk, rfl⟩ := List.mem_iff_getElem.1 (List.mem_of_mem_take ho')
          exact ⟨k, _, by rw [← Array.getElem?_toList]; exact List.getElem?_eq_getElem hk, hd⟩))]
        exact (I.base t (fun k ok hk _ hd => hex ⟨k, ok, hk, hd⟩)).symm
    have hok : opok2 P ops C N0 o f a w := by
      refine opok2_congr ?_ ?_ hok
      · refine execOp_congr o (fun cs b => Region.noSelect_spec hsel i o cs b ho) fun x hx => ?_
        cases x with
        | tmp t =>
          have := same t (List.mem_append_left _ (List.mem_filterMap.2 ⟨.tmp t, by simpa using hx, rfl⟩))
          simp only [Act.eval, Array.getD_eq_getD_getElem?, this]
        | _ => rfl
      · unfold Region.wanted
        cases hg : o.guard with
        | none => rfl
        | some gw =>
          obtain ⟨g, want⟩ := gw
          have : yielded ops (putsFrom vs 0 (ops.toList.take i) a0).tmps g = yielded ops a.tmps g := by
            unfold yielded
            cases ht : (ops[g]?).bind (·.dst) with
            | none => rfl
            | some t => rw [Option.bind_some, Option.bind_some, same t (by simp [Oper.looksAt, hg, ht])]
          simp only [this]
    refine wpOp_of_opok2 ho I.cls (hN w I.cls) hok fun v w' hv hC' hG hnew => ?_
    refine ih _ _ _ (fun j => if j = i then v else vs j) ⟨by simp [I.size], hC', ?_, ?_, ?_, ?_, ?_, ?_, ?_, ?_, ?_, ?_⟩ ?_
    · cases hd : o.dst <;> simpa [Act.put] using I.defers
    · cases hd : o.dst <;> simpa [Act.put] using I.tsize
    · intro j fj hj
      by_cases hji : j = i
      · subst hji
        rw [hf] at hj
        injection hj with hj
        subst hj
        simp only [if_true]
        cases f with
        | val c => exact hv
        | ex p hp => trivial
        | new cs t => obtain ⟨g, e1, e2, _⟩ := hv; exact ⟨g, e1, e2⟩
      · simpa [hji] using I.agree j fj hj
    · intro t ht
      have hne : o.dst ≠ some t := ht i o ho (by simp [hls])
      have : (a.put o.dst v).tmps[t]? = a.tmps[t]? := by
        cases hd : o.dst with
        | none => rfl
        | some d =>
          have hne' : d ≠ t := fun e => hne (by rw [hd, e])
          simp [Act.put, Array.getElem?_setIfInBounds_ne hne']
      rw [this]
      exact I.base t fun j oj hj hl => ht j oj hj (getD_set_true hl)
    · intro j oj d hj hl hd
      by_cases hji : j = i
      · subst hji
        rw [ho] at hj
        injection hj with hj
        subst hj
        have := g2 d hd
        rw [← I.tsize] at this
        simp [Act.put, hd, this]
      · rw [getD_set_ne false (Ne.symm hji)] at hl
        have h1 := I.done j oj d hj hl hd
        have hne : o.dst ≠ some d := (g3 j oj d hj hd).1 hji
        have : (a.put o.dst v).tmps[d]? = a.tmps[d]? := by
          cases hd' : o.dst with
          | none => rfl
          | some d' =>
            have hne' : d' ≠ d := fun e => hne (by rw [hd', e])
            simp [Act.put, Array.getElem?_setIfInBounds_ne hne']
        rw [this, h1]
        simp [hji]
    · intro j fj hj hl
      by_cases hji : j = i
      · subst hji
        rw [hf] at hj
        injection hj with hj
        subst hj
        simpa using hv
      · rw [getD_set_ne false (Ne.symm hji)] at hl
        simp only [hji, if_false]
        exact Fct.stay hG (I.facts j fj hj hl)
    · intro j k fj fk hj hk hnj hnk hlj hlk hne
      have ofnew : ∀ (q : Nat) (fq : Fct), fs0[q]? = some fq → fq.isNew = true → q ≠ i → (listed.setIfInBounds i true).getD q false = true → ∃ g, vs q = .pointer (some ⟨g, 0, none⟩) ∧ g < w.heap.size := fun q fq hq hnq hqi hlq => by
        rw [getD_set_ne false (Ne.symm hqi)] at hlq
        exact I.old q fq hq hnq hlq
      by_cases hji : j = i
      · subst hji
        rw [hf] at hj
        injection hj with hj
        subst hj
        obtain ⟨g, e1, e2⟩ := ofnew k fk hk hnk (Ne.symm hne) hlk
        simp only [if_true, (Ne.symm hne), if_false]
        rw [hnew hnj, e1]
        intro e
        injection e with e
        injection e with e
        injection e with e
        omega
      · by_cases hki : k = i
        · subst hki
          rw [hf] at hk
          injection hk with hk
          subst hk
          obtain ⟨g, e1, e2⟩ := ofnew j fj hj hnj hji hlj
          simp only [if_true, hji, if_false]
          rw [hnew hnk, e1]
          intro e
          injection e with e
          injection e with e
          injection e with e
          omega
        · simp only [hji, hki, if_false]
          rw [getD_set_ne false (Ne.symm hji)] at hlj
          rw [getD_set_ne false (Ne.symm hki)] at hlk
          exact I.dist j k fj fk hj hk hnj hnk hlj hlk hne
    · intro j fj hj hnj hlj
      by_cases hji : j = i
      · subst hji
        rw [hf] at hj
        injection hj with hj
        subst hj
        refine ⟨w.heap.size, by simp only [if_true]; exact hnew hnj, ?_⟩
        cases f with
        | new cs t =>
          obtain ⟨g, e1, _, hb⟩ := hv
          rw [hnew rfl] at e1
          injection e1 with e1
          injection e1 with e1
          injection e1 with e1
          subst e1
          exact hb.lt
        | val c => cases hnj
        | ex p hp => cases hnj
      · rw [getD_set_ne false (Ne.symm hji)] at hlj
        obtain ⟨g, e1, e2⟩ := I.old j fj hj hnj hlj
        exact ⟨g, by simpa [hji] using e1, Nat.lt_of_lt_of_le e2 hG.size⟩
    · intro j oj hj hlj q hq
      by_cases hji : j = i
      · subst hji
        rw [ho] at hj
        injection hj with hj
        subst hj
        exact getD_set_true (hpre q hq)
      · rw [getD_set_ne false (Ne.symm hji)] at hlj
        exact getD_set_true (I.down j oj hj hlj q hq)
    · intro j hj
      rw [getD_set_ne false (by omega)]
      exact I.head j hj
    · -- one less
      have hlen' : ((List.range ops.size).filter fun j => !(listed.setIfInBounds i true).getD j false).length < ((List.range ops.size).filter fun j => !listed.getD j false).length := by
        have e1 : ((List.range ops.size).filter fun j => !(listed.setIfInBounds i true).getD j false) = ((List.range ops.size).filter fun j => !listed.getD j false).filter (fun j => j != i) := by
          rw [List.filter_filter]
          refine List.filter_congr fun j hj => ?_
          by_cases hji : j = i
          · subst hji; simp [hls]
          · rw [getD_set_ne false (Ne.symm hji)]; simp [hji]
        rw [e1]
        refine List.length_filter_lt_length_iff_exists.2 ⟨i, ?_, by simp⟩
        simp [List.mem_filter, hil]
        simpa [hls] using hun
      omega

theorem wp_region_facts2D {id : Nat} {Q : Exit → Act → World → Prop} {a : Act} {w : World} {l tl : List Oper} (fs : List Fct) (N0 : Nat) (hm : P.follows .mixedOrders = true) (hB : factsB (l ++ tl).toArray a.tmps.size = true) (hT : tailB6 (l ++ tl).toArray l.length = true) (hN : ∀ w, C w → N0 ≤ w.heap.size) (hC : C w.drew)
    (h : fst2 P (l ++ tl).toArray C N0 (wpList P (l ++ tl).toArray Q tl) 0 l fs a [] []) : (Code.region id (l ++ tl).toArray true).wp P Q a w := by
  have e1 : (l ++ tl).toArray.toList.take l.length = l := by simp
  have e2 : (l ++ tl).toArray.toList.drop l.length = tl := by simp
  refine wp_region_any hm (wpAny_of_facts2D (m := l.length) hB hT hN (by simp) (by rw [e1, e2]; exact h) _ _ _ _ (fun i => match fs[i]? with | some (.val c) => c | some (.new _ _) => .pointer (some ⟨N0, 0, none⟩) | _ => undef) ⟨by simp, hC, rfl, rfl, ?_, ?_, ?_, ?_, ?_, ?_, ?_, ?_⟩ ?_)
  · intro i f hf
    cases f with
    | val c => simp [hf]
    | ex p hp => trivial
    | new cs t => exact ⟨N0, by simp [hf], Nat.le_refl _⟩
  · intro t _; rfl
  · intro i o d hi hl; rw [none_listed] at hl; cases hl
  · intro i f hf hl; rw [none_listed] at hl; cases hl
  · intro i j f g _ _ _ _ hl; rw [none_listed] at hl; cases hl
  · intro i f _ _ hl; rw [none_listed] at hl; cases hl
  · intro i o _ hl; rw [none_listed] at hl; cases hl
  · intro i _; exact none_listed _ _
  · refine Nat.le_trans (List.length_filter_le _ _) (by simp)
theorem wp_region_facts2_litD {id : Nat} {Q : Exit → Act → World → Prop} {a : Act} {w : World} {l : List Oper} (m : Nat) (fs : List Fct) (N0 : Nat) (hm : P.follows .mixedOrders = true) (hml : m ≤ l.length) (hB : factsB l.toArray a.tmps.size = true) (hT : tailB6 l.toArray m = true) (hN : ∀ w, C w → N0 ≤ w.heap.size) (hC : C w.drew)
    (h : fst2 P l.toArray C N0 (wpList P l.toArray Q (l.drop m)) 0 (l.take m) fs a [] []) : (Code.region id l.toArray true).wp P Q a w := by
  have e : l.take m ++ l.drop m = l := List.take_append_drop m l
  have r := wp_region_facts2D (P := P) (C := C) (id := id) (Q := Q) (a := a) (w := w) (l := l.take m) (tl := l.drop m) fs N0 hm
  rw [e, List.length_take, Nat.min_eq_left hml] at r
  exact r hB hT hN hC h
/-! ### One operation at a time -/
end
end Go.Proofs.Ytkebpmcgmmhifaa

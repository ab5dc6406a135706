/- cpuset's Parse. -/
import Derived.Test.YthgamlklpfkkhaaDoorItem
namespace Go.Proofs.YthgamlklpfkkhaaDoor
open Go.RowKit Go.WideShapes Go.ChangeShapes

theorem itemE_spec (l : List UInt8) (i : Nat) (h : i ≤ l.length) {n m e a k : Nat} (hx : itemE l i = (n, m, e, a, k)) (he : e = 0) : n < 1024 ∧ m < 1024 ∧ n ≤ m ∧ i ≤ k ∧ k ≤ l.length := by
  have s1 := numE_spec l i h
  unfold itemE at hx
  simp only at hx
  split at hx
  · injection hx with _ hx; injection hx with _ hx; injection hx with hx _; omega
  · rename_i h0
    have h0 : (numE l i).2.1 = 0 := by omega
    have s3 := s1.2.2.2 h0
    split at hx
    · rename_i h1
      have s2 := numE_spec l ((numE l i).2.2 + 1) (by omega)
      split at hx
      · injection hx with _ hx; injection hx with _ hx; injection hx with hx _; omega
      · rename_i h2
        have h2 : (numE l ((numE l i).2.2 + 1)).2.1 = 0 := by omega
        have s4 := s2.2.2.2 h2
        split at hx
        · injection hx with _ hx; injection hx with _ hx; injection hx with hx _; omega
        · unfold itemTail at hx
          split at hx
          · injection hx with _ hx; injection hx with _ hx; injection hx with hx _; omega
          · injection hx with a1 hx; injection hx with a2 hx; injection hx with a3 hx; injection hx with a4 a5; omega
    · unfold itemTail at hx
      split at hx
      · injection hx with _ hx; injection hx with _ hx; injection hx with hx _; omega
      · injection hx with a1 hx; injection hx with a2 hx; injection hx with a3 hx; injection hx with a4 a5; omega

@[go_sem high] theorem binOp_eql_nil (t : TypeId) (l : List UInt8) : binOp .eql t (.string (str l)) (.string ⟨#[]⟩) = pure (.bool l.isEmpty) := by
  rw [binOp_string_eql, ByteArray.toList_eq, ByteArray.toList_eq, str_data]
  cases l <;> rfl

/-- The set of a text, the error, its place: from a place on, with a set so far. -/
def parseE (l : List UInt8) : Nat → Nat → Nat → Nat × Nat × Nat
  | 0, _, _ => (0, 0, 0)
  | f + 1, i, S =>
    let x := itemE l i
    if x.2.2.1 ≠ 0 then (0, x.2.2.1, x.2.2.2.1)
    else if S &&& rng x.1 x.2.1 ≠ 0 then (0, 9, i)
    else if x.2.2.2.2 = l.length then (S ||| rng x.1 x.2.1, 0, 0)
    else parseE l f (x.2.2.2.2 + 1) (S ||| rng x.1 x.2.1)
def parse (l : List UInt8) : Nat × Nat × Nat := if l = [] then (0, 0, 0) else parseE l (l.length + 1) 0 0

theorem results_set2 {fn : Func} {p u v : Tmp} (h : fn.results = #[.cell p 24, .tmp u, .tmp v]) (tmps : Array Value) (w : World) (g : Nat) (S : Nat) {t : TypeId}
    (hp : tmps.getD p undef = .pointer (some ⟨g, 0, none⟩)) (hg : Blk w g (setA S) t) : (results fn tmps).run Tryd.prog w = .ok (.tuple #[.agg (setA S), tmps.getD u undef, tmps.getD v undef]) w := by
  have hp' : tmps[p]?.getD undef = .pointer (some ⟨g, 0, none⟩) := by simpa using hp
  have l1 := run_loadVar_row w g t _ _ _ _ hg Tryd.underlying24 rfl (info_setA S)
  simp [results, h, hp', asAddr, l1]

def PRel (l : List UInt8) (w : World) (wr : World) : Prop :=
  ∃ i S f, i ≤ l.length ∧ l.length + 1 ≤ f + i ∧ parse l = parseE l f i S ∧ Sm S ∧ Blk wr w.heap.size (setA S) 24 ∧ Rd wr (w.heap.size + 1) l i ∧ Below w.heap.size w wr

def ParsePost (w : World) (x : Nat × Nat × Nat) (e : Ending) (w' : World) : Prop := e = .returned (.tuple #[.agg (setA x.1), .int .i64 x.2.1, .int .i64 x.2.2]) ∧ Below w.heap.size w w'

set_option maxRecDepth 100000 in
set_option maxHeartbeats 2000000 in
theorem parse_calls (l : List UInt8) (hl : l.length ≤ 1000000) (w : World) :
    Calls Tryd.prog 10 #[.string (str l)] w (ParsePost w (parse l)) := by
  by_cases hnil : l = []
  · subst hnil
    go_enter Tryd.func10, Tryd.ntmps10
    go_wp2_with (first
      | (refine wpl_load_set (.tmp 2) rfl rfl _ rfl 0 (heap_alloc_new _ _) ?_)
      | (refine wpl_store_set (.tmp 2) (.tmp 14) rfl rfl _ rfl 0 rfl (heap_alloc_new _ _) rfl ?_))
    exact bodyPost_ret (results_set2 rfl _ _ _ 0 rfl (Blk.row (Blk.new w _ _ _ rfl) _)) rfl ⟨rfl, bl_setRow (bl_alloc (Below.refl _ _) _) _ (Nat.le_refl _) _⟩
  · have he : l.isEmpty = false := by cases l with | nil => exact absurd rfl hnil | cons _ _ => rfl
    have HP : Hid (parse l = parseE l (l.length + 1) 0 0) := Lib.hid (by rw [parse, if_neg hnil])
    have h0 : setA 0 = _ := setA_zero
    go_enter Tryd.func10, Tryd.ntmps10
    go_wp2
    go_loopw [6] (fun _ wr => PRel l w wr) (fun _ wr => leftOf l (w.heap.size + 1) wr)
    case atStart => 
      refine ⟨0, 0, l.length + 1, by omega, by omega, HP.out, ?_, ?_, ?_, ?_⟩
      · exact fun k _ => Nat.zero_testBit k
      · exact (Blk.new w _ _ _ rfl).alloc _
      · exact Blk.new _ _ _ _ (by show w.heap.size + 1 = (w.heap.push _).size; rw [Array.size_push])
      · exact bl_alloc (bl_alloc (Below.refl _ _) _) _
    case round =>
      obtain ⟨i, S, f, hi, hf, hp, hS, hblk, hrd, bel⟩ := hrel
      obtain ⟨f, rfl⟩ : ∃ g, f = g + 1 := ⟨f - 1, by omega⟩
      obtain ⟨n, m, e, a, k, hx⟩ : ∃ n m e a k, itemE l i = (n, m, e, a, k) := ⟨_, _, _, _, _, rfl⟩
      have hP : parse l = if e ≠ 0 then (0, e, a) else if S &&& rng n m ≠ 0 then (0, 9, i) else if k = l.length then (S ||| rng n m, 0, 0) else parseE l f (k + 1) (S ||| rng n m) := by rw [hp]; simp only [parseE, hx]
      have hsp := itemE_spec l i hi hx
      have hit : Calls Tryd.prog 33 #[.pointer (some ⟨w.heap.size + 1, 0, none⟩)] wr fun r w' => r = .returned (.tuple #[.int .i64 n, .int .i64 m, .int .i64 e, .int .i64 a]) ∧ Rd w' (w.heap.size + 1) l k ∧ wr.grownBy w' (some (w.heap.size + 1)) :=
        (item_calls l hl i _ wr hrd hi).mono (by rw [hx]; rintro r w' ⟨rfl, h1, h2⟩; exact ⟨rfl, h1, h2⟩)
      have IT := Lib.hid hit
      have HA := Lib.hid (leftOf_rd hrd)
      have HB := Lib.hid hblk
      have c1 := hrd.cell 1
      simp at c1
      have hzz := bel.size
      have hz2 := hrd.lt
      clear hit hx hp hrd hblk HP hnil
      by_cases he0 : e = 0
      · subst he0
        have hsp2 := hsp rfl
        rw [if_neg (by simp)] at hP
        have HP := Lib.hid hP
        clear hP
        by_cases hmt : S &&& rng n m = 0
        · have hm1 : decide (S &&& rng n m = 0) = true := decide_eq_true hmt
          have HP := Lib.hid (HP.out.trans (if_neg (fun e => e hmt)))
          have HS := Lib.hid hS
          clear hmt hS
          by_cases hk : k = l.length
          · have HP := Lib.hid (HP.out.trans (if_pos hk))
            subst hk
            go_wp2_with (first
              | (go_at_call 33; refine IT.out.mono ?_; rintro r w1 ⟨rfl, hr1, hg1⟩; have R1 := Lib.hid hr1; have B1 := Lib.hid (World.grownBy.blk hg1 HB.out (by simp)); have bel1 := gb_below bel hg1 (by omega) bel.size; have hz1 := B1.out.lt; clear hr1 hg1)
              | (go_at_call 27; refine (range_calls n m _ (by omega)).mono ?_; rintro r w2 ⟨rfl, hb2⟩; have R2 := Lib.hid (Blk.below R1.out hb2); have B2 := Lib.hid (B1.out.below hb2); have bel2 := bl_step bel1 hb2; have hz2 := B2.out.lt; have hz3 := Blk.lt R2.out; clear hb2)
              | (refine wpl_store_set (.tmp 11) (.tmp 36) rfl rfl _ rfl (rng n m) rfl (heap_alloc_new _ _) rfl ?_; have B3 := Lib.hid ((B2.out.alloc (.cells (setA 0) 24)).rowFar w2.heap.size (setA (rng n m)) (by omega)); have C3 := Lib.hid ((Blk.new w2 (setA 0) 24 _ rfl).row (setA (rng n m))); have bel3 := bl_setRow (bl_alloc bel2 (.cells (setA 0) 24)) w2.heap.size (by omega) (setA (rng n m)))
              | (refine wpl_load_set (.tmp 2) rfl rfl _ rfl S B3.out ?_)
              | (refine wpl_load_set (.tmp 2) rfl rfl _ rfl S B4.out ?_)
              | (refine wpl_load_set (.tmp 11) rfl rfl _ rfl (rng n m) C4.out ?_)
              | (go_at_call 17; refine (or_calls S (rng n m) _).mono ?_; rintro r w4 ⟨rfl, hb4⟩; have B5 := Lib.hid (B4.out.below hb4); have R5 := Lib.hid (R4.out.below hb4); have bel5 := bl_step bel4 hb4; clear hb4)
              | (refine wpl_store_set (.tmp 2) (.tmp 44) rfl rfl _ rfl (S ||| rng n m) rfl B5.out (setA_size _) ?_; have B6 := Lib.hid (B5.out.row (setA (S ||| rng n m))); have R6 := Lib.hid (R5.out.rowFar w.heap.size (setA (S ||| rng n m)) (by omega)); have bel6 := bl_setRow bel5 w.heap.size (Nat.le_refl _) (setA (S ||| rng n m)); have d1 := R6.out.cell 1; have f1 := R6.out.free 1; simp at d1)
              | (refine wpl_load_set (.tmp 11) rfl rfl _ rfl (rng n m) C3.out ?_)
              | (go_at_call 20; refine (meets_calls S (rng n m) HS.out _).mono ?_; rintro r w3 ⟨rfl, hb3⟩; have B4 := Lib.hid (B3.out.below hb3); have C4 := Lib.hid (C3.out.below hb3); have R4 := Lib.hid ((Blk.rowFar (Blk.alloc R2.out (.cells (setA 0) 24)) w2.heap.size (setA (rng n m)) (by omega)).below hb3); have hz4 := B4.out.lt; have hz5 := Blk.lt R4.out; have bel4 := bl_step bel3 hb3; clear hb3)
              | (refine wpl_load_set (.tmp 2) rfl rfl _ rfl (S ||| rng n m) B6.out ?_)
              | (refine wpl_store_set (.tmp 2) (.tmp 52) rfl rfl _ rfl (S ||| rng n m) rfl B6.out (setA_size _) ?_))
            refine bodyPost_ret (results_set2 rfl _ _ _ (S ||| rng n m) rfl (B6.out.row _)) rfl ⟨?_, bl_setRow bel6 _ (Nat.le_refl _) _⟩
            rw [HP.out]
            rfl
          · have HP := Lib.hid (HP.out.trans (if_neg hk))
            have hk2 : ((k : Int) == (l.length : Int)) = false := beq_eq_false_iff_ne.2 (by omega)
            have hk3 : (k == l.length) = false := beq_eq_false_iff_ne.2 hk
            have hk4 : k < l.length := by omega
            clear hk
            go_wp2_with (first
              | (go_at_call 33; refine IT.out.mono ?_; rintro r w1 ⟨rfl, hr1, hg1⟩; have R1 := Lib.hid hr1; have B1 := Lib.hid (World.grownBy.blk hg1 HB.out (by simp)); have bel1 := gb_below bel hg1 (by omega) bel.size; have hz1 := B1.out.lt; clear hr1 hg1)
              | (go_at_call 27; refine (range_calls n m _ (by omega)).mono ?_; rintro r w2 ⟨rfl, hb2⟩; have R2 := Lib.hid (Blk.below R1.out hb2); have B2 := Lib.hid (B1.out.below hb2); have bel2 := bl_step bel1 hb2; have hz2 := B2.out.lt; have hz3 := Blk.lt R2.out; clear hb2)
              | (refine wpl_store_set (.tmp 11) (.tmp 36) rfl rfl _ rfl (rng n m) rfl (heap_alloc_new _ _) rfl ?_; have B3 := Lib.hid ((B2.out.alloc (.cells (setA 0) 24)).rowFar w2.heap.size (setA (rng n m)) (by omega)); have C3 := Lib.hid ((Blk.new w2 (setA 0) 24 _ rfl).row (setA (rng n m))); have bel3 := bl_setRow (bl_alloc bel2 (.cells (setA 0) 24)) w2.heap.size (by omega) (setA (rng n m)))
              | (refine wpl_load_set (.tmp 2) rfl rfl _ rfl S B3.out ?_)
              | (refine wpl_load_set (.tmp 2) rfl rfl _ rfl S B4.out ?_)
              | (refine wpl_load_set (.tmp 11) rfl rfl _ rfl (rng n m) C4.out ?_)
              | (go_at_call 17; refine (or_calls S (rng n m) _).mono ?_; rintro r w4 ⟨rfl, hb4⟩; have B5 := Lib.hid (B4.out.below hb4); have R5 := Lib.hid (R4.out.below hb4); have bel5 := bl_step bel4 hb4; clear hb4)
              | (refine wpl_store_set (.tmp 2) (.tmp 44) rfl rfl _ rfl (S ||| rng n m) rfl B5.out (setA_size _) ?_; have B6 := Lib.hid (B5.out.row (setA (S ||| rng n m))); have R6 := Lib.hid (R5.out.rowFar w.heap.size (setA (S ||| rng n m)) (by omega)); have bel6 := bl_setRow bel5 w.heap.size (Nat.le_refl _) (setA (S ||| rng n m)); have d1 := R6.out.cell 1; have f1 := R6.out.free 1; simp at d1)
              | (refine wpl_load_set (.tmp 11) rfl rfl _ rfl (rng n m) C3.out ?_)
              | (go_at_call 20; refine (meets_calls S (rng n m) HS.out _).mono ?_; rintro r w3 ⟨rfl, hb3⟩; have B4 := Lib.hid (B3.out.below hb3); have C4 := Lib.hid (C3.out.below hb3); have R4 := Lib.hid ((Blk.rowFar (Blk.alloc R2.out (.cells (setA 0) 24)) w2.heap.size (setA (rng n m)) (by omega)).below hb3); have hz4 := B4.out.lt; have hz5 := Blk.lt R4.out; have bel4 := bl_step bel3 hb3; clear hb3))
            go_roundw
            case rel =>
              refine ⟨k + 1, S ||| rng n m, f, by omega, by omega, HP.out, or_sm HS.out (rng_sm _ _), B6.out.far _ _ (by simp), ?_, gb_below bel6 (gb_set (gb_refl _ _) _ _ rfl) (Nat.le_succ _) bel6.size⟩
              have h := Blk.set R6.out 1 (.int .i64 ((k : Int) + 1))
              simpa [Rd] using h
            case measure =>
              rw [HA.out, leftOf_rd (j := k + 1)]
              · omega
              · have h := Blk.set R6.out 1 (.int .i64 ((k : Int) + 1))
                simpa [Rd] using h
        · have hm1 : decide (S &&& rng n m = 0) = false := decide_eq_false hmt
          have HM := Lib.hid hmt
          have HS := Lib.hid hS
          clear hmt hS
          go_wp2_with (first
            | (go_at_call 33; refine IT.out.mono ?_; rintro r w1 ⟨rfl, hr1, hg1⟩; have R1 := Lib.hid hr1; have B1 := Lib.hid (World.grownBy.blk hg1 HB.out (by simp)); have bel1 := gb_below bel hg1 (by omega) bel.size; have hz1 := B1.out.lt; clear hr1 hg1)
            | (go_at_call 27; refine (range_calls n m _ (by omega)).mono ?_; rintro r w2 ⟨rfl, hb2⟩; have R2 := Lib.hid (Blk.below R1.out hb2); have B2 := Lib.hid (B1.out.below hb2); have bel2 := bl_step bel1 hb2; have hz2 := B2.out.lt; have hz3 := Blk.lt R2.out; clear hb2)
            | (refine wpl_store_set (.tmp 11) (.tmp 36) rfl rfl _ rfl (rng n m) rfl (heap_alloc_new _ _) rfl ?_; have B3 := Lib.hid ((B2.out.alloc (.cells (setA 0) 24)).rowFar w2.heap.size (setA (rng n m)) (by omega)); have C3 := Lib.hid ((Blk.new w2 (setA 0) 24 _ rfl).row (setA (rng n m))); have bel3 := bl_setRow (bl_alloc bel2 (.cells (setA 0) 24)) w2.heap.size (by omega) (setA (rng n m)))
            | (refine wpl_load_set (.tmp 2) rfl rfl _ rfl S B3.out ?_)
            | (refine wpl_load_set (.tmp 11) rfl rfl _ rfl (rng n m) C3.out ?_)
            | (go_at_call 20; refine (meets_calls S (rng n m) HS.out _).mono ?_; rintro r w3 ⟨rfl, hb3⟩; have B4 := Lib.hid (B3.out.below hb3); have bel4 := bl_step bel3 hb3; clear hb3)
            | (refine wpl_store_set (.tmp 2) (.tmp 40) rfl rfl _ rfl 0 rfl B4.out (setA_size _) ?_))
          refine bodyPost_ret (results_set2 rfl _ _ _ 0 rfl (B4.out.row _)) rfl ⟨?_, bl_setRow bel4 _ (Nat.le_refl _) _⟩
          rw [HP.out, if_pos HM.out]
          rfl
      · rw [if_pos he0] at hP
        have HP := Lib.hid hP
        have he1 : ((e : Int) == 0) = false := beq_eq_false_iff_ne.2 (by omega)
        clear hP he0 hsp
        go_wp2_with (first
          | (go_at_call 33; refine IT.out.mono ?_; rintro r w1 ⟨rfl, hr1, hg1⟩; have R1 := Lib.hid hr1; have B1 := Lib.hid (World.grownBy.blk hg1 HB.out (by simp)); have bel1 := gb_below bel hg1 (by omega) bel.size; clear hr1 hg1)
          | (refine wpl_store_set (.tmp 2) (.tmp 31) rfl rfl _ rfl 0 rfl B1.out (setA_size _) ?_))
        refine bodyPost_ret (results_set2 rfl _ _ _ 0 rfl (B1.out.row _)) rfl ⟨?_, bl_setRow bel1 _ (Nat.le_refl _) _⟩
        rw [HP.out]
        rfl
end Go.Proofs.YthgamlklpfkkhaaDoor

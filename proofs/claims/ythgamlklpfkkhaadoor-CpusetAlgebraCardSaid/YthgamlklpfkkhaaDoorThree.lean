/- What the reference's Three does. -/
import Derived.Test.YthgamlklpfkkhaaDoorSets
import Derived.Test.YthgamlklpfkkhaaDoorClass
namespace Go.Proofs.YthgamlklpfkkhaaDoor
open Go.RowKit Go.WideShapes Go.ChangeShapes

def sel (p : Nat → Bool) (k : Nat) : List Nat := (List.range k).filter p
theorem sel_succ (p : Nat → Bool) (k : Nat) : sel p (k + 1) = sel p k ++ (if p k = true then [k] else []) := by
  rw [sel, sel, List.range_succ, List.filter_append]
  congr 1
  by_cases h : p k = true <;> simp [h]
theorem sel_len (p : Nat → Bool) (k : Nat) : (sel p k).length ≤ k := by
  have := List.length_filter_le p (List.range k)
  simpa [sel] using this

/-- Two rows of the call's own lie apart. -/
def Aprt (v u : Value) : Prop := v.ownBlock = none ∨ v.ownBlock ≠ u.ownBlock

theorem Aprt.symm {v u : Value} (h : Aprt v u) : Aprt u v := by
  rcases h with h | h
  · cases hu : u.ownBlock with
    | none => exact .inl hu
    | some k => exact .inr (by rw [h, hu]; simp)
  · exact .inr (fun e => h e.symm)
theorem Aprt.app {α : Type} {W : World} {base : Nat} {e : TypeId} {E : Enc α} {v v' u : Value} {ys : List α} (h : Aprt v u) (ou : OwnR W base e E u ys) (hat : v'.ownBlock = v.ownBlock ∨ v'.ownBlock = some W.heap.size) : Aprt v' u := by
  rcases hat with hat | hat
  · rw [Aprt, hat]; exact h
  · refine .inr fun e => ?_
    have := (ou.lt W.heap.size (by rw [← e, hat])).2
    omega

theorem mem_ints (l : List Nat) (m : Nat) : (m : Int) ∈ ints l ↔ m ∈ l := by
  simp only [ints, List.mem_map]
  constructor
  · rintro ⟨a, h, e⟩
    obtain rfl : a = m := by omega
    exact h
  · intro h; exact ⟨m, h, rfl⟩
theorem mk_sel (p : Nat → Bool) (R : Nat) (h : ∀ m, R.testBit m = (decide (m < 1024) && p m)) : mk (ints (sel p 1024)) = R := by
  refine Nat.eq_of_testBit_eq fun m => ?_
  rw [testBit_mk, h]
  by_cases hm : m < 1024
  · simp [hm, mem_ints, sel]
  · simp [hm]

def ThreeRel (S T : Nat) (w : World) (x y z n : Value) (wr : World) : Prop :=
  ∃ k : Nat, k ≤ 1024 ∧ n = .int .i64 k ∧ OwnR wr (w.heap.size + 5) 3 (eInt .i64) x (ints (sel (fun i => S.testBit i && T.testBit i) k)) ∧ OwnR wr (w.heap.size + 5) 3 (eInt .i64) y (ints (sel (fun i => S.testBit i || T.testBit i) k)) ∧
    OwnR wr (w.heap.size + 5) 3 (eInt .i64) z (ints (sel (fun i => S.testBit i && !T.testBit i) k)) ∧ Aprt x y ∧ Aprt x z ∧ Aprt y z ∧
    Blk wr w.heap.size (setA S) 24 ∧ Blk wr (w.heap.size + 1) (setA T) 24 ∧ Blk wr (w.heap.size + 2) (setA 0) 24 ∧ Blk wr (w.heap.size + 3) (setA 0) 24 ∧ Blk wr (w.heap.size + 4) (setA 0) 24 ∧ Below w.heap.size w wr

theorem res_set3 {fn : Func} {p q r : Tmp} (h : fn.results = #[.cell p 24, .cell q 24, .cell r 24]) (tmps : Array Value) (w : World) (g1 g2 g3 S T U : Nat) {t1 t2 t3 : TypeId}
    (hp : tmps.getD p undef = .pointer (some ⟨g1, 0, none⟩)) (hq : tmps.getD q undef = .pointer (some ⟨g2, 0, none⟩)) (hr : tmps.getD r undef = .pointer (some ⟨g3, 0, none⟩))
    (h1 : Blk w g1 (setA S) t1) (h2 : Blk w g2 (setA T) t2) (h3 : Blk w g3 (setA U) t3) : (results fn tmps).run Tryd.prog w = .ok (.tuple #[.agg (setA S), .agg (setA T), .agg (setA U)]) w := by
  have hp' : tmps[p]?.getD undef = .pointer (some ⟨g1, 0, none⟩) := by simpa using hp
  have hq' : tmps[q]?.getD undef = .pointer (some ⟨g2, 0, none⟩) := by simpa using hq
  have hr' : tmps[r]?.getD undef = .pointer (some ⟨g3, 0, none⟩) := by simpa using hr
  have l1 := run_loadVar_row w g1 t1 _ _ _ _ h1 Tryd.underlying24 rfl (info_setA S)
  have l2 := run_loadVar_row w g2 t2 _ _ _ _ h2 Tryd.underlying24 rfl (info_setA T)
  have l3 := run_loadVar_row w g3 t3 _ _ _ _ h3 Tryd.underlying24 rfl (info_setA U)
  simp [results, h, hp', hq', hr', asAddr, l1, l2, l3]

set_option maxRecDepth 100000 in
set_option maxHeartbeats 1000000 in
set_option linter.unusedSimpArgs false in
theorem three_calls (S T : Nat) (hS : Sm S) (hT : Sm T) (w : World) :
    Calls Tryd.prog 15 #[.agg (setA S), .agg (setA T)] w fun e w' => e = .returned (.tuple #[.agg (setA (S &&& T)), .agg (setA (S ||| T)), .agg (setA (minus S T))]) ∧ Below w.heap.size w w' := by
  go_enter Tryd.func15, Tryd.ntmps15
  go_wp2
  go_loopw [7, 8, 9, 10] (fun x y z n wr => ThreeRel S T w x y z n wr) (fun _ _ _ n _ => 1024 - (intOf n).toNat)
  case atStart =>
    refine ⟨0, by omega, rfl, OwnR.nil _ _ _ _, OwnR.nil _ _ _ _, OwnR.nil _ _ _ _, .inl rfl, .inl rfl, .inl rfl, ?_, ?_, ?_, ?_, ?_, bl_alloc (bl_alloc (bl_alloc (bl_alloc (bl_alloc (Below.refl _ _) _) _) _) _) _⟩
    · exact ((((Blk.new _ _ _ _ rfl).alloc _).alloc _).alloc _).alloc _
    · exact (((Blk.new _ _ _ _ (by simp)).alloc _).alloc _).alloc _
    all_goals rw [setA_zero]
    · exact ((Blk.new _ _ _ _ (by simp)).alloc _).alloc _
    · exact (Blk.new _ _ _ _ (by simp)).alloc _
    · exact Blk.new _ _ _ _ (by simp)
  case round =>
    obtain ⟨k, hk, rfl, ox, oy, oz, axy, axz, ayz, b0, b1, b2, b3, b4, bel⟩ := hrel
    have B0 := Lib.hid b0
    have B1 := Lib.hid b1
    have B2 := Lib.hid b2
    have B3 := Lib.hid b3
    have B4 := Lib.hid b4
    clear b0 b1 b2 b3 b4
    have hz := bel.size
    by_cases hlt : k < 1024
    · have Lx := Lib.hid (sel_len (fun i => S.testBit i && T.testBit i) k)
      have Ly := Lib.hid (sel_len (fun i => S.testBit i || T.testBit i) k)
      have Lz := Lib.hid (sel_len (fun i => S.testBit i && !T.testBit i) k)
      rw [← ints_len] at Lx Ly Lz
      have hx := sel_succ (fun i => S.testBit i && T.testBit i) k
      have hy := sel_succ (fun i => S.testBit i || T.testBit i) k
      have hz' := sel_succ (fun i => S.testBit i && !T.testBit i) k
      simp only [← has_nat S k, ← has_nat T k] at hx hy hz'
      cases hs : has S k
      all_goals cases ht : has T k
      all_goals
        simp only [hs, ht, Bool.and_self, Bool.and_true, Bool.true_and, Bool.and_false, Bool.false_and, Bool.or_self, Bool.or_true, Bool.true_or, Bool.or_false, Bool.not_true, Bool.not_false, Bool.false_eq_true, if_true, if_false, List.append_nil] at hx hy hz'
        have HX := Lib.hid hx
        have HY := Lib.hid hy
        have HZ := Lib.hid hz'
        have HS := Lib.hid hs
        have HT := Lib.hid ht
        clear hx hy hz' hs ht
        go_wp2
        refine region_up (by kernel_rfl) (by kernel_rfl) ?_
        refine wpQuiet_want rfl (quiet_load_set (.tmp 2) rfl _ rfl S (fun W hW => B0.out.below hW) ?_)
        refine wpQuiet_want rfl (quiet_value (fun W hW => rfl) ?_)
        refine wpQuiet_want rfl (quiet_call (fun W => by go_simp) (fun W hW => (refHas_calls S hS k W).mono fun e W' ⟨h1, h2⟩ => ⟨by rw [h1, HS.out], h2 ▸ hW.step (bl_alloc (Below.refl _ _) _)⟩) ?_)
        refine wpQuiet_want rfl (quiet_load_set (.tmp 3) rfl _ rfl T (fun W hW => B1.out.below hW) ?_)
        refine wpQuiet_want rfl (quiet_value (fun W hW => rfl) ?_)
        refine wpQuiet_want rfl (quiet_call (fun W => by go_simp) (fun W hW => (refHas_calls T hT k W).mono fun e W' ⟨h1, h2⟩ => ⟨by rw [h1, HT.out], h2 ▸ hW.step (bl_alloc (Below.refl _ _) _)⟩) ?_)
        refine wpQuiet_want rfl (quiet_value (fun W hW => rfl) ?_)
        refine wpQuiet_want rfl (quiet_value (fun W hW => rfl) ?_)
        refine wpQuiet_nil ?_
        intro wq hq
        have ox1 := ox.same hq
        have oy1 := oy.same hq
        have oz1 := oz.same hq
        have bel1 := bl_step bel hq
        have C0 := Lib.hid (B0.out.below hq)
        have C1 := Lib.hid (B1.out.below hq)
        have C2 := Lib.hid (B2.out.below hq)
        have C3 := Lib.hid (B3.out.below hq)
        have C4 := Lib.hid (B4.out.below hq)
        clear ox oy oz bel hz B0 B1 B2 B3 B4 hq
        have ox := ox1
        have oy := oy1
        have oz := oz1
        have bel := bel1
        have B0 := C0
        have B1 := C1
        have B2 := C2
        have B3 := C3
        have B4 := C4
        clear ox1 oy1 oz1 bel1 C0 C1 C2 C3 C4
        have hz := bel.size
        have hz5 := B4.out.lt
        have apyx := axy.symm
        have apzx := axz.symm
        have apzy := ayz.symm
        have apxy := axy
        have apxz := axz
        have apyz := ayz
        clear axy axz ayz
        go_wp2_with (first
          | (at_builtin; refine own_append slInt rfl (.tmp 27) (.tmp 29) rfl (w.heap.size + 5) _ (ints (sel (fun i => S.testBit i && T.testBit i) k)) rfl (ox.alloc _) ⟨_, 0, none⟩ 1 1 [(k : Int)] rfl rfl (news_at _ _ _ _ (by simp)) (by have := Lx.out; simp; omega) (by simp; omega) ?_; intro x1 W1 ox1 hg1 at1; have oy1 := (oy.alloc (.cells #[.int .i64 k] 3)).grown hg1 (apyx); have oz1 := (oz.alloc (.cells #[.int .i64 k] 3)).grown hg1 (apzx); have C0 := Lib.hid ((ox.alloc (.cells #[.int .i64 k] 3)).blk hg1 (B0.out.alloc _) (by omega)); have C1 := Lib.hid ((ox.alloc (.cells #[.int .i64 k] 3)).blk hg1 (B1.out.alloc _) (by omega)); have C2 := Lib.hid ((ox.alloc (.cells #[.int .i64 k] 3)).blk hg1 (B2.out.alloc _) (by omega)); have C3 := Lib.hid ((ox.alloc (.cells #[.int .i64 k] 3)).blk hg1 (B3.out.alloc _) (by omega)); have C4 := Lib.hid ((ox.alloc (.cells #[.int .i64 k] 3)).blk hg1 (B4.out.alloc _) (by omega)); have bel1 := bl_grown (bl_alloc bel _) (ox.alloc (.cells #[.int .i64 k] 3)) hg1 (by omega) (by simp; omega); have ap1xy := (apyx.symm).app (oy.alloc (.cells #[.int .i64 k] 3)) at1; have ap1xz := (apzx.symm).app (oz.alloc (.cells #[.int .i64 k] 3)) at1; rename_i _; clear ox oy oz hg1 at1 bel hz hz5 B0 B1 B2 B3 B4; have ox := ox1; clear ox1; have oy := oy1; clear oy1; have oz := oz1; clear oz1; have bel := bel1; clear bel1; have B0 := C0; clear C0; have B1 := C1; clear C1; have B2 := C2; clear C2; have B3 := C3; clear C3; have B4 := C4; clear C4; clear apyx apxy; have apyx := ap1xy.symm; have apxy := ap1xy; clear ap1xy; clear apzx apxz; have apzx := ap1xz.symm; have apxz := ap1xz; clear ap1xz; have hz := bel.size; have hz5 := B4.out.lt)
          | (at_builtin; refine own_append slInt rfl (.tmp 35) (.tmp 37) rfl (w.heap.size + 5) _ (ints (sel (fun i => S.testBit i || T.testBit i) k)) rfl (oy.alloc _) ⟨_, 0, none⟩ 1 1 [(k : Int)] rfl rfl (news_at _ _ _ _ (by simp)) (by have := Ly.out; simp; omega) (by simp; omega) ?_; intro y1 W2 oy1 hg2 at2; have ox1 := (ox.alloc (.cells #[.int .i64 k] 3)).grown hg2 (apxy); have oz1 := (oz.alloc (.cells #[.int .i64 k] 3)).grown hg2 (apzy); have C0 := Lib.hid ((oy.alloc (.cells #[.int .i64 k] 3)).blk hg2 (B0.out.alloc _) (by omega)); have C1 := Lib.hid ((oy.alloc (.cells #[.int .i64 k] 3)).blk hg2 (B1.out.alloc _) (by omega)); have C2 := Lib.hid ((oy.alloc (.cells #[.int .i64 k] 3)).blk hg2 (B2.out.alloc _) (by omega)); have C3 := Lib.hid ((oy.alloc (.cells #[.int .i64 k] 3)).blk hg2 (B3.out.alloc _) (by omega)); have C4 := Lib.hid ((oy.alloc (.cells #[.int .i64 k] 3)).blk hg2 (B4.out.alloc _) (by omega)); have bel1 := bl_grown (bl_alloc bel _) (oy.alloc (.cells #[.int .i64 k] 3)) hg2 (by omega) (by simp; omega); have ap1yx := (apxy.symm).app (ox.alloc (.cells #[.int .i64 k] 3)) at2; have ap1yz := (apzy.symm).app (oz.alloc (.cells #[.int .i64 k] 3)) at2; rename_i _; clear oy ox oz hg2 at2 bel hz hz5 B0 B1 B2 B3 B4; have oy := oy1; clear oy1; have ox := ox1; clear ox1; have oz := oz1; clear oz1; have bel := bel1; clear bel1; have B0 := C0; clear C0; have B1 := C1; clear C1; have B2 := C2; clear C2; have B3 := C3; clear C3; have B4 := C4; clear C4; clear apxy apyx; have apxy := ap1yx.symm; have apyx := ap1yx; clear ap1yx; clear apzy apyz; have apzy := ap1yz.symm; have apyz := ap1yz; clear ap1yz; have hz := bel.size; have hz5 := B4.out.lt)
          | (at_builtin; refine own_append slInt rfl (.tmp 44) (.tmp 46) rfl (w.heap.size + 5) _ (ints (sel (fun i => S.testBit i && !T.testBit i) k)) rfl (oz.alloc _) ⟨_, 0, none⟩ 1 1 [(k : Int)] rfl rfl (news_at _ _ _ _ (by simp)) (by have := Lz.out; simp; omega) (by simp; omega) ?_; intro z1 W3 oz1 hg3 at3; have ox1 := (ox.alloc (.cells #[.int .i64 k] 3)).grown hg3 (apxz); have oy1 := (oy.alloc (.cells #[.int .i64 k] 3)).grown hg3 (apyz); have C0 := Lib.hid ((oz.alloc (.cells #[.int .i64 k] 3)).blk hg3 (B0.out.alloc _) (by omega)); have C1 := Lib.hid ((oz.alloc (.cells #[.int .i64 k] 3)).blk hg3 (B1.out.alloc _) (by omega)); have C2 := Lib.hid ((oz.alloc (.cells #[.int .i64 k] 3)).blk hg3 (B2.out.alloc _) (by omega)); have C3 := Lib.hid ((oz.alloc (.cells #[.int .i64 k] 3)).blk hg3 (B3.out.alloc _) (by omega)); have C4 := Lib.hid ((oz.alloc (.cells #[.int .i64 k] 3)).blk hg3 (B4.out.alloc _) (by omega)); have bel1 := bl_grown (bl_alloc bel _) (oz.alloc (.cells #[.int .i64 k] 3)) hg3 (by omega) (by simp; omega); have ap1zx := (apxz.symm).app (ox.alloc (.cells #[.int .i64 k] 3)) at3; have ap1zy := (apyz.symm).app (oy.alloc (.cells #[.int .i64 k] 3)) at3; rename_i _; clear oz ox oy hg3 at3 bel hz hz5 B0 B1 B2 B3 B4; have oz := oz1; clear oz1; have ox := ox1; clear ox1; have oy := oy1; clear oy1; have bel := bel1; clear bel1; have B0 := C0; clear C0; have B1 := C1; clear C1; have B2 := C2; clear C2; have B3 := C3; clear C3; have B4 := C4; clear C4; clear apxz apzx; have apxz := ap1zx.symm; have apzx := ap1zx; clear ap1zx; clear apyz apzy; have apyz := ap1zy.symm; have apzy := ap1zy; clear ap1zy; have hz := bel.size; have hz5 := B4.out.lt))
        go_roundw
        case rel =>
          refine ⟨k + 1, by omega, by go_num, by rw [HX.out]; simpa [ints_snoc] using ox, by rw [HY.out]; simpa [ints_snoc] using oy, by rw [HZ.out]; simpa [ints_snoc] using oz, apxy, apxz, apyz, B0.out, B1.out, B2.out, B3.out, B4.out, bel⟩
        case measure => simp [intOf]; omega
    · obtain rfl : k = 1024 := by omega
      have ex : mk (ints (sel (fun i => S.testBit i && T.testBit i) 1024)) = S &&& T := by
        refine mk_sel _ _ fun m => ?_
        rw [Nat.testBit_and]
        by_cases hm : m < 1024
        · simp [hm]
        · rw [hS m (by omega)]; simp
      have ey : mk (ints (sel (fun i => S.testBit i || T.testBit i) 1024)) = S ||| T := by
        refine mk_sel _ _ fun m => ?_
        rw [Nat.testBit_or]
        by_cases hm : m < 1024
        · simp [hm]
        · rw [hS m (by omega), hT m (by omega)]; simp
      have ez : mk (ints (sel (fun i => S.testBit i && !T.testBit i) 1024)) = minus S T := by
        refine mk_sel _ _ fun m => ?_
        rw [testBit_minus]
        by_cases hm : m < 1024
        · simp [hm]
        · rw [hS m (by omega)]; simp
      have EX := Lib.hid ex
      have EY := Lib.hid ey
      have EZ := Lib.hid ez
      have LX : (ints (sel (fun i => S.testBit i && T.testBit i) 1024)).length ≤ 9223372036854775807 := by have := sel_len (fun i => S.testBit i && T.testBit i) 1024; rw [ints_len]; omega
      have LY : (ints (sel (fun i => S.testBit i || T.testBit i) 1024)).length ≤ 9223372036854775807 := by have := sel_len (fun i => S.testBit i || T.testBit i) 1024; rw [ints_len]; omega
      have LZ : (ints (sel (fun i => S.testBit i && !T.testBit i) 1024)).length ≤ 9223372036854775807 := by have := sel_len (fun i => S.testBit i && !T.testBit i) 1024; rw [ints_len]; omega
      clear ex ey ez axy axz ayz
      generalize ints (sel (fun i => S.testBit i && T.testBit i) 1024) = xs at *
      generalize ints (sel (fun i => S.testBit i || T.testBit i) 1024) = ys at *
      generalize ints (sel (fun i => S.testBit i && !T.testBit i) 1024) = zs at *
      obtain ⟨A1, c1, rfl, _, _, _, r1⟩ := ox.reads
      obtain ⟨A2, c2, rfl, _, _, _, r2⟩ := oy.reads
      obtain ⟨A3, c3, rfl, _, _, _, r3⟩ := oz.reads
      rw [eInt_all] at r1 r2 r3
      go_wp2_with fail
      (with_reducible refine (make_calls _ _ _ _ r1 LX).mono ?_)
      rintro e w1 ⟨rfl, hb1⟩
      rw [EX.out]
      have r2' := r2.same hb1
      have r3' := r3.same hb1
      go_wp2_with fail
      (with_reducible refine (make_calls _ _ _ _ r2' LY).mono ?_)
      rintro e w2 ⟨rfl, hb2⟩
      rw [EY.out]
      have r3'' := r3'.same hb2
      go_wp2_with fail
      (with_reducible refine (make_calls _ _ _ _ r3'' LZ).mono ?_)
      rintro e w3 ⟨rfl, hb3⟩
      rw [EZ.out]
      have C2 := Lib.hid (((B2.out.below hb1).below hb2).below hb3)
      have C3 := Lib.hid (((B3.out.below hb1).below hb2).below hb3)
      have C4 := Lib.hid (((B4.out.below hb1).below hb2).below hb3)
      have bl := bl_step (bl_step (bl_step bel hb1) hb2) hb3
      go_wp2_with (first
        | (refine wpl_store_set (.tmp 4) (.tmp 49) rfl rfl _ rfl (S &&& T) rfl C2.out (setA_size _) ?_)
        | (refine wpl_store_set (.tmp 5) (.tmp 51) rfl rfl _ rfl (S ||| T) rfl (C3.out.rowFar _ _ (by omega)) (setA_size _) ?_)
        | (refine wpl_store_set (.tmp 6) (.tmp 53) rfl rfl _ rfl (minus S T) rfl ((C4.out.rowFar _ _ (by omega)).rowFar _ _ (by omega)) (setA_size _) ?_))
      exact bodyPost_ret (res_set3 rfl _ _ _ _ _ (S &&& T) (S ||| T) (minus S T) rfl rfl rfl ((C2.out.row _ |>.rowFar _ _ (by omega)).rowFar _ _ (by omega)) (((C3.out.rowFar _ _ (by omega)).row _).rowFar _ _ (by omega)) (((C4.out.rowFar _ _ (by omega)).rowFar _ _ (by omega)).row _)) rfl
        ⟨rfl, bl_setRow (bl_setRow (bl_setRow bl _ (by omega) _) _ (by omega) _) _ (by omega) _⟩
end Go.Proofs.YthgamlklpfkkhaaDoor

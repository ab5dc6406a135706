/- A set of workers as one number of which no bit from 1024 on is set: its sixteen words, how one word changes, and when two are the same. -/
import Derived.Test.YtkebpmcgmmhifaaRow
import Derived.DeepKeys
import Derived.Laws.StructEq
namespace Go.Proofs.Ytkebpmcgmmhifaa
open Go.RowKit Go.WideShapes Go.ChangeShapes

/-- Word number i. -/
def wd (S i : Nat) : Nat := (S >>> (64 * i)) % 2 ^ 64
theorem wd_lt (S i : Nat) : wd S i < 2 ^ 64 := Nat.mod_lt _ (by decide)
theorem testBit_wd (S i j : Nat) : (wd S i).testBit j = (decide (j < 64) && S.testBit (64 * i + j)) := by
  unfold wd
  rw [Nat.testBit_mod_two_pow, Nat.testBit_shiftRight]

/-- No bit from 1024 on is set. -/
def Sm (S : Nat) : Prop := ∀ n, 1024 ≤ n → S.testBit n = false
theorem sm_zero : Sm 0 := fun n _ => Nat.zero_testBit n

/-- Two such numbers with the same sixteen words are one. -/
theorem eq_of_wd {S T : Nat} (hS : Sm S) (hT : Sm T) (h : ∀ i, i < 16 → wd S i = wd T i) : S = T := by
  refine Nat.eq_of_testBit_eq fun n => ?_
  by_cases hn : n < 1024
  · have := congrArg (fun x => x.testBit (n % 64)) (h (n / 64) (by omega))
    simp only [testBit_wd] at this
    rw [show 64 * (n / 64) + n % 64 = n from by omega] at this
    simpa [show n % 64 < 64 from by omega] using this
  · rw [hS n (by omega), hT n (by omega)]

/-- The sixteen cells of a set. -/
def setC (S : Nat) : List Value := (List.range 16).map fun i => Value.int .u64 (wd S i)
def setA (S : Nat) : Array Value := (setC S).toArray
theorem setC_length (S : Nat) : (setC S).length = 16 := by simp [setC]
theorem setA_size (S : Nat) : (setA S).size = 16 := by simp [setA, setC]
theorem setC_get (S i : Nat) (h : i < 16) : (setC S)[i]? = some (.int .u64 (wd S i)) := by simp [setC, h]
theorem setA_get (S i : Nat) (h : i < 16) : (setA S)[i]? = some (.int .u64 (wd S i)) := by simp [setA, setC, h]

/-- One word is another one. -/
theorem setA_set {S T i v : Nat} (hv : wd T i = v) (h : ∀ j, j < 16 → j ≠ i → wd T j = wd S j) : (setA S).setIfInBounds i (.int .u64 v) = setA T := by
  apply Array.ext
  · simp [setA, setC]
  · intro j h1 h2
    have hj : j < 16 := by simpa [setA_size] using h2
    rw [Array.getElem_setIfInBounds (by simpa [setA_size] using hj)]
    split
    · rename_i e; subst e; simp [setA, setC, hv]
    · rename_i e; simp [setA, setC, h j hj (fun q => e q.symm)]

theorem setA_inj {S T : Nat} (hS : Sm S) (hT : Sm T) (h : setA S = setA T) : S = T := by
  refine eq_of_wd hS hT fun i hi => ?_
  have := congrArg (fun x : Array Value => x[i]?) h
  simp only [setA_get _ _ hi, Option.some.injEq, Value.int.injEq, true_and] at this
  exact Int.ofNat.inj this

/-- The set of sixteen words. -/
def ofWords : List Nat → Nat
  | [] => 0
  | w :: ws => w + ofWords ws * 2 ^ 64
theorem ofWords_lt : ∀ (l : List Nat), (∀ w ∈ l, w < 2 ^ 64) → ofWords l < 2 ^ (64 * l.length)
  | [], _ => by simp [ofWords]
  | w :: ws, h => by
    have h1 := h w (by simp)
    have h2 := ofWords_lt ws (fun x hx => h x (by simp [hx]))
    simp only [ofWords, List.length_cons]
    rw [show 64 * (ws.length + 1) = 64 * ws.length + 64 from by omega, Nat.pow_add]
    have h3 : ofWords ws + 1 ≤ 2 ^ (64 * ws.length) := h2
    have := Nat.mul_le_mul_right (2 ^ 64) h3
    rw [Nat.succ_mul] at this
    omega
theorem wd_ofWords : ∀ (l : List Nat) (i : Nat), (∀ w ∈ l, w < 2 ^ 64) → i < l.length → wd (ofWords l) i = l.getD i 0
  | [], i, _, h => by simp at h
  | w :: ws, 0, hw, _ => by
    have h1 := hw w (by simp)
    simp only [wd, ofWords, Nat.mul_zero, Nat.shiftRight_zero, List.getD_cons_zero]
    rw [Nat.add_mul_mod_self_right, Nat.mod_eq_of_lt h1]
  | w :: ws, i + 1, hw, h => by
    have h1 := hw w (by simp)
    have := wd_ofWords ws i (fun x hx => hw x (by simp [hx])) (by simpa using h)
    simp only [List.getD_cons_succ]
    rw [← this]
    simp only [wd, ofWords]
    rw [show 64 * (i + 1) = 64 + 64 * i from by omega, Nat.shiftRight_add]
    congr 2
    rw [Nat.shiftRight_eq_div_pow, Nat.add_mul_div_right _ _ (by decide), Nat.div_eq_of_lt h1, Nat.zero_add]

/-- Sixteen cells that are well-formed words are a set's. -/
theorem setC_of {cs : List Value} (hl : cs.length = 16) (h : ∀ i, i < 16 → ∃ n, (cs.drop i).take 1 = [Value.int .u64 n] ∧ (Lit.int .u64 n).wf = true) : ∃ S, Sm S ∧ cs = setC S := by
  have key : ∀ m, m ≤ 16 → ∃ l : List Nat, l.length = m ∧ (∀ w ∈ l, w < 2 ^ 64) ∧ cs.take m = l.map fun (w : Nat) => Value.int .u64 (w : Int) := by
    intro m
    induction m with
    | zero => exact fun _ => ⟨[], rfl, by simp, rfl⟩
    | succ m ih =>
      intro hm
      obtain ⟨l, h1, h2, h3⟩ := ih (by omega)
      obtain ⟨n, e, wf⟩ := h m (by omega)
      have b := bounds_u64 wf
      have e2 : cs[m]? = some (Value.int .u64 n) := by
        have := congrArg (fun x : List Value => x[0]?) e
        simpa [List.getElem?_take, List.getElem?_drop] using this
      obtain ⟨q, rfl⟩ := Int.eq_ofNat_of_zero_le b.1
      refine ⟨l ++ [q], by simp [h1], ?_, ?_⟩
      · intro w hw
        rcases List.mem_append.1 hw with hw | hw
        · exact h2 w hw
        · simp at hw; subst hw; have := b.2; omega
      · rw [List.take_add_one, h3, e2]; simp
  obtain ⟨l, h1, h2, h3⟩ := key 16 (Nat.le_refl _)
  refine ⟨ofWords l, ?_, ?_⟩
  · intro n hn
    exact Nat.testBit_lt_two_pow (Nat.lt_of_lt_of_le (ofWords_lt l h2) (Nat.pow_le_pow_right (by decide) (by rw [h1]; omega)))
  · rw [List.take_of_length_le (by omega)] at h3
    rw [h3]
    apply List.ext_getElem?
    intro i
    by_cases hi : i < 16
    · rw [setC_get _ _ hi, wd_ofWords l i h2 (by omega), List.getElem?_map, List.getD_eq_getElem?_getD, List.getElem?_eq_getElem (by omega)]; rfl
    · rw [List.getElem?_eq_none (by simp; omega), List.getElem?_eq_none (by rw [setC_length]; omega)]

theorem flat_set {P : Program} {t e : TypeId} (ht : P.underlying t = some (.array 16 e)) (he : P.underlying e = some (.int .u64)) (hc : P.cellsOf e = 1) (hs : P.cellsOf t = 16) :
    Flat P t (fun cs => ∃ S, cs = setC S ∧ Sm S) := by
  intro H enc w base spare held fuel cs x h
  obtain ⟨h1, h2⟩ := flat_array ht (flat_int he) h
  rw [hc] at h2
  rw [hs] at h1
  obtain ⟨S, a, b⟩ := setC_of h1 (fun i hi => by simpa using h2 i hi)
  exact ⟨S, b, a⟩

/-! ### '==' -/
theorem u64_wf (n : Nat) (h : n < 2 ^ 64) : (Lit.int .u64 (n : Int)).wf = true := by go_wf
theorem keyLits_set {P : Program} {t e : TypeId} (ht : P.underlying t = some (.array 16 e)) (he : P.underlying e = some (.int .u64)) (hc : P.cellsOf e = 1) (hs : P.cellsOf t = 16) (D S : Nat) :
    P.keyLits (D + 2) t (setC S) = some ((List.range 16).map fun i => Lit.int .u64 (wd S i)) := by
  unfold Program.keyLits
  simp only [ht, setC_length, hs, if_true, hc, Nat.mul_one]
  have : (List.range 16).mapM (fun i => P.keyLits (D + 1) e (((setC S).drop i).take 1)) = some ((List.range 16).map fun i => [Lit.int .u64 (wd S i)]) := by
    have g : ∀ l : List Nat, (∀ i ∈ l, i < 16) → l.mapM (fun i => P.keyLits (D + 1) e (((setC S).drop i).take 1)) = some (l.map fun i => [Lit.int .u64 (wd S i)]) := by
      intro l
      induction l with
      | nil => intro _; rfl
      | cons i l ih =>
        intro h
        have e1 : ((setC S).drop i).take 1 = [.int .u64 (wd S i)] := by
          have hi := h i (by simp)
          apply List.ext_getElem?
          intro j
          cases j with
          | zero => simp [setC_get _ _ hi]
          | succ j => simp [List.getElem?_take]
        rw [List.mapM_cons, ih (fun j hj => h j (by simp [hj])), e1]
        unfold Program.keyLits
        simp [he, u64_wf _ (wd_lt S i)]
    exact g _ (by simp)
  rw [this]
  simp only [Option.map_some, Option.some.injEq]
  generalize List.range 16 = l
  induction l with
  | nil => rfl
  | cons a l ih => simp [ih]

theorem run_eq_set {P : Program} {t e : TypeId} (ht : P.underlying t = some (.array 16 e)) (he : P.underlying e = some (.int .u64)) (hc : P.cellsOf e = 1) (hs : P.cellsOf t = 16) (d : Nat) {S T : Nat} (hS : Sm S) (hT : Sm T) (w : World) :
    (Op.equalIn (d + 2) t (.agg (setA S)) (.agg (setA T))).run P w = .ok (decide (S = T)) w := by
  have hk : P.keyTypeAt 2 t = true := by simp [Program.keyTypeAt, ht, he]
  have f : ∀ U, (Value.agg (setA U)).formed P t = true := fun U => by simp [Value.formed, ht, hs, setA_size]
  obtain ⟨r, hr, hi⟩ := run_equalIn_deep d 2 t hk w 2 2 _ _ _ _ (f S) (f T) (keyLits_set ht he hc hs 0 S) (keyLits_set ht he hc hs 0 T)
  rw [hr]
  congr 1
  rw [Bool.eq_iff_iff, hi, decide_eq_true_iff]
  constructor
  · intro h
    refine eq_of_wd hS hT fun i hi => ?_
    have := congrArg (fun x : List Lit => x[i]?) h
    simp [hi] at this
    exact Int.ofNat.inj this
  · rintro rfl; rfl

/-! ### single workers -/
/-- Is n in the set? -/
def has (S : Nat) (n : Int) : Bool := decide (0 ≤ n) && S.testBit n.toNat
theorem has_nat (S n : Nat) : has S n = S.testBit n := by simp [has]
theorem has_neg (S : Nat) (n : Int) (h : n < 0) : has S n = false := by simp [has]; omega
theorem has_big {S : Nat} (hS : Sm S) {n : Int} (h : 1024 ≤ n) : has S n = false := by
  simp only [has, Bool.and_eq_false_iff]
  exact .inr (hS _ (by omega))
theorem has_word (S n : Nat) : (wd S (n / 64) / 2 ^ (n % 64)) % 2 = (S.testBit n).toNat := by
  have h := testBit_wd S (n / 64) (n % 64)
  rw [show 64 * (n / 64) + n % 64 = n from by omega, show decide (n % 64 < 64) = true from by simp; omega, Bool.true_and] at h
  rw [← h, Nat.testBit_eq_decide_div_mod_eq]
  have : wd S (n / 64) / 2 ^ (n % 64) % 2 < 2 := Nat.mod_lt _ (by decide)
  by_cases e : wd S (n / 64) / 2 ^ (n % 64) % 2 = 1
  · simp [e]
  · have : wd S (n / 64) / 2 ^ (n % 64) % 2 = 0 := by omega
    simp [this]

/-- With one more. -/
def put (S : Nat) (n : Int) : Nat := if 0 ≤ n ∧ n < 1024 then S ||| 2 ^ n.toNat else S
/-- Without one. -/
def drop (S : Nat) (n : Int) : Nat := if 0 ≤ n ∧ n < 1024 then S ^^^ (S &&& 2 ^ n.toNat) else S
theorem testBit_put (S : Nat) (n : Int) (m : Nat) : (put S n).testBit m = (S.testBit m || decide ((m : Int) = n ∧ n < 1024)) := by
  unfold put
  split
  · rename_i h
    rw [Nat.testBit_or, Nat.testBit_two_pow]
    congr 1
    rw [decide_eq_decide]
    omega
  · rename_i h
    rw [show decide ((m : Int) = n ∧ n < 1024) = false from by simp; omega, Bool.or_false]
theorem testBit_drop (S : Nat) (n : Int) (m : Nat) : (drop S n).testBit m = (S.testBit m && !decide ((m : Int) = n ∧ n < 1024)) := by
  unfold drop
  split
  · rename_i h
    rw [Nat.testBit_xor, Nat.testBit_and, Nat.testBit_two_pow]
    rw [show decide ((m : Int) = n ∧ n < 1024) = decide (n.toNat = m) from by rw [decide_eq_decide]; omega]
    cases S.testBit m <;> cases decide (n.toNat = m) <;> rfl
  · rename_i h
    rw [show decide ((m : Int) = n ∧ n < 1024) = false from by simp; omega, Bool.not_false, Bool.and_true]

theorem put_sm {S : Nat} (hS : Sm S) (n : Int) : Sm (put S n) := fun m hm => by rw [testBit_put, hS m hm]; simp; omega
theorem drop_sm {S : Nat} (hS : Sm S) (n : Int) : Sm (drop S n) := fun m hm => by rw [testBit_drop, hS m hm]; simp
theorem testBit_pow_word (n i j : Nat) : (2 ^ n).testBit (64 * i + j) = decide (n = 64 * i + j) := Nat.testBit_two_pow
end Go.Proofs.Ytkebpmcgmmhifaa

/- Strings as lists of bytes; slices of bytes; slices.Reverse of bytes of the call's own. -/
import Derived.Test.YtkebpmcgmmhifaaOwn
import Derived.Laws.BytesArg
namespace Go.Proofs.Ytkebpmcgmmhifaa
open Go.RowKit Go.WideShapes Go.ChangeShapes

/-- The string of these bytes. -/
def str (l : List UInt8) : ByteArray := ⟨l.toArray⟩
theorem str_data (l : List UInt8) : (str l).data.toList = l := by simp [str]
theorem str_size (l : List UInt8) : (str l).size = l.length := by simp [str, ByteArray.size]
theorem str_append (a b : List UInt8) : str a ++ str b = str (a ++ b) := by
  apply Go.WideShapes.bytes_inj
  rw [str_data, Go.Joins.data_append, str_data, str_data]
theorem str_of (s : ByteArray) : str s.data.toList = s := by cases s; simp [str]
theorem str_inj {a b : List UInt8} (h : str a = str b) : a = b := by rw [← str_data a, h, str_data]

def eByte : Enc UInt8 := ⟨1, fun b => [.int .u8 (b.toNat : Int)], fun _ => rfl, fun _ u hu => by simp at hu; subst hu; rfl⟩
theorem eByte_all (xs : List UInt8) : eByte.all xs = xs.map fun b => Value.int .u8 (b.toNat : Int) := by
  induction xs with
  | nil => rfl
  | cons x xs ih => simp only [Enc.all, List.flatMap_cons, eByte, List.map_cons, List.cons_append, List.nil_append] at *; rw [ih]

theorem slByte : SlT Try.prog 38 5 eByte 1 := slT_of Try.underlying38 (z := .int .u8 0) (by kernel_rfl) rfl Nat.one_pos (by omega)

/-- string(b), b a slice of bytes in memory. -/
theorem run_bytes_str {w : World} {b off : Nat} {xs : List UInt8} (src dst e : TypeId) (hs : Try.prog.underlying src = some (.slice e)) (he : Try.prog.underlying e = some (.int .u8)) (hd : Try.prog.underlying dst = some .string)
    (h : Reads w (some ⟨b, off, none⟩) (eByte.all xs)) (cap : Nat) : (convert src dst (.slice (some ⟨b, off, none⟩) xs.length cap)).run Try.prog w = .ok (.string (str xs)) w := by
  rw [eByte_all] at h
  have hc : ∀ i, i < xs.length → w.cell? ⟨b, off + i, none⟩ = some (.int .u8 ((xs.map fun b => (b.toNat : Int)).getD i 0)) := fun i hi => by
    obtain ⟨b', off', e', hc⟩ := h i (.int .u8 ((xs[i]).toNat : Int)) (by simp [hi])
    injection e' with e'
    injection e' with h1 h2
    subst h1 h2
    rw [hc]; simp [hi]
  have := run_convert_bytes_arg w src e hs he b off xs.length cap (xs.map fun b => (b.toNat : Int)) (by simp) hc dst hd
  rw [this]
  congr 2
  apply Go.WideShapes.bytes_inj
  rw [strOfNums_data, str_data, List.map_map]
  conv => rhs; rw [← List.map_id xs]
  refine List.map_congr_left fun b _ => ?_
  simp
theorem run_nil_str {w : World} (src dst e : TypeId) (hs : Try.prog.underlying src = some (.slice e)) (he : Try.prog.underlying e = some (.int .u8)) (hd : Try.prog.underlying dst = some .string) (l c : Nat) :
    (convert src dst (.slice none l c)).run Try.prog w = .ok (.string (str [])) w := run_convert_bytes_nil w src e hs he l c dst hd
theorem OwnR.str {w : World} {base e' : Nat} {v : Value} {xs : List UInt8} (src dst e : TypeId) (hs : Try.prog.underlying src = some (.slice e)) (he : Try.prog.underlying e = some (.int .u8)) (hd : Try.prog.underlying dst = some .string)
    (h : OwnR w base e' eByte v xs) : (convert src dst v).run Try.prog w = .ok (.string (str xs)) w := by
  have hr := h.reads
  rcases h.2 with ⟨rfl, h0⟩ | ⟨g, cap, cur, rfl, _⟩
  · obtain rfl : xs = [] := List.length_eq_zero_iff.1 h0
    exact run_nil_str src dst e hs he hd 0 0
  · obtain ⟨A, cap', e1, _, _, _, hr⟩ := hr
    injection e1 with e1 _ e3
    subst e1 e3
    exact run_bytes_str src dst e hs he hd hr cap
end Go.Proofs.Ytkebpmcgmmhifaa

/- Plain lemmas on whole numbers, bits and rounds, used by all proofs of this seat. -/
import Derived.Test.YtjdcnpgemlhdfaaWWords
import Derived.Test.YtjdcnpgemlhdfaaWMore
import Derived.Laws.BitsLemmas
import Derived.Lib.Bytealg
import Derived.Lib.Bytes
import Derived.Laws.BytesArg
namespace Go.Proofs.Ytjdcnpgemlhdfaa.Pure
open Go.RowKit Go.Proofs.YtjdcnpgemlhdfaaW.PrintWords
set_option linter.unusedVariables false
set_option linter.unusedSimpArgs false
theorem w64 {x : Int} (h0 : -9223372036854775808 ≤ x) (h1 : x < 9223372036854775808) : wrap64 x = x := by unfold wrap64; omega
theorem w32 {x : Int} (h0 : -2147483648 ≤ x) (h1 : x < 2147483648) : wrap32 x = x := by unfold wrap32; omega
theorem wu64 {x : Int} (h0 : 0 ≤ x) (h1 : x < 18446744073709551616) : IntKind.u64.wrap x = x := by
  simp [IntKind.wrap, IntKind.bits, IntKind.signed]; omega
theorem wraps_i64 (n : Int) (h₀ : 0 ≤ n) (h₁ : n < 2 ^ 63) : IntKind.i64.wrap n = n := by rw [IntKind.wrap_i64]; omega
theorem and31 {x : Int} (h0 : 0 ≤ x) (h1 : x < 9223372036854775808) : Go.bits .and .i64 x 31 = x % 32 := bits_mask .i64 63 (by decide) wraps_i64 5 (by decide) x h0 h1
theorem or64 (i : Nat) {x y : Int} (h0 : 0 ≤ x) (h1 : x % 2 ^ i = 0) (h2 : x < 9223372036854775808) (h3 : 0 ≤ y) (h4 : y < 2 ^ i) (h5 : y < 9223372036854775808) : Go.bits .or .i64 x y = x + y := bits_join .i64 63 (by decide) wraps_i64 i x y h0 h1 h2 h3 h4 h5
theorem u8_wf {x : Int} (h : (Lit.int .u8 x).wf = true) : 0 ≤ x ∧ x < 256 := by
  simp only [Lit.wf, IntKind.min, IntKind.max, IntKind.signed, IntKind.bits, Bool.and_eq_true, decide_eq_true_eq] at h
  simp at h; omega
theorem i32_wf {x : Int} (h : (Lit.int .i32 x).wf = true) : -2147483648 ≤ x ∧ x < 2147483648 := by
  simp only [Lit.wf, IntKind.min, IntKind.max, IntKind.signed, IntKind.bits, Bool.and_eq_true, decide_eq_true_eq] at h
  simp at h; omega
theorem i64_wf {x : Int} (h : (Lit.int .i64 x).wf = true) : -9223372036854775808 ≤ x ∧ x < 9223372036854775808 := by
  simp only [Lit.wf, IntKind.min, IntKind.max, IntKind.signed, IntKind.bits, Bool.and_eq_true, decide_eq_true_eq] at h
  simp at h; omega
/-- A fact for all of a range of whole numbers, out of a check of each. -/
theorem forall_range {p : Int → Prop} [DecidablePred p] (n : Nat) (h : ((List.range n).all fun i => decide (p (i : Int))) = true) {x : Int} (h0 : 0 ≤ x) (h1 : x < n) : p x := by
  obtain ⟨m, rfl⟩ := Int.eq_ofNat_of_zero_le h0
  rw [List.all_eq_true] at h
  exact of_decide_eq_true (h m (List.mem_range.2 (by omega)))
theorem Ev.at {α : Type} {g : Nat → Option α} {r : α} (h : Ev g r) : ∃ K, ∀ k, K ≤ k → g k = some r := h
/-- All of these are bytes. -/
def Bytes8 (xs : List Int) : Prop := ∀ x ∈ xs, 0 ≤ x ∧ x < 256
theorem bytesOf_str {xs : List Int} (h : Bytes8 xs) : bytesOf (strOfNums xs) = xs := by
  unfold bytesOf
  rw [strOfNums_data, List.map_map]
  conv => rhs; rw [← List.map_id xs]
  refine List.map_congr_left fun x hx => ?_
  have := h x hx
  simp only [Function.comp, id_eq, UInt8.toNat_ofNat']
  omega
theorem str_bytesOf (s : ByteArray) : strOfNums (bytesOf s) = s := by
  cases s with
  | mk d =>
    unfold strOfNums bytesOf
    congr 1
    rw [List.map_map]
    have : (List.map ((fun n : Int => UInt8.ofNat n.toNat) ∘ fun b : UInt8 => (b.toNat : Int)) d.toList) = d.toList := by
      conv => rhs; rw [← List.map_id d.toList]
      refine List.map_congr_left fun x _ => ?_
      simp
    rw [this]
theorem bytesOf_8 (s : ByteArray) : Bytes8 (bytesOf s) := by
  intro x hx
  obtain ⟨b, _, rfl⟩ := List.mem_map.1 hx
  have := b.toNat_lt
  omega
theorem bytesOf_inj {s t : ByteArray} (h : bytesOf s = bytesOf t) : s = t := by rw [← str_bytesOf s, h, str_bytesOf]
theorem bt_str {xs : List Int} (h : Bytes8 xs) (i : Int) : bt (strOfNums xs) i = rd xs i := by rw [← rd_bytesOf, bytesOf_str h]
theorem str_inj {xs ys : List Int} (hx : Bytes8 xs) (hy : Bytes8 ys) (h : strOfNums xs = strOfNums ys) : xs = ys := by rw [← bytesOf_str hx, h, bytesOf_str hy]
theorem toList_beq (s t : ByteArray) : (s.toList == t.toList) = decide (s = t) := by
  rw [Lib.toList_data, Lib.toList_data]
  by_cases h : s = t
  · subst h; simp
  · have : ¬ (s.data.toList = t.data.toList) := fun e => h (by cases s; cases t; congr 1; exact Array.toList_inj.1 e)
    rw [decide_eq_false h]
    exact beq_eq_false_iff_ne.mpr this
end Go.Proofs.Ytjdcnpgemlhdfaa.Pure

/- Johab, the document's search for a sign's code: what it comes to. -/
import Derived.Test.YtjdcnpgemlhdfaaLJohabBytesJohabRef
namespace Go.Proofs.Ytjdcnpgemlhdfaa.Pure
open Go.RowKit Go.Proofs.Ytjdcnpgemlhdfaa.PJohabBytes Go.Proofs.YtjdcnpgemlhdfaaW.PrintWords Go.Proofs.YtjdcnpgemlhdfaaW.PrintLast
set_option linter.unusedVariables false
set_option linter.unusedSimpArgs false
theorem jcode_search {p : Int} (h : 12593 ≤ p ∧ p ≤ 12643 ∨ 44032 ≤ p ∧ p < 55204) (d : Nat) : ∀ (c : Int) (k : Nat), 32768 ≤ c → c ≤ jcode p → jcode p - c = d → d + 50 ≤ k → diacriticref06_Code.l0 k p c = some (jcode p) := by
  have hj := jsign_jcode h
  induction d with
  | zero =>
    intro c k h0 h1 h2 h3
    obtain ⟨k, rfl⟩ : ∃ m, k = m + 1 := ⟨k - 1, by omega⟩
    have e : c = jcode p := by omega
    simp only [diacriticref06_Code.l0]
    rw [if_pos (by omega), sign_ref (by omega) k (by omega), e, hj.1]
    simp only [Option.bind_some, if_true]
  | succ d ih =>
    intro c k h0 h1 h2 h3
    obtain ⟨k, rfl⟩ : ∃ m, k = m + 1 := ⟨k - 1, by omega⟩
    simp only [diacriticref06_Code.l0]
    have hne : ¬ (jsign c = p) := by
      intro e
      have := (jcode_jsign (c := c) (by omega) (by omega)).1
      rw [e] at this
      omega
    rw [if_pos (by omega), sign_ref (by omega) k (by omega)]
    simp only [Option.bind_some]
    rw [if_neg hne, w64 (x := c + 1) (by omega) (by omega)]
    exact ih (c + 1) k (by omega) (by omega) (by omega) (by omega)
theorem code_ref {p : Int} (k : Nat) (hk : 40000 ≤ k) : diacriticref06_Code.f k p = some (jcode p) := by
  obtain ⟨k, rfl⟩ : ∃ m, k = m + 1 := ⟨k - 1, by omega⟩
  unfold diacriticref06_Code.f
  by_cases h1 : p < 12593
  · rw [if_pos h1]
    simp only [diacriticref06_Code.j0]
    rw [if_pos trivial, jcode_none (by omega)]
  rw [if_neg h1]
  by_cases h2 : p > 55203
  · rw [if_pos h2]
    simp only [diacriticref06_Code.j0]
    rw [if_pos trivial, jcode_none (by omega)]
  rw [if_neg h2]
  by_cases h3 : p > 12643
  · rw [if_pos h3]
    simp only [diacriticref06_Code.j0]
    by_cases h4 : p < 44032
    · rw [decide_eq_true h4, if_pos rfl, jcode_none (by omega)]
    · rw [decide_eq_false h4, if_neg (by decide)]
      have := jsign_jcode (p := p) (by omega)
      exact jcode_search (by omega) (jcode p - 32768).toNat 32768 k (by omega) (by omega) (by omega) (by omega)
  · rw [if_neg h3]
    simp only [diacriticref06_Code.j0]
    rw [if_neg (by decide)]
    have := jsign_jcode (p := p) (by omega)
    exact jcode_search (by omega) (jcode p - 32768).toNat 32768 k (by omega) (by omega) (by omega) (by omega)
end Go.Proofs.Ytjdcnpgemlhdfaa.Pure

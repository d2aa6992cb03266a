/- Johab, the document's function: what it comes to. -/
import Derived.Test.YtjdcnpgemlhdfaaLJohabAllJohab
namespace Go.Proofs.Ytjdcnpgemlhdfaa.Pure
open Go.RowKit Go.Proofs.Ytjdcnpgemlhdfaa.PJohabAll Go.Proofs.YtjdcnpgemlhdfaaW.PrintWords Go.Proofs.YtjdcnpgemlhdfaaW.PrintLast
set_option linter.unusedVariables false
set_option linter.unusedSimpArgs false
theorem jmed_ref {c : Int} (h0 : 0 ≤ c) (h1 : c < 32) : diacriticref06_Medial.f c = some (jmed c) :=
  forall_range (p := fun c => diacriticref06_Medial.f c = some (jmed c)) 32 (by decide +kernel) h0 h1
theorem jfin_ref {c : Int} (h0 : 0 ≤ c) (h1 : c < 32) : diacriticref06_Final.f 4 c = some (jfin c) :=
  forall_range (p := fun c => diacriticref06_Final.f 4 c = some (jfin c)) 32 (by decide +kernel) h0 h1
theorem jal_i_ref {i : Int} (h0 : 0 ≤ i) (h1 : i < 19) : diacriticref06_Alone.f 40 i = some (jal i) :=
  forall_range (p := fun i => diacriticref06_Alone.f 40 i = some (jal i)) 19 (by decide +kernel) h0 h1
theorem jal_f_ref {f : Int} (h0 : 0 ≤ f) (h1 : f < 28) : 0 < f → diacriticref06_Alone.f 40 (100 + f) = some (jal (100 + f)) :=
  forall_range (p := fun f => 0 < f → diacriticref06_Alone.f 40 (100 + f) = some (jal (100 + f))) 28 (by decide +kernel) h0 h1

theorem sign_ref {c : Int} (hc : 0 ≤ c ∧ c < 65536) (k : Nat) (hk : 48 ≤ k) : diacriticref06_Sign.f k c = some (jsign c) := by
  refine at_rounds (diacriticref06_Sign.mono c) hk ?_
  have hm := jmed_all (c := c / 32 % 32) (by omega) (by omega)
  have hf := jfin_all (c := c % 32) (by omega) (by omega)
  have hm' := jmed_ref (c := c / 32 % 32) (by omega) (by omega)
  have hf' := jfin_ref (c := c % 32) (by omega) (by omega)
  unfold diacriticref06_Sign.f jsign js
  by_cases h0 : c < 32768
  · rw [if_pos h0, if_pos h0]
  rw [if_neg h0, if_neg h0]
  rw [Int.tdiv_eq_ediv_of_nonneg hc.1, Int.tdiv_eq_ediv_of_nonneg hc.1, w64 (x := c / 32) (by omega) (by omega), w64 (x := c / 1024) (by omega) (by omega),
    Int.tmod_eq_emod_of_nonneg (by omega : 0 ≤ c / 32), Int.tmod_eq_emod_of_nonneg (by omega : 0 ≤ c / 1024), Int.tmod_eq_emod_of_nonneg hc.1, hm', at_rounds (diacriticref06_Final.mono _) (by decide : 4 ≤ 48) hf', w64 (x := c / 1024 % 32 - 2) (by omega) (by omega)]
  simp only [Option.bind_some]
  clear hm' hf'
  generalize hi : c / 1024 % 32 - 2 = i
  generalize jmed (c / 32 % 32) = m at hm
  generalize jfin (c % 32) = f at hf
  have hi1 : -2 ≤ i ∧ i < 30 := by omega
  by_cases h2 : i < -1
  · rw [if_pos h2, if_pos (Or.inl h2)]; rfl
  rw [if_neg h2]
  by_cases h3 : i > 18
  · rw [if_pos h3, if_pos (by omega)]; rfl
  rw [if_neg h3]
  by_cases h4 : m = -2
  · rw [if_pos h4, if_pos (by omega)]; rfl
  rw [if_neg h4]
  by_cases h5 : f = -2
  · rw [beq_iff_eq.mpr h5, if_pos (by omega)]; rfl
  rw [beq_eq_false_iff_ne.mpr h5, if_neg (by omega)]
  simp only [diacriticref06_Sign.j0, if_neg (show ¬ (false = true) by decide)]
  by_cases h6 : i ≥ 0
  · rw [if_pos h6]
    simp only [diacriticref06_Sign.j1]
    by_cases h7 : m ≥ 0
    · rw [decide_eq_true h7, if_pos rfl, if_pos (by omega)]
      rw [w64 (x := i * 21) (by omega) (by omega), w64 (x := i * 21 + m) (by omega) (by omega), w64 (x := (i * 21 + m) * 28) (by omega) (by omega), w64 (x := 44032 + (i * 21 + m) * 28) (by omega) (by omega), w64 (x := 44032 + (i * 21 + m) * 28 + f) (by omega) (by omega), w32 (by omega) (by omega)]
    · rw [decide_eq_false h7, if_neg (by decide), if_neg (by omega), if_neg (by omega), if_neg (by omega)]
      simp only [diacriticref06_Sign.j2]
      rw [if_neg (by decide), if_pos h6, if_pos (by omega)]
      simp only [diacriticref06_Sign.j3]
      by_cases h8 : f = 0
      · rw [beq_iff_eq.mpr h8, if_pos rfl, if_pos (by omega), at_rounds (diacriticref06_Alone.mono _) (by decide : 40 ≤ 44) (jal_i_ref (i := i) (by omega) (by omega))]
        simp only [Option.bind_some]
      · rw [beq_eq_false_iff_ne.mpr h8, if_neg (by decide), if_neg (by omega), if_neg (by omega), if_neg (by omega)]
  · rw [if_neg h6]
    simp only [diacriticref06_Sign.j1]
    rw [if_neg (by decide), if_pos (by omega)]
    by_cases h7 : m ≥ 0
    · rw [if_pos h7]
      simp only [diacriticref06_Sign.j2]
      by_cases h8 : f = 0
      · rw [beq_iff_eq.mpr h8, if_pos rfl, if_neg (by omega), if_pos (by omega), w64 (x := 12623 + m) (by omega) (by omega), w32 (by omega) (by omega)]
      · rw [beq_eq_false_iff_ne.mpr h8, if_neg (by decide), if_neg h6]
        simp only [diacriticref06_Sign.j3]
        rw [if_neg (by decide), if_pos (by omega), if_neg (by omega), if_neg (by omega), if_neg (by omega), if_neg (by omega), if_neg (by omega)]
    · rw [if_neg h7]
      simp only [diacriticref06_Sign.j2]
      rw [if_neg (by decide), if_neg h6]
      simp only [diacriticref06_Sign.j3]
      rw [if_neg (by decide), if_pos (by omega), if_pos (by omega)]
      by_cases h8 : f = 0
      · rw [if_neg (by omega), if_neg (by omega), if_neg (by omega), if_neg (by omega), if_neg (by omega)]
      · rw [if_pos (by omega), if_neg (by omega), if_neg (by omega), if_neg (by omega), if_pos (by omega), w64 (x := 100 + f) (by omega) (by omega), at_rounds (diacriticref06_Alone.mono _) (by decide : 40 ≤ 44) (jal_f_ref (f := f) (by omega) (by omega) (by omega))]
        simp only [Option.bind_some]
end Go.Proofs.Ytjdcnpgemlhdfaa.Pure

/- The two bytes of any sign in Johab, or that there are none, are the document's, and they lead back to the sign. For all signs, without a condition. -/
import Derived.Test.YtjdcnpgemlhdfaaLJohabBytesJohabCode
namespace Go.Proofs.Ytjdcnpgemlhdfaa.Pure
open Go.RowKit Go.Proofs.Ytjdcnpgemlhdfaa.PJohabBytes Go.Proofs.YtjdcnpgemlhdfaaW.PrintWords Go.Proofs.YtjdcnpgemlhdfaaW.PrintLast
theorem awake_true (k : Nat) (hk : 60 ≤ k) : diacriticlaw06_awake.f k = some true := at_rounds diacriticlaw06_awake.mono hk (by decide +kernel)

theorem JohabBytes : diacriticlaw06_JohabBytes.Pure := by
  intro p hp
  replace hp := i32_wf hp
  refine ⟨50001, ?_⟩
  unfold diacriticlaw06_JohabBytes.f
  rw [bytes_impl hp _ (by decide), code_ref _ (by decide)]
  simp only [Option.bind_some]
  by_cases h : 12593 ≤ p ∧ p ≤ 12643 ∨ 44032 ≤ p ∧ p < 55204
  · have hj := jsign_jcode h
    rw [if_neg (show ¬ (jcode p < 0) by omega), if_neg (show ¬ (jcode p < 0) by omega)]
    simp only [if_true]
    have e : (strOfNums ([(wrap64 (Int.tdiv (jcode p) 256)) % 256, (Int.tmod (jcode p) 256) % 256] : List Int)) = two2 (jcode p) := by
      rw [Int.tdiv_eq_ediv_of_nonneg (by omega), Int.tmod_eq_emod_of_nonneg (by omega), w64 (by omega) (by omega), show jcode p % 256 % 256 = jcode p % 256 by omega]; rfl
    rw [e, show ((two2 (jcode p)).toList != (two2 (jcode p)).toList) = false from bne_eq_false_iff_eq.mpr rfl]
    simp only [diacriticlaw06_JohabBytes.j0, if_neg (show ¬ (false = true) by decide)]
    have hs : (two2 (jcode p)).size = 2 := rfl
    rw [hs, if_pos (by decide), if_pos (by decide), show two2 (jcode p) = strOfNums [jcode p / 256 % 256, jcode p % 256] from rfl, bt_str (two2_8 _), bt_str (two2_8 _),
      show rd [jcode p / 256 % 256, jcode p % 256] 0 = jcode p / 256 % 256 from rfl, show rd [jcode p / 256 % 256, jcode p % 256] 1 = jcode p % 256 from rfl, sign_impl (by omega) (by omega) _ (by decide), awake_true _ (by decide)]
    rw [show jcode p / 256 % 256 * 256 + jcode p % 256 = jcode p by omega, hj.1]
    simp only [Option.bind_some, if_true]
    rw [decide_eq_true (show p ≠ 0 by omega)]
    simp
  · rw [jcode_none h, if_pos (show (-1 : Int) < 0 by decide), if_pos (show (-1 : Int) < 0 by decide), awake_true _ (by decide)]
    decide +kernel
end Go.Proofs.Ytjdcnpgemlhdfaa.Pure

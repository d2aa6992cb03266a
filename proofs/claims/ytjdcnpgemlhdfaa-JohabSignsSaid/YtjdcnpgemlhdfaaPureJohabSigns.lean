/- The sign of any two bytes in Johab, or that there is none, is the document's, and a sign's bytes lead back to the two bytes it was read of. For all two bytes, without a condition. -/
import Derived.Test.YtjdcnpgemlhdfaaLJohabSignsJohabRef
namespace Go.Proofs.Ytjdcnpgemlhdfaa.Pure
open Go.RowKit Go.Proofs.Ytjdcnpgemlhdfaa.PJohabSigns Go.Proofs.YtjdcnpgemlhdfaaW.PrintWords Go.Proofs.YtjdcnpgemlhdfaaW.PrintLast
theorem awake_true (k : Nat) (hk : 60 ≤ k) : diacriticlaw06_awake.f k = some true := at_rounds diacriticlaw06_awake.mono hk (by decide +kernel)

theorem JohabSigns : diacriticlaw06_JohabSigns.Pure := by
  intro a b ha hb
  replace ha := u8_wf ha
  replace hb := u8_wf hb
  refine ⟨100, ?_⟩
  unfold diacriticlaw06_JohabSigns.f
  rw [sign_impl ha hb 100 (by decide), w64 (x := a) (by omega) (by omega), w64 (x := a * 256) (by omega) (by omega), w64 (x := b) (by omega) (by omega), w64 (x := a * 256 + b) (by omega) (by omega), sign_ref (by omega) 100 (by decide)]
  simp only [Option.bind_some]
  have hj := jcode_jsign (c := a * 256 + b) (by omega)
  generalize jsign (a * 256 + b) = p at hj
  by_cases h : p = 0
  · subst h
    rw [if_neg (by decide), show ((0 : Int) != 0) = false by decide]
    simp only [diacriticlaw06_JohabSigns.j0, if_neg (show ¬ (false = true) by decide), show decide ((0 : Int) ≠ 0) = false by decide]
    rw [awake_true _ (by decide)]; rfl
  · obtain ⟨h1, h2⟩ := hj h
    rw [decide_eq_true h, show (p != 0) = true from bne_iff_ne.mpr h, if_neg (by decide), show (p != p) = false from bne_eq_false_iff_eq.mpr rfl]
    simp only [diacriticlaw06_JohabSigns.j0, if_neg (show ¬ (false = true) by decide), if_true]
    rw [bytes_impl (by omega) _ (by decide), h1, if_neg (by omega), awake_true _ (by decide)]
    simp only [Option.bind_some, if_true]
    have hs : (two2 (a * 256 + b)).size = 2 := rfl
    rw [hs, show two2 (a * 256 + b) = strOfNums [(a * 256 + b) / 256 % 256, (a * 256 + b) % 256] from rfl, bt_str (two2_8 _), bt_str (two2_8 _)]
    rw [if_pos (by decide), if_pos (by decide), show rd [(a * 256 + b) / 256 % 256, (a * 256 + b) % 256] 0 = (a * 256 + b) / 256 % 256 from rfl, show rd [(a * 256 + b) / 256 % 256, (a * 256 + b) % 256] 1 = (a * 256 + b) % 256 from rfl,
      if_pos (by omega), if_pos (by decide), show (a * 256 + b) % 256 = b by omega]
    simp
end Go.Proofs.Ytjdcnpgemlhdfaa.Pure

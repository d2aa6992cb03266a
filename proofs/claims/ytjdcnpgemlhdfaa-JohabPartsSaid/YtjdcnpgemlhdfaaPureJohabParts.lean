/- The syllable of any three parts in Johab, or that there is none, is the document's, and it has two bytes. For all three whole numbers of 64 bits, without a condition. -/
import Derived.Test.YtjdcnpgemlhdfaaLJohabPartsJohab
namespace Go.Proofs.Ytjdcnpgemlhdfaa.Pure
open Go.RowKit Go.Proofs.Ytjdcnpgemlhdfaa.PJohabParts Go.Proofs.YtjdcnpgemlhdfaaW.PrintWords Go.Proofs.YtjdcnpgemlhdfaaW.PrintLast
theorem awake_true (k : Nat) (hk : 60 ≤ k) : diacriticlaw06_awake.f k = some true := at_rounds diacriticlaw06_awake.mono hk (by decide +kernel)

theorem JohabParts : diacriticlaw06_JohabParts.Pure := by
  intro i m f hi hm hf
  replace hi := i64_wf hi
  replace hm := i64_wf hm
  replace hf := i64_wf hf
  refine ⟨100, ?_⟩
  have no : ∀ r : Int × Bool, r = (0, false) → diacriticlaw06_JohabParts.j0 100 i m f r.1 r.2 false = some true := by
    intro r hr
    subst hr
    simp only [diacriticlaw06_JohabParts.j0, if_neg (show ¬ (false = true) by decide)]
    rw [awake_true _ (by decide)]; rfl
  unfold diacriticlaw06_JohabParts.f johab_Syllable.f
  by_cases h1 : i < 0
  · rw [if_pos h1]; simp only [Option.bind_some]; rw [if_neg (by omega)]; exact no _ rfl
  rw [if_neg h1]
  by_cases h2 : i ≥ 19
  · rw [if_pos h2]; simp only [Option.bind_some]; rw [if_pos (by omega), if_neg (by omega)]; exact no _ rfl
  rw [if_neg h2]
  by_cases h3 : m < 0
  · rw [if_pos h3]; simp only [Option.bind_some]; rw [if_pos (by omega), if_pos (by omega), if_neg (by omega)]; exact no _ rfl
  rw [if_neg h3]
  by_cases h4 : m ≥ 21
  · rw [if_pos h4]; simp only [Option.bind_some]; rw [if_pos (by omega), if_pos (by omega), if_pos (by omega), if_neg (by omega)]; exact no _ rfl
  rw [if_neg h4]
  by_cases h5 : f < 0
  · rw [if_pos h5]; simp only [Option.bind_some]; rw [if_pos (by omega), if_pos (by omega), if_pos (by omega), if_pos (by omega), if_neg (by omega)]; exact no _ rfl
  rw [if_neg h5]
  by_cases h6 : f ≥ 28
  · rw [if_pos h6]; simp only [Option.bind_some]; rw [if_pos (by omega), if_pos (by omega), if_pos (by omega), if_pos (by omega), if_pos (by omega), decide_eq_false (by omega)]; exact no _ rfl
  rw [if_neg h6]
  simp only [Option.bind_some]
  rw [if_pos (by omega), if_pos (by omega), if_pos (by omega), if_pos (by omega), if_pos (by omega), decide_eq_true (by omega)]
  rw [w64 (x := i * 21) (by omega) (by omega), w64 (x := i * 21 + m) (by omega) (by omega), w64 (x := (i * 21 + m) * 28) (by omega) (by omega), w64 (x := 44032 + (i * 21 + m) * 28) (by omega) (by omega), w64 (x := 44032 + (i * 21 + m) * 28 + f) (by omega) (by omega), w32 (by omega) (by omega)]
  simp only [diacriticlaw06_JohabParts.j0, if_true]
  rw [bytes_impl (by omega) _ (by decide)]
  have hc := jcode_syl (p := 44032 + (i * 21 + m) * 28 + f) (by omega)
  have hm' := jmc_all (m := (44032 + (i * 21 + m) * 28 + f - 44032) / 28 % 21) (by omega) (by omega)
  have hf' := jfc_all (f := (44032 + (i * 21 + m) * 28 + f - 44032) % 28) (by omega) (by omega)
  generalize jmc ((44032 + (i * 21 + m) * 28 + f - 44032) / 28 % 21) = M at hc hm'
  generalize jfc ((44032 + (i * 21 + m) * 28 + f - 44032) % 28) = F at hc hf'
  have hr : 0 ≤ (44032 + (i * 21 + m) * 28 + f - 44032) / 28 / 21 ∧ (44032 + (i * 21 + m) * 28 + f - 44032) / 28 / 21 < 19 := by omega
  generalize (44032 + (i * 21 + m) * 28 + f - 44032) / 28 / 21 = I at hc hr
  rw [hc, if_neg (by omega), awake_true _ (by decide)]
  simp only [Option.bind_some, if_true]
  rw [w64 (x := i * 21) (by omega) (by omega), w64 (x := i * 21 + m) (by omega) (by omega), w64 (x := (i * 21 + m) * 28) (by omega) (by omega), w64 (x := 44032 + (i * 21 + m) * 28) (by omega) (by omega), w64 (x := 44032 + (i * 21 + m) * 28 + f) (by omega) (by omega), if_pos rfl]
  have hs : (two2 (32768 + (I + 2) * 1024 + M * 32 + F)).size = 2 := rfl
  rw [hs, if_pos (by decide), if_pos (by decide), show two2 (32768 + (I + 2) * 1024 + M * 32 + F) = strOfNums [(32768 + (I + 2) * 1024 + M * 32 + F) / 256 % 256, (32768 + (I + 2) * 1024 + M * 32 + F) % 256] from rfl, bt_str (two2_8 _),
    show rd [(32768 + (I + 2) * 1024 + M * 32 + F) / 256 % 256, (32768 + (I + 2) * 1024 + M * 32 + F) % 256] 0 = (32768 + (I + 2) * 1024 + M * 32 + F) / 256 % 256 from rfl, if_pos (by omega), decide_eq_true (by omega)]
end Go.Proofs.Ytjdcnpgemlhdfaa.Pure

/- All pairs of Johab, by rising codes, are the document's, 11,223 of them, and no two have one sign. A closed sentence, without a condition. -/
import Derived.Test.YtjdcnpgemlhdfaaLJohabAllJohabSums
namespace Go.Proofs.Ytjdcnpgemlhdfaa.Pure
open Go.RowKit Go.Proofs.Ytjdcnpgemlhdfaa.PJohabAll Go.Proofs.YtjdcnpgemlhdfaaW.PrintWords Go.Proofs.YtjdcnpgemlhdfaaW.PrintLast
set_option linter.unusedVariables false
theorem jl_skip {n : Nat} {c : Int} (h : jsign c = 0) : jl (n + 1) c = jl n (c + 1) := by rw [jl, if_pos h]
theorem jl_take {n : Nat} {c : Int} (h : ¬ jsign c = 0) : jl (n + 1) c = (⟨c, jsign c⟩ : S37) :: jl n (c + 1) := by rw [jl, if_neg h]
theorem pairs_loop (n : Nat) : ∀ (c : Int) (xs : List S37) (k : Nat), c + n = 65536 → 32768 ≤ c → xs.length + n ≤ 32768 → n + 60 < k → johab_Pairs.l0 k xs c = some (xs ++ jl n c) := by
  induction n with
  | zero =>
    intro c xs k h0 h1 h2 h3
    obtain ⟨k, rfl⟩ : ∃ m, k = m + 1 := ⟨k - 1, by omega⟩
    simp only [johab_Pairs.l0, jl]
    rw [if_neg (by omega), List.append_nil]
  | succ n ih =>
    intro c xs k h0 h1 h2 h3
    obtain ⟨k, rfl⟩ : ∃ m, k = m + 1 := ⟨k - 1, by omega⟩
    simp only [johab_Pairs.l0]
    rw [if_pos (by omega), sign_impl (by omega) (by omega) _ (by omega), show c / 256 % 256 * 256 + c % 256 = c by omega]
    simp only [Option.bind_some]
    rw [w64 (x := c + 1) (by omega) (by omega)]
    by_cases h : jsign c = 0
    · rw [jl_skip h, if_neg (by rw [h]; decide)]
      exact ih (c + 1) xs k (by omega) (by omega) (by omega) (by omega)
    · rw [jl_take h, if_pos (decide_eq_true h), if_pos (by omega), ih (c + 1) (xs ++ [(⟨c, jsign c⟩ : S37)]) k (by omega) (by omega) (by rw [List.length_append, List.length_singleton]; omega) (by omega), List.append_assoc]
      rfl
theorem jsign_range (c : Int) (hc : 0 ≤ c ∧ c < 65536) : 0 ≤ jsign c ∧ jsign c < 55204 := by
  by_cases h : jsign c = 0
  · omega
  · have := (jcode_jsign hc h).2
    omega
theorem all_loop (n : Nat) : ∀ (c : Int) (pre : List S37) (s : Int) (k K : Nat), K = k + n + 1 → 60 ≤ k → c + n = 65536 → 32768 ≤ c → pre.length + n ≤ 32768 → 0 ≤ s → s + 55204 * n < 9223372036854775808 →
    diacriticlaw06_JohabAll.l0 K (pre ++ jl n c) pre.length s c = diacriticlaw06_JohabAll.l1 k (pre ++ jl n c) ((pre.length + (jl n c).length : Nat) : Int) (s + jsum (jl n c)) 0 12593 := by
  induction n with
  | zero =>
    intro c pre s k K hK hk h0 h1 h2 h3 h4
    obtain rfl : K = k + 1 := hK
    simp only [diacriticlaw06_JohabAll.l0, jl]
    rw [if_neg (by omega)]
    simp [jsum]
  | succ n ih =>
    intro c pre s k K hK hk h0 h1 h2 h3 h4
    obtain ⟨K, rfl⟩ : ∃ m, K = m + 1 := ⟨K - 1, by omega⟩
    simp only [diacriticlaw06_JohabAll.l0]
    rw [if_pos (by omega), sign_ref (by omega) _ (by omega)]
    simp only [Option.bind_some]
    rw [w64 (x := c + 1) (by omega) (by omega)]
    have hr := jsign_range c (by omega)
    by_cases h : jsign c = 0
    · simp only [jl_skip h]
      rw [if_pos h]
      exact ih (c + 1) pre s k K (by omega) hk (by omega) (by omega) (by omega) h3 (by omega)
    · have hlen : (pre ++ (⟨c, jsign c⟩ : S37) :: jl n (c + 1)).length = pre.length + 1 + (jl n (c + 1)).length := by rw [List.length_append, List.length_cons]; omega
      have hat : rd_T37 (pre ++ (⟨c, jsign c⟩ : S37) :: jl n (c + 1)) (pre.length : Int) = ⟨c, jsign c⟩ := by
        unfold rd_T37
        simp [List.getD_eq_getElem?_getD]
      simp only [jl_take h]
      rw [if_neg h, if_neg (by omega), if_pos (by omega), if_pos (by omega), hat, if_pos rfl, if_pos rfl, w64 (x := (pre.length : Int) + 1) (by omega) (by omega), w64 (x := jsign c) (by omega) (by omega), w64 (x := s + jsign c) (by omega) (by omega)]
      have := ih (c + 1) (pre ++ [(⟨c, jsign c⟩ : S37)]) (s + jsign c) k K (by omega) hk (by omega) (by omega) (by rw [List.length_append, List.length_singleton]; omega) (by omega) (by omega)
      rw [List.append_assoc, List.length_append, List.length_singleton, show ([(⟨c, jsign c⟩ : S37)] ++ jl n (c + 1)) = (⟨c, jsign c⟩ : S37) :: jl n (c + 1) from rfl] at this
      rw [show ((pre.length : Int) + 1) = ((pre.length + 1 : Nat) : Int) by omega, this]
      congr 1
      · simp only [List.length_cons]; omega
      · simp only [jsum, List.map_cons, List.foldr_cons]; omega
/-- What whole numbers come to, from one on. -/
def upsum : Nat → Int → Int → Int
  | 0, _, s => s
  | n + 1, p, s => upsum n (p + 1) (s + p)
theorem l1_loop (n : Nat) : ∀ (p s : Int) (xs : List S37) (a b : Int) (k K : Nat), K = k + n + 1 → p + n = 12644 → 0 ≤ p → 0 ≤ s → s + 12644 * n < 9223372036854775808 →
    diacriticlaw06_JohabAll.l1 K xs a b s p = diacriticlaw06_JohabAll.l2 k xs a b (upsum n p s) 44032 := by
  induction n with
  | zero =>
    intro p s xs a b k K hK h0 h1 h2 h3
    obtain rfl : K = k + 1 := hK
    simp only [diacriticlaw06_JohabAll.l1, upsum]
    rw [if_neg (by omega)]
  | succ n ih =>
    intro p s xs a b k K hK h0 h1 h2 h3
    obtain ⟨K, rfl⟩ : ∃ m, K = m + 1 := ⟨K - 1, by omega⟩
    simp only [diacriticlaw06_JohabAll.l1, upsum]
    rw [if_pos (by omega), w64 (x := s + p) (by omega) (by omega), w64 (x := p + 1) (by omega) (by omega)]
    exact ih (p + 1) (s + p) xs a b k K (by omega) (by omega) (by omega) (by omega) (by omega)
theorem l2_loop (n : Nat) : ∀ (p s : Int) (xs : List S37) (a b : Int) (k K : Nat), K = k + n + 1 → p + n = 55204 → 0 ≤ p → 0 ≤ s → s + 55204 * n < 9223372036854775808 → 60 ≤ k →
    diacriticlaw06_JohabAll.l2 K xs a b s p = if a = (xs.length : Int) then some (b == upsum n p s) else some false := by
  induction n with
  | zero =>
    intro p s xs a b k K hK h0 h1 h2 h3 h4
    obtain rfl : K = k + 1 := hK
    simp only [diacriticlaw06_JohabAll.l2, upsum]
    rw [if_neg (by omega), awake_true k h4]
    simp only [Option.bind_some, if_true]
  | succ n ih =>
    intro p s xs a b k K hK h0 h1 h2 h3 h4
    obtain ⟨K, rfl⟩ : ∃ m, K = m + 1 := ⟨K - 1, by omega⟩
    simp only [diacriticlaw06_JohabAll.l2, upsum]
    rw [if_pos (by omega), w64 (x := s + p) (by omega) (by omega), w64 (x := p + 1) (by omega) (by omega)]
    exact ih (p + 1) (s + p) xs a b k K (by omega) (by omega) (by omega) (by omega) (by omega) h4
theorem sum1 : upsum 51 12593 0 = 643518 := by decide +kernel
theorem upsum_add (a : Nat) : ∀ (b : Nat) (p s : Int), upsum (a + b) p s = upsum b (p + a) (upsum a p s) := by
  induction a with
  | zero => intro b p s; simp [upsum]
  | succ a ih =>
    intro b p s
    rw [show a + 1 + b = (a + b) + 1 by omega]
    simp only [upsum]
    rw [ih, show p + 1 + (a : Int) = p + ((a + 1 : Nat) : Int) by omega]
theorem part0 : upsum 1000 44032 643518 = 45175018 := by decide +kernel
theorem part1 : upsum 1000 45032 45175018 = 90706518 := by decide +kernel
theorem part2 : upsum 1000 46032 90706518 = 137238018 := by decide +kernel
theorem part3 : upsum 1000 47032 137238018 = 184769518 := by decide +kernel
theorem part4 : upsum 1000 48032 184769518 = 233301018 := by decide +kernel
theorem part5 : upsum 1000 49032 233301018 = 282832518 := by decide +kernel
theorem part6 : upsum 1000 50032 282832518 = 333364018 := by decide +kernel
theorem part7 : upsum 1000 51032 333364018 = 384895518 := by decide +kernel
theorem part8 : upsum 1000 52032 384895518 = 437427018 := by decide +kernel
theorem part9 : upsum 1000 53032 437427018 = 490958518 := by decide +kernel
theorem part10 : upsum 1000 54032 490958518 = 545490018 := by decide +kernel
theorem part11 : upsum 172 55032 545490018 = 554970228 := by decide +kernel
theorem sum2 : upsum 11172 44032 643518 = 554970228 := by
  rw [show (11172 : Nat) = 1000 + 10172 by decide, upsum_add, part0, show (44032 : Int) + ((1000 : Nat) : Int) = 45032 by decide]
  rw [show (10172 : Nat) = 1000 + 9172 by decide, upsum_add, part1, show (45032 : Int) + ((1000 : Nat) : Int) = 46032 by decide]
  rw [show (9172 : Nat) = 1000 + 8172 by decide, upsum_add, part2, show (46032 : Int) + ((1000 : Nat) : Int) = 47032 by decide]
  rw [show (8172 : Nat) = 1000 + 7172 by decide, upsum_add, part3, show (47032 : Int) + ((1000 : Nat) : Int) = 48032 by decide]
  rw [show (7172 : Nat) = 1000 + 6172 by decide, upsum_add, part4, show (48032 : Int) + ((1000 : Nat) : Int) = 49032 by decide]
  rw [show (6172 : Nat) = 1000 + 5172 by decide, upsum_add, part5, show (49032 : Int) + ((1000 : Nat) : Int) = 50032 by decide]
  rw [show (5172 : Nat) = 1000 + 4172 by decide, upsum_add, part6, show (50032 : Int) + ((1000 : Nat) : Int) = 51032 by decide]
  rw [show (4172 : Nat) = 1000 + 3172 by decide, upsum_add, part7, show (51032 : Int) + ((1000 : Nat) : Int) = 52032 by decide]
  rw [show (3172 : Nat) = 1000 + 2172 by decide, upsum_add, part8, show (52032 : Int) + ((1000 : Nat) : Int) = 53032 by decide]
  rw [show (2172 : Nat) = 1000 + 1172 by decide, upsum_add, part9, show (53032 : Int) + ((1000 : Nat) : Int) = 54032 by decide]
  rw [show (1172 : Nat) = 1000 + 172 by decide, upsum_add, part10, show (54032 : Int) + ((1000 : Nat) : Int) = 55032 by decide]
  exact part11

theorem at_last (l : List S37) (hn : l.length = 11223) (k : Nat) (hk : 12000 ≤ k) : diacriticlaw06_JohabAll.l1 k l 11223 554970228 0 12593 = some true := by
  rw [l1_loop 51 12593 0 _ _ _ (k - 52) k (by omega) (by decide) (by decide) (by decide) (by decide), sum1,
    l2_loop 11172 44032 643518 _ _ _ (k - 52 - 11173) (k - 52) (by omega) (by decide) (by decide) (by decide) (by decide) (by omega), sum2, hn, if_pos (by decide)]
  decide
theorem at_all (k : Nat) (hk : 50000 ≤ k) : diacriticlaw06_JohabAll.f k = some true := by
  unfold diacriticlaw06_JohabAll.f johab_Pairs.f
  rw [pairs_loop 32768 32768 [] k (by decide) (by decide) (by decide) (by omega), List.nil_append]
  simp only [Option.bind_some]
  have hl := all_loop 32768 32768 [] 0 (k - 32769) k (by omega) (by omega) (by decide) (by decide) (by decide) (by decide) (by decide)
  have hn := upto31.1
  have hs := upto31.2
  generalize jl 32768 32768 = l at hl hn hs ⊢
  rw [hn, if_pos (by decide)]
  rw [List.nil_append, List.length_nil, Nat.zero_add, hn, hs] at hl
  exact hl.trans (at_last l hn _ (by omega))
theorem JohabAll : diacriticlaw06_JohabAll.Pure := ⟨50000, at_all 50000 (Nat.le_refl _)⟩
end Go.Proofs.Ytjdcnpgemlhdfaa.Pure

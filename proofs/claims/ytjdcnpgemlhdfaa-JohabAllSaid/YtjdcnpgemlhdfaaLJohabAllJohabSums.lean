/- How many pairs Johab has, and what their signs come to. -/
import Derived.Test.YtjdcnpgemlhdfaaLJohabAllJohabRef
namespace Go.Proofs.Ytjdcnpgemlhdfaa.Pure
open Go.RowKit Go.Proofs.Ytjdcnpgemlhdfaa.PJohabAll Go.Proofs.YtjdcnpgemlhdfaaW.PrintWords Go.Proofs.YtjdcnpgemlhdfaaW.PrintLast
set_option linter.unusedVariables false
theorem awake_true (k : Nat) (hk : 60 ≤ k) : diacriticlaw06_awake.f k = some true := at_rounds diacriticlaw06_awake.mono hk (by decide +kernel)
/-- The pairs of so many codes from one on. -/
def jl : Nat → Int → List S37
  | 0, _ => []
  | n + 1, c => if jsign c = 0 then jl n (c + 1) else (⟨c, jsign c⟩ : S37) :: jl n (c + 1)
def jsum (l : List S37) : Int := (l.map (·.f1)).foldr (· + ·) 0
theorem jl_le (n : Nat) : ∀ c, (jl n c).length ≤ n := by
  induction n with
  | zero => intro c; simp [jl]
  | succ n ih =>
    intro c
    simp only [jl]
    have := ih (c + 1)
    split
    · omega
    · simp only [List.length_cons]; omega
theorem jl_add (a : Nat) : ∀ (b : Nat) (c : Int), jl (a + b) c = jl a c ++ jl b (c + a) := by
  induction a with
  | zero => intro b c; simp [jl]
  | succ a ih =>
    intro b c
    rw [show a + 1 + b = (a + b) + 1 by omega]
    simp only [jl]
    rw [ih b (c + 1), show c + 1 + (a : Int) = c + ((a + 1 : Nat) : Int) by omega]
    split
    · rfl
    · rfl
theorem jsum_append (a b : List S37) : jsum (a ++ b) = jsum a + jsum b := by
  unfold jsum
  induction a with
  | nil => simp
  | cons x a ih => simp only [List.cons_append, List.map_cons, List.foldr_cons, ih]; omega
/-- How many, and what their signs come to. -/
def jfold : Nat → Int → Nat → Int → Nat × Int
  | 0, _, a, s => (a, s)
  | n + 1, c, a, s => if jsign c = 0 then jfold n (c + 1) a s else jfold n (c + 1) (a + 1) (s + jsign c)
theorem jfold_eq (n : Nat) : ∀ (c : Int) (a : Nat) (s : Int), jfold n c a s = (a + (jl n c).length, s + jsum (jl n c)) := by
  induction n with
  | zero => intro c a s; simp [jfold, jl, jsum]
  | succ n ih =>
    intro c a s
    simp only [jfold, jl]
    split
    · exact ih _ _ _
    · rw [ih]
      simp only [List.length_cons, jsum, List.map_cons, List.foldr_cons]
      exact Prod.ext (by simp only; omega) (by simp only; omega)
theorem chunk {n : Nat} {c : Int} {a : Nat} {s : Int} (h : jfold n c 0 0 = (a, s)) : (jl n c).length = a ∧ jsum (jl n c) = s := by
  rw [jfold_eq] at h
  simp only [Prod.mk.injEq] at h
  omega
theorem chunk0 : jfold 1024 32768 0 0 = (0, 0) := by decide +kernel
theorem chunk1 : jfold 1024 33792 0 0 = (32, 403930) := by decide +kernel
theorem chunk2 : jfold 1024 34816 0 0 = (589, 26075987) := by decide +kernel
theorem chunk3 : jfold 1024 35840 0 0 = (589, 26421732) := by decide +kernel
theorem chunk4 : jfold 1024 36864 0 0 = (589, 26767478) := by decide +kernel
theorem chunk5 : jfold 1024 37888 0 0 = (589, 27113225) := by decide +kernel
theorem chunk6 : jfold 1024 38912 0 0 = (589, 27458970) := by decide +kernel
theorem chunk7 : jfold 1024 39936 0 0 = (589, 27804715) := by decide +kernel
theorem chunk8 : jfold 1024 40960 0 0 = (589, 28150467) := by decide +kernel
theorem chunk9 : jfold 1024 41984 0 0 = (589, 28496212) := by decide +kernel
theorem chunk10 : jfold 1024 43008 0 0 = (589, 28841957) := by decide +kernel
theorem chunk11 : jfold 1024 44032 0 0 = (589, 29187703) := by decide +kernel
theorem chunk12 : jfold 1024 45056 0 0 = (589, 29533448) := by decide +kernel
theorem chunk13 : jfold 1024 46080 0 0 = (589, 29879193) := by decide +kernel
theorem chunk14 : jfold 1024 47104 0 0 = (589, 30224938) := by decide +kernel
theorem chunk15 : jfold 1024 48128 0 0 = (589, 30570683) := by decide +kernel
theorem chunk16 : jfold 1024 49152 0 0 = (589, 30916428) := by decide +kernel
theorem chunk17 : jfold 1024 50176 0 0 = (589, 31262173) := by decide +kernel
theorem chunk18 : jfold 1024 51200 0 0 = (589, 31607918) := by decide +kernel
theorem chunk19 : jfold 1024 52224 0 0 = (589, 31953663) := by decide +kernel
theorem chunk20 : jfold 1024 53248 0 0 = (589, 32299408) := by decide +kernel
theorem chunk21 : jfold 1024 54272 0 0 = (0, 0) := by decide +kernel
theorem chunk22 : jfold 1024 55296 0 0 = (0, 0) := by decide +kernel
theorem chunk23 : jfold 1024 56320 0 0 = (0, 0) := by decide +kernel
theorem chunk24 : jfold 1024 57344 0 0 = (0, 0) := by decide +kernel
theorem chunk25 : jfold 1024 58368 0 0 = (0, 0) := by decide +kernel
theorem chunk26 : jfold 1024 59392 0 0 = (0, 0) := by decide +kernel
theorem chunk27 : jfold 1024 60416 0 0 = (0, 0) := by decide +kernel
theorem chunk28 : jfold 1024 61440 0 0 = (0, 0) := by decide +kernel
theorem chunk29 : jfold 1024 62464 0 0 = (0, 0) := by decide +kernel
theorem chunk30 : jfold 1024 63488 0 0 = (0, 0) := by decide +kernel
theorem chunk31 : jfold 1024 64512 0 0 = (0, 0) := by decide +kernel
theorem upto0 : (jl 1024 32768).length = 0 ∧ jsum (jl 1024 32768) = 0 := chunk chunk0
theorem upto1 : (jl 2048 32768).length = 32 ∧ jsum (jl 2048 32768) = 403930 := by
  have h := chunk chunk1
  have g := upto0
  rw [show (2048 : Nat) = 1024 + 1024 by decide, jl_add, List.length_append, jsum_append, show (32768 : Int) + ((1024 : Nat) : Int) = 33792 by decide]
  omega
theorem upto2 : (jl 3072 32768).length = 621 ∧ jsum (jl 3072 32768) = 26479917 := by
  have h := chunk chunk2
  have g := upto1
  rw [show (3072 : Nat) = 2048 + 1024 by decide, jl_add, List.length_append, jsum_append, show (32768 : Int) + ((2048 : Nat) : Int) = 34816 by decide]
  omega
theorem upto3 : (jl 4096 32768).length = 1210 ∧ jsum (jl 4096 32768) = 52901649 := by
  have h := chunk chunk3
  have g := upto2
  rw [show (4096 : Nat) = 3072 + 1024 by decide, jl_add, List.length_append, jsum_append, show (32768 : Int) + ((3072 : Nat) : Int) = 35840 by decide]
  omega
theorem upto4 : (jl 5120 32768).length = 1799 ∧ jsum (jl 5120 32768) = 79669127 := by
  have h := chunk chunk4
  have g := upto3
  rw [show (5120 : Nat) = 4096 + 1024 by decide, jl_add, List.length_append, jsum_append, show (32768 : Int) + ((4096 : Nat) : Int) = 36864 by decide]
  omega
theorem upto5 : (jl 6144 32768).length = 2388 ∧ jsum (jl 6144 32768) = 106782352 := by
  have h := chunk chunk5
  have g := upto4
  rw [show (6144 : Nat) = 5120 + 1024 by decide, jl_add, List.length_append, jsum_append, show (32768 : Int) + ((5120 : Nat) : Int) = 37888 by decide]
  omega
theorem upto6 : (jl 7168 32768).length = 2977 ∧ jsum (jl 7168 32768) = 134241322 := by
  have h := chunk chunk6
  have g := upto5
  rw [show (7168 : Nat) = 6144 + 1024 by decide, jl_add, List.length_append, jsum_append, show (32768 : Int) + ((6144 : Nat) : Int) = 38912 by decide]
  omega
theorem upto7 : (jl 8192 32768).length = 3566 ∧ jsum (jl 8192 32768) = 162046037 := by
  have h := chunk chunk7
  have g := upto6
  rw [show (8192 : Nat) = 7168 + 1024 by decide, jl_add, List.length_append, jsum_append, show (32768 : Int) + ((7168 : Nat) : Int) = 39936 by decide]
  omega
theorem upto8 : (jl 9216 32768).length = 4155 ∧ jsum (jl 9216 32768) = 190196504 := by
  have h := chunk chunk8
  have g := upto7
  rw [show (9216 : Nat) = 8192 + 1024 by decide, jl_add, List.length_append, jsum_append, show (32768 : Int) + ((8192 : Nat) : Int) = 40960 by decide]
  omega
theorem upto9 : (jl 10240 32768).length = 4744 ∧ jsum (jl 10240 32768) = 218692716 := by
  have h := chunk chunk9
  have g := upto8
  rw [show (10240 : Nat) = 9216 + 1024 by decide, jl_add, List.length_append, jsum_append, show (32768 : Int) + ((9216 : Nat) : Int) = 41984 by decide]
  omega
theorem upto10 : (jl 11264 32768).length = 5333 ∧ jsum (jl 11264 32768) = 247534673 := by
  have h := chunk chunk10
  have g := upto9
  rw [show (11264 : Nat) = 10240 + 1024 by decide, jl_add, List.length_append, jsum_append, show (32768 : Int) + ((10240 : Nat) : Int) = 43008 by decide]
  omega
theorem upto11 : (jl 12288 32768).length = 5922 ∧ jsum (jl 12288 32768) = 276722376 := by
  have h := chunk chunk11
  have g := upto10
  rw [show (12288 : Nat) = 11264 + 1024 by decide, jl_add, List.length_append, jsum_append, show (32768 : Int) + ((11264 : Nat) : Int) = 44032 by decide]
  omega
theorem upto12 : (jl 13312 32768).length = 6511 ∧ jsum (jl 13312 32768) = 306255824 := by
  have h := chunk chunk12
  have g := upto11
  rw [show (13312 : Nat) = 12288 + 1024 by decide, jl_add, List.length_append, jsum_append, show (32768 : Int) + ((12288 : Nat) : Int) = 45056 by decide]
  omega
theorem upto13 : (jl 14336 32768).length = 7100 ∧ jsum (jl 14336 32768) = 336135017 := by
  have h := chunk chunk13
  have g := upto12
  rw [show (14336 : Nat) = 13312 + 1024 by decide, jl_add, List.length_append, jsum_append, show (32768 : Int) + ((13312 : Nat) : Int) = 46080 by decide]
  omega
theorem upto14 : (jl 15360 32768).length = 7689 ∧ jsum (jl 15360 32768) = 366359955 := by
  have h := chunk chunk14
  have g := upto13
  rw [show (15360 : Nat) = 14336 + 1024 by decide, jl_add, List.length_append, jsum_append, show (32768 : Int) + ((14336 : Nat) : Int) = 47104 by decide]
  omega
theorem upto15 : (jl 16384 32768).length = 8278 ∧ jsum (jl 16384 32768) = 396930638 := by
  have h := chunk chunk15
  have g := upto14
  rw [show (16384 : Nat) = 15360 + 1024 by decide, jl_add, List.length_append, jsum_append, show (32768 : Int) + ((15360 : Nat) : Int) = 48128 by decide]
  omega
theorem upto16 : (jl 17408 32768).length = 8867 ∧ jsum (jl 17408 32768) = 427847066 := by
  have h := chunk chunk16
  have g := upto15
  rw [show (17408 : Nat) = 16384 + 1024 by decide, jl_add, List.length_append, jsum_append, show (32768 : Int) + ((16384 : Nat) : Int) = 49152 by decide]
  omega
theorem upto17 : (jl 18432 32768).length = 9456 ∧ jsum (jl 18432 32768) = 459109239 := by
  have h := chunk chunk17
  have g := upto16
  rw [show (18432 : Nat) = 17408 + 1024 by decide, jl_add, List.length_append, jsum_append, show (32768 : Int) + ((17408 : Nat) : Int) = 50176 by decide]
  omega
theorem upto18 : (jl 19456 32768).length = 10045 ∧ jsum (jl 19456 32768) = 490717157 := by
  have h := chunk chunk18
  have g := upto17
  rw [show (19456 : Nat) = 18432 + 1024 by decide, jl_add, List.length_append, jsum_append, show (32768 : Int) + ((18432 : Nat) : Int) = 51200 by decide]
  omega
theorem upto19 : (jl 20480 32768).length = 10634 ∧ jsum (jl 20480 32768) = 522670820 := by
  have h := chunk chunk19
  have g := upto18
  rw [show (20480 : Nat) = 19456 + 1024 by decide, jl_add, List.length_append, jsum_append, show (32768 : Int) + ((19456 : Nat) : Int) = 52224 by decide]
  omega
theorem upto20 : (jl 21504 32768).length = 11223 ∧ jsum (jl 21504 32768) = 554970228 := by
  have h := chunk chunk20
  have g := upto19
  rw [show (21504 : Nat) = 20480 + 1024 by decide, jl_add, List.length_append, jsum_append, show (32768 : Int) + ((20480 : Nat) : Int) = 53248 by decide]
  omega
theorem upto21 : (jl 22528 32768).length = 11223 ∧ jsum (jl 22528 32768) = 554970228 := by
  have h := chunk chunk21
  have g := upto20
  rw [show (22528 : Nat) = 21504 + 1024 by decide, jl_add, List.length_append, jsum_append, show (32768 : Int) + ((21504 : Nat) : Int) = 54272 by decide]
  omega
theorem upto22 : (jl 23552 32768).length = 11223 ∧ jsum (jl 23552 32768) = 554970228 := by
  have h := chunk chunk22
  have g := upto21
  rw [show (23552 : Nat) = 22528 + 1024 by decide, jl_add, List.length_append, jsum_append, show (32768 : Int) + ((22528 : Nat) : Int) = 55296 by decide]
  omega
theorem upto23 : (jl 24576 32768).length = 11223 ∧ jsum (jl 24576 32768) = 554970228 := by
  have h := chunk chunk23
  have g := upto22
  rw [show (24576 : Nat) = 23552 + 1024 by decide, jl_add, List.length_append, jsum_append, show (32768 : Int) + ((23552 : Nat) : Int) = 56320 by decide]
  omega
theorem upto24 : (jl 25600 32768).length = 11223 ∧ jsum (jl 25600 32768) = 554970228 := by
  have h := chunk chunk24
  have g := upto23
  rw [show (25600 : Nat) = 24576 + 1024 by decide, jl_add, List.length_append, jsum_append, show (32768 : Int) + ((24576 : Nat) : Int) = 57344 by decide]
  omega
theorem upto25 : (jl 26624 32768).length = 11223 ∧ jsum (jl 26624 32768) = 554970228 := by
  have h := chunk chunk25
  have g := upto24
  rw [show (26624 : Nat) = 25600 + 1024 by decide, jl_add, List.length_append, jsum_append, show (32768 : Int) + ((25600 : Nat) : Int) = 58368 by decide]
  omega
theorem upto26 : (jl 27648 32768).length = 11223 ∧ jsum (jl 27648 32768) = 554970228 := by
  have h := chunk chunk26
  have g := upto25
  rw [show (27648 : Nat) = 26624 + 1024 by decide, jl_add, List.length_append, jsum_append, show (32768 : Int) + ((26624 : Nat) : Int) = 59392 by decide]
  omega
theorem upto27 : (jl 28672 32768).length = 11223 ∧ jsum (jl 28672 32768) = 554970228 := by
  have h := chunk chunk27
  have g := upto26
  rw [show (28672 : Nat) = 27648 + 1024 by decide, jl_add, List.length_append, jsum_append, show (32768 : Int) + ((27648 : Nat) : Int) = 60416 by decide]
  omega
theorem upto28 : (jl 29696 32768).length = 11223 ∧ jsum (jl 29696 32768) = 554970228 := by
  have h := chunk chunk28
  have g := upto27
  rw [show (29696 : Nat) = 28672 + 1024 by decide, jl_add, List.length_append, jsum_append, show (32768 : Int) + ((28672 : Nat) : Int) = 61440 by decide]
  omega
theorem upto29 : (jl 30720 32768).length = 11223 ∧ jsum (jl 30720 32768) = 554970228 := by
  have h := chunk chunk29
  have g := upto28
  rw [show (30720 : Nat) = 29696 + 1024 by decide, jl_add, List.length_append, jsum_append, show (32768 : Int) + ((29696 : Nat) : Int) = 62464 by decide]
  omega
theorem upto30 : (jl 31744 32768).length = 11223 ∧ jsum (jl 31744 32768) = 554970228 := by
  have h := chunk chunk30
  have g := upto29
  rw [show (31744 : Nat) = 30720 + 1024 by decide, jl_add, List.length_append, jsum_append, show (32768 : Int) + ((30720 : Nat) : Int) = 63488 by decide]
  omega
theorem upto31 : (jl 32768 32768).length = 11223 ∧ jsum (jl 32768 32768) = 554970228 := by
  have h := chunk chunk31
  have g := upto30
  rw [show (32768 : Nat) = 31744 + 1024 by decide, jl_add, List.length_append, jsum_append, show (32768 : Int) + ((31744 : Nat) : Int) = 64512 by decide]
  omega
end Go.Proofs.Ytjdcnpgemlhdfaa.Pure

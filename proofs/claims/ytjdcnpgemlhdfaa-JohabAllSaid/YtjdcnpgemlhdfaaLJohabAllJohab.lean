/- Johab: what the program's and the document's functions come to, as one plain function of the code. -/
import Derived.Test.YtjdcnpgemlhdfaaPJohabAllx
import Derived.Test.YtjdcnpgemlhdfaaBase
namespace Go.Proofs.Ytjdcnpgemlhdfaa.Pure
open Go.RowKit Go.Proofs.Ytjdcnpgemlhdfaa.PJohabAll Go.Proofs.YtjdcnpgemlhdfaaW.PrintWords Go.Proofs.YtjdcnpgemlhdfaaW.PrintLast
set_option linter.unusedVariables false
set_option linter.unusedSimpArgs false
def jmed (c : Int) : Int := ([-2, -2, -1, 0, 1, 2, 3, 4, -2, -2, 5, 6, 7, 8, 9, 10, -2, -2, 11, 12, 13, 14, 15, 16, -2, -2, 17, 18, 19, 20, -2, -2] : List Int).getD c.toNat 0
def jfin (c : Int) : Int := if c = 0 ∨ c = 18 ∨ c > 29 then -2 else if c < 18 then c - 1 else c - 2
def jals : List Int := [0, 1, 103, 2, 105, 106, 3, 4, 5, 109, 110, 111, 112, 113, 114, 115, 6, 7, 8, 118, 9, 10, 11, 12, 13, 14, 15, 16, 17, 18]
def jal (p : Int) : Int := match jals.findIdx? (fun x => x == p) with
  | some i => 12593 + (i : Int)
  | none => 0
def js (i m f : Int) : Int :=
  if i < -1 ∨ 18 < i ∨ m = -2 ∨ f = -2 then 0
  else if 0 ≤ i ∧ 0 ≤ m then 44032 + (i * 21 + m) * 28 + f
  else if i < 0 ∧ 0 ≤ m ∧ f = 0 then 12623 + m
  else if 0 ≤ i ∧ m < 0 ∧ f = 0 then jal i
  else if i < 0 ∧ m < 0 ∧ 0 < f then jal (100 + f) else 0
/-- The sign of a code of sixteen bits; 0: none. -/
def jsign (c : Int) : Int := if c < 32768 then 0 else js (c / 1024 % 32 - 2) (jmed (c / 32 % 32)) (jfin (c % 32))

theorem jmed_all {c : Int} (h0 : 0 ≤ c) (h1 : c < 32) : johab_medial.f 4 c = some (jmed c) ∧ -2 ≤ jmed c ∧ jmed c ≤ 20 :=
  forall_range (p := fun c => johab_medial.f 4 c = some (jmed c) ∧ -2 ≤ jmed c ∧ jmed c ≤ 20) 32 (by decide +kernel) h0 h1
theorem jfin_all {c : Int} (h0 : 0 ≤ c) (h1 : c < 32) : johab_final.f 4 c = some (jfin c) ∧ (jfin c = -2 ∨ 0 ≤ jfin c) ∧ jfin c ≤ 27 :=
  forall_range (p := fun c => johab_final.f 4 c = some (jfin c) ∧ (jfin c = -2 ∨ 0 ≤ jfin c) ∧ jfin c ≤ 27) 32 (by decide +kernel) h0 h1
theorem jal_i {i : Int} (h0 : 0 ≤ i) (h1 : i < 19) : johab_alone.f (97 + i) = some (jal i, decide (jal i ≠ 0)) :=
  forall_range (p := fun i => johab_alone.f (97 + i) = some (jal i, decide (jal i ≠ 0))) 19 (by decide +kernel) h0 h1
theorem jal_f {f : Int} (h0 : 0 ≤ f) (h1 : f < 28) : 0 < f → johab_alone.f (65 + f) = some (jal (100 + f), decide (jal (100 + f) ≠ 0)) :=
  forall_range (p := fun f => 0 < f → johab_alone.f (65 + f) = some (jal (100 + f), decide (jal (100 + f) ≠ 0))) 28 (by decide +kernel) h0 h1
theorem code_or {a b : Int} (ha : 0 ≤ a ∧ a < 256) (hb : 0 ≤ b ∧ b < 256) : Go.bits .or .i64 (wrap64 ((wrap64 a) * 256)) (wrap64 b) = a * 256 + b := by
  rw [w64 (x := a) (by omega) (by omega), w64 (x := a * 256) (by omega) (by omega), w64 (x := b) (by omega) (by omega)]
  exact or64 8 (by omega) (by omega) (by omega) (by omega) (by omega) (by omega)

theorem sign_impl {a b : Int} (ha : 0 ≤ a ∧ a < 256) (hb : 0 ≤ b ∧ b < 256) (k : Nat) (hk : 8 ≤ k) :
    johab_Sign.f k a b = some (jsign (a * 256 + b), decide (jsign (a * 256 + b) ≠ 0)) := by
  refine at_rounds (johab_Sign.mono a b) hk ?_
  have hm := jmed_all (c := (a * 256 + b) / 32 % 32) (by omega) (by omega)
  have hf := jfin_all (c := (a * 256 + b) % 32) (by omega) (by omega)
  unfold johab_Sign.f
  rw [code_or ha hb, and31 (x := (a * 256 + b) / 32) (by omega) (by omega), and31 (x := a * 256 + b) (by omega) (by omega), and31 (x := (a * 256 + b) / 1024) (by omega) (by omega),
    at_rounds (johab_medial.mono _) (by decide : 4 ≤ 8) hm.1, at_rounds (johab_final.mono _) (by decide : 4 ≤ 8) hf.1, w64 (x := (a * 256 + b) / 1024 % 32 - 2) (by omega) (by omega)]
  simp only [Option.bind_some]
  unfold jsign js
  have hl : (a < 128) ↔ (a * 256 + b < 32768) := by omega
  generalize hi : (a * 256 + b) / 1024 % 32 - 2 = i
  generalize jmed ((a * 256 + b) / 32 % 32) = m at hm
  generalize jfin ((a * 256 + b) % 32) = f at hf
  have hi1 : -2 ≤ i ∧ i < 30 := by omega
  by_cases h1 : a < 128
  · rw [if_pos h1, if_pos (hl.1 h1)]; rfl
  rw [if_neg h1, if_neg (fun h => h1 (hl.2 h))]
  by_cases h2 : i < -1
  · rw [if_pos h2, if_pos (Or.inl h2)]; rfl
  rw [if_neg h2]
  by_cases h3 : i > 18
  · rw [if_pos h3, if_pos (by omega)]; rfl
  rw [if_neg h3]
  by_cases h4 : m < -1
  · rw [if_pos h4, if_pos (by omega)]; rfl
  rw [if_neg h4]
  by_cases h5 : f < 0
  · rw [decide_eq_true h5, if_pos (by omega)]; rfl
  rw [decide_eq_false h5, if_neg (by omega)]
  simp only [johab_Sign.j0, if_neg (show ¬ (false = true) by decide)]
  by_cases h6 : i ≥ 0
  · rw [if_pos h6]
    simp only [johab_Sign.j1]
    by_cases h7 : m ≥ 0
    · rw [decide_eq_true h7, if_pos rfl, if_pos (by omega)]
      unfold johab_Syllable.f
      rw [if_neg (by omega), if_neg (by omega), if_neg (by omega), if_neg (by omega), if_neg (by omega), if_neg (by omega)]
      rw [w64 (x := i * 21) (by omega) (by omega), w64 (x := i * 21 + m) (by omega) (by omega), w64 (x := (i * 21 + m) * 28) (by omega) (by omega), w64 (x := 44032 + (i * 21 + m) * 28) (by omega) (by omega), w64 (x := 44032 + (i * 21 + m) * 28 + f) (by omega) (by omega), w32 (by omega) (by omega)]
      simp only [Option.bind_some]
      rw [decide_eq_true (show 44032 + (i * 21 + m) * 28 + f ≠ 0 by omega)]
    · rw [decide_eq_false h7, if_neg (by decide), if_pos h6, if_neg (by omega), if_neg (by omega)]
      simp only [johab_Sign.j2]
      by_cases h8 : f = 0
      · rw [beq_iff_eq.mpr h8, if_pos rfl, if_pos (by omega), w64 (x := 97 + i) (by omega) (by omega), jal_i (i := i) (by omega) (by omega)]
        simp only [Option.bind_some]
      · rw [beq_eq_false_iff_ne.mpr h8, if_neg (by decide), if_neg h7, if_neg (by omega), if_neg (by omega)]
        simp only [johab_Sign.j3]
        rw [if_neg (by decide), if_pos h6]; rfl
  · rw [if_neg h6]
    simp only [johab_Sign.j1]
    rw [if_neg (by decide), if_neg h6, if_neg (by omega)]
    simp only [johab_Sign.j2]
    rw [if_neg (by decide)]
    by_cases h7 : m ≥ 0
    · rw [if_pos h7]
      simp only [johab_Sign.j3]
      by_cases h8 : f = 0
      · rw [beq_iff_eq.mpr h8, if_pos rfl, if_pos (by omega), w64 (x := 12623 + m) (by omega) (by omega), w32 (by omega) (by omega), decide_eq_true (show 12623 + m ≠ 0 by omega)]
      · rw [beq_eq_false_iff_ne.mpr h8, if_neg (by decide), if_neg h6, if_pos h7, if_neg (by omega), if_neg (by omega), if_neg (by omega)]; rfl
    · rw [if_neg h7]
      simp only [johab_Sign.j3]
      rw [if_neg (by decide), if_neg h6, if_neg h7]
      by_cases h8 : f = 0
      · rw [if_pos h8, if_neg (by omega), if_neg (by omega), if_neg (by omega)]; rfl
      · rw [if_neg h8, if_neg (by omega), if_neg (by omega), if_pos (by omega), w64 (x := 65 + f) (by omega) (by omega), jal_f (f := f) (by omega) (by omega) (by omega)]
        simp only [Option.bind_some]

/-! ### The way back -/
def jmc (m : Int) : Int := if m < 5 then m + 3 else if m < 11 then m + 5 else if m < 17 then m + 7 else m + 9
def jfc (f : Int) : Int := if f < 17 then f + 1 else f + 2
/-- The letters of the consonants that stand alone. -/
def jcons : ByteArray := ⟨#[97, 98, 68, 99, 70, 71, 100, 101, 102, 74, 75, 76, 77, 78, 79, 80, 103, 104, 105, 83, 106, 107, 108, 109, 110, 111, 112, 113, 114, 115]⟩
/-- A sign's code; -1: none. -/
def jcode (p : Int) : Int :=
  if 44032 ≤ p ∧ p < 55204 then 32768 + ((p - 44032) / 28 / 21 + 2) * 1024 + jmc ((p - 44032) / 28 % 21) * 32 + jfc ((p - 44032) % 28)
  else if 12623 ≤ p ∧ p ≤ 12643 then 32768 + 1024 + jmc (p - 12623) * 32 + 1
  else if 12593 ≤ p ∧ p < 12623 then (if bt jcons (p - 12593) ≥ 97 then 32768 + (bt jcons (p - 12593) - 97 + 2) * 1024 + 64 + 1 else 32768 + 1024 + 64 + jfc (bt jcons (p - 12593) - 65))
  else -1
theorem jcode_none {p : Int} (h : ¬ (12593 ≤ p ∧ p ≤ 12643 ∨ 44032 ≤ p ∧ p < 55204)) : jcode p = -1 := by
  unfold jcode; rw [if_neg (by omega), if_neg (by omega), if_neg (by omega)]
theorem jcode_syl {p : Int} (h : 44032 ≤ p ∧ p < 55204) : jcode p = 32768 + ((p - 44032) / 28 / 21 + 2) * 1024 + jmc ((p - 44032) / 28 % 21) * 32 + jfc ((p - 44032) % 28) := by
  unfold jcode; rw [if_pos h]
theorem jcode_vow {p : Int} (h : 12623 ≤ p ∧ p ≤ 12643) : jcode p = 32768 + 1024 + jmc (p - 12623) * 32 + 1 := by
  unfold jcode; rw [if_neg (by omega), if_pos h]
theorem jcode_con {p : Int} (h : 12593 ≤ p ∧ p < 12623) : jcode p = if bt jcons (p - 12593) ≥ 97 then 32768 + (bt jcons (p - 12593) - 97 + 2) * 1024 + 64 + 1 else 32768 + 1024 + 64 + jfc (bt jcons (p - 12593) - 65) := by
  unfold jcode; rw [if_neg (by omega), if_neg (by omega), if_pos h]
theorem jmc_all {m : Int} (h0 : 0 ≤ m) (h1 : m < 21) : jmed (jmc m) = m ∧ 0 ≤ jmc m ∧ jmc m < 32 :=
  forall_range (p := fun m => jmed (jmc m) = m ∧ 0 ≤ jmc m ∧ jmc m < 32) 21 (by decide +kernel) h0 h1
theorem jfc_all {f : Int} (h0 : 0 ≤ f) (h1 : f < 28) : jfin (jfc f) = f ∧ 0 ≤ jfc f ∧ jfc f < 32 :=
  forall_range (p := fun f => jfin (jfc f) = f ∧ 0 ≤ jfc f ∧ jfc f < 32) 28 (by decide +kernel) h0 h1
theorem jmed_back {c : Int} (h0 : 0 ≤ c) (h1 : c < 32) : (0 ≤ jmed c → jmc (jmed c) = c) ∧ (jmed c = -1 → c = 2) :=
  forall_range (p := fun c => (0 ≤ jmed c → jmc (jmed c) = c) ∧ (jmed c = -1 → c = 2)) 32 (by decide +kernel) h0 h1
theorem jfin_back {c : Int} (h0 : 0 ≤ c) (h1 : c < 32) : 0 ≤ jfin c → jfc (jfin c) = c :=
  forall_range (p := fun c => 0 ≤ jfin c → jfc (jfin c) = c) 32 (by decide +kernel) h0 h1
theorem jcons_all {q : Int} (h0 : 0 ≤ q) (h1 : q < 30) : jsign (jcode (12593 + q)) = 12593 + q ∧ 33792 ≤ jcode (12593 + q) ∧ jcode (12593 + q) < 65536 ∧ (97 ≤ bt jcons q ∧ bt jcons q < 116 ∨ 66 ≤ bt jcons q ∧ bt jcons q < 93) :=
  forall_range (p := fun q => jsign (jcode (12593 + q)) = 12593 + q ∧ 33792 ≤ jcode (12593 + q) ∧ jcode (12593 + q) < 65536 ∧ (97 ≤ bt jcons q ∧ bt jcons q < 116 ∨ 66 ≤ bt jcons q ∧ bt jcons q < 93)) 30 (by decide +kernel) h0 h1
theorem jvow_all {q : Int} (h0 : 0 ≤ q) (h1 : q < 21) : jsign (jcode (12623 + q)) = 12623 + q ∧ 33792 ≤ jcode (12623 + q) ∧ jcode (12623 + q) < 65536 :=
  forall_range (p := fun q => jsign (jcode (12623 + q)) = 12623 + q ∧ 33792 ≤ jcode (12623 + q) ∧ jcode (12623 + q) < 65536) 21 (by decide +kernel) h0 h1
theorem jal_back_i {i : Int} (h0 : 0 ≤ i) (h1 : i < 19) : jal i ≠ 0 → jcode (jal i) = 32768 + (i + 2) * 1024 + 65 ∧ 12593 ≤ jal i ∧ jal i < 12623 :=
  forall_range (p := fun i => jal i ≠ 0 → jcode (jal i) = 32768 + (i + 2) * 1024 + 65 ∧ 12593 ≤ jal i ∧ jal i < 12623) 19 (by decide +kernel) h0 h1
theorem jal_back_f {f : Int} (h0 : 0 ≤ f) (h1 : f < 28) : 0 < f → jal (100 + f) ≠ 0 → jcode (jal (100 + f)) = 32768 + 1024 + 64 + jfc f ∧ 12593 ≤ jal (100 + f) ∧ jal (100 + f) < 12623 :=
  forall_range (p := fun f => 0 < f → jal (100 + f) ≠ 0 → jcode (jal (100 + f)) = 32768 + 1024 + 64 + jfc f ∧ 12593 ≤ jal (100 + f) ∧ jal (100 + f) < 12623) 28 (by decide +kernel) h0 h1

/-- A sign leads back to its code. -/
theorem jcode_jsign {c : Int} (hc : 0 ≤ c ∧ c < 65536) (h : jsign c ≠ 0) : jcode (jsign c) = c ∧ (12593 ≤ jsign c ∧ jsign c ≤ 12643 ∨ 44032 ≤ jsign c ∧ jsign c < 55204) := by
  unfold jsign at h ⊢
  by_cases h0 : c < 32768
  · rw [if_pos h0] at h; exact absurd rfl h
  rw [if_neg h0] at h ⊢
  have hm := jmed_all (c := c / 32 % 32) (by omega) (by omega)
  have hf := jfin_all (c := c % 32) (by omega) (by omega)
  have bm := jmed_back (c := c / 32 % 32) (by omega) (by omega)
  have bf := jfin_back (c := c % 32) (by omega) (by omega)
  generalize jmed (c / 32 % 32) = m at *
  generalize jfin (c % 32) = f at *
  unfold js at h ⊢
  by_cases h1 : c / 1024 % 32 - 2 < -1 ∨ 18 < c / 1024 % 32 - 2 ∨ m = -2 ∨ f = -2
  · rw [if_pos h1] at h; exact absurd rfl h
  rw [if_neg h1] at h ⊢
  have hf0 : jfc f = c % 32 := bf (by omega)
  by_cases h2 : 0 ≤ c / 1024 % 32 - 2 ∧ 0 ≤ m
  · rw [if_pos h2]
    have hm0 : jmc m = c / 32 % 32 := bm.1 h2.2
    generalize hi : c / 1024 % 32 - 2 = i at *
    unfold jcode
    rw [if_pos (by omega)]
    rw [show 44032 + (i * 21 + m) * 28 + f - 44032 = (i * 21 + m) * 28 + f by omega, show ((i * 21 + m) * 28 + f) / 28 / 21 = i by omega, show ((i * 21 + m) * 28 + f) / 28 % 21 = m by omega, show ((i * 21 + m) * 28 + f) % 28 = f by omega, hm0, hf0]
    omega
  rw [if_neg h2] at h ⊢
  by_cases h3 : c / 1024 % 32 - 2 < 0 ∧ 0 ≤ m ∧ f = 0
  · rw [if_pos h3]
    have hm0 : jmc m = c / 32 % 32 := bm.1 h3.2.1
    have hz : jfc f = 1 := by rw [h3.2.2]; rfl
    unfold jcode
    rw [if_neg (by omega), if_pos (by omega), show 12623 + m - 12623 = m by omega, hm0]
    omega
  rw [if_neg h3] at h ⊢
  by_cases h4 : 0 ≤ c / 1024 % 32 - 2 ∧ m < 0 ∧ f = 0
  · rw [if_pos h4] at h ⊢
    have hz : jfc f = 1 := by rw [h4.2.2]; rfl
    have h5 := jal_back_i (i := c / 1024 % 32 - 2) (by omega) (by omega) h
    rw [h5.1]
    have := bm.2 (by omega)
    omega
  rw [if_neg h4] at h ⊢
  by_cases h5 : c / 1024 % 32 - 2 < 0 ∧ m < 0 ∧ 0 < f
  · rw [if_pos h5] at h ⊢
    have h6 := jal_back_f (f := f) (by omega) (by omega) (by omega) h
    rw [h6.1, hf0]
    have := bm.2 (by omega)
    omega
  · rw [if_neg h5] at h; exact absurd rfl h

/-- A code leads back to its sign. -/
theorem jsign_jcode {p : Int} (h : 12593 ≤ p ∧ p ≤ 12643 ∨ 44032 ≤ p ∧ p < 55204) : jsign (jcode p) = p ∧ 33792 ≤ jcode p ∧ jcode p < 65536 := by
  by_cases h1 : 44032 ≤ p
  · have hm := jmc_all (m := (p - 44032) / 28 % 21) (by omega) (by omega)
    have hf := jfc_all (f := (p - 44032) % 28) (by omega) (by omega)
    have e : jcode p = 32768 + ((p - 44032) / 28 / 21 + 2) * 1024 + jmc ((p - 44032) / 28 % 21) * 32 + jfc ((p - 44032) % 28) := by unfold jcode; rw [if_pos (by omega)]
    generalize hM : jmc ((p - 44032) / 28 % 21) = M at *
    generalize hF : jfc ((p - 44032) % 28) = F at *
    rw [e]
    generalize hI : (p - 44032) / 28 / 21 = I at *
    have : 0 ≤ I ∧ I < 19 := by omega
    refine ⟨?_, by omega, by omega⟩
    unfold jsign
    rw [if_neg (by omega), show (32768 + (I + 2) * 1024 + M * 32 + F) / 1024 % 32 - 2 = I by omega, show (32768 + (I + 2) * 1024 + M * 32 + F) / 32 % 32 = M by omega, show (32768 + (I + 2) * 1024 + M * 32 + F) % 32 = F by omega, hm.1, hf.1]
    unfold js
    rw [if_neg (by omega), if_pos (by omega)]
    omega
  · by_cases h2 : 12623 ≤ p
    · have := jvow_all (q := p - 12623) (by omega) (by omega)
      rw [show 12623 + (p - 12623) = p by omega] at this
      exact this
    · have := jcons_all (q := p - 12593) (by omega) (by omega)
      rw [show 12593 + (p - 12593) = p by omega] at this
      exact ⟨this.1, this.2.1, this.2.2.1⟩

/-- Two bytes. -/
def two2 (c : Int) : ByteArray := strOfNums [c / 256 % 256, c % 256]
theorem two2_8 (c : Int) : Bytes8 [c / 256 % 256, c % 256] := by intro x hx; simp at hx; omega
theorem big2 {n : Int} (h0 : 0 ≤ n) (h1 : n < 18446744073709551616) (k : Nat) (hk : 4 ≤ k) : octet_Big.f k n 2 = some (two2 n) := by
  refine at_rounds (octet_Big.mono n 2) hk ?_
  simp only [octet_Big.f, show (mn (mx 2 0) 8) - 1 = 1 by decide +kernel, octet_Big.l0, show wrap64 (1 - 1) = 0 by decide +kernel, show wrap64 (0 - 1) = -1 by decide +kernel, show wrap64 (8 * 1) = 8 by decide +kernel, show wrap64 (8 * 0) = 0 by decide +kernel, show ((1 : Int) ≥ 0) = True by decide +kernel, show ((0 : Int) ≥ 0) = True by decide +kernel, show ((-1 : Int) ≥ 0) = False by decide +kernel, show ((0 : Int) ≤ 8) = True by decide +kernel, show ((0 : Int) ≤ 0) = True by decide +kernel, if_true, if_false, List.nil_append, List.length_cons, List.length_nil, List.length_append, List.cons_append,
    show (0 < 140737488355328) = True by decide, show (0 + 1 < 140737488355328) = True by decide]
  unfold shr two2
  simp [IntKind.bits]
theorem two_impl {i m f : Int} (hi : 0 ≤ i ∧ i < 32) (hm : 0 ≤ m ∧ m < 32) (hf : 0 ≤ f ∧ f < 32) (k : Nat) (hk : 4 ≤ k) : johab_two.f k i m f = some (two2 (32768 + i * 1024 + m * 32 + f), true) := by
  unfold johab_two.f
  rw [w64 (x := i * 1024) (by omega) (by omega), w64 (x := m * 32) (by omega) (by omega), or64 15 (x := 32768) (by omega) (by omega) (by omega) (by omega) (by omega) (by omega), or64 10 (x := 32768 + i * 1024) (by omega) (by omega) (by omega) (by omega) (by omega) (by omega),
    or64 5 (x := 32768 + i * 1024 + m * 32) (by omega) (by omega) (by omega) (by omega) (by omega) (by omega), wu64 (by omega) (by omega), big2 (by omega) (by omega) k hk]
  rfl
theorem mcode_impl {m : Int} (h : 0 ≤ m ∧ m < 21) : johab_medialCode.f m = some (jmc m) := by
  have := forall_range (p := fun m => johab_medialCode.f m = some (jmc m)) 21 (by decide +kernel) h.1 h.2
  exact this
theorem fcode_impl {f : Int} (h : 0 ≤ f ∧ f < 28) : johab_finalCode.f f = some (jfc f) := by
  have := forall_range (p := fun f => johab_finalCode.f f = some (jfc f)) 28 (by decide +kernel) h.1 h.2
  exact this
theorem bytes_impl {p : Int} (hp : -2147483648 ≤ p ∧ p < 2147483648) (k : Nat) (hk : 8 ≤ k) :
    johab_Bytes.f k p = some (if jcode p < 0 then ((⟨#[]⟩ : ByteArray), false) else (two2 (jcode p), true)) := by
  refine at_rounds (johab_Bytes.mono p) hk ?_
  unfold johab_Bytes.f
  by_cases h1 : p ≥ 44032
  · rw [if_pos h1]
    simp only [johab_Bytes.j0]
    by_cases h2 : p < 55204
    · have hm := jmc_all (m := (p - 44032) / 28 % 21) (by omega) (by omega)
      have hf := jfc_all (f := (p - 44032) % 28) (by omega) (by omega)
      rw [decide_eq_true h2, if_pos rfl, w32 (x := p - 44032) (by omega) (by omega), w64 (x := p - 44032) (by omega) (by omega), Int.tdiv_eq_ediv_of_nonneg (by omega : 0 ≤ p - 44032), w64 (x := (p - 44032) / 28) (by omega) (by omega),
        Int.tmod_eq_emod_of_nonneg (by omega : 0 ≤ (p - 44032) / 28), Int.tdiv_eq_ediv_of_nonneg (by omega : 0 ≤ (p - 44032) / 28), Int.tmod_eq_emod_of_nonneg (by omega : 0 ≤ p - 44032), w64 (x := (p - 44032) / 28 / 21) (by omega) (by omega), w64 (x := (p - 44032) / 28 / 21 + 2) (by omega) (by omega),
        mcode_impl (by omega), fcode_impl (by omega)]
      simp only [Option.bind_some]
      rw [two_impl (by omega) (by omega) (by omega) 7 (by omega)]
      simp only [Option.bind_some]
      rw [jcode_syl (by omega), if_neg (by omega)]
    · rw [decide_eq_false h2, if_neg (by decide), if_pos (by omega)]
      simp only [johab_Bytes.j1]
      rw [decide_eq_false (by omega), if_neg (by decide), if_pos (by omega)]
      simp only [johab_Bytes.j2]
      rw [decide_eq_false (by omega), if_neg (by decide)]
      rw [jcode_none (by omega), if_pos (by decide)]
  · rw [if_neg h1]
    simp only [johab_Bytes.j0]
    rw [if_neg (by decide)]
    by_cases h2 : p ≥ 12623
    · rw [if_pos h2]
      simp only [johab_Bytes.j1]
      by_cases h3 : p ≤ 12643
      · have hm := jmc_all (m := p - 12623) (by omega) (by omega)
        rw [decide_eq_true h3, if_pos rfl, w32 (x := p - 12623) (by omega) (by omega), w64 (x := p - 12623) (by omega) (by omega), mcode_impl (by omega)]
        simp only [Option.bind_some]
        rw [two_impl (by omega) (by omega) (by omega) 6 (by omega)]
        simp only [Option.bind_some]
        rw [jcode_vow (by omega), if_neg (by omega)]
        rw [show 32768 + 1 * 1024 + jmc (p - 12623) * 32 + 1 = 32768 + 1024 + jmc (p - 12623) * 32 + 1 by omega]
      · rw [decide_eq_false h3, if_neg (by decide), if_pos (by omega)]
        simp only [johab_Bytes.j2]
        rw [decide_eq_false (by omega), if_neg (by decide)]
        rw [jcode_none (by omega), if_pos (by decide)]
    · rw [if_neg h2]
      simp only [johab_Bytes.j1]
      rw [if_neg (by decide)]
      by_cases h3 : p ≥ 12593
      · have hq := (jcons_all (q := p - 12593) (by omega) (by omega)).2.2.2
        rw [if_pos h3]
        simp only [johab_Bytes.j2]
        rw [decide_eq_true (by omega), if_pos rfl, w32 (x := p - 12593) (by omega) (by omega), if_pos (by omega), if_pos (by omega)]
        change (if wrap64 (bt jcons (p - 12593)) ≥ 97 then (johab_two.f 5 (wrap64 (wrap64 (wrap64 (bt jcons (p - 12593)) - 97) + 2)) 2 1).bind _ else (johab_finalCode.f (wrap64 (wrap64 (bt jcons (p - 12593)) - 65))).bind _) = _
        rw [jcode_con (by omega)]
        generalize bt jcons (p - 12593) = c at hq
        rw [w64 (x := c) (by omega) (by omega)]
        by_cases h4 : c ≥ 97
        · rw [if_pos h4, if_pos h4, w64 (x := c - 97) (by omega) (by omega), w64 (x := c - 97 + 2) (by omega) (by omega), two_impl (by omega) (by omega) (by omega) 5 (by omega), if_neg (by omega)]
          rfl
        · have hf := jfc_all (f := c - 65) (by omega) (by omega)
          rw [if_neg h4, if_neg h4, w64 (x := c - 65) (by omega) (by omega), fcode_impl (by omega)]
          simp only [Option.bind_some]
          rw [two_impl (by omega) (by omega) (by omega) 5 (by omega), if_neg (by omega)]
          rfl
      · rw [if_neg h3]
        simp only [johab_Bytes.j2]
        rw [if_neg (by decide)]
        rw [jcode_none (by omega), if_pos (by decide)]
end Go.Proofs.Ytjdcnpgemlhdfaa.Pure

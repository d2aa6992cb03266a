-- Laid by a program of this session (mkprint.py: the print with hand-written contracts beside).
import Derived.Test.YtjdcnpgemlhdfaaPJohabSignsx0
import Derived.Test.YtjdcnpgemlhdfaaPJohabSignsx1
namespace Go.Proofs.Ytjdcnpgemlhdfaa.PJohabSigns
open Go.RowKit Go.Proofs.YtjdcnpgemlhdfaaW.PrintWords Go.Proofs.YtjdcnpgemlhdfaaW.PrintLast Go.Proofs.YtjdcnpgemlhdfaaW.PrintMore
attribute [local go_sem] max2_int min2_int max_two min_two max_three min_three max_four min_four   -- for this text's walks alone
set_option linter.unusedVariables false
set_option linter.unusedSimpArgs false

/-! ### johab_Sign: function 7 -/
mutual
def johab_Sign.j0 : Nat → Int → Int → Int → Bool → Option (Int × Bool)
  | 0, _, _, _, _ => none
  | k + 1, x7, x8, x9, x27 => if x27 = true then (some (0, false)) else (if x7 ≥ 0 then (johab_Sign.j1 k x7 x8 x9 (decide (x8 ≥ 0))) else (johab_Sign.j1 k x7 x8 x9 false))
def johab_Sign.j1 : Nat → Int → Int → Int → Bool → Option (Int × Bool)
  | 0, _, _, _, _ => none
  | k + 1, x7, x8, x9, x46 => if x46 = true then ((johab_Syllable.f x7 x8 x9).bind fun bt105 => (some (bt105.1, bt105.2))) else (if x7 ≥ 0 then (johab_Sign.j2 k x7 x8 x9 (x9 == 0)) else (johab_Sign.j2 k x7 x8 x9 false))
def johab_Sign.j2 : Nat → Int → Int → Int → Bool → Option (Int × Bool)
  | 0, _, _, _, _ => none
  | k + 1, x7, x8, x9, x59 => if x59 = true then ((johab_alone.f (wrap64 (97 + x7))).bind fun bt107 => (some (bt107.1, bt107.2))) else (if x8 ≥ 0 then (johab_Sign.j3 k x7 x8 x9 (x9 == 0)) else (johab_Sign.j3 k x7 x8 x9 false))
def johab_Sign.j3 : Nat → Int → Int → Int → Bool → Option (Int × Bool)
  | 0, _, _, _, _ => none
  | k + 1, x7, x8, x9, x71 => if x71 = true then (some (wrap32 (wrap64 (12623 + x8)), true)) else (if x7 ≥ 0 then (some (0, false)) else (if x8 ≥ 0 then (some (0, false)) else (if x9 = 0 then (some (0, false)) else ((johab_alone.f (wrap64 (65 + x9))).bind fun bt109 => (some (bt109.1, bt109.2))))))
end
def johab_Sign.f (k : Nat) (a0 : Int) (a1 : Int) : Option (Int × Bool) := (johab_medial.f k (Go.bits .and .i64 ((Go.bits .or .i64 (wrap64 ((wrap64 (a0)) * 256)) (wrap64 (a1))) / 32) 31)).bind fun t103 => ((johab_final.f k (Go.bits .and .i64 (Go.bits .or .i64 (wrap64 ((wrap64 (a0)) * 256)) (wrap64 (a1))) 31)).bind fun t104 => (if a0 < 128 then (johab_Sign.j0 k (wrap64 ((Go.bits .and .i64 ((Go.bits .or .i64 (wrap64 ((wrap64 (a0)) * 256)) (wrap64 (a1))) / 1024) 31) - 2)) t103 t104 true) else (if (wrap64 ((Go.bits .and .i64 ((Go.bits .or .i64 (wrap64 ((wrap64 (a0)) * 256)) (wrap64 (a1))) / 1024) 31) - 2)) < (-1) then (johab_Sign.j0 k (wrap64 ((Go.bits .and .i64 ((Go.bits .or .i64 (wrap64 ((wrap64 (a0)) * 256)) (wrap64 (a1))) / 1024) 31) - 2)) t103 t104 true) else (if (wrap64 ((Go.bits .and .i64 ((Go.bits .or .i64 (wrap64 ((wrap64 (a0)) * 256)) (wrap64 (a1))) / 1024) 31) - 2)) > 18 then (johab_Sign.j0 k (wrap64 ((Go.bits .and .i64 ((Go.bits .or .i64 (wrap64 ((wrap64 (a0)) * 256)) (wrap64 (a1))) / 1024) 31) - 2)) t103 t104 true) else (if t103 < (-1) then (johab_Sign.j0 k (wrap64 ((Go.bits .and .i64 ((Go.bits .or .i64 (wrap64 ((wrap64 (a0)) * 256)) (wrap64 (a1))) / 1024) 31) - 2)) t103 t104 true) else (johab_Sign.j0 k (wrap64 ((Go.bits .and .i64 ((Go.bits .or .i64 (wrap64 ((wrap64 (a0)) * 256)) (wrap64 (a1))) / 1024) 31) - 2)) t103 t104 (decide (t104 < 0))))))))
theorem johab_Sign.mono_l : ∀ k, (∀ y0 y1 y2 y3, LeO (johab_Sign.j0 k y0 y1 y2 y3) (johab_Sign.j0 (k + 1) y0 y1 y2 y3)) ∧ (∀ y0 y1 y2 y3, LeO (johab_Sign.j1 k y0 y1 y2 y3) (johab_Sign.j1 (k + 1) y0 y1 y2 y3)) ∧ (∀ y0 y1 y2 y3, LeO (johab_Sign.j2 k y0 y1 y2 y3) (johab_Sign.j2 (k + 1) y0 y1 y2 y3)) ∧ (∀ y0 y1 y2 y3, LeO (johab_Sign.j3 k y0 y1 y2 y3) (johab_Sign.j3 (k + 1) y0 y1 y2 y3))
  | 0 => ⟨fun _ _ _ _ r h => by simp [johab_Sign.j0] at h, fun _ _ _ _ r h => by simp [johab_Sign.j1] at h, fun _ _ _ _ r h => by simp [johab_Sign.j2] at h, fun _ _ _ _ r h => by simp [johab_Sign.j3] at h⟩
  | k + 1 => by
    obtain ⟨ih0, ih1, ih2, ih3⟩ := johab_Sign.mono_l k
    refine ⟨?_, ?_, ?_, ?_⟩
    · intro y0 y1 y2 y3
      unfold johab_Sign.j0
      repeat' first
      | (with_reducible exact ih0 _ _ _ _)
      | (with_reducible exact ih1 _ _ _ _)
      | (with_reducible exact ih2 _ _ _ _)
      | (with_reducible exact ih3 _ _ _ _)
      | (with_reducible exact johab_final.mono _ _)
      | (with_reducible exact johab_medial.mono _ _)
      | (with_reducible exact LeO.refl _)
      | (with_reducible exact LeO.none _)
      | (with_reducible refine LeO.ite ?_ ?_)
      | (with_reducible refine LeO.bind ?_ (fun _ => ?_))
      | exact ih0 _ _ _ _
      | exact ih1 _ _ _ _
      | exact ih2 _ _ _ _
      | exact ih3 _ _ _ _
      | exact johab_final.mono _ _
      | exact johab_medial.mono _ _
      | exact LeO.none _
      | refine LeO.ite ?_ ?_
      | refine LeO.bind ?_ (fun _ => ?_)
    · intro y0 y1 y2 y3
      unfold johab_Sign.j1
      repeat' first
      | (with_reducible exact ih0 _ _ _ _)
      | (with_reducible exact ih1 _ _ _ _)
      | (with_reducible exact ih2 _ _ _ _)
      | (with_reducible exact ih3 _ _ _ _)
      | (with_reducible exact johab_final.mono _ _)
      | (with_reducible exact johab_medial.mono _ _)
      | (with_reducible exact LeO.refl _)
      | (with_reducible exact LeO.none _)
      | (with_reducible refine LeO.ite ?_ ?_)
      | (with_reducible refine LeO.bind ?_ (fun _ => ?_))
      | exact ih0 _ _ _ _
      | exact ih1 _ _ _ _
      | exact ih2 _ _ _ _
      | exact ih3 _ _ _ _
      | exact johab_final.mono _ _
      | exact johab_medial.mono _ _
      | exact LeO.none _
      | refine LeO.ite ?_ ?_
      | refine LeO.bind ?_ (fun _ => ?_)
    · intro y0 y1 y2 y3
      unfold johab_Sign.j2
      repeat' first
      | (with_reducible exact ih0 _ _ _ _)
      | (with_reducible exact ih1 _ _ _ _)
      | (with_reducible exact ih2 _ _ _ _)
      | (with_reducible exact ih3 _ _ _ _)
      | (with_reducible exact johab_final.mono _ _)
      | (with_reducible exact johab_medial.mono _ _)
      | (with_reducible exact LeO.refl _)
      | (with_reducible exact LeO.none _)
      | (with_reducible refine LeO.ite ?_ ?_)
      | (with_reducible refine LeO.bind ?_ (fun _ => ?_))
      | exact ih0 _ _ _ _
      | exact ih1 _ _ _ _
      | exact ih2 _ _ _ _
      | exact ih3 _ _ _ _
      | exact johab_final.mono _ _
      | exact johab_medial.mono _ _
      | exact LeO.none _
      | refine LeO.ite ?_ ?_
      | refine LeO.bind ?_ (fun _ => ?_)
    · intro y0 y1 y2 y3
      unfold johab_Sign.j3
      repeat' first
      | (with_reducible exact ih0 _ _ _ _)
      | (with_reducible exact ih1 _ _ _ _)
      | (with_reducible exact ih2 _ _ _ _)
      | (with_reducible exact ih3 _ _ _ _)
      | (with_reducible exact johab_final.mono _ _)
      | (with_reducible exact johab_medial.mono _ _)
      | (with_reducible exact LeO.refl _)
      | (with_reducible exact LeO.none _)
      | (with_reducible refine LeO.ite ?_ ?_)
      | (with_reducible refine LeO.bind ?_ (fun _ => ?_))
      | exact ih0 _ _ _ _
      | exact ih1 _ _ _ _
      | exact ih2 _ _ _ _
      | exact ih3 _ _ _ _
      | exact johab_final.mono _ _
      | exact johab_medial.mono _ _
      | exact LeO.none _
      | refine LeO.ite ?_ ?_
      | refine LeO.bind ?_ (fun _ => ?_)
theorem johab_Sign.mono : ∀ a0 a1 k, LeO (johab_Sign.f k a0 a1) (johab_Sign.f (k + 1) a0 a1) := by
  intro a0 a1 k
  obtain ⟨ih0, ih1, ih2, ih3⟩ := johab_Sign.mono_l k
  unfold johab_Sign.f
  repeat' first
      | (with_reducible exact ih0 _ _ _ _)
      | (with_reducible exact ih1 _ _ _ _)
      | (with_reducible exact ih2 _ _ _ _)
      | (with_reducible exact ih3 _ _ _ _)
      | (with_reducible exact johab_final.mono _ _)
      | (with_reducible exact johab_medial.mono _ _)
      | (with_reducible exact LeO.refl _)
      | (with_reducible exact LeO.none _)
      | (with_reducible refine LeO.ite ?_ ?_)
      | (with_reducible refine LeO.bind ?_ (fun _ => ?_))
      | exact ih0 _ _ _ _
      | exact ih1 _ _ _ _
      | exact ih2 _ _ _ _
      | exact ih3 _ _ _ _
      | exact johab_final.mono _ _
      | exact johab_medial.mono _ _
      | exact LeO.none _
      | refine LeO.ite ?_ ?_
      | refine LeO.bind ?_ (fun _ => ?_)
set_option maxHeartbeats 8000000 in
set_option maxRecDepth 100000 in
theorem johab_Sign.calls (k : Nat) (a0 : Int) (a1 : Int) (r1 : Int) (r2 : Bool) (w : World) (h : johab_Sign.f k a0 a1 = some (r1, r2)) :
    Calls Try.prog 7 #[.int .u8 a0, .int .u8 a1] w fun e w' => e = .returned (.tuple #[.int .i32 r1, .bool r2]) ∧ Drawn0 w w' := by
  have H : ((johab_medial.f k (Go.bits .and .i64 ((Go.bits .or .i64 (wrap64 ((wrap64 (a0)) * 256)) (wrap64 (a1))) / 32) 31)).bind fun t103 => ((johab_final.f k (Go.bits .and .i64 (Go.bits .or .i64 (wrap64 ((wrap64 (a0)) * 256)) (wrap64 (a1))) 31)).bind fun t104 => (if a0 < 128 then (johab_Sign.j0 k (wrap64 ((Go.bits .and .i64 ((Go.bits .or .i64 (wrap64 ((wrap64 (a0)) * 256)) (wrap64 (a1))) / 1024) 31) - 2)) t103 t104 true) else (if (wrap64 ((Go.bits .and .i64 ((Go.bits .or .i64 (wrap64 ((wrap64 (a0)) * 256)) (wrap64 (a1))) / 1024) 31) - 2)) < (-1) then (johab_Sign.j0 k (wrap64 ((Go.bits .and .i64 ((Go.bits .or .i64 (wrap64 ((wrap64 (a0)) * 256)) (wrap64 (a1))) / 1024) 31) - 2)) t103 t104 true) else (if (wrap64 ((Go.bits .and .i64 ((Go.bits .or .i64 (wrap64 ((wrap64 (a0)) * 256)) (wrap64 (a1))) / 1024) 31) - 2)) > 18 then (johab_Sign.j0 k (wrap64 ((Go.bits .and .i64 ((Go.bits .or .i64 (wrap64 ((wrap64 (a0)) * 256)) (wrap64 (a1))) / 1024) 31) - 2)) t103 t104 true) else (if t103 < (-1) then (johab_Sign.j0 k (wrap64 ((Go.bits .and .i64 ((Go.bits .or .i64 (wrap64 ((wrap64 (a0)) * 256)) (wrap64 (a1))) / 1024) 31) - 2)) t103 t104 true) else (johab_Sign.j0 k (wrap64 ((Go.bits .and .i64 ((Go.bits .or .i64 (wrap64 ((wrap64 (a0)) * 256)) (wrap64 (a1))) / 1024) 31) - 2)) t103 t104 (decide (t104 < 0))))))))) = some (r1, r2) := h
  clear h
  replace H := Option.bind_eq_some_iff.mp H
  obtain ⟨t103, A30, H⟩ := H
  replace H : ((johab_final.f k (Go.bits .and .i64 (Go.bits .or .i64 (wrap64 ((wrap64 (a0)) * 256)) (wrap64 (a1))) 31)).bind fun t104 => (if a0 < 128 then (johab_Sign.j0 k (wrap64 ((Go.bits .and .i64 ((Go.bits .or .i64 (wrap64 ((wrap64 (a0)) * 256)) (wrap64 (a1))) / 1024) 31) - 2)) t103 t104 true) else (if (wrap64 ((Go.bits .and .i64 ((Go.bits .or .i64 (wrap64 ((wrap64 (a0)) * 256)) (wrap64 (a1))) / 1024) 31) - 2)) < (-1) then (johab_Sign.j0 k (wrap64 ((Go.bits .and .i64 ((Go.bits .or .i64 (wrap64 ((wrap64 (a0)) * 256)) (wrap64 (a1))) / 1024) 31) - 2)) t103 t104 true) else (if (wrap64 ((Go.bits .and .i64 ((Go.bits .or .i64 (wrap64 ((wrap64 (a0)) * 256)) (wrap64 (a1))) / 1024) 31) - 2)) > 18 then (johab_Sign.j0 k (wrap64 ((Go.bits .and .i64 ((Go.bits .or .i64 (wrap64 ((wrap64 (a0)) * 256)) (wrap64 (a1))) / 1024) 31) - 2)) t103 t104 true) else (if t103 < (-1) then (johab_Sign.j0 k (wrap64 ((Go.bits .and .i64 ((Go.bits .or .i64 (wrap64 ((wrap64 (a0)) * 256)) (wrap64 (a1))) / 1024) 31) - 2)) t103 t104 true) else (johab_Sign.j0 k (wrap64 ((Go.bits .and .i64 ((Go.bits .or .i64 (wrap64 ((wrap64 (a0)) * 256)) (wrap64 (a1))) / 1024) 31) - 2)) t103 t104 (decide (t104 < 0)))))))) = some (r1, r2) := H
  have A3 := Aside0.mk A30
  clear A30
  replace H := Option.bind_eq_some_iff.mp H
  obtain ⟨t104, A40, H⟩ := H
  replace H : (if a0 < 128 then (johab_Sign.j0 k (wrap64 ((Go.bits .and .i64 ((Go.bits .or .i64 (wrap64 ((wrap64 (a0)) * 256)) (wrap64 (a1))) / 1024) 31) - 2)) t103 t104 true) else (if (wrap64 ((Go.bits .and .i64 ((Go.bits .or .i64 (wrap64 ((wrap64 (a0)) * 256)) (wrap64 (a1))) / 1024) 31) - 2)) < (-1) then (johab_Sign.j0 k (wrap64 ((Go.bits .and .i64 ((Go.bits .or .i64 (wrap64 ((wrap64 (a0)) * 256)) (wrap64 (a1))) / 1024) 31) - 2)) t103 t104 true) else (if (wrap64 ((Go.bits .and .i64 ((Go.bits .or .i64 (wrap64 ((wrap64 (a0)) * 256)) (wrap64 (a1))) / 1024) 31) - 2)) > 18 then (johab_Sign.j0 k (wrap64 ((Go.bits .and .i64 ((Go.bits .or .i64 (wrap64 ((wrap64 (a0)) * 256)) (wrap64 (a1))) / 1024) 31) - 2)) t103 t104 true) else (if t103 < (-1) then (johab_Sign.j0 k (wrap64 ((Go.bits .and .i64 ((Go.bits .or .i64 (wrap64 ((wrap64 (a0)) * 256)) (wrap64 (a1))) / 1024) 31) - 2)) t103 t104 true) else (johab_Sign.j0 k (wrap64 ((Go.bits .and .i64 ((Go.bits .or .i64 (wrap64 ((wrap64 (a0)) * 256)) (wrap64 (a1))) / 1024) 31) - 2)) t103 t104 (decide (t104 < 0))))))) = some (r1, r2) := H
  have A4 := Aside0.mk A40
  clear A40
  have HC5 := Aside0.mk H
  clear H
  go_enter Try.func7, Try.ntmps7
  go_upto_region 3 with (first | ((with_reducible refine gate_callee (f := 14) rfl ?_); refine goesL_ (some 23) rfl rfl Try.func14 (by kernel_rfl) rfl #[.int .i64 (Go.bits .and .i64 ((Go.bits .or .i64 (wrap64 ((wrap64 (a0)) * 256)) (wrap64 (a1))) / 32) 31)] rfl (by (try simp only [List.map_toArray, List.map_cons, List.map_nil]); first | done | rfl | (simp only [List.length_drop, List.length_take]; rfl)) ?_; (with_reducible refine (johab_medial.calls k (Go.bits .and .i64 ((Go.bits .or .i64 (wrap64 ((wrap64 (a0)) * 256)) (wrap64 (a1))) / 32) 31) t103 _ A3.out).mono ?_); rintro e w' ⟨rfl, ⟨nd, rfl⟩⟩; refine ⟨_, rfl, ?_⟩) | ((with_reducible refine gate_callee (f := 15) rfl ?_); refine goesL_ (some 26) rfl rfl Try.func15 (by kernel_rfl) rfl #[.int .i64 (Go.bits .and .i64 (Go.bits .or .i64 (wrap64 ((wrap64 (a0)) * 256)) (wrap64 (a1))) 31)] rfl (by (try simp only [List.map_toArray, List.map_cons, List.map_nil]); first | done | rfl | (simp only [List.length_drop, List.length_take]; rfl)) ?_; (with_reducible refine (johab_final.calls k (Go.bits .and .i64 (Go.bits .or .i64 (wrap64 ((wrap64 (a0)) * 256)) (wrap64 (a1))) 31) t104 _ A4.out).mono ?_); rintro e w' ⟨rfl, ⟨nd, rfl⟩⟩; refine ⟨_, rfl, ?_⟩))
  (try simp only [Act.put, List.setIfInBounds_toArray, List.set_cons_zero, List.set_cons_succ])
  go_cut [27] (fun v27 wc => ∃ (kq : Nat) (x27_4 : Bool), v27 = .bool x27_4 ∧ Aside0 (johab_Sign.j0 kq (wrap64 ((Go.bits .and .i64 ((Go.bits .or .i64 (wrap64 ((wrap64 (a0)) * 256)) (wrap64 (a1))) / 1024) 31) - 2)) t103 t104 x27_4 = some (r1, r2)) ∧ Aside0 (kq ≤ k) ∧ Drawn0 w wc)
  case first =>
    have H := HC5.out
    clear HC5
    by_cases c6 : a0 < 128
    · rw [if_pos c6] at H
      have c6b0 : decide (a0 < 128) = true := decide_eq_true c6
      clear c6
      (first | rw [c6b0] | (simp only [i64_w, i32_w]; rw [c6b0]) | skip)
      have H' := Aside0.mk H
      clear H
      go_wp2
      go_meet
      case rel => exact ⟨_, (true), (by first | rfl | (simp; done) | (simp [*]; done)), H', ⟨by first | omega | exact Nat.le_refl _⟩, by repeat (first | exact Drawn0.refl _ | apply Drawn0.step)⟩
    · rw [if_neg c6] at H
      have c6b0 : decide (a0 < 128) = false := decide_eq_false c6
      clear c6
      (first | rw [c6b0] | (simp only [i64_w, i32_w]; rw [c6b0]) | skip)
      by_cases c7 : (wrap64 ((Go.bits .and .i64 ((Go.bits .or .i64 (wrap64 ((wrap64 (a0)) * 256)) (wrap64 (a1))) / 1024) 31) - 2)) < (-1)
      · rw [if_pos c7] at H
        have c7b0 : decide ((wrap64 ((Go.bits .and .i64 ((Go.bits .or .i64 (wrap64 ((wrap64 (a0)) * 256)) (wrap64 (a1))) / 1024) 31) - 2)) < (-1)) = true := decide_eq_true c7
        clear c7
        have H' := Aside0.mk H
        clear H
        go_wp2
        go_meet
        case rel => exact ⟨_, (true), (by first | rfl | (simp; done) | (simp [*]; done)), H', ⟨by first | omega | exact Nat.le_refl _⟩, by repeat (first | exact Drawn0.refl _ | apply Drawn0.step)⟩
      · rw [if_neg c7] at H
        have c7b0 : decide ((wrap64 ((Go.bits .and .i64 ((Go.bits .or .i64 (wrap64 ((wrap64 (a0)) * 256)) (wrap64 (a1))) / 1024) 31) - 2)) < (-1)) = false := decide_eq_false c7
        clear c7
        by_cases c8 : (wrap64 ((Go.bits .and .i64 ((Go.bits .or .i64 (wrap64 ((wrap64 (a0)) * 256)) (wrap64 (a1))) / 1024) 31) - 2)) > 18
        · rw [if_pos c8] at H
          have c8b0 : decide (18 < (wrap64 ((Go.bits .and .i64 ((Go.bits .or .i64 (wrap64 ((wrap64 (a0)) * 256)) (wrap64 (a1))) / 1024) 31) - 2))) = true := decide_eq_true c8
          clear c8
          have H' := Aside0.mk H
          clear H
          go_wp2
          go_meet
          case rel => exact ⟨_, (true), (by first | rfl | (simp; done) | (simp [*]; done)), H', ⟨by first | omega | exact Nat.le_refl _⟩, by repeat (first | exact Drawn0.refl _ | apply Drawn0.step)⟩
        · rw [if_neg c8] at H
          have c8b0 : decide (18 < (wrap64 ((Go.bits .and .i64 ((Go.bits .or .i64 (wrap64 ((wrap64 (a0)) * 256)) (wrap64 (a1))) / 1024) 31) - 2))) = false := decide_eq_false c8
          clear c8
          by_cases c9 : t103 < (-1)
          · rw [if_pos c9] at H
            have c9b0 : decide (t103 < (-1)) = true := decide_eq_true c9
            clear c9
            have H' := Aside0.mk H
            clear H
            go_wp2
            go_meet
            case rel => exact ⟨_, (true), (by first | rfl | (simp; done) | (simp [*]; done)), H', ⟨by first | omega | exact Nat.le_refl _⟩, by repeat (first | exact Drawn0.refl _ | apply Drawn0.step)⟩
          · rw [if_neg c9] at H
            have c9b0 : decide (t103 < (-1)) = false := decide_eq_false c9
            clear c9
            have H' := Aside0.mk H
            clear H
            go_wp2
            go_meet
            case rel => exact ⟨_, (decide (t104 < 0)), (by first | rfl | (simp; done) | (simp [*]; done)), H', ⟨by first | omega | exact Nat.le_refl _⟩, by repeat (first | exact Drawn0.refl _ | apply Drawn0.step)⟩
  case rest =>
    clear HC5
    try clear c1
    try clear p2
    try clear c6
    try clear c6b0
    try clear p6
    try clear c7
    try clear c7b0
    try clear c8
    try clear c8b0
    try clear c9
    try clear c9b0
    obtain ⟨kq, x27_4, rfl, HA, HJ4, ⟨mc4, rfl⟩⟩ := hcut
    cases kq with
    | zero => exact absurd HA.out (by simp [johab_Sign.j0])
    | succ kj4 =>
      have H := HA.out
      clear HA
      simp only [johab_Sign.j0] at H
      by_cases c10 : x27_4 = true
      · subst c10
        have H1 : (some (0, false)) = some (r1, r2) := by rw [if_pos rfl] at H; exact H
        clear H
        have H := H1
        clear H1
        simp only [Option.some.injEq, Prod.mk.injEq] at H
        obtain ⟨rfl, rfl⟩ := H
        go_wp2
        go_ret2
        exact ⟨by first | rfl | (simp; done) | (simp [*]; done), by repeat (first | exact Drawn0.refl _ | apply Drawn0.step)⟩
      · replace c10 := Bool.eq_false_iff.mpr c10
        subst c10
        have H1 : (if (wrap64 ((Go.bits .and .i64 ((Go.bits .or .i64 (wrap64 ((wrap64 (a0)) * 256)) (wrap64 (a1))) / 1024) 31) - 2)) ≥ 0 then (johab_Sign.j1 kj4 (wrap64 ((Go.bits .and .i64 ((Go.bits .or .i64 (wrap64 ((wrap64 (a0)) * 256)) (wrap64 (a1))) / 1024) 31) - 2)) t103 t104 (decide (t103 ≥ 0))) else (johab_Sign.j1 kj4 (wrap64 ((Go.bits .and .i64 ((Go.bits .or .i64 (wrap64 ((wrap64 (a0)) * 256)) (wrap64 (a1))) / 1024) 31) - 2)) t103 t104 false)) = some (r1, r2) := by rw [if_neg (show ¬ (false = true) by decide)] at H; exact H
        clear H
        have H := H1
        clear H1
        have HC11 := Aside0.mk H
        clear H
        go_upto_region 5 with (fail)
        go_cut [46] (fun v46 wc => ∃ (kq : Nat) (x46_10 : Bool), v46 = .bool x46_10 ∧ Aside0 (johab_Sign.j1 kq (wrap64 ((Go.bits .and .i64 ((Go.bits .or .i64 (wrap64 ((wrap64 (a0)) * 256)) (wrap64 (a1))) / 1024) 31) - 2)) t103 t104 x46_10 = some (r1, r2)) ∧ Aside0 (kq ≤ kj4) ∧ Drawn0 w wc)
        case first =>
          have H := HC11.out
          clear HC11
          by_cases c12 : (wrap64 ((Go.bits .and .i64 ((Go.bits .or .i64 (wrap64 ((wrap64 (a0)) * 256)) (wrap64 (a1))) / 1024) 31) - 2)) ≥ 0
          · rw [if_pos c12] at H
            have c12b0 : decide (0 ≤ (wrap64 ((Go.bits .and .i64 ((Go.bits .or .i64 (wrap64 ((wrap64 (a0)) * 256)) (wrap64 (a1))) / 1024) 31) - 2))) = true := decide_eq_true c12
            clear c12
            (first | rw [c12b0] | (simp only [i64_w, i32_w]; rw [c12b0]) | skip)
            have H' := Aside0.mk H
            clear H
            go_wp2
            go_meet
            case rel => exact ⟨_, (decide (t103 ≥ 0)), (by first | rfl | (simp; done) | (simp [*]; done)), H', ⟨by have := HJ4.out; first | omega | exact Nat.le_refl _⟩, by repeat (first | exact Drawn0.refl _ | apply Drawn0.step)⟩
          · rw [if_neg c12] at H
            have c12b0 : decide (0 ≤ (wrap64 ((Go.bits .and .i64 ((Go.bits .or .i64 (wrap64 ((wrap64 (a0)) * 256)) (wrap64 (a1))) / 1024) 31) - 2))) = false := decide_eq_false c12
            clear c12
            (first | rw [c12b0] | (simp only [i64_w, i32_w]; rw [c12b0]) | skip)
            have H' := Aside0.mk H
            clear H
            go_wp2
            go_meet
            case rel => exact ⟨_, (false), (by first | rfl | (simp; done) | (simp [*]; done)), H', ⟨by have := HJ4.out; first | omega | exact Nat.le_refl _⟩, by repeat (first | exact Drawn0.refl _ | apply Drawn0.step)⟩
        case rest =>
          clear HC11
          try clear c1
          try clear p2
          try clear c4
          try clear c6
          try clear c6b0
          try clear p6
          try clear c7
          try clear c7b0
          try clear c8
          try clear c8b0
          try clear c9
          try clear c9b0
          try clear c10
          try clear c12
          try clear c12b0
          try clear p2
          try clear p6
          obtain ⟨kq, x46_10, rfl, HA, HJ10, ⟨mc10, rfl⟩⟩ := hcut
          cases kq with
          | zero => exact absurd HA.out (by simp [johab_Sign.j1])
          | succ kj10 =>
            have H := HA.out
            clear HA
            simp only [johab_Sign.j1] at H
            by_cases c13 : x46_10 = true
            · subst c13
              have H1 : ((johab_Syllable.f (wrap64 ((Go.bits .and .i64 ((Go.bits .or .i64 (wrap64 ((wrap64 (a0)) * 256)) (wrap64 (a1))) / 1024) 31) - 2)) t103 t104).bind fun bt105 => (some (bt105.1, bt105.2))) = some (r1, r2) := by rw [if_pos rfl] at H; exact H
              clear H
              have H := H1
              clear H1
              replace H := Option.bind_eq_some_iff.mp H
              obtain ⟨⟨t105, t106⟩, A140, H⟩ := H
              replace H : (some (t105, t106)) = some (r1, r2) := H
              have A14 := Aside0.mk A140
              clear A140
              simp only [Option.some.injEq, Prod.mk.injEq] at H
              obtain ⟨rfl, rfl⟩ := H
              go_wp2_with (first | ((with_reducible refine gate_callee (f := 12) rfl ?_); refine goesL_ (some 56) rfl rfl Try.func12 (by kernel_rfl) rfl #[.int .i64 (wrap64 ((Go.bits .and .i64 ((Go.bits .or .i64 (wrap64 ((wrap64 (a0)) * 256)) (wrap64 (a1))) / 1024) 31) - 2)), .int .i64 t103, .int .i64 t104] rfl (by (try simp only [List.map_toArray, List.map_cons, List.map_nil]); first | done | rfl | (simp only [List.length_drop, List.length_take]; rfl)) ?_; (with_reducible refine (johab_Syllable.calls (wrap64 ((Go.bits .and .i64 ((Go.bits .or .i64 (wrap64 ((wrap64 (a0)) * 256)) (wrap64 (a1))) / 1024) 31) - 2)) t103 t104 t105 t106 _ A14.out).mono ?_); rintro e w' ⟨rfl, ⟨nd, rfl⟩⟩; refine ⟨_, rfl, ?_⟩))
              go_ret2
              exact ⟨by first | rfl | (simp; done) | (simp [*]; done), by repeat (first | exact Drawn0.refl _ | apply Drawn0.step)⟩
            · replace c13 := Bool.eq_false_iff.mpr c13
              subst c13
              have H1 : (if (wrap64 ((Go.bits .and .i64 ((Go.bits .or .i64 (wrap64 ((wrap64 (a0)) * 256)) (wrap64 (a1))) / 1024) 31) - 2)) ≥ 0 then (johab_Sign.j2 kj10 (wrap64 ((Go.bits .and .i64 ((Go.bits .or .i64 (wrap64 ((wrap64 (a0)) * 256)) (wrap64 (a1))) / 1024) 31) - 2)) t103 t104 (t104 == 0)) else (johab_Sign.j2 kj10 (wrap64 ((Go.bits .and .i64 ((Go.bits .or .i64 (wrap64 ((wrap64 (a0)) * 256)) (wrap64 (a1))) / 1024) 31) - 2)) t103 t104 false)) = some (r1, r2) := by rw [if_neg (show ¬ (false = true) by decide)] at H; exact H
              clear H
              have H := H1
              clear H1
              have HC15 := Aside0.mk H
              clear H
              go_upto_region 7 with (fail)
              go_cut [59] (fun v59 wc => ∃ (kq : Nat) (x59_14 : Bool), v59 = .bool x59_14 ∧ Aside0 (johab_Sign.j2 kq (wrap64 ((Go.bits .and .i64 ((Go.bits .or .i64 (wrap64 ((wrap64 (a0)) * 256)) (wrap64 (a1))) / 1024) 31) - 2)) t103 t104 x59_14 = some (r1, r2)) ∧ Aside0 (kq ≤ kj10) ∧ Drawn0 w wc)
              case first =>
                have H := HC15.out
                clear HC15
                by_cases c16 : (wrap64 ((Go.bits .and .i64 ((Go.bits .or .i64 (wrap64 ((wrap64 (a0)) * 256)) (wrap64 (a1))) / 1024) 31) - 2)) ≥ 0
                · rw [if_pos c16] at H
                  have c16b0 : decide (0 ≤ (wrap64 ((Go.bits .and .i64 ((Go.bits .or .i64 (wrap64 ((wrap64 (a0)) * 256)) (wrap64 (a1))) / 1024) 31) - 2))) = true := decide_eq_true c16
                  clear c16
                  (first | rw [c16b0] | (simp only [i64_w, i32_w]; rw [c16b0]) | skip)
                  have H' := Aside0.mk H
                  clear H
                  go_wp2
                  go_meet
                  case rel => exact ⟨_, ((t104 == 0)), (by first | rfl | (simp; done) | (simp [*]; done)), H', ⟨by have := HJ4.out; have := HJ10.out; first | omega | exact Nat.le_refl _⟩, by repeat (first | exact Drawn0.refl _ | apply Drawn0.step)⟩
                · rw [if_neg c16] at H
                  have c16b0 : decide (0 ≤ (wrap64 ((Go.bits .and .i64 ((Go.bits .or .i64 (wrap64 ((wrap64 (a0)) * 256)) (wrap64 (a1))) / 1024) 31) - 2))) = false := decide_eq_false c16
                  clear c16
                  (first | rw [c16b0] | (simp only [i64_w, i32_w]; rw [c16b0]) | skip)
                  have H' := Aside0.mk H
                  clear H
                  go_wp2
                  go_meet
                  case rel => exact ⟨_, (false), (by first | rfl | (simp; done) | (simp [*]; done)), H', ⟨by have := HJ4.out; have := HJ10.out; first | omega | exact Nat.le_refl _⟩, by repeat (first | exact Drawn0.refl _ | apply Drawn0.step)⟩
              case rest =>
                clear HC15
                try clear c1
                try clear p2
                try clear c4
                try clear c6
                try clear c6b0
                try clear p6
                try clear c7
                try clear c7b0
                try clear c8
                try clear c8b0
                try clear c9
                try clear c9b0
                try clear c10
                try clear c12
                try clear c12b0
                try clear c13
                try clear c14
                try clear c15
                try clear c16
                try clear c16b0
                try clear p2
                try clear p6
                obtain ⟨kq, x59_14, rfl, HA, HJ14, ⟨mc14, rfl⟩⟩ := hcut
                cases kq with
                | zero => exact absurd HA.out (by simp [johab_Sign.j2])
                | succ kj14 =>
                  have H := HA.out
                  clear HA
                  simp only [johab_Sign.j2] at H
                  by_cases c17 : x59_14 = true
                  · subst c17
                    have H1 : ((johab_alone.f (wrap64 (97 + (wrap64 ((Go.bits .and .i64 ((Go.bits .or .i64 (wrap64 ((wrap64 (a0)) * 256)) (wrap64 (a1))) / 1024) 31) - 2))))).bind fun bt107 => (some (bt107.1, bt107.2))) = some (r1, r2) := by rw [if_pos rfl] at H; exact H
                    clear H
                    have H := H1
                    clear H1
                    replace H := Option.bind_eq_some_iff.mp H
                    obtain ⟨⟨t107, t108⟩, A180, H⟩ := H
                    replace H : (some (t107, t108)) = some (r1, r2) := H
                    have A18 := Aside0.mk A180
                    clear A180
                    simp only [Option.some.injEq, Prod.mk.injEq] at H
                    obtain ⟨rfl, rfl⟩ := H
                    go_wp2_with (first | ((with_reducible refine gate_callee (f := 16) rfl ?_); refine goesL_ (some 68) rfl rfl Try.func16 (by kernel_rfl) rfl #[.int .i64 (wrap64 (97 + (wrap64 ((Go.bits .and .i64 ((Go.bits .or .i64 (wrap64 ((wrap64 (a0)) * 256)) (wrap64 (a1))) / 1024) 31) - 2))))] rfl (by (try simp only [List.map_toArray, List.map_cons, List.map_nil]); first | done | rfl | (simp only [List.length_drop, List.length_take]; rfl)) ?_; (with_reducible refine (johab_alone.calls (wrap64 (97 + (wrap64 ((Go.bits .and .i64 ((Go.bits .or .i64 (wrap64 ((wrap64 (a0)) * 256)) (wrap64 (a1))) / 1024) 31) - 2)))) t107 t108 _ A18.out).mono ?_); rintro e w' ⟨rfl, ⟨nd, rfl⟩⟩; refine ⟨_, rfl, ?_⟩))
                    go_ret2
                    exact ⟨by first | rfl | (simp; done) | (simp [*]; done), by repeat (first | exact Drawn0.refl _ | apply Drawn0.step)⟩
                  · replace c17 := Bool.eq_false_iff.mpr c17
                    subst c17
                    have H1 : (if t103 ≥ 0 then (johab_Sign.j3 kj14 (wrap64 ((Go.bits .and .i64 ((Go.bits .or .i64 (wrap64 ((wrap64 (a0)) * 256)) (wrap64 (a1))) / 1024) 31) - 2)) t103 t104 (t104 == 0)) else (johab_Sign.j3 kj14 (wrap64 ((Go.bits .and .i64 ((Go.bits .or .i64 (wrap64 ((wrap64 (a0)) * 256)) (wrap64 (a1))) / 1024) 31) - 2)) t103 t104 false)) = some (r1, r2) := by rw [if_neg (show ¬ (false = true) by decide)] at H; exact H
                    clear H
                    have H := H1
                    clear H1
                    have HC19 := Aside0.mk H
                    clear H
                    go_upto_region 9 with (fail)
                    go_cut [71] (fun v71 wc => ∃ (kq : Nat) (x71_18 : Bool), v71 = .bool x71_18 ∧ Aside0 (johab_Sign.j3 kq (wrap64 ((Go.bits .and .i64 ((Go.bits .or .i64 (wrap64 ((wrap64 (a0)) * 256)) (wrap64 (a1))) / 1024) 31) - 2)) t103 t104 x71_18 = some (r1, r2)) ∧ Aside0 (kq ≤ kj14) ∧ Drawn0 w wc)
                    case first =>
                      have H := HC19.out
                      clear HC19
                      by_cases c20 : t103 ≥ 0
                      · rw [if_pos c20] at H
                        have c20b0 : decide (0 ≤ t103) = true := decide_eq_true c20
                        clear c20
                        (first | rw [c20b0] | (simp only [i64_w, i32_w]; rw [c20b0]) | skip)
                        have H' := Aside0.mk H
                        clear H
                        go_wp2
                        go_meet
                        case rel => exact ⟨_, ((t104 == 0)), (by first | rfl | (simp; done) | (simp [*]; done)), H', ⟨by have := HJ4.out; have := HJ10.out; have := HJ14.out; first | omega | exact Nat.le_refl _⟩, by repeat (first | exact Drawn0.refl _ | apply Drawn0.step)⟩
                      · rw [if_neg c20] at H
                        have c20b0 : decide (0 ≤ t103) = false := decide_eq_false c20
                        clear c20
                        (first | rw [c20b0] | (simp only [i64_w, i32_w]; rw [c20b0]) | skip)
                        have H' := Aside0.mk H
                        clear H
                        go_wp2
                        go_meet
                        case rel => exact ⟨_, (false), (by first | rfl | (simp; done) | (simp [*]; done)), H', ⟨by have := HJ4.out; have := HJ10.out; have := HJ14.out; first | omega | exact Nat.le_refl _⟩, by repeat (first | exact Drawn0.refl _ | apply Drawn0.step)⟩
                    case rest =>
                      clear HC19
                      try clear c1
                      try clear c2
                      try clear p2
                      try clear c4
                      try clear c6
                      try clear c6b0
                      try clear p6
                      try clear c7
                      try clear c7b0
                      try clear c8
                      try clear c8b0
                      try clear c9
                      try clear c9b0
                      try clear c10
                      try clear c12
                      try clear c12b0
                      try clear c13
                      try clear c14
                      try clear c15
                      try clear c16
                      try clear c16b0
                      try clear c17
                      try clear c20
                      try clear c20b0
                      try clear p2
                      try clear p6
                      obtain ⟨kq, x71_18, rfl, HA, HJ18, ⟨mc18, rfl⟩⟩ := hcut
                      cases kq with
                      | zero => exact absurd HA.out (by simp [johab_Sign.j3])
                      | succ kj18 =>
                        have H := HA.out
                        clear HA
                        simp only [johab_Sign.j3] at H
                        by_cases c21 : x71_18 = true
                        · subst c21
                          have H1 : (some (wrap32 (wrap64 (12623 + t103)), true)) = some (r1, r2) := by rw [if_pos rfl] at H; exact H
                          clear H
                          have H := H1
                          clear H1
                          simp only [Option.some.injEq, Prod.mk.injEq] at H
                          obtain ⟨rfl, rfl⟩ := H
                          go_wp2
                          go_ret2
                          exact ⟨by first | rfl | (simp; done) | (simp [*]; done), by repeat (first | exact Drawn0.refl _ | apply Drawn0.step)⟩
                        · replace c21 := Bool.eq_false_iff.mpr c21
                          subst c21
                          have H1 : (if (wrap64 ((Go.bits .and .i64 ((Go.bits .or .i64 (wrap64 ((wrap64 (a0)) * 256)) (wrap64 (a1))) / 1024) 31) - 2)) ≥ 0 then (some (0, false)) else (if t103 ≥ 0 then (some (0, false)) else (if t104 = 0 then (some (0, false)) else ((johab_alone.f (wrap64 (65 + t104))).bind fun bt109 => (some (bt109.1, bt109.2)))))) = some (r1, r2) := by rw [if_neg (show ¬ (false = true) by decide)] at H; exact H
                          clear H
                          have H := H1
                          clear H1
                          by_cases c22 : (wrap64 ((Go.bits .and .i64 ((Go.bits .or .i64 (wrap64 ((wrap64 (a0)) * 256)) (wrap64 (a1))) / 1024) 31) - 2)) ≥ 0
                          · rw [if_pos c22] at H
                            have c22b0 : decide (0 ≤ (wrap64 ((Go.bits .and .i64 ((Go.bits .or .i64 (wrap64 ((wrap64 (a0)) * 256)) (wrap64 (a1))) / 1024) 31) - 2))) = true := decide_eq_true c22
                            clear c22
                            simp only [Option.some.injEq, Prod.mk.injEq] at H
                            obtain ⟨rfl, rfl⟩ := H
                            go_wp2
                            go_ret2
                            exact ⟨by first | rfl | (simp; done) | (simp [*]; done), by repeat (first | exact Drawn0.refl _ | apply Drawn0.step)⟩
                          · rw [if_neg c22] at H
                            have c22b0 : decide (0 ≤ (wrap64 ((Go.bits .and .i64 ((Go.bits .or .i64 (wrap64 ((wrap64 (a0)) * 256)) (wrap64 (a1))) / 1024) 31) - 2))) = false := decide_eq_false c22
                            clear c22
                            by_cases c23 : t103 ≥ 0
                            · rw [if_pos c23] at H
                              have c23b0 : decide (0 ≤ t103) = true := decide_eq_true c23
                              clear c23
                              simp only [Option.some.injEq, Prod.mk.injEq] at H
                              obtain ⟨rfl, rfl⟩ := H
                              go_wp2
                              go_ret2
                              exact ⟨by first | rfl | (simp; done) | (simp [*]; done), by repeat (first | exact Drawn0.refl _ | apply Drawn0.step)⟩
                            · rw [if_neg c23] at H
                              have c23b0 : decide (0 ≤ t103) = false := decide_eq_false c23
                              clear c23
                              by_cases c24 : t104 = 0
                              · rw [if_pos c24] at H
                                have c24b0 : (t104 == 0) = true := beq_iff_eq.mpr c24
                                have c24b1 : (t104 != 0) = false := bne_eq_false_iff_eq.mpr c24
                                clear c24
                                simp only [Option.some.injEq, Prod.mk.injEq] at H
                                obtain ⟨rfl, rfl⟩ := H
                                go_wp2
                                go_ret2
                                exact ⟨by first | rfl | (simp; done) | (simp [*]; done), by repeat (first | exact Drawn0.refl _ | apply Drawn0.step)⟩
                              · rw [if_neg c24] at H
                                have c24b0 : (t104 == 0) = false := beq_eq_false_iff_ne.mpr c24
                                have c24b1 : (t104 != 0) = true := bne_iff_ne.mpr c24
                                replace H := Option.bind_eq_some_iff.mp H
                                obtain ⟨⟨t109, t110⟩, A250, H⟩ := H
                                replace H : (some (t109, t110)) = some (r1, r2) := H
                                have A25 := Aside0.mk A250
                                clear A250
                                simp only [Option.some.injEq, Prod.mk.injEq] at H
                                obtain ⟨rfl, rfl⟩ := H
                                go_wp2_with (first | ((with_reducible refine gate_callee (f := 16) rfl ?_); refine goesL_ (some 94) rfl rfl Try.func16 (by kernel_rfl) rfl #[.int .i64 (wrap64 (65 + t104))] rfl (by (try simp only [List.map_toArray, List.map_cons, List.map_nil]); first | done | rfl | (simp only [List.length_drop, List.length_take]; rfl)) ?_; (with_reducible refine (johab_alone.calls (wrap64 (65 + t104)) t109 t110 _ A25.out).mono ?_); rintro e w' ⟨rfl, ⟨nd, rfl⟩⟩; refine ⟨_, rfl, ?_⟩))
                                go_ret2
                                exact ⟨by first | rfl | (simp; done) | (simp [*]; done), by repeat (first | exact Drawn0.refl _ | apply Drawn0.step)⟩

/-! ### diacriticref06_Medial: function 17 -/
def diacriticref06_Medial.f (a0 : Int) : Option (Int) := (some (([(-2), (-2), (-1), 0, 1, 2, 3, 4, (-2), (-2), 5, 6, 7, 8, 9, 10, (-2), (-2), 11, 12, 13, 14, 15, 16, (-2), (-2), 17, 18, 19, 20, (-2), (-2)] : List Int) : List Int)).bind fun y111 => (if 0 ≤ a0 then (if a0 < (y111.length : Int) then (some (rd y111 a0)) else (none)) else (none))
set_option maxHeartbeats 8000000 in
set_option maxRecDepth 100000 in
theorem diacriticref06_Medial.calls (a0 : Int) (r : Int) (w : World) (h : diacriticref06_Medial.f a0 = some r) :
    Calls Try.prog 17 #[.int .i64 a0] w fun e w' => e = .returned (.int .i64 r) ∧ Below w.heap.size w w' := by
  have HB := Aside0.mk (Below.refl w.heap.size w)
  have H : ((some (([(-2), (-2), (-1), 0, 1, 2, 3, 4, (-2), (-2), 5, 6, 7, 8, 9, 10, (-2), (-2), 11, 12, 13, 14, 15, 16, (-2), (-2), 17, 18, 19, 20, (-2), (-2)] : List Int) : List Int)).bind fun y111 => (if 0 ≤ a0 then (if a0 < (y111.length : Int) then (some (rd y111 a0)) else (none)) else (none))) = some r := h
  clear h
  obtain ⟨y111, hy111⟩ : ∃ y_ : List Int, y_ = (([(-2), (-2), (-1), 0, 1, 2, 3, 4, (-2), (-2), 5, 6, 7, 8, 9, 10, (-2), (-2), 11, 12, 13, 14, 15, 16, (-2), (-2), 17, 18, 19, 20, (-2), (-2)] : List Int)) := ⟨_, rfl⟩
  replace H : (if 0 ≤ a0 then (if a0 < (y111.length : Int) then (some (rd y111 a0)) else (none)) else (none)) = some r := by first | (rw [hy111]; with_reducible exact H) | (have H2_ := (Option.bind_some _ _).symm.trans H; rw [hy111]; with_reducible exact H2_) | (have H2_ := (Option.bind_some _ _).symm.trans H; with_reducible exact H2_) | with_reducible exact H | (rw [hy111]; exact H) | exact H
  have Ny111 := Aside0.mk hy111
  clear hy111
  by_cases c2 : 0 ≤ a0
  · rw [if_pos c2] at H
    have c2b0 : decide (0 ≤ a0) = true := decide_eq_true c2
    clear c2
    by_cases c3 : a0 < (y111.length : Int)
    · rw [if_pos c3] at H
      have c3b0 : decide (a0 < (y111.length : Int)) = true := decide_eq_true c3
      clear c3
      obtain rfl := Option.some.inj H
      go_enter Try.func17, Try.ntmps17
      go_wp2_with (first | ((with_reducible refine gate_dst (N := 4) rfl ?_); refine Kd.R_lit (Kd.int .i64) _ 3 ?hg (N := 4) ?hd (xs := ([(-2), (-2), (-1), 0, 1, 2, 3, 4, (-2), (-2), 5, 6, 7, 8, 9, 10, (-2), (-2), 11, 12, 13, 14, 15, 16, (-2), (-2), 17, 18, 19, 20, (-2), (-2)] : List Int)) (inner := [.int .i64 (-2), .int .i64 (-2), .int .i64 (-1), .int .i64 0, .int .i64 1, .int .i64 2, .int .i64 3, .int .i64 4, .int .i64 (-2), .int .i64 (-2), .int .i64 5, .int .i64 6, .int .i64 7, .int .i64 8, .int .i64 9, .int .i64 10, .int .i64 (-2), .int .i64 (-2), .int .i64 11, .int .i64 12, .int .i64 13, .int .i64 14, .int .i64 15, .int .i64 16, .int .i64 (-2), .int .i64 (-2), .int .i64 17, .int .i64 18, .int .i64 19, .int .i64 20, .int .i64 (-2), .int .i64 (-2)]) (ok := fun _ => True) (okp := fun _ => True) ?hr ?hp (fun _ hk => hk) trivial (Below.refl _ _) (Nat.le_refl _) (by simp) ?_; (case hd => rfl); (case hg => rfl); (case hr => first | (go_simp; done) | (go_simp; rfl)); (case hp => exact (Reps.one (show Kd.M (Kd.int .i64) _ _ _ (-2) [.int .i64 (-2)] from rfl) (Reps.one (show Kd.M (Kd.int .i64) _ _ _ (-2) [.int .i64 (-2)] from rfl) (Reps.one (show Kd.M (Kd.int .i64) _ _ _ (-1) [.int .i64 (-1)] from rfl) (Reps.one (show Kd.M (Kd.int .i64) _ _ _ 0 [.int .i64 0] from rfl) (Reps.one (show Kd.M (Kd.int .i64) _ _ _ 1 [.int .i64 1] from rfl) (Reps.one (show Kd.M (Kd.int .i64) _ _ _ 2 [.int .i64 2] from rfl) (Reps.one (show Kd.M (Kd.int .i64) _ _ _ 3 [.int .i64 3] from rfl) (Reps.one (show Kd.M (Kd.int .i64) _ _ _ 4 [.int .i64 4] from rfl) (Reps.one (show Kd.M (Kd.int .i64) _ _ _ (-2) [.int .i64 (-2)] from rfl) (Reps.one (show Kd.M (Kd.int .i64) _ _ _ (-2) [.int .i64 (-2)] from rfl) (Reps.one (show Kd.M (Kd.int .i64) _ _ _ 5 [.int .i64 5] from rfl) (Reps.one (show Kd.M (Kd.int .i64) _ _ _ 6 [.int .i64 6] from rfl) (Reps.one (show Kd.M (Kd.int .i64) _ _ _ 7 [.int .i64 7] from rfl) (Reps.one (show Kd.M (Kd.int .i64) _ _ _ 8 [.int .i64 8] from rfl) (Reps.one (show Kd.M (Kd.int .i64) _ _ _ 9 [.int .i64 9] from rfl) (Reps.one (show Kd.M (Kd.int .i64) _ _ _ 10 [.int .i64 10] from rfl) (Reps.one (show Kd.M (Kd.int .i64) _ _ _ (-2) [.int .i64 (-2)] from rfl) (Reps.one (show Kd.M (Kd.int .i64) _ _ _ (-2) [.int .i64 (-2)] from rfl) (Reps.one (show Kd.M (Kd.int .i64) _ _ _ 11 [.int .i64 11] from rfl) (Reps.one (show Kd.M (Kd.int .i64) _ _ _ 12 [.int .i64 12] from rfl) (Reps.one (show Kd.M (Kd.int .i64) _ _ _ 13 [.int .i64 13] from rfl) (Reps.one (show Kd.M (Kd.int .i64) _ _ _ 14 [.int .i64 14] from rfl) (Reps.one (show Kd.M (Kd.int .i64) _ _ _ 15 [.int .i64 15] from rfl) (Reps.one (show Kd.M (Kd.int .i64) _ _ _ 16 [.int .i64 16] from rfl) (Reps.one (show Kd.M (Kd.int .i64) _ _ _ (-2) [.int .i64 (-2)] from rfl) (Reps.one (show Kd.M (Kd.int .i64) _ _ _ (-2) [.int .i64 (-2)] from rfl) (Reps.one (show Kd.M (Kd.int .i64) _ _ _ 17 [.int .i64 17] from rfl) (Reps.one (show Kd.M (Kd.int .i64) _ _ _ 18 [.int .i64 18] from rfl) (Reps.one (show Kd.M (Kd.int .i64) _ _ _ 19 [.int .i64 19] from rfl) (Reps.one (show Kd.M (Kd.int .i64) _ _ _ 20 [.int .i64 20] from rfl) (Reps.one (show Kd.M (Kd.int .i64) _ _ _ (-2) [.int .i64 (-2)] from rfl) (Reps.one (show Kd.M (Kd.int .i64) _ _ _ (-2) [.int .i64 (-2)] from rfl) (Reps.none _ _)))))))))))))))))))))))))))))))))); intro v112 w4 ho5 hb hg_ hnew_; clear hg_ hnew_; (first | rw [← Ny111.out] at ho5 | (simp only [Int.reduceToNat] at ho5; rw [← Ny111.out] at ho5)); have n0_ := Aside0.mk (Kd.R_lower ho5 (below_size (by repeat (first | (with_reducible first | exact HB.out | apply below_alloc | apply pw_below_drewN | apply below_drew1) | exact HB.out)))); have n1_ := Aside0.mk (below_step (by repeat (first | (with_reducible first | exact HB.out | apply below_alloc | apply pw_below_drewN | apply below_drew1) | exact HB.out)) hb); clear HB; have HO113 := n0_; have HB := n1_; clear n0_ n1_; clear hb ho5; obtain ⟨Ao6, co6, eo6⟩ := Kd.R_slice HO113.out; subst eo6; have p114 : 0 ≤ (a0 : Int) := of_decide_eq_true (by first | (with_reducible assumption) | assumption); have q114 : a0 < (y111.length : Int) := of_decide_eq_true (by first | (with_reducible assumption) | assumption); obtain ⟨ad114, e114, hx114_0⟩ := Kd.at_int (Kd.R_reads' HO113.out).2.2 a0 p114 q114; cases e114; replace p114 := eq_true p114; replace q114 := eq_true q114))
      go_ret
      exact ⟨by first | rfl | (simp [errW_none, errW_some] <;> rfl) | (simp [*, errW_none, errW_some] <;> rfl), by repeat (first | (with_reducible first | exact HB.out | apply below_alloc | apply pw_below_drewN | apply below_drew1) | exact HB.out)⟩
    · rw [if_neg c3] at H
      exact absurd H (by simp)
  · rw [if_neg c2] at H
    exact absurd H (by simp)

/-! ### diacriticref06_Final: function 18 -/
def diacriticref06_Final.j0 : Nat → Int → Bool → Option (Int)
  | 0, _, _ => none
  | k + 1, x0, x12 => if x12 = true then (some (-2)) else (if x0 < 18 then (some (wrap64 (x0 - 1))) else (some (wrap64 (x0 - 2))))
def diacriticref06_Final.f (k : Nat) (a0 : Int) : Option (Int) := if a0 = 0 then (diacriticref06_Final.j0 k a0 true) else (if a0 = 18 then (diacriticref06_Final.j0 k a0 true) else (diacriticref06_Final.j0 k a0 (decide (a0 > 29))))
theorem diacriticref06_Final.mono_l : ∀ k, (∀ y0 y1, LeO (diacriticref06_Final.j0 k y0 y1) (diacriticref06_Final.j0 (k + 1) y0 y1))
  | 0 => fun _ _ r h => by simp [diacriticref06_Final.j0] at h
  | k + 1 => by
    have ih0 := diacriticref06_Final.mono_l k
    · intro y0 y1
      unfold diacriticref06_Final.j0
      repeat' first
      | (with_reducible exact ih0 _ _)
      | (with_reducible exact LeO.refl _)
      | (with_reducible exact LeO.none _)
      | (with_reducible refine LeO.ite ?_ ?_)
      | (with_reducible refine LeO.bind ?_ (fun _ => ?_))
      | exact ih0 _ _
      | exact LeO.none _
      | refine LeO.ite ?_ ?_
      | refine LeO.bind ?_ (fun _ => ?_)
theorem diacriticref06_Final.mono : ∀ a0 k, LeO (diacriticref06_Final.f k a0) (diacriticref06_Final.f (k + 1) a0) := by
  intro a0 k
  have ih0 := diacriticref06_Final.mono_l k
  unfold diacriticref06_Final.f
  repeat' first
      | (with_reducible exact ih0 _ _)
      | (with_reducible exact LeO.refl _)
      | (with_reducible exact LeO.none _)
      | (with_reducible refine LeO.ite ?_ ?_)
      | (with_reducible refine LeO.bind ?_ (fun _ => ?_))
      | exact ih0 _ _
      | exact LeO.none _
      | refine LeO.ite ?_ ?_
      | refine LeO.bind ?_ (fun _ => ?_)
set_option maxHeartbeats 8000000 in
set_option maxRecDepth 100000 in
theorem diacriticref06_Final.calls (k : Nat) (a0 : Int) (r : Int) (w : World) (h : diacriticref06_Final.f k a0 = some r) :
    Calls Try.prog 18 #[.int .i64 a0] w fun e w' => e = .returned (.int .i64 r) ∧ Drawn0 w w' := by
  have H : (if a0 = 0 then (diacriticref06_Final.j0 k a0 true) else (if a0 = 18 then (diacriticref06_Final.j0 k a0 true) else (diacriticref06_Final.j0 k a0 (decide (a0 > 29))))) = some r := h
  clear h
  have HC2 := Aside0.mk H
  clear H
  go_enter Try.func18, Try.ntmps18
  go_upto_region 1 with (fail)
  go_cut [12] (fun v12 wc => ∃ (kq : Nat) (x12_1 : Bool), v12 = .bool x12_1 ∧ Aside0 (diacriticref06_Final.j0 kq a0 x12_1 = some r) ∧ Aside0 (kq ≤ k) ∧ Drawn0 w wc)
  case first =>
    have H := HC2.out
    clear HC2
    by_cases c3 : a0 = 0
    · rw [if_pos c3] at H
      have c3b0 : (a0 == 0) = true := beq_iff_eq.mpr c3
      have c3b1 : (a0 != 0) = false := bne_eq_false_iff_eq.mpr c3
      clear c3
      (first | rw [c3b0] | (simp only [i64_w, i32_w]; rw [c3b0]) | skip)
      have H' := Aside0.mk H
      clear H
      go_wp2
      go_meet
      case rel => exact ⟨_, (true), (by first | rfl | (simp; done) | (simp [*]; done)), H', ⟨by first | omega | exact Nat.le_refl _⟩, by repeat (first | exact Drawn0.refl _ | apply Drawn0.step)⟩
    · rw [if_neg c3] at H
      have c3b0 : (a0 == 0) = false := beq_eq_false_iff_ne.mpr c3
      have c3b1 : (a0 != 0) = true := bne_iff_ne.mpr c3
      (first | rw [c3b0] | (simp only [i64_w, i32_w]; rw [c3b0]) | skip)
      by_cases c4 : a0 = 18
      · rw [if_pos c4] at H
        have c4b0 : (a0 == 18) = true := beq_iff_eq.mpr c4
        have c4b1 : (a0 != 18) = false := bne_eq_false_iff_eq.mpr c4
        clear c4
        have H' := Aside0.mk H
        clear H
        go_wp2
        go_meet
        case rel => exact ⟨_, (true), (by first | rfl | (simp; done) | (simp [*]; done)), H', ⟨by first | omega | exact Nat.le_refl _⟩, by repeat (first | exact Drawn0.refl _ | apply Drawn0.step)⟩
      · rw [if_neg c4] at H
        have c4b0 : (a0 == 18) = false := beq_eq_false_iff_ne.mpr c4
        have c4b1 : (a0 != 18) = true := bne_iff_ne.mpr c4
        have H' := Aside0.mk H
        clear H
        go_wp2
        go_meet
        case rel => exact ⟨_, (decide (a0 > 29)), (by first | rfl | (simp; done) | (simp [*]; done)), H', ⟨by first | omega | exact Nat.le_refl _⟩, by repeat (first | exact Drawn0.refl _ | apply Drawn0.step)⟩
  case rest =>
    clear HC2
    try clear c1
    try clear p2
    try clear c3
    try clear c3b0
    try clear c3b1
    try clear c4
    try clear c4b0
    try clear c4b1
    obtain ⟨kq, x12_1, rfl, HA, HJ1, ⟨mc1, rfl⟩⟩ := hcut
    cases kq with
    | zero => exact absurd HA.out (by simp [diacriticref06_Final.j0])
    | succ kj1 =>
      have H := HA.out
      clear HA
      simp only [diacriticref06_Final.j0] at H
      by_cases c5 : x12_1 = true
      · subst c5
        have H1 : (some (-2)) = some r := by rw [if_pos rfl] at H; exact H
        clear H
        have H := H1
        clear H1
        obtain rfl := Option.some.inj H
        go_wp2
        go_ret
        exact ⟨by first | rfl | (simp; done) | (simp [*]; done), by repeat (first | exact Drawn0.refl _ | apply Drawn0.step)⟩
      · replace c5 := Bool.eq_false_iff.mpr c5
        subst c5
        have H1 : (if a0 < 18 then (some (wrap64 (a0 - 1))) else (some (wrap64 (a0 - 2)))) = some r := by rw [if_neg (show ¬ (false = true) by decide)] at H; exact H
        clear H
        have H := H1
        clear H1
        by_cases c6 : a0 < 18
        · rw [if_pos c6] at H
          have c6b0 : decide (a0 < 18) = true := decide_eq_true c6
          clear c6
          obtain rfl := Option.some.inj H
          go_wp2
          go_ret
          exact ⟨by first | rfl | (simp; done) | (simp [*]; done), by repeat (first | exact Drawn0.refl _ | apply Drawn0.step)⟩
        · rw [if_neg c6] at H
          have c6b0 : decide (a0 < 18) = false := decide_eq_false c6
          clear c6
          obtain rfl := Option.some.inj H
          go_wp2
          go_ret
          exact ⟨by first | rfl | (simp; done) | (simp [*]; done), by repeat (first | exact Drawn0.refl _ | apply Drawn0.step)⟩

/-! ### diacriticref06_Alone: function 19 -/
def diacriticref06_Alone.l0 : Nat → Int → List Int → Int → Option (Int)
  | 0, _, _, _ => none
  | k + 1, x0, x3, x4 => if x4 < (x3.length : Int) then (if 0 ≤ x4 then (if (rd x3 x4) = x0 then (some (wrap32 (wrap64 (12593 + x4)))) else (diacriticref06_Alone.l0 k x0 x3 (wrap64 (x4 + 1)))) else (none)) else (some 0)
def diacriticref06_Alone.f (k : Nat) (a0 : Int) : Option (Int) := diacriticref06_Alone.l0 k a0 (([0, 1, 103, 2, 105, 106, 3, 4, 5, 109, 110, 111, 112, 113, 114, 115, 6, 7, 8, 118, 9, 10, 11, 12, 13, 14, 15, 16, 17, 18] : List Int)) 0
theorem diacriticref06_Alone.mono_l : ∀ k, (∀ y0 y1 y2, LeO (diacriticref06_Alone.l0 k y0 y1 y2) (diacriticref06_Alone.l0 (k + 1) y0 y1 y2))
  | 0 => fun _ _ _ r h => by simp [diacriticref06_Alone.l0] at h
  | k + 1 => by
    have ih0 := diacriticref06_Alone.mono_l k
    · intro y0 y1 y2
      unfold diacriticref06_Alone.l0
      repeat' first
      | (with_reducible exact ih0 _ _ _)
      | (with_reducible exact LeO.refl _)
      | (with_reducible exact LeO.none _)
      | (with_reducible refine LeO.ite ?_ ?_)
      | (with_reducible refine LeO.bind ?_ (fun _ => ?_))
      | exact ih0 _ _ _
      | exact LeO.none _
      | refine LeO.ite ?_ ?_
      | refine LeO.bind ?_ (fun _ => ?_)
theorem diacriticref06_Alone.mono : ∀ a0 k, LeO (diacriticref06_Alone.f k a0) (diacriticref06_Alone.f (k + 1) a0) := by
  intro a0 k
  have ih0 := diacriticref06_Alone.mono_l k
  unfold diacriticref06_Alone.f
  repeat' first
      | (with_reducible exact ih0 _ _ _)
      | (with_reducible exact LeO.refl _)
      | (with_reducible exact LeO.none _)
      | (with_reducible refine LeO.ite ?_ ?_)
      | (with_reducible refine LeO.bind ?_ (fun _ => ?_))
      | exact ih0 _ _ _
      | exact LeO.none _
      | refine LeO.ite ?_ ?_
      | refine LeO.bind ?_ (fun _ => ?_)
set_option maxHeartbeats 8000000 in
set_option maxRecDepth 100000 in
theorem diacriticref06_Alone.calls (k : Nat) (a0 : Int) (r : Int) (w : World) (h : diacriticref06_Alone.f k a0 = some r) :
    Calls Try.prog 19 #[.int .i64 a0] w fun e w' => e = .returned (.int .i32 r) ∧ Below w.heap.size w w' := by
  have HB := Aside0.mk (Below.refl w.heap.size w)
  have H : (diacriticref06_Alone.l0 k a0 (([0, 1, 103, 2, 105, 106, 3, 4, 5, 109, 110, 111, 112, 113, 114, 115, 6, 7, 8, 118, 9, 10, 11, 12, 13, 14, 15, 16, 17, 18] : List Int)) 0) = some r := h
  clear h
  obtain ⟨y115, hy115⟩ : ∃ y_ : List Int, y_ = (([0, 1, 103, 2, 105, 106, 3, 4, 5, 109, 110, 111, 112, 113, 114, 115, 6, 7, 8, 118, 9, 10, 11, 12, 13, 14, 15, 16, 17, 18] : List Int)) := ⟨_, rfl⟩
  replace H : (diacriticref06_Alone.l0 k a0 y115 0) = some r := by first | (rw [hy115]; with_reducible exact H) | (have H2_ := (Option.bind_some _ _).symm.trans H; rw [hy115]; with_reducible exact H2_) | (have H2_ := (Option.bind_some _ _).symm.trans H; with_reducible exact H2_) | with_reducible exact H | (rw [hy115]; exact H) | exact H
  have Ny115 := Aside0.mk hy115
  clear hy115
  have H' := Aside0.mk H
  clear H
  go_enter Try.func19, Try.ntmps19
  go_wp2_with (first | ((with_reducible refine gate_dst (N := 5) rfl ?_); refine Kd.R_lit (Kd.int .i64) _ 3 ?hg (N := 5) ?hd (xs := ([0, 1, 103, 2, 105, 106, 3, 4, 5, 109, 110, 111, 112, 113, 114, 115, 6, 7, 8, 118, 9, 10, 11, 12, 13, 14, 15, 16, 17, 18] : List Int)) (inner := [.int .i64 0, .int .i64 1, .int .i64 103, .int .i64 2, .int .i64 105, .int .i64 106, .int .i64 3, .int .i64 4, .int .i64 5, .int .i64 109, .int .i64 110, .int .i64 111, .int .i64 112, .int .i64 113, .int .i64 114, .int .i64 115, .int .i64 6, .int .i64 7, .int .i64 8, .int .i64 118, .int .i64 9, .int .i64 10, .int .i64 11, .int .i64 12, .int .i64 13, .int .i64 14, .int .i64 15, .int .i64 16, .int .i64 17, .int .i64 18]) (ok := fun _ => True) (okp := fun _ => True) ?hr ?hp (fun _ hk => hk) trivial (Below.refl _ _) (Nat.le_refl _) (by simp) ?_; (case hd => rfl); (case hg => rfl); (case hr => first | (go_simp; done) | (go_simp; rfl)); (case hp => exact (Reps.one (show Kd.M (Kd.int .i64) _ _ _ 0 [.int .i64 0] from rfl) (Reps.one (show Kd.M (Kd.int .i64) _ _ _ 1 [.int .i64 1] from rfl) (Reps.one (show Kd.M (Kd.int .i64) _ _ _ 103 [.int .i64 103] from rfl) (Reps.one (show Kd.M (Kd.int .i64) _ _ _ 2 [.int .i64 2] from rfl) (Reps.one (show Kd.M (Kd.int .i64) _ _ _ 105 [.int .i64 105] from rfl) (Reps.one (show Kd.M (Kd.int .i64) _ _ _ 106 [.int .i64 106] from rfl) (Reps.one (show Kd.M (Kd.int .i64) _ _ _ 3 [.int .i64 3] from rfl) (Reps.one (show Kd.M (Kd.int .i64) _ _ _ 4 [.int .i64 4] from rfl) (Reps.one (show Kd.M (Kd.int .i64) _ _ _ 5 [.int .i64 5] from rfl) (Reps.one (show Kd.M (Kd.int .i64) _ _ _ 109 [.int .i64 109] from rfl) (Reps.one (show Kd.M (Kd.int .i64) _ _ _ 110 [.int .i64 110] from rfl) (Reps.one (show Kd.M (Kd.int .i64) _ _ _ 111 [.int .i64 111] from rfl) (Reps.one (show Kd.M (Kd.int .i64) _ _ _ 112 [.int .i64 112] from rfl) (Reps.one (show Kd.M (Kd.int .i64) _ _ _ 113 [.int .i64 113] from rfl) (Reps.one (show Kd.M (Kd.int .i64) _ _ _ 114 [.int .i64 114] from rfl) (Reps.one (show Kd.M (Kd.int .i64) _ _ _ 115 [.int .i64 115] from rfl) (Reps.one (show Kd.M (Kd.int .i64) _ _ _ 6 [.int .i64 6] from rfl) (Reps.one (show Kd.M (Kd.int .i64) _ _ _ 7 [.int .i64 7] from rfl) (Reps.one (show Kd.M (Kd.int .i64) _ _ _ 8 [.int .i64 8] from rfl) (Reps.one (show Kd.M (Kd.int .i64) _ _ _ 118 [.int .i64 118] from rfl) (Reps.one (show Kd.M (Kd.int .i64) _ _ _ 9 [.int .i64 9] from rfl) (Reps.one (show Kd.M (Kd.int .i64) _ _ _ 10 [.int .i64 10] from rfl) (Reps.one (show Kd.M (Kd.int .i64) _ _ _ 11 [.int .i64 11] from rfl) (Reps.one (show Kd.M (Kd.int .i64) _ _ _ 12 [.int .i64 12] from rfl) (Reps.one (show Kd.M (Kd.int .i64) _ _ _ 13 [.int .i64 13] from rfl) (Reps.one (show Kd.M (Kd.int .i64) _ _ _ 14 [.int .i64 14] from rfl) (Reps.one (show Kd.M (Kd.int .i64) _ _ _ 15 [.int .i64 15] from rfl) (Reps.one (show Kd.M (Kd.int .i64) _ _ _ 16 [.int .i64 16] from rfl) (Reps.one (show Kd.M (Kd.int .i64) _ _ _ 17 [.int .i64 17] from rfl) (Reps.one (show Kd.M (Kd.int .i64) _ _ _ 18 [.int .i64 18] from rfl) (Reps.none _ _)))))))))))))))))))))))))))))))); intro v116 w2 ho3 hb hg_ hnew_; clear hg_ hnew_; (first | rw [← Ny115.out] at ho3 | (simp only [Int.reduceToNat] at ho3; rw [← Ny115.out] at ho3)); have n0_ := Aside0.mk (Kd.R_lower ho3 (below_size (by repeat (first | (with_reducible first | exact HB.out | apply below_alloc | apply pw_below_drewN | apply below_drew1) | exact HB.out)))); have n1_ := Aside0.mk (below_step (by repeat (first | (with_reducible first | exact HB.out | apply below_alloc | apply pw_below_drewN | apply below_drew1) | exact HB.out)) hb); clear HB; have HO117 := n0_; have HB := n1_; clear n0_ n1_; clear hb ho3))
  go_loopg [4] k (fun kq v4 w' => ∃ (x4_1 : Int), v4 = .int .i64 x4_1 ∧ Aside0 (diacriticref06_Alone.l0 kq a0 y115 x4_1 = some r) ∧ Aside0 (kq ≤ k) ∧ Aside0 (Kd.R (Kd.int .i64) 3 w' w.heap.size (fun _ => True) v116 y115) ∧ Aside0 (Below w.heap.size w w'))
  case atStart => exact ⟨(0), (by first | rfl | (simp; done) | (simp [*]; done)), H', ⟨Nat.le_refl _⟩, ⟨by (with_reducible repeat (first | apply Kd.R_alloc | apply Kd.R_drewN | apply Kd.R_drew)); exact HO117.out⟩, ⟨by repeat (first | (with_reducible first | exact HB.out | apply below_alloc | apply pw_below_drewN | apply below_drew1) | exact HB.out)⟩⟩
  case round =>
    clear H'
    try clear c1
    try clear p2
    obtain ⟨x4_1, rfl, HA, HK1, HO_3, HB⟩ := hrel
    cases gk with
    | zero => exact absurd HA.out (by simp [diacriticref06_Alone.l0])
    | succ k1 =>
      have H := HA.out
      clear HA
      simp only [diacriticref06_Alone.l0] at H
      by_cases c4 : x4_1 < (y115.length : Int)
      · rw [if_pos c4] at H
        have c4b0 : decide (x4_1 < (y115.length : Int)) = true := decide_eq_true c4
        clear c4
        by_cases c5 : 0 ≤ x4_1
        · rw [if_pos c5] at H
          have c5b0 : decide (0 ≤ x4_1) = true := decide_eq_true c5
          clear c5
          by_cases c6 : (rd y115 x4_1) = a0
          · rw [if_pos c6] at H
            have c6b0 : ((rd y115 x4_1) == a0) = true := beq_iff_eq.mpr c6
            have c6b1 : ((rd y115 x4_1) != a0) = false := bne_eq_false_iff_eq.mpr c6
            clear c6
            obtain rfl := Option.some.inj H
            obtain ⟨Ao7, co7, eo7⟩ := Kd.R_slice HO_3.out
            subst eo7
            have p118 : 0 ≤ (x4_1 : Int) := of_decide_eq_true (by first | (with_reducible assumption) | assumption)
            have q118 : x4_1 < (y115.length : Int) := of_decide_eq_true (by first | (with_reducible assumption) | assumption)
            obtain ⟨ad118, e118, hx118_0⟩ := Kd.at_int (Kd.R_reads' HO_3.out).2.2 x4_1 p118 q118
            cases e118
            replace p118 := eq_true p118
            replace q118 := eq_true q118
            go_wp2
            go_ret
            exact ⟨by first | rfl | (simp [errW_none, errW_some] <;> rfl) | (simp [*, errW_none, errW_some] <;> rfl), by repeat (first | (with_reducible first | exact HB.out | apply below_alloc | apply pw_below_drewN | apply below_drew1) | exact HB.out)⟩
          · rw [if_neg c6] at H
            have c6b0 : ((rd y115 x4_1) == a0) = false := beq_eq_false_iff_ne.mpr c6
            have c6b1 : ((rd y115 x4_1) != a0) = true := bne_iff_ne.mpr c6
            have H' := Aside0.mk H
            clear H
            obtain ⟨Ao8, co8, eo8⟩ := Kd.R_slice HO_3.out
            subst eo8
            have p118 : 0 ≤ (x4_1 : Int) := of_decide_eq_true (by first | (with_reducible assumption) | assumption)
            have q118 : x4_1 < (y115.length : Int) := of_decide_eq_true (by first | (with_reducible assumption) | assumption)
            obtain ⟨ad118, e118, hx118_0⟩ := Kd.at_int (Kd.R_reads' HO_3.out).2.2 x4_1 p118 q118
            cases e118
            replace p118 := eq_true p118
            replace q118 := eq_true q118
            go_wp2
            go_roundg k1
            case measure => have := HK1.out; omega
            case rel => exact ⟨(wrap64 (x4_1 + 1)), (by first | rfl | (simp; done) | (simp [*]; done)), H', ⟨by have := HK1.out; omega⟩, ⟨by (with_reducible repeat (first | apply Kd.R_alloc | apply Kd.R_drewN | apply Kd.R_drew)); exact HO_3.out⟩, ⟨by repeat (first | (with_reducible first | exact HB.out | apply below_alloc | apply pw_below_drewN | apply below_drew1) | exact HB.out)⟩⟩
        · rw [if_neg c5] at H
          exact absurd H (by simp)
      · rw [if_neg c4] at H
        have c4b0 : decide (x4_1 < (y115.length : Int)) = false := decide_eq_false c4
        clear c4
        obtain rfl := Option.some.inj H
        obtain ⟨Ao9, co9, eo9⟩ := Kd.R_slice HO_3.out
        subst eo9
        go_wp2
        go_ret
        exact ⟨by first | rfl | (simp [errW_none, errW_some] <;> rfl) | (simp [*, errW_none, errW_some] <;> rfl), by repeat (first | (with_reducible first | exact HB.out | apply below_alloc | apply pw_below_drewN | apply below_drew1) | exact HB.out)⟩

end Go.Proofs.Ytjdcnpgemlhdfaa.PJohabSigns

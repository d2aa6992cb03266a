-- Laid by a program of this session (mkprint.py: the print with hand-written contracts beside).
import Derived.Test.YtjdcnpgemlhdfaaPJohabAllx0
import Derived.Test.YtjdcnpgemlhdfaaPJohabAllx2
namespace Go.Proofs.Ytjdcnpgemlhdfaa.PJohabAll
open Go.RowKit Go.Proofs.YtjdcnpgemlhdfaaW.PrintWords Go.Proofs.YtjdcnpgemlhdfaaW.PrintLast Go.Proofs.YtjdcnpgemlhdfaaW.PrintMore
attribute [local go_sem] max2_int min2_int max_two min_two max_three min_three max_four min_four   -- for this text's walks alone
set_option linter.unusedVariables false
set_option linter.unusedSimpArgs false

/-! ### johab_Sign: function 7 -/
mutual
def johab_Sign.j0 : Nat → Int → Int → Int → Bool → Option (Int × Bool)
  | 0, _, _, _, _ => none
  | k + 1, x7, x8, x9, x27 => if x27 = true then (some (0, false)) else (if x7 ≥ 0 then (johab_Sign.j1 k x7 x8 x9 (decide (x8 ≥ 0))) else (johab_Sign.j1 k x7 x8 x9 false))
def johab_Sign.j1 : Nat → Int → Int → Int → Bool → Option (Int × Bool)
  | 0, _, _, _, _ => none
  | k + 1, x7, x8, x9, x46 => if x46 = true then ((johab_Syllable.f x7 x8 x9).bind fun bt117 => (some (bt117.1, bt117.2))) else (if x7 ≥ 0 then (johab_Sign.j2 k x7 x8 x9 (x9 == 0)) else (johab_Sign.j2 k x7 x8 x9 false))
def johab_Sign.j2 : Nat → Int → Int → Int → Bool → Option (Int × Bool)
  | 0, _, _, _, _ => none
  | k + 1, x7, x8, x9, x59 => if x59 = true then ((johab_alone.f (wrap64 (97 + x7))).bind fun bt119 => (some (bt119.1, bt119.2))) else (if x8 ≥ 0 then (johab_Sign.j3 k x7 x8 x9 (x9 == 0)) else (johab_Sign.j3 k x7 x8 x9 false))
def johab_Sign.j3 : Nat → Int → Int → Int → Bool → Option (Int × Bool)
  | 0, _, _, _, _ => none
  | k + 1, x7, x8, x9, x71 => if x71 = true then (some (wrap32 (wrap64 (12623 + x8)), true)) else (if x7 ≥ 0 then (some (0, false)) else (if x8 ≥ 0 then (some (0, false)) else (if x9 = 0 then (some (0, false)) else ((johab_alone.f (wrap64 (65 + x9))).bind fun bt121 => (some (bt121.1, bt121.2))))))
end
def johab_Sign.f (k : Nat) (a0 : Int) (a1 : Int) : Option (Int × Bool) := (johab_medial.f k (Go.bits .and .i64 ((Go.bits .or .i64 (wrap64 ((wrap64 (a0)) * 256)) (wrap64 (a1))) / 32) 31)).bind fun t115 => ((johab_final.f k (Go.bits .and .i64 (Go.bits .or .i64 (wrap64 ((wrap64 (a0)) * 256)) (wrap64 (a1))) 31)).bind fun t116 => (if a0 < 128 then (johab_Sign.j0 k (wrap64 ((Go.bits .and .i64 ((Go.bits .or .i64 (wrap64 ((wrap64 (a0)) * 256)) (wrap64 (a1))) / 1024) 31) - 2)) t115 t116 true) else (if (wrap64 ((Go.bits .and .i64 ((Go.bits .or .i64 (wrap64 ((wrap64 (a0)) * 256)) (wrap64 (a1))) / 1024) 31) - 2)) < (-1) then (johab_Sign.j0 k (wrap64 ((Go.bits .and .i64 ((Go.bits .or .i64 (wrap64 ((wrap64 (a0)) * 256)) (wrap64 (a1))) / 1024) 31) - 2)) t115 t116 true) else (if (wrap64 ((Go.bits .and .i64 ((Go.bits .or .i64 (wrap64 ((wrap64 (a0)) * 256)) (wrap64 (a1))) / 1024) 31) - 2)) > 18 then (johab_Sign.j0 k (wrap64 ((Go.bits .and .i64 ((Go.bits .or .i64 (wrap64 ((wrap64 (a0)) * 256)) (wrap64 (a1))) / 1024) 31) - 2)) t115 t116 true) else (if t115 < (-1) then (johab_Sign.j0 k (wrap64 ((Go.bits .and .i64 ((Go.bits .or .i64 (wrap64 ((wrap64 (a0)) * 256)) (wrap64 (a1))) / 1024) 31) - 2)) t115 t116 true) else (johab_Sign.j0 k (wrap64 ((Go.bits .and .i64 ((Go.bits .or .i64 (wrap64 ((wrap64 (a0)) * 256)) (wrap64 (a1))) / 1024) 31) - 2)) t115 t116 (decide (t116 < 0))))))))
theorem johab_Sign.mono_l : ∀ k, (∀ y0 y1 y2 y3, LeO (johab_Sign.j0 k y0 y1 y2 y3) (johab_Sign.j0 (k + 1) y0 y1 y2 y3)) ∧ (∀ y0 y1 y2 y3, LeO (johab_Sign.j1 k y0 y1 y2 y3) (johab_Sign.j1 (k + 1) y0 y1 y2 y3)) ∧ (∀ y0 y1 y2 y3, LeO (johab_Sign.j2 k y0 y1 y2 y3) (johab_Sign.j2 (k + 1) y0 y1 y2 y3)) ∧ (∀ y0 y1 y2 y3, LeO (johab_Sign.j3 k y0 y1 y2 y3) (johab_Sign.j3 (k + 1) y0 y1 y2 y3))
  | 0 => ⟨fun _ _ _ _ r h => by simp [johab_Sign.j0] at h, fun _ _ _ _ r h => by simp [johab_Sign.j1] at h, fun _ _ _ _ r h => by simp [johab_Sign.j2] at h, fun _ _ _ _ r h => by simp [johab_Sign.j3] at h⟩
  | k + 1 => by
    obtain ⟨ih0, ih1, ih2, ih3⟩ := johab_Sign.mono_l k
    refine ⟨?_, ?_, ?_, ?_⟩
    · intro y0 y1 y2 y3
      unfold johab_Sign.j0
      repeat' first
      | (with_reducible exact ih0 _ _ _ _)
      | (with_reducible exact ih1 _ _ _ _)
      | (with_reducible exact ih2 _ _ _ _)
      | (with_reducible exact ih3 _ _ _ _)
      | (with_reducible exact johab_final.mono _ _)
      | (with_reducible exact johab_medial.mono _ _)
      | (with_reducible exact LeO.refl _)
      | (with_reducible exact LeO.none _)
      | (with_reducible refine LeO.ite ?_ ?_)
      | (with_reducible refine LeO.bind ?_ (fun _ => ?_))
      | exact ih0 _ _ _ _
      | exact ih1 _ _ _ _
      | exact ih2 _ _ _ _
      | exact ih3 _ _ _ _
      | exact johab_final.mono _ _
      | exact johab_medial.mono _ _
      | exact LeO.none _
      | refine LeO.ite ?_ ?_
      | refine LeO.bind ?_ (fun _ => ?_)
    · intro y0 y1 y2 y3
      unfold johab_Sign.j1
      repeat' first
      | (with_reducible exact ih0 _ _ _ _)
      | (with_reducible exact ih1 _ _ _ _)
      | (with_reducible exact ih2 _ _ _ _)
      | (with_reducible exact ih3 _ _ _ _)
      | (with_reducible exact johab_final.mono _ _)
      | (with_reducible exact johab_medial.mono _ _)
      | (with_reducible exact LeO.refl _)
      | (with_reducible exact LeO.none _)
      | (with_reducible refine LeO.ite ?_ ?_)
      | (with_reducible refine LeO.bind ?_ (fun _ => ?_))
      | exact ih0 _ _ _ _
      | exact ih1 _ _ _ _
      | exact ih2 _ _ _ _
      | exact ih3 _ _ _ _
      | exact johab_final.mono _ _
      | exact johab_medial.mono _ _
      | exact LeO.none _
      | refine LeO.ite ?_ ?_
      | refine LeO.bind ?_ (fun _ => ?_)
    · intro y0 y1 y2 y3
      unfold johab_Sign.j2
      repeat' first
      | (with_reducible exact ih0 _ _ _ _)
      | (with_reducible exact ih1 _ _ _ _)
      | (with_reducible exact ih2 _ _ _ _)
      | (with_reducible exact ih3 _ _ _ _)
      | (with_reducible exact johab_final.mono _ _)
      | (with_reducible exact johab_medial.mono _ _)
      | (with_reducible exact LeO.refl _)
      | (with_reducible exact LeO.none _)
      | (with_reducible refine LeO.ite ?_ ?_)
      | (with_reducible refine LeO.bind ?_ (fun _ => ?_))
      | exact ih0 _ _ _ _
      | exact ih1 _ _ _ _
      | exact ih2 _ _ _ _
      | exact ih3 _ _ _ _
      | exact johab_final.mono _ _
      | exact johab_medial.mono _ _
      | exact LeO.none _
      | refine LeO.ite ?_ ?_
      | refine LeO.bind ?_ (fun _ => ?_)
    · intro y0 y1 y2 y3
      unfold johab_Sign.j3
      repeat' first
      | (with_reducible exact ih0 _ _ _ _)
      | (with_reducible exact ih1 _ _ _ _)
      | (with_reducible exact ih2 _ _ _ _)
      | (with_reducible exact ih3 _ _ _ _)
      | (with_reducible exact johab_final.mono _ _)
      | (with_reducible exact johab_medial.mono _ _)
      | (with_reducible exact LeO.refl _)
      | (with_reducible exact LeO.none _)
      | (with_reducible refine LeO.ite ?_ ?_)
      | (with_reducible refine LeO.bind ?_ (fun _ => ?_))
      | exact ih0 _ _ _ _
      | exact ih1 _ _ _ _
      | exact ih2 _ _ _ _
      | exact ih3 _ _ _ _
      | exact johab_final.mono _ _
      | exact johab_medial.mono _ _
      | exact LeO.none _
      | refine LeO.ite ?_ ?_
      | refine LeO.bind ?_ (fun _ => ?_)
theorem johab_Sign.mono : ∀ a0 a1 k, LeO (johab_Sign.f k a0 a1) (johab_Sign.f (k + 1) a0 a1) := by
  intro a0 a1 k
  obtain ⟨ih0, ih1, ih2, ih3⟩ := johab_Sign.mono_l k
  unfold johab_Sign.f
  repeat' first
      | (with_reducible exact ih0 _ _ _ _)
      | (with_reducible exact ih1 _ _ _ _)
      | (with_reducible exact ih2 _ _ _ _)
      | (with_reducible exact ih3 _ _ _ _)
      | (with_reducible exact johab_final.mono _ _)
      | (with_reducible exact johab_medial.mono _ _)
      | (with_reducible exact LeO.refl _)
      | (with_reducible exact LeO.none _)
      | (with_reducible refine LeO.ite ?_ ?_)
      | (with_reducible refine LeO.bind ?_ (fun _ => ?_))
      | exact ih0 _ _ _ _
      | exact ih1 _ _ _ _
      | exact ih2 _ _ _ _
      | exact ih3 _ _ _ _
      | exact johab_final.mono _ _
      | exact johab_medial.mono _ _
      | exact LeO.none _
      | refine LeO.ite ?_ ?_
      | refine LeO.bind ?_ (fun _ => ?_)
set_option maxHeartbeats 8000000 in
set_option maxRecDepth 100000 in
theorem johab_Sign.calls (k : Nat) (a0 : Int) (a1 : Int) (r1 : Int) (r2 : Bool) (w : World) (h : johab_Sign.f k a0 a1 = some (r1, r2)) :
    Calls Try.prog 7 #[.int .u8 a0, .int .u8 a1] w fun e w' => e = .returned (.tuple #[.int .i32 r1, .bool r2]) ∧ Drawn0 w w' := by
  have H : ((johab_medial.f k (Go.bits .and .i64 ((Go.bits .or .i64 (wrap64 ((wrap64 (a0)) * 256)) (wrap64 (a1))) / 32) 31)).bind fun t115 => ((johab_final.f k (Go.bits .and .i64 (Go.bits .or .i64 (wrap64 ((wrap64 (a0)) * 256)) (wrap64 (a1))) 31)).bind fun t116 => (if a0 < 128 then (johab_Sign.j0 k (wrap64 ((Go.bits .and .i64 ((Go.bits .or .i64 (wrap64 ((wrap64 (a0)) * 256)) (wrap64 (a1))) / 1024) 31) - 2)) t115 t116 true) else (if (wrap64 ((Go.bits .and .i64 ((Go.bits .or .i64 (wrap64 ((wrap64 (a0)) * 256)) (wrap64 (a1))) / 1024) 31) - 2)) < (-1) then (johab_Sign.j0 k (wrap64 ((Go.bits .and .i64 ((Go.bits .or .i64 (wrap64 ((wrap64 (a0)) * 256)) (wrap64 (a1))) / 1024) 31) - 2)) t115 t116 true) else (if (wrap64 ((Go.bits .and .i64 ((Go.bits .or .i64 (wrap64 ((wrap64 (a0)) * 256)) (wrap64 (a1))) / 1024) 31) - 2)) > 18 then (johab_Sign.j0 k (wrap64 ((Go.bits .and .i64 ((Go.bits .or .i64 (wrap64 ((wrap64 (a0)) * 256)) (wrap64 (a1))) / 1024) 31) - 2)) t115 t116 true) else (if t115 < (-1) then (johab_Sign.j0 k (wrap64 ((Go.bits .and .i64 ((Go.bits .or .i64 (wrap64 ((wrap64 (a0)) * 256)) (wrap64 (a1))) / 1024) 31) - 2)) t115 t116 true) else (johab_Sign.j0 k (wrap64 ((Go.bits .and .i64 ((Go.bits .or .i64 (wrap64 ((wrap64 (a0)) * 256)) (wrap64 (a1))) / 1024) 31) - 2)) t115 t116 (decide (t116 < 0))))))))) = some (r1, r2) := h
  clear h
  replace H := Option.bind_eq_some_iff.mp H
  obtain ⟨t115, A30, H⟩ := H
  replace H : ((johab_final.f k (Go.bits .and .i64 (Go.bits .or .i64 (wrap64 ((wrap64 (a0)) * 256)) (wrap64 (a1))) 31)).bind fun t116 => (if a0 < 128 then (johab_Sign.j0 k (wrap64 ((Go.bits .and .i64 ((Go.bits .or .i64 (wrap64 ((wrap64 (a0)) * 256)) (wrap64 (a1))) / 1024) 31) - 2)) t115 t116 true) else (if (wrap64 ((Go.bits .and .i64 ((Go.bits .or .i64 (wrap64 ((wrap64 (a0)) * 256)) (wrap64 (a1))) / 1024) 31) - 2)) < (-1) then (johab_Sign.j0 k (wrap64 ((Go.bits .and .i64 ((Go.bits .or .i64 (wrap64 ((wrap64 (a0)) * 256)) (wrap64 (a1))) / 1024) 31) - 2)) t115 t116 true) else (if (wrap64 ((Go.bits .and .i64 ((Go.bits .or .i64 (wrap64 ((wrap64 (a0)) * 256)) (wrap64 (a1))) / 1024) 31) - 2)) > 18 then (johab_Sign.j0 k (wrap64 ((Go.bits .and .i64 ((Go.bits .or .i64 (wrap64 ((wrap64 (a0)) * 256)) (wrap64 (a1))) / 1024) 31) - 2)) t115 t116 true) else (if t115 < (-1) then (johab_Sign.j0 k (wrap64 ((Go.bits .and .i64 ((Go.bits .or .i64 (wrap64 ((wrap64 (a0)) * 256)) (wrap64 (a1))) / 1024) 31) - 2)) t115 t116 true) else (johab_Sign.j0 k (wrap64 ((Go.bits .and .i64 ((Go.bits .or .i64 (wrap64 ((wrap64 (a0)) * 256)) (wrap64 (a1))) / 1024) 31) - 2)) t115 t116 (decide (t116 < 0)))))))) = some (r1, r2) := H
  have A3 := Aside0.mk A30
  clear A30
  replace H := Option.bind_eq_some_iff.mp H
  obtain ⟨t116, A40, H⟩ := H
  replace H : (if a0 < 128 then (johab_Sign.j0 k (wrap64 ((Go.bits .and .i64 ((Go.bits .or .i64 (wrap64 ((wrap64 (a0)) * 256)) (wrap64 (a1))) / 1024) 31) - 2)) t115 t116 true) else (if (wrap64 ((Go.bits .and .i64 ((Go.bits .or .i64 (wrap64 ((wrap64 (a0)) * 256)) (wrap64 (a1))) / 1024) 31) - 2)) < (-1) then (johab_Sign.j0 k (wrap64 ((Go.bits .and .i64 ((Go.bits .or .i64 (wrap64 ((wrap64 (a0)) * 256)) (wrap64 (a1))) / 1024) 31) - 2)) t115 t116 true) else (if (wrap64 ((Go.bits .and .i64 ((Go.bits .or .i64 (wrap64 ((wrap64 (a0)) * 256)) (wrap64 (a1))) / 1024) 31) - 2)) > 18 then (johab_Sign.j0 k (wrap64 ((Go.bits .and .i64 ((Go.bits .or .i64 (wrap64 ((wrap64 (a0)) * 256)) (wrap64 (a1))) / 1024) 31) - 2)) t115 t116 true) else (if t115 < (-1) then (johab_Sign.j0 k (wrap64 ((Go.bits .and .i64 ((Go.bits .or .i64 (wrap64 ((wrap64 (a0)) * 256)) (wrap64 (a1))) / 1024) 31) - 2)) t115 t116 true) else (johab_Sign.j0 k (wrap64 ((Go.bits .and .i64 ((Go.bits .or .i64 (wrap64 ((wrap64 (a0)) * 256)) (wrap64 (a1))) / 1024) 31) - 2)) t115 t116 (decide (t116 < 0))))))) = some (r1, r2) := H
  have A4 := Aside0.mk A40
  clear A40
  have HC5 := Aside0.mk H
  clear H
  go_enter Try.func7, Try.ntmps7
  go_upto_region 3 with (first | ((with_reducible refine gate_callee (f := 14) rfl ?_); refine goesL_ (some 23) rfl rfl Try.func14 (by kernel_rfl) rfl #[.int .i64 (Go.bits .and .i64 ((Go.bits .or .i64 (wrap64 ((wrap64 (a0)) * 256)) (wrap64 (a1))) / 32) 31)] rfl (by (try simp only [List.map_toArray, List.map_cons, List.map_nil]); first | done | rfl | (simp only [List.length_drop, List.length_take]; rfl)) ?_; (with_reducible refine (johab_medial.calls k (Go.bits .and .i64 ((Go.bits .or .i64 (wrap64 ((wrap64 (a0)) * 256)) (wrap64 (a1))) / 32) 31) t115 _ A3.out).mono ?_); rintro e w' ⟨rfl, ⟨nd, rfl⟩⟩; refine ⟨_, rfl, ?_⟩) | ((with_reducible refine gate_callee (f := 15) rfl ?_); refine goesL_ (some 26) rfl rfl Try.func15 (by kernel_rfl) rfl #[.int .i64 (Go.bits .and .i64 (Go.bits .or .i64 (wrap64 ((wrap64 (a0)) * 256)) (wrap64 (a1))) 31)] rfl (by (try simp only [List.map_toArray, List.map_cons, List.map_nil]); first | done | rfl | (simp only [List.length_drop, List.length_take]; rfl)) ?_; (with_reducible refine (johab_final.calls k (Go.bits .and .i64 (Go.bits .or .i64 (wrap64 ((wrap64 (a0)) * 256)) (wrap64 (a1))) 31) t116 _ A4.out).mono ?_); rintro e w' ⟨rfl, ⟨nd, rfl⟩⟩; refine ⟨_, rfl, ?_⟩))
  (try simp only [Act.put, List.setIfInBounds_toArray, List.set_cons_zero, List.set_cons_succ])
  go_cut [27] (fun v27 wc => ∃ (kq : Nat) (x27_4 : Bool), v27 = .bool x27_4 ∧ Aside0 (johab_Sign.j0 kq (wrap64 ((Go.bits .and .i64 ((Go.bits .or .i64 (wrap64 ((wrap64 (a0)) * 256)) (wrap64 (a1))) / 1024) 31) - 2)) t115 t116 x27_4 = some (r1, r2)) ∧ Aside0 (kq ≤ k) ∧ Drawn0 w wc)
  case first =>
    have H := HC5.out
    clear HC5
    by_cases c6 : a0 < 128
    · rw [if_pos c6] at H
      have c6b0 : decide (a0 < 128) = true := decide_eq_true c6
      clear c6
      (first | rw [c6b0] | (simp only [i64_w, i32_w]; rw [c6b0]) | skip)
      have H' := Aside0.mk H
      clear H
      go_wp2
      go_meet
      case rel => exact ⟨_, (true), (by first | rfl | (simp; done) | (simp [*]; done)), H', ⟨by first | omega | exact Nat.le_refl _⟩, by repeat (first | exact Drawn0.refl _ | apply Drawn0.step)⟩
    · rw [if_neg c6] at H
      have c6b0 : decide (a0 < 128) = false := decide_eq_false c6
      clear c6
      (first | rw [c6b0] | (simp only [i64_w, i32_w]; rw [c6b0]) | skip)
      by_cases c7 : (wrap64 ((Go.bits .and .i64 ((Go.bits .or .i64 (wrap64 ((wrap64 (a0)) * 256)) (wrap64 (a1))) / 1024) 31) - 2)) < (-1)
      · rw [if_pos c7] at H
        have c7b0 : decide ((wrap64 ((Go.bits .and .i64 ((Go.bits .or .i64 (wrap64 ((wrap64 (a0)) * 256)) (wrap64 (a1))) / 1024) 31) - 2)) < (-1)) = true := decide_eq_true c7
        clear c7
        have H' := Aside0.mk H
        clear H
        go_wp2
        go_meet
        case rel => exact ⟨_, (true), (by first | rfl | (simp; done) | (simp [*]; done)), H', ⟨by first | omega | exact Nat.le_refl _⟩, by repeat (first | exact Drawn0.refl _ | apply Drawn0.step)⟩
      · rw [if_neg c7] at H
        have c7b0 : decide ((wrap64 ((Go.bits .and .i64 ((Go.bits .or .i64 (wrap64 ((wrap64 (a0)) * 256)) (wrap64 (a1))) / 1024) 31) - 2)) < (-1)) = false := decide_eq_false c7
        clear c7
        by_cases c8 : (wrap64 ((Go.bits .and .i64 ((Go.bits .or .i64 (wrap64 ((wrap64 (a0)) * 256)) (wrap64 (a1))) / 1024) 31) - 2)) > 18
        · rw [if_pos c8] at H
          have c8b0 : decide (18 < (wrap64 ((Go.bits .and .i64 ((Go.bits .or .i64 (wrap64 ((wrap64 (a0)) * 256)) (wrap64 (a1))) / 1024) 31) - 2))) = true := decide_eq_true c8
          clear c8
          have H' := Aside0.mk H
          clear H
          go_wp2
          go_meet
          case rel => exact ⟨_, (true), (by first | rfl | (simp; done) | (simp [*]; done)), H', ⟨by first | omega | exact Nat.le_refl _⟩, by repeat (first | exact Drawn0.refl _ | apply Drawn0.step)⟩
        · rw [if_neg c8] at H
          have c8b0 : decide (18 < (wrap64 ((Go.bits .and .i64 ((Go.bits .or .i64 (wrap64 ((wrap64 (a0)) * 256)) (wrap64 (a1))) / 1024) 31) - 2))) = false := decide_eq_false c8
          clear c8
          by_cases c9 : t115 < (-1)
          · rw [if_pos c9] at H
            have c9b0 : decide (t115 < (-1)) = true := decide_eq_true c9
            clear c9
            have H' := Aside0.mk H
            clear H
            go_wp2
            go_meet
            case rel => exact ⟨_, (true), (by first | rfl | (simp; done) | (simp [*]; done)), H', ⟨by first | omega | exact Nat.le_refl _⟩, by repeat (first | exact Drawn0.refl _ | apply Drawn0.step)⟩
          · rw [if_neg c9] at H
            have c9b0 : decide (t115 < (-1)) = false := decide_eq_false c9
            clear c9
            have H' := Aside0.mk H
            clear H
            go_wp2
            go_meet
            case rel => exact ⟨_, (decide (t116 < 0)), (by first | rfl | (simp; done) | (simp [*]; done)), H', ⟨by first | omega | exact Nat.le_refl _⟩, by repeat (first | exact Drawn0.refl _ | apply Drawn0.step)⟩
  case rest =>
    clear HC5
    try clear c1
    try clear p2
    try clear c6
    try clear c6b0
    try clear p6
    try clear c7
    try clear c7b0
    try clear c8
    try clear c8b0
    try clear c9
    try clear c9b0
    obtain ⟨kq, x27_4, rfl, HA, HJ4, ⟨mc4, rfl⟩⟩ := hcut
    cases kq with
    | zero => exact absurd HA.out (by simp [johab_Sign.j0])
    | succ kj4 =>
      have H := HA.out
      clear HA
      simp only [johab_Sign.j0] at H
      by_cases c10 : x27_4 = true
      · subst c10
        have H1 : (some (0, false)) = some (r1, r2) := by rw [if_pos rfl] at H; exact H
        clear H
        have H := H1
        clear H1
        simp only [Option.some.injEq, Prod.mk.injEq] at H
        obtain ⟨rfl, rfl⟩ := H
        go_wp2
        go_ret2
        exact ⟨by first | rfl | (simp; done) | (simp [*]; done), by repeat (first | exact Drawn0.refl _ | apply Drawn0.step)⟩
      · replace c10 := Bool.eq_false_iff.mpr c10
        subst c10
        have H1 : (if (wrap64 ((Go.bits .and .i64 ((Go.bits .or .i64 (wrap64 ((wrap64 (a0)) * 256)) (wrap64 (a1))) / 1024) 31) - 2)) ≥ 0 then (johab_Sign.j1 kj4 (wrap64 ((Go.bits .and .i64 ((Go.bits .or .i64 (wrap64 ((wrap64 (a0)) * 256)) (wrap64 (a1))) / 1024) 31) - 2)) t115 t116 (decide (t115 ≥ 0))) else (johab_Sign.j1 kj4 (wrap64 ((Go.bits .and .i64 ((Go.bits .or .i64 (wrap64 ((wrap64 (a0)) * 256)) (wrap64 (a1))) / 1024) 31) - 2)) t115 t116 false)) = some (r1, r2) := by rw [if_neg (show ¬ (false = true) by decide)] at H; exact H
        clear H
        have H := H1
        clear H1
        have HC11 := Aside0.mk H
        clear H
        go_upto_region 5 with (fail)
        go_cut [46] (fun v46 wc => ∃ (kq : Nat) (x46_10 : Bool), v46 = .bool x46_10 ∧ Aside0 (johab_Sign.j1 kq (wrap64 ((Go.bits .and .i64 ((Go.bits .or .i64 (wrap64 ((wrap64 (a0)) * 256)) (wrap64 (a1))) / 1024) 31) - 2)) t115 t116 x46_10 = some (r1, r2)) ∧ Aside0 (kq ≤ kj4) ∧ Drawn0 w wc)
        case first =>
          have H := HC11.out
          clear HC11
          by_cases c12 : (wrap64 ((Go.bits .and .i64 ((Go.bits .or .i64 (wrap64 ((wrap64 (a0)) * 256)) (wrap64 (a1))) / 1024) 31) - 2)) ≥ 0
          · rw [if_pos c12] at H
            have c12b0 : decide (0 ≤ (wrap64 ((Go.bits .and .i64 ((Go.bits .or .i64 (wrap64 ((wrap64 (a0)) * 256)) (wrap64 (a1))) / 1024) 31) - 2))) = true := decide_eq_true c12
            clear c12
            (first | rw [c12b0] | (simp only [i64_w, i32_w]; rw [c12b0]) | skip)
            have H' := Aside0.mk H
            clear H
            go_wp2
            go_meet
            case rel => exact ⟨_, (decide (t115 ≥ 0)), (by first | rfl | (simp; done) | (simp [*]; done)), H', ⟨by have := HJ4.out; first | omega | exact Nat.le_refl _⟩, by repeat (first | exact Drawn0.refl _ | apply Drawn0.step)⟩
          · rw [if_neg c12] at H
            have c12b0 : decide (0 ≤ (wrap64 ((Go.bits .and .i64 ((Go.bits .or .i64 (wrap64 ((wrap64 (a0)) * 256)) (wrap64 (a1))) / 1024) 31) - 2))) = false := decide_eq_false c12
            clear c12
            (first | rw [c12b0] | (simp only [i64_w, i32_w]; rw [c12b0]) | skip)
            have H' := Aside0.mk H
            clear H
            go_wp2
            go_meet
            case rel => exact ⟨_, (false), (by first | rfl | (simp; done) | (simp [*]; done)), H', ⟨by have := HJ4.out; first | omega | exact Nat.le_refl _⟩, by repeat (first | exact Drawn0.refl _ | apply Drawn0.step)⟩
        case rest =>
          clear HC11
          try clear c1
          try clear p2
          try clear c4
          try clear c6
          try clear c6b0
          try clear p6
          try clear c7
          try clear c7b0
          try clear c8
          try clear c8b0
          try clear c9
          try clear c9b0
          try clear c10
          try clear c12
          try clear c12b0
          try clear p2
          try clear p6
          obtain ⟨kq, x46_10, rfl, HA, HJ10, ⟨mc10, rfl⟩⟩ := hcut
          cases kq with
          | zero => exact absurd HA.out (by simp [johab_Sign.j1])
          | succ kj10 =>
            have H := HA.out
            clear HA
            simp only [johab_Sign.j1] at H
            by_cases c13 : x46_10 = true
            · subst c13
              have H1 : ((johab_Syllable.f (wrap64 ((Go.bits .and .i64 ((Go.bits .or .i64 (wrap64 ((wrap64 (a0)) * 256)) (wrap64 (a1))) / 1024) 31) - 2)) t115 t116).bind fun bt117 => (some (bt117.1, bt117.2))) = some (r1, r2) := by rw [if_pos rfl] at H; exact H
              clear H
              have H := H1
              clear H1
              replace H := Option.bind_eq_some_iff.mp H
              obtain ⟨⟨t117, t118⟩, A140, H⟩ := H
              replace H : (some (t117, t118)) = some (r1, r2) := H
              have A14 := Aside0.mk A140
              clear A140
              simp only [Option.some.injEq, Prod.mk.injEq] at H
              obtain ⟨rfl, rfl⟩ := H
              go_wp2_with (first | ((with_reducible refine gate_callee (f := 12) rfl ?_); refine goesL_ (some 56) rfl rfl Try.func12 (by kernel_rfl) rfl #[.int .i64 (wrap64 ((Go.bits .and .i64 ((Go.bits .or .i64 (wrap64 ((wrap64 (a0)) * 256)) (wrap64 (a1))) / 1024) 31) - 2)), .int .i64 t115, .int .i64 t116] rfl (by (try simp only [List.map_toArray, List.map_cons, List.map_nil]); first | done | rfl | (simp only [List.length_drop, List.length_take]; rfl)) ?_; (with_reducible refine (johab_Syllable.calls (wrap64 ((Go.bits .and .i64 ((Go.bits .or .i64 (wrap64 ((wrap64 (a0)) * 256)) (wrap64 (a1))) / 1024) 31) - 2)) t115 t116 t117 t118 _ A14.out).mono ?_); rintro e w' ⟨rfl, ⟨nd, rfl⟩⟩; refine ⟨_, rfl, ?_⟩))
              go_ret2
              exact ⟨by first | rfl | (simp; done) | (simp [*]; done), by repeat (first | exact Drawn0.refl _ | apply Drawn0.step)⟩
            · replace c13 := Bool.eq_false_iff.mpr c13
              subst c13
              have H1 : (if (wrap64 ((Go.bits .and .i64 ((Go.bits .or .i64 (wrap64 ((wrap64 (a0)) * 256)) (wrap64 (a1))) / 1024) 31) - 2)) ≥ 0 then (johab_Sign.j2 kj10 (wrap64 ((Go.bits .and .i64 ((Go.bits .or .i64 (wrap64 ((wrap64 (a0)) * 256)) (wrap64 (a1))) / 1024) 31) - 2)) t115 t116 (t116 == 0)) else (johab_Sign.j2 kj10 (wrap64 ((Go.bits .and .i64 ((Go.bits .or .i64 (wrap64 ((wrap64 (a0)) * 256)) (wrap64 (a1))) / 1024) 31) - 2)) t115 t116 false)) = some (r1, r2) := by rw [if_neg (show ¬ (false = true) by decide)] at H; exact H
              clear H
              have H := H1
              clear H1
              have HC15 := Aside0.mk H
              clear H
              go_upto_region 7 with (fail)
              go_cut [59] (fun v59 wc => ∃ (kq : Nat) (x59_14 : Bool), v59 = .bool x59_14 ∧ Aside0 (johab_Sign.j2 kq (wrap64 ((Go.bits .and .i64 ((Go.bits .or .i64 (wrap64 ((wrap64 (a0)) * 256)) (wrap64 (a1))) / 1024) 31) - 2)) t115 t116 x59_14 = some (r1, r2)) ∧ Aside0 (kq ≤ kj10) ∧ Drawn0 w wc)
              case first =>
                have H := HC15.out
                clear HC15
                by_cases c16 : (wrap64 ((Go.bits .and .i64 ((Go.bits .or .i64 (wrap64 ((wrap64 (a0)) * 256)) (wrap64 (a1))) / 1024) 31) - 2)) ≥ 0
                · rw [if_pos c16] at H
                  have c16b0 : decide (0 ≤ (wrap64 ((Go.bits .and .i64 ((Go.bits .or .i64 (wrap64 ((wrap64 (a0)) * 256)) (wrap64 (a1))) / 1024) 31) - 2))) = true := decide_eq_true c16
                  clear c16
                  (first | rw [c16b0] | (simp only [i64_w, i32_w]; rw [c16b0]) | skip)
                  have H' := Aside0.mk H
                  clear H
                  go_wp2
                  go_meet
                  case rel => exact ⟨_, ((t116 == 0)), (by first | rfl | (simp; done) | (simp [*]; done)), H', ⟨by have := HJ4.out; have := HJ10.out; first | omega | exact Nat.le_refl _⟩, by repeat (first | exact Drawn0.refl _ | apply Drawn0.step)⟩
                · rw [if_neg c16] at H
                  have c16b0 : decide (0 ≤ (wrap64 ((Go.bits .and .i64 ((Go.bits .or .i64 (wrap64 ((wrap64 (a0)) * 256)) (wrap64 (a1))) / 1024) 31) - 2))) = false := decide_eq_false c16
                  clear c16
                  (first | rw [c16b0] | (simp only [i64_w, i32_w]; rw [c16b0]) | skip)
                  have H' := Aside0.mk H
                  clear H
                  go_wp2
                  go_meet
                  case rel => exact ⟨_, (false), (by first | rfl | (simp; done) | (simp [*]; done)), H', ⟨by have := HJ4.out; have := HJ10.out; first | omega | exact Nat.le_refl _⟩, by repeat (first | exact Drawn0.refl _ | apply Drawn0.step)⟩
              case rest =>
                clear HC15
                try clear c1
                try clear p2
                try clear c4
                try clear c6
                try clear c6b0
                try clear p6
                try clear c7
                try clear c7b0
                try clear c8
                try clear c8b0
                try clear c9
                try clear c9b0
                try clear c10
                try clear c12
                try clear c12b0
                try clear c13
                try clear c14
                try clear c15
                try clear c16
                try clear c16b0
                try clear p2
                try clear p6
                obtain ⟨kq, x59_14, rfl, HA, HJ14, ⟨mc14, rfl⟩⟩ := hcut
                cases kq with
                | zero => exact absurd HA.out (by simp [johab_Sign.j2])
                | succ kj14 =>
                  have H := HA.out
                  clear HA
                  simp only [johab_Sign.j2] at H
                  by_cases c17 : x59_14 = true
                  · subst c17
                    have H1 : ((johab_alone.f (wrap64 (97 + (wrap64 ((Go.bits .and .i64 ((Go.bits .or .i64 (wrap64 ((wrap64 (a0)) * 256)) (wrap64 (a1))) / 1024) 31) - 2))))).bind fun bt119 => (some (bt119.1, bt119.2))) = some (r1, r2) := by rw [if_pos rfl] at H; exact H
                    clear H
                    have H := H1
                    clear H1
                    replace H := Option.bind_eq_some_iff.mp H
                    obtain ⟨⟨t119, t120⟩, A180, H⟩ := H
                    replace H : (some (t119, t120)) = some (r1, r2) := H
                    have A18 := Aside0.mk A180
                    clear A180
                    simp only [Option.some.injEq, Prod.mk.injEq] at H
                    obtain ⟨rfl, rfl⟩ := H
                    go_wp2_with (first | ((with_reducible refine gate_callee (f := 16) rfl ?_); refine goesL_ (some 68) rfl rfl Try.func16 (by kernel_rfl) rfl #[.int .i64 (wrap64 (97 + (wrap64 ((Go.bits .and .i64 ((Go.bits .or .i64 (wrap64 ((wrap64 (a0)) * 256)) (wrap64 (a1))) / 1024) 31) - 2))))] rfl (by (try simp only [List.map_toArray, List.map_cons, List.map_nil]); first | done | rfl | (simp only [List.length_drop, List.length_take]; rfl)) ?_; (with_reducible refine (johab_alone.calls (wrap64 (97 + (wrap64 ((Go.bits .and .i64 ((Go.bits .or .i64 (wrap64 ((wrap64 (a0)) * 256)) (wrap64 (a1))) / 1024) 31) - 2)))) t119 t120 _ A18.out).mono ?_); rintro e w' ⟨rfl, ⟨nd, rfl⟩⟩; refine ⟨_, rfl, ?_⟩))
                    go_ret2
                    exact ⟨by first | rfl | (simp; done) | (simp [*]; done), by repeat (first | exact Drawn0.refl _ | apply Drawn0.step)⟩
                  · replace c17 := Bool.eq_false_iff.mpr c17
                    subst c17
                    have H1 : (if t115 ≥ 0 then (johab_Sign.j3 kj14 (wrap64 ((Go.bits .and .i64 ((Go.bits .or .i64 (wrap64 ((wrap64 (a0)) * 256)) (wrap64 (a1))) / 1024) 31) - 2)) t115 t116 (t116 == 0)) else (johab_Sign.j3 kj14 (wrap64 ((Go.bits .and .i64 ((Go.bits .or .i64 (wrap64 ((wrap64 (a0)) * 256)) (wrap64 (a1))) / 1024) 31) - 2)) t115 t116 false)) = some (r1, r2) := by rw [if_neg (show ¬ (false = true) by decide)] at H; exact H
                    clear H
                    have H := H1
                    clear H1
                    have HC19 := Aside0.mk H
                    clear H
                    go_upto_region 9 with (fail)
                    go_cut [71] (fun v71 wc => ∃ (kq : Nat) (x71_18 : Bool), v71 = .bool x71_18 ∧ Aside0 (johab_Sign.j3 kq (wrap64 ((Go.bits .and .i64 ((Go.bits .or .i64 (wrap64 ((wrap64 (a0)) * 256)) (wrap64 (a1))) / 1024) 31) - 2)) t115 t116 x71_18 = some (r1, r2)) ∧ Aside0 (kq ≤ kj14) ∧ Drawn0 w wc)
                    case first =>
                      have H := HC19.out
                      clear HC19
                      by_cases c20 : t115 ≥ 0
                      · rw [if_pos c20] at H
                        have c20b0 : decide (0 ≤ t115) = true := decide_eq_true c20
                        clear c20
                        (first | rw [c20b0] | (simp only [i64_w, i32_w]; rw [c20b0]) | skip)
                        have H' := Aside0.mk H
                        clear H
                        go_wp2
                        go_meet
                        case rel => exact ⟨_, ((t116 == 0)), (by first | rfl | (simp; done) | (simp [*]; done)), H', ⟨by have := HJ4.out; have := HJ10.out; have := HJ14.out; first | omega | exact Nat.le_refl _⟩, by repeat (first | exact Drawn0.refl _ | apply Drawn0.step)⟩
                      · rw [if_neg c20] at H
                        have c20b0 : decide (0 ≤ t115) = false := decide_eq_false c20
                        clear c20
                        (first | rw [c20b0] | (simp only [i64_w, i32_w]; rw [c20b0]) | skip)
                        have H' := Aside0.mk H
                        clear H
                        go_wp2
                        go_meet
                        case rel => exact ⟨_, (false), (by first | rfl | (simp; done) | (simp [*]; done)), H', ⟨by have := HJ4.out; have := HJ10.out; have := HJ14.out; first | omega | exact Nat.le_refl _⟩, by repeat (first | exact Drawn0.refl _ | apply Drawn0.step)⟩
                    case rest =>
                      clear HC19
                      try clear c1
                      try clear c2
                      try clear p2
                      try clear c4
                      try clear c6
                      try clear c6b0
                      try clear p6
                      try clear c7
                      try clear c7b0
                      try clear c8
                      try clear c8b0
                      try clear c9
                      try clear c9b0
                      try clear c10
                      try clear c12
                      try clear c12b0
                      try clear c13
                      try clear c14
                      try clear c15
                      try clear c16
                      try clear c16b0
                      try clear c17
                      try clear c20
                      try clear c20b0
                      try clear p2
                      try clear p6
                      obtain ⟨kq, x71_18, rfl, HA, HJ18, ⟨mc18, rfl⟩⟩ := hcut
                      cases kq with
                      | zero => exact absurd HA.out (by simp [johab_Sign.j3])
                      | succ kj18 =>
                        have H := HA.out
                        clear HA
                        simp only [johab_Sign.j3] at H
                        by_cases c21 : x71_18 = true
                        · subst c21
                          have H1 : (some (wrap32 (wrap64 (12623 + t115)), true)) = some (r1, r2) := by rw [if_pos rfl] at H; exact H
                          clear H
                          have H := H1
                          clear H1
                          simp only [Option.some.injEq, Prod.mk.injEq] at H
                          obtain ⟨rfl, rfl⟩ := H
                          go_wp2
                          go_ret2
                          exact ⟨by first | rfl | (simp; done) | (simp [*]; done), by repeat (first | exact Drawn0.refl _ | apply Drawn0.step)⟩
                        · replace c21 := Bool.eq_false_iff.mpr c21
                          subst c21
                          have H1 : (if (wrap64 ((Go.bits .and .i64 ((Go.bits .or .i64 (wrap64 ((wrap64 (a0)) * 256)) (wrap64 (a1))) / 1024) 31) - 2)) ≥ 0 then (some (0, false)) else (if t115 ≥ 0 then (some (0, false)) else (if t116 = 0 then (some (0, false)) else ((johab_alone.f (wrap64 (65 + t116))).bind fun bt121 => (some (bt121.1, bt121.2)))))) = some (r1, r2) := by rw [if_neg (show ¬ (false = true) by decide)] at H; exact H
                          clear H
                          have H := H1
                          clear H1
                          by_cases c22 : (wrap64 ((Go.bits .and .i64 ((Go.bits .or .i64 (wrap64 ((wrap64 (a0)) * 256)) (wrap64 (a1))) / 1024) 31) - 2)) ≥ 0
                          · rw [if_pos c22] at H
                            have c22b0 : decide (0 ≤ (wrap64 ((Go.bits .and .i64 ((Go.bits .or .i64 (wrap64 ((wrap64 (a0)) * 256)) (wrap64 (a1))) / 1024) 31) - 2))) = true := decide_eq_true c22
                            clear c22
                            simp only [Option.some.injEq, Prod.mk.injEq] at H
                            obtain ⟨rfl, rfl⟩ := H
                            go_wp2
                            go_ret2
                            exact ⟨by first | rfl | (simp; done) | (simp [*]; done), by repeat (first | exact Drawn0.refl _ | apply Drawn0.step)⟩
                          · rw [if_neg c22] at H
                            have c22b0 : decide (0 ≤ (wrap64 ((Go.bits .and .i64 ((Go.bits .or .i64 (wrap64 ((wrap64 (a0)) * 256)) (wrap64 (a1))) / 1024) 31) - 2))) = false := decide_eq_false c22
                            clear c22
                            by_cases c23 : t115 ≥ 0
                            · rw [if_pos c23] at H
                              have c23b0 : decide (0 ≤ t115) = true := decide_eq_true c23
                              clear c23
                              simp only [Option.some.injEq, Prod.mk.injEq] at H
                              obtain ⟨rfl, rfl⟩ := H
                              go_wp2
                              go_ret2
                              exact ⟨by first | rfl | (simp; done) | (simp [*]; done), by repeat (first | exact Drawn0.refl _ | apply Drawn0.step)⟩
                            · rw [if_neg c23] at H
                              have c23b0 : decide (0 ≤ t115) = false := decide_eq_false c23
                              clear c23
                              by_cases c24 : t116 = 0
                              · rw [if_pos c24] at H
                                have c24b0 : (t116 == 0) = true := beq_iff_eq.mpr c24
                                have c24b1 : (t116 != 0) = false := bne_eq_false_iff_eq.mpr c24
                                clear c24
                                simp only [Option.some.injEq, Prod.mk.injEq] at H
                                obtain ⟨rfl, rfl⟩ := H
                                go_wp2
                                go_ret2
                                exact ⟨by first | rfl | (simp; done) | (simp [*]; done), by repeat (first | exact Drawn0.refl _ | apply Drawn0.step)⟩
                              · rw [if_neg c24] at H
                                have c24b0 : (t116 == 0) = false := beq_eq_false_iff_ne.mpr c24
                                have c24b1 : (t116 != 0) = true := bne_iff_ne.mpr c24
                                replace H := Option.bind_eq_some_iff.mp H
                                obtain ⟨⟨t121, t122⟩, A250, H⟩ := H
                                replace H : (some (t121, t122)) = some (r1, r2) := H
                                have A25 := Aside0.mk A250
                                clear A250
                                simp only [Option.some.injEq, Prod.mk.injEq] at H
                                obtain ⟨rfl, rfl⟩ := H
                                go_wp2_with (first | ((with_reducible refine gate_callee (f := 16) rfl ?_); refine goesL_ (some 94) rfl rfl Try.func16 (by kernel_rfl) rfl #[.int .i64 (wrap64 (65 + t116))] rfl (by (try simp only [List.map_toArray, List.map_cons, List.map_nil]); first | done | rfl | (simp only [List.length_drop, List.length_take]; rfl)) ?_; (with_reducible refine (johab_alone.calls (wrap64 (65 + t116)) t121 t122 _ A25.out).mono ?_); rintro e w' ⟨rfl, ⟨nd, rfl⟩⟩; refine ⟨_, rfl, ?_⟩))
                                go_ret2
                                exact ⟨by first | rfl | (simp; done) | (simp [*]; done), by repeat (first | exact Drawn0.refl _ | apply Drawn0.step)⟩

/-! ### octet_Big: function 25 -/
def octet_Big.l0 : Nat → Int → List Int → Int → Option (ByteArray)
  | 0, _, _, _ => none
  | k + 1, x0, x5, x6 => if x6 ≥ 0 then (if 0 ≤ (wrap64 (8 * x6)) then (if x5.length < 140737488355328 then (octet_Big.l0 k x0 (x5 ++ [(shr .u64 x0 (wrap64 (8 * x6))) % 256]) (wrap64 (x6 - 1))) else (none)) else (none)) else (some (strOfNums x5))
def octet_Big.f (k : Nat) (a0 : Int) (a1 : Int) : Option (ByteArray) := octet_Big.l0 k a0 ([] : List Int) ((mn (mx a1 0) 8) - 1)
theorem octet_Big.mono_l : ∀ k, (∀ y0 y1 y2, LeO (octet_Big.l0 k y0 y1 y2) (octet_Big.l0 (k + 1) y0 y1 y2))
  | 0 => fun _ _ _ r h => by simp [octet_Big.l0] at h
  | k + 1 => by
    have ih0 := octet_Big.mono_l k
    · intro y0 y1 y2
      unfold octet_Big.l0
      repeat' first
      | (with_reducible exact ih0 _ _ _)
      | (with_reducible exact LeO.refl _)
      | (with_reducible exact LeO.none _)
      | (with_reducible refine LeO.ite ?_ ?_)
      | (with_reducible refine LeO.bind ?_ (fun _ => ?_))
      | exact ih0 _ _ _
      | exact LeO.none _
      | refine LeO.ite ?_ ?_
      | refine LeO.bind ?_ (fun _ => ?_)
theorem octet_Big.mono : ∀ a0 a1 k, LeO (octet_Big.f k a0 a1) (octet_Big.f (k + 1) a0 a1) := by
  intro a0 a1 k
  have ih0 := octet_Big.mono_l k
  unfold octet_Big.f
  repeat' first
      | (with_reducible exact ih0 _ _ _)
      | (with_reducible exact LeO.refl _)
      | (with_reducible exact LeO.none _)
      | (with_reducible refine LeO.ite ?_ ?_)
      | (with_reducible refine LeO.bind ?_ (fun _ => ?_))
      | exact ih0 _ _ _
      | exact LeO.none _
      | refine LeO.ite ?_ ?_
      | refine LeO.bind ?_ (fun _ => ?_)
set_option maxHeartbeats 8000000 in
set_option maxRecDepth 100000 in
theorem octet_Big.calls (k : Nat) (a0 : Int) (a1 : Int) (r : ByteArray) (w : World) (h : octet_Big.f k a0 a1 = some r) :
    Calls Try.prog 25 #[.int .u64 a0, .int .i64 a1] w fun e w' => e = .returned (.string r) ∧ Below w.heap.size w w' := by
  have HB := Aside0.mk (Below.refl w.heap.size w)
  have H : (octet_Big.l0 k a0 ([] : List Int) ((mn (mx a1 0) 8) - 1)) = some r := h
  clear h
  obtain ⟨ji3, hji3⟩ : ∃ j_ : Int, (mx a1 0) = j_ := ⟨_, rfl⟩
  replace H : (octet_Big.l0 k a0 ([] : List Int) ((mn (ji3) 8) - 1)) = some r := by first | (rw [hji3] at H; exact H) | (simp only [hji3] at H ⊢; exact H)
  (try (have hji3l : 0 ≤ ji3 := by (rw [← hji3]; unfold mx; (repeat' split) <;> omega)))
  (try (have hji3m : 0 ≤ ji3 := by omega))
  have hji3_ : (if a1 < 0 then 0 else a1) = ji3 := hji3
  obtain ⟨ji4, hji4⟩ : ∃ j_ : Int, (mn (ji3) 8) = j_ := ⟨_, rfl⟩
  replace H : (octet_Big.l0 k a0 ([] : List Int) ((ji4) - 1)) = some r := by first | (rw [hji4] at H; exact H) | (simp only [hji4] at H ⊢; exact H)
  have hji4_ : (if 8 < (ji3) then 8 else (ji3)) = ji4 := hji4
  have H' := Aside0.mk H
  clear H
  go_enter Try.func25, Try.ntmps25
  go_wp2
  go_loopg [5, 6] k (fun kq v5 v6 w' => ∃ (x5_1 : List Int) (x6_1 : Int), v6 = .int .i64 x6_1 ∧ Aside0 (octet_Big.l0 kq a0 x5_1 x6_1 = some r) ∧ Aside0 (kq ≤ k) ∧ Aside0 (Kd.R (Kd.int .u8) 5 w' w.heap.size (fun _ => True) v5 x5_1) ∧ Aside0 (Below w.heap.size w w'))
  case atStart => exact ⟨(([] : List Int)), ((ji4) - 1), (by first | rfl | (simp; done) | (simp only [← hji4] <;> (first | rfl | simp)) | (simp [*]; done)), H', ⟨Nat.le_refl _⟩, ⟨by first | exact Kd.R_nil _ _ _ _ _ | exact Kd.N_nil _ _ _ _ _ | exact Kd.V_nil _ _ _ _ _ | exact Kd.Q_nil _ _ _ _ _ | exact Kd.S_nil _ _ _ _ _⟩, ⟨by repeat (first | (with_reducible first | exact HB.out | apply below_alloc | apply pw_below_drewN | apply below_drew1) | exact HB.out)⟩⟩
  case round =>
    clear H'
    try clear c2
    try clear p2
    obtain ⟨x5_1, x6_1, rfl, HA, HK1, HO_5, HB⟩ := hrel
    cases gk with
    | zero => exact absurd HA.out (by simp [octet_Big.l0])
    | succ k1 =>
      have H := HA.out
      clear HA
      simp only [octet_Big.l0] at H
      by_cases c5 : x6_1 ≥ 0
      · rw [if_pos c5] at H
        have c5b0 : decide (0 ≤ x6_1) = true := decide_eq_true c5
        clear c5
        obtain ⟨ji6, hji6⟩ : ∃ j_ : Int, (wrap64 (8 * x6_1)) = j_ := ⟨_, rfl⟩
        replace H : (if 0 ≤ (ji6) then (if x5_1.length < 140737488355328 then (octet_Big.l0 k1 a0 (x5_1 ++ [(shr .u64 a0 (ji6)) % 256]) (wrap64 (x6_1 - 1))) else (none)) else (none)) = some r := by first | (rw [hji6] at H; exact H) | (simp only [hji6] at H ⊢; exact H)
        have hji6w : (IntKind.i64.wrap (8 * x6_1)) = ji6 := (i64_w _).trans hji6
        by_cases c7 : 0 ≤ (ji6)
        · rw [if_pos c7] at H
          have c7b0 := eq_true c7
          have c7b1 : decide (0 ≤ (ji6)) = true := decide_eq_true c7
          clear c7
          obtain ⟨ji8, hji8⟩ : ∃ j_ : Int, (shr .u64 a0 (ji6)) = j_ := ⟨_, rfl⟩
          replace H : (if x5_1.length < 140737488355328 then (octet_Big.l0 k1 a0 (x5_1 ++ [(ji8) % 256]) (wrap64 (x6_1 - 1))) else (none)) = some r := by first | (rw [hji8] at H; exact H) | (simp only [hji8] at H ⊢; exact H)
          have hji8_ : (a0 / 2 ^ min (ji6).toNat 64) = ji8 := hji8
          have hji8z : (ji6) ≤ 64 → (a0 / 2 ^ (ji6).toNat) = ji8 := shr_small hji8
          by_cases c9 : x5_1.length < 140737488355328
          · rw [if_pos c9] at H
            have LMc9 := Aside0.mk c9
            clear c9
            obtain ⟨y123, hy123⟩ : ∃ y_ : List Int, y_ = (x5_1 ++ [(ji8) % 256]) := ⟨_, rfl⟩
            replace H : (octet_Big.l0 k1 a0 y123 (wrap64 (x6_1 - 1))) = some r := by first | (rw [hy123]; with_reducible exact H) | (have H2_ := (Option.bind_some _ _).symm.trans H; rw [hy123]; with_reducible exact H2_) | (have H2_ := (Option.bind_some _ _).symm.trans H; with_reducible exact H2_) | with_reducible exact H | (rw [hy123]; exact H) | exact H
            have Ny123 := Aside0.mk hy123
            clear hy123
            have H' := Aside0.mk H
            clear H
            go_wp2_with (first | ((with_reducible refine gate_builtin (b := .append) (xs := #[.tmp 15, .tmp 21]) rfl ?_); at_builtin; refine Kd.R_append (Kd.int .u8) (w0 := w) w.heap.size rfl (.tmp 15) (.tmp 21) 30 5 (.int .u8 0) 1 rfl Try.underlying30 info5 rfl (by decide) (by omega) u5 x5_1 ((ji8) % 256) [.int .u8 ((ji8) % 256)] (fun _ => True) (fun _ => False) rfl rfl ?aP (fun _ hk => hk.elim) ?aF ?aO ?aB ?aS ?aL ?_; (case aP => exact rfl); (case aB => exact (by repeat (first | (with_reducible first | exact HB.out | apply below_alloc | apply pw_below_drewN | apply below_drew1) | exact HB.out))); (case aF => exact (fun _ _ => trivial)); (case aO => exact (by (with_reducible repeat (first | apply Kd.R_alloc | apply Kd.R_drewN | apply Kd.R_drew)); exact HO_5.out)); (case aS => exact (below_size (by repeat (first | (with_reducible first | exact HB.out | apply below_alloc | apply pw_below_drewN | apply below_drew1) | exact HB.out)))); (case aL => have := LMc9.out; omega); intro v124 w10 ho hb hg hat; rw [← Ny123.out] at ho; have n0_ := Aside0.mk (hb); have n1_ := Aside0.mk (ho); clear HB; clear HO_5; have HB := n0_; have HO125 := n1_; clear n0_ n1_; clear ho hb hg hat))
            go_roundg k1
            case measure => have := HK1.out; omega
            case rel => exact ⟨(y123), (wrap64 (x6_1 - 1)), (by first | rfl | (simp; done) | (simp [*]; done)), H', ⟨by have := HK1.out; omega⟩, ⟨by (with_reducible repeat (first | apply Kd.R_alloc | apply Kd.R_drewN | apply Kd.R_drew)); exact HO125.out⟩, ⟨by repeat (first | (with_reducible first | exact HB.out | apply below_alloc | apply pw_below_drewN | apply below_drew1) | exact HB.out)⟩⟩
          · rw [if_neg c9] at H
            exact absurd H (by simp)
        · rw [if_neg c7] at H
          exact absurd H (by simp)
      · rw [if_neg c5] at H
        have c5b0 : decide (0 ≤ x6_1) = false := decide_eq_false c5
        clear c5
        obtain rfl := Option.some.inj H
        have hcv11 := own_string (P := Try.prog) Try.underlying30 Try.underlying5 Try.underlying9 (Kd.own_of_R HO_5.out)
        go_wp2
        go_ret
        exact ⟨by first | rfl | (simp [errW_none, errW_some] <;> rfl) | (simp only [← hji3, ← hji4]; first | rfl | (simp [errW_none, errW_some] <;> rfl)) | (simp [*, errW_none, errW_some] <;> rfl), by repeat (first | (with_reducible first | exact HB.out | apply below_alloc | apply pw_below_drewN | apply below_drew1) | exact HB.out)⟩

/-! ### johab_two: function 21 -/
def johab_two.f (k : Nat) (a0 : Int) (a1 : Int) (a2 : Int) : Option (ByteArray × Bool) := (octet_Big.f k (IntKind.u64.wrap (Go.bits .or .i64 (Go.bits .or .i64 (Go.bits .or .i64 32768 (wrap64 (a0 * 1024))) (wrap64 (a1 * 32))) a2)) 2).bind fun t126 => (some (t126, true))
theorem johab_two.mono : ∀ a0 a1 a2 k, LeO (johab_two.f k a0 a1 a2) (johab_two.f (k + 1) a0 a1 a2) := by
  intro a0 a1 a2 k
  unfold johab_two.f
  repeat' first
      | (with_reducible exact octet_Big.mono _ _ _)
      | (with_reducible exact LeO.refl _)
      | (with_reducible exact LeO.none _)
      | (with_reducible refine LeO.ite ?_ ?_)
      | (with_reducible refine LeO.bind ?_ (fun _ => ?_))
      | exact octet_Big.mono _ _ _
      | exact LeO.none _
      | refine LeO.ite ?_ ?_
      | refine LeO.bind ?_ (fun _ => ?_)
set_option maxHeartbeats 8000000 in
set_option maxRecDepth 100000 in
theorem johab_two.calls (k : Nat) (a0 : Int) (a1 : Int) (a2 : Int) (r1 : ByteArray) (r2 : Bool) (w : World) (h : johab_two.f k a0 a1 a2 = some (r1, r2)) :
    Calls Try.prog 21 #[.int .i64 a0, .int .i64 a1, .int .i64 a2] w fun e w' => e = .returned (.tuple #[.string r1, .bool r2]) ∧ Below w.heap.size w w' := by
  have HB := Aside0.mk (Below.refl w.heap.size w)
  have H : ((octet_Big.f k (IntKind.u64.wrap (Go.bits .or .i64 (Go.bits .or .i64 (Go.bits .or .i64 32768 (wrap64 (a0 * 1024))) (wrap64 (a1 * 32))) a2)) 2).bind fun t126 => (some (t126, true))) = some (r1, r2) := h
  clear h
  replace H := Option.bind_eq_some_iff.mp H
  obtain ⟨t126, A40, H⟩ := H
  replace H : (some (t126, true)) = some (r1, r2) := H
  have A4 := Aside0.mk A40
  clear A40
  simp only [Option.some.injEq, Prod.mk.injEq] at H
  obtain ⟨rfl, rfl⟩ := H
  go_enter Try.func21, Try.ntmps21
  go_wp2_with (first | ((with_reducible refine gate_callee (f := 25) rfl ?_); refine goesL_ (some 17) rfl rfl Try.func25 (by kernel_rfl) rfl #[.int .u64 (IntKind.u64.wrap (Go.bits .or .i64 (Go.bits .or .i64 (Go.bits .or .i64 32768 (wrap64 (a0 * 1024))) (wrap64 (a1 * 32))) a2)), .int .i64 2] rfl (by (try simp only [List.map_toArray, List.map_cons, List.map_nil]); first | done | rfl | (simp only [List.length_drop, List.length_take]; rfl)) ?_; (with_reducible refine (octet_Big.calls k (IntKind.u64.wrap (Go.bits .or .i64 (Go.bits .or .i64 (Go.bits .or .i64 32768 (wrap64 (a0 * 1024))) (wrap64 (a1 * 32))) a2)) 2 t126 _ A4.out).mono ?_); rintro e w5 ⟨rfl, hb⟩; refine ⟨_, rfl, ?_⟩; have n0_ := Aside0.mk (below_step (by repeat (first | (with_reducible first | exact HB.out | apply below_alloc | apply pw_below_drewN | apply below_drew1) | exact HB.out)) hb); clear HB; have HB := n0_; clear n0_; (try clear hb); (try clear hb2); (try clear hk); (try clear hi)))
  go_ret2
  exact ⟨by first | rfl | (simp [errW_none, errW_some] <;> rfl) | (simp [*, errW_none, errW_some] <;> rfl), by repeat (first | (with_reducible first | exact HB.out | apply below_alloc | apply pw_below_drewN | apply below_drew1) | exact HB.out)⟩

/-! ### johab_medialCode: function 22 -/
def johab_medialCode.f (a0 : Int) : Option (Int) := if a0 < 5 then (some (wrap64 (a0 + 3))) else (if a0 < 11 then (some (wrap64 (a0 + 5))) else (if a0 < 17 then (some (wrap64 (a0 + 7))) else (some (wrap64 (a0 + 9)))))
set_option maxHeartbeats 8000000 in
set_option maxRecDepth 100000 in
theorem johab_medialCode.calls (a0 : Int) (r : Int) (w : World) (h : johab_medialCode.f a0 = some r) :
    Calls Try.prog 22 #[.int .i64 a0] w fun e w' => e = .returned (.int .i64 r) ∧ Drawn0 w w' := by
  have H : (if a0 < 5 then (some (wrap64 (a0 + 3))) else (if a0 < 11 then (some (wrap64 (a0 + 5))) else (if a0 < 17 then (some (wrap64 (a0 + 7))) else (some (wrap64 (a0 + 9)))))) = some r := h
  clear h
  by_cases c2 : a0 < 5
  · rw [if_pos c2] at H
    have c2b0 : decide (a0 < 5) = true := decide_eq_true c2
    clear c2
    obtain rfl := Option.some.inj H
    go_enter Try.func22, Try.ntmps22
    go_wp2
    go_ret
    exact ⟨by first | rfl | (simp; done) | (simp [*]; done), by repeat (first | exact Drawn0.refl _ | apply Drawn0.step)⟩
  · rw [if_neg c2] at H
    have c2b0 : decide (a0 < 5) = false := decide_eq_false c2
    clear c2
    by_cases c3 : a0 < 11
    · rw [if_pos c3] at H
      have c3b0 : decide (a0 < 11) = true := decide_eq_true c3
      clear c3
      obtain rfl := Option.some.inj H
      go_enter Try.func22, Try.ntmps22
      go_wp2
      go_ret
      exact ⟨by first | rfl | (simp; done) | (simp [*]; done), by repeat (first | exact Drawn0.refl _ | apply Drawn0.step)⟩
    · rw [if_neg c3] at H
      have c3b0 : decide (a0 < 11) = false := decide_eq_false c3
      clear c3
      by_cases c4 : a0 < 17
      · rw [if_pos c4] at H
        have c4b0 : decide (a0 < 17) = true := decide_eq_true c4
        clear c4
        obtain rfl := Option.some.inj H
        go_enter Try.func22, Try.ntmps22
        go_wp2
        go_ret
        exact ⟨by first | rfl | (simp; done) | (simp [*]; done), by repeat (first | exact Drawn0.refl _ | apply Drawn0.step)⟩
      · rw [if_neg c4] at H
        have c4b0 : decide (a0 < 17) = false := decide_eq_false c4
        clear c4
        obtain rfl := Option.some.inj H
        go_enter Try.func22, Try.ntmps22
        go_wp2
        go_ret
        exact ⟨by first | rfl | (simp; done) | (simp [*]; done), by repeat (first | exact Drawn0.refl _ | apply Drawn0.step)⟩

/-! ### johab_finalCode: function 23 -/
def johab_finalCode.f (a0 : Int) : Option (Int) := if a0 < 17 then (some (wrap64 (a0 + 1))) else (some (wrap64 (a0 + 2)))
set_option maxHeartbeats 8000000 in
set_option maxRecDepth 100000 in
theorem johab_finalCode.calls (a0 : Int) (r : Int) (w : World) (h : johab_finalCode.f a0 = some r) :
    Calls Try.prog 23 #[.int .i64 a0] w fun e w' => e = .returned (.int .i64 r) ∧ Drawn0 w w' := by
  have H : (if a0 < 17 then (some (wrap64 (a0 + 1))) else (some (wrap64 (a0 + 2)))) = some r := h
  clear h
  by_cases c2 : a0 < 17
  · rw [if_pos c2] at H
    have c2b0 : decide (a0 < 17) = true := decide_eq_true c2
    clear c2
    obtain rfl := Option.some.inj H
    go_enter Try.func23, Try.ntmps23
    go_wp2
    go_ret
    exact ⟨by first | rfl | (simp; done) | (simp [*]; done), by repeat (first | exact Drawn0.refl _ | apply Drawn0.step)⟩
  · rw [if_neg c2] at H
    have c2b0 : decide (a0 < 17) = false := decide_eq_false c2
    clear c2
    obtain rfl := Option.some.inj H
    go_enter Try.func23, Try.ntmps23
    go_wp2
    go_ret
    exact ⟨by first | rfl | (simp; done) | (simp [*]; done), by repeat (first | exact Drawn0.refl _ | apply Drawn0.step)⟩

end Go.Proofs.Ytjdcnpgemlhdfaa.PJohabAll

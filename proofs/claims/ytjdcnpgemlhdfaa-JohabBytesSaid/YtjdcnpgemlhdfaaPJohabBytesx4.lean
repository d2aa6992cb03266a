-- Laid by a program of this session (mkprint.py: the print with hand-written contracts beside).
import Derived.Test.YtjdcnpgemlhdfaaPJohabBytesx0
import Derived.Test.YtjdcnpgemlhdfaaPJohabBytesx3
namespace Go.Proofs.Ytjdcnpgemlhdfaa.PJohabBytes
open Go.RowKit Go.Proofs.YtjdcnpgemlhdfaaW.PrintWords Go.Proofs.YtjdcnpgemlhdfaaW.PrintLast Go.Proofs.YtjdcnpgemlhdfaaW.PrintMore
attribute [local go_sem] max2_int min2_int max_two min_two max_three min_three max_four min_four   -- for this text's walks alone
set_option linter.unusedVariables false
set_option linter.unusedSimpArgs false

/-! ### diacriticref06_Sign: function 8 -/
mutual
def diacriticref06_Sign.j0 : Nat → Int → Int → Int → Bool → Option (Int)
  | 0, _, _, _, _ => none
  | k + 1, x3, x4, x5, x32 => if x32 = true then (some 0) else (if x3 ≥ 0 then (diacriticref06_Sign.j1 k x3 x4 x5 (decide (x4 ≥ 0))) else (diacriticref06_Sign.j1 k x3 x4 x5 false))
def diacriticref06_Sign.j1 : Nat → Int → Int → Int → Bool → Option (Int)
  | 0, _, _, _, _ => none
  | k + 1, x3, x4, x5, x38 => if x38 = true then (some (wrap32 (wrap64 ((wrap64 (44032 + (wrap64 ((wrap64 ((wrap64 (x3 * 21)) + x4)) * 28)))) + x5)))) else (if x3 < 0 then (if x4 ≥ 0 then (diacriticref06_Sign.j2 k x3 x4 x5 (x5 == 0)) else (diacriticref06_Sign.j2 k x3 x4 x5 false)) else (diacriticref06_Sign.j2 k x3 x4 x5 false))
def diacriticref06_Sign.j2 : Nat → Int → Int → Int → Bool → Option (Int)
  | 0, _, _, _, _ => none
  | k + 1, x3, x4, x5, x57 => if x57 = true then (some (wrap32 (wrap64 (12623 + x4)))) else (if x3 ≥ 0 then (if x4 < 0 then (diacriticref06_Sign.j3 k x3 x4 x5 (x5 == 0)) else (diacriticref06_Sign.j3 k x3 x4 x5 false)) else (diacriticref06_Sign.j3 k x3 x4 x5 false))
def diacriticref06_Sign.j3 : Nat → Int → Int → Int → Bool → Option (Int)
  | 0, _, _, _, _ => none
  | k + 1, x3, x4, x5, x70 => if x70 = true then ((diacriticref06_Alone.f k x3).bind fun t142 => (some t142)) else (if x3 < 0 then (if x4 < 0 then (if x5 > 0 then ((diacriticref06_Alone.f k (wrap64 (100 + x5))).bind fun t143 => (some t143)) else (some 0)) else (some 0)) else (some 0))
end
def diacriticref06_Sign.f (k : Nat) (a0 : Int) : Option (Int) := if a0 < 32768 then (some 0) else ((diacriticref06_Medial.f (Int.tmod (wrap64 (Int.tdiv a0 32)) 32)).bind fun t140 => ((diacriticref06_Final.f k (Int.tmod a0 32)).bind fun t141 => (if (wrap64 ((Int.tmod (wrap64 (Int.tdiv a0 1024)) 32) - 2)) < (-1) then (diacriticref06_Sign.j0 k (wrap64 ((Int.tmod (wrap64 (Int.tdiv a0 1024)) 32) - 2)) t140 t141 true) else (if (wrap64 ((Int.tmod (wrap64 (Int.tdiv a0 1024)) 32) - 2)) > 18 then (diacriticref06_Sign.j0 k (wrap64 ((Int.tmod (wrap64 (Int.tdiv a0 1024)) 32) - 2)) t140 t141 true) else (if t140 = (-2) then (diacriticref06_Sign.j0 k (wrap64 ((Int.tmod (wrap64 (Int.tdiv a0 1024)) 32) - 2)) t140 t141 true) else (diacriticref06_Sign.j0 k (wrap64 ((Int.tmod (wrap64 (Int.tdiv a0 1024)) 32) - 2)) t140 t141 (t141 == (-2))))))))
theorem diacriticref06_Sign.mono_l : ∀ k, (∀ y0 y1 y2 y3, LeO (diacriticref06_Sign.j0 k y0 y1 y2 y3) (diacriticref06_Sign.j0 (k + 1) y0 y1 y2 y3)) ∧ (∀ y0 y1 y2 y3, LeO (diacriticref06_Sign.j1 k y0 y1 y2 y3) (diacriticref06_Sign.j1 (k + 1) y0 y1 y2 y3)) ∧ (∀ y0 y1 y2 y3, LeO (diacriticref06_Sign.j2 k y0 y1 y2 y3) (diacriticref06_Sign.j2 (k + 1) y0 y1 y2 y3)) ∧ (∀ y0 y1 y2 y3, LeO (diacriticref06_Sign.j3 k y0 y1 y2 y3) (diacriticref06_Sign.j3 (k + 1) y0 y1 y2 y3))
  | 0 => ⟨fun _ _ _ _ r h => by simp [diacriticref06_Sign.j0] at h, fun _ _ _ _ r h => by simp [diacriticref06_Sign.j1] at h, fun _ _ _ _ r h => by simp [diacriticref06_Sign.j2] at h, fun _ _ _ _ r h => by simp [diacriticref06_Sign.j3] at h⟩
  | k + 1 => by
    obtain ⟨ih0, ih1, ih2, ih3⟩ := diacriticref06_Sign.mono_l k
    refine ⟨?_, ?_, ?_, ?_⟩
    · intro y0 y1 y2 y3
      unfold diacriticref06_Sign.j0
      repeat' first
      | (with_reducible exact ih0 _ _ _ _)
      | (with_reducible exact ih1 _ _ _ _)
      | (with_reducible exact ih2 _ _ _ _)
      | (with_reducible exact ih3 _ _ _ _)
      | (with_reducible exact diacriticref06_Alone.mono _ _)
      | (with_reducible exact diacriticref06_Final.mono _ _)
      | (with_reducible exact LeO.refl _)
      | (with_reducible exact LeO.none _)
      | (with_reducible refine LeO.ite ?_ ?_)
      | (with_reducible refine LeO.bind ?_ (fun _ => ?_))
      | exact ih0 _ _ _ _
      | exact ih1 _ _ _ _
      | exact ih2 _ _ _ _
      | exact ih3 _ _ _ _
      | exact diacriticref06_Alone.mono _ _
      | exact diacriticref06_Final.mono _ _
      | exact LeO.none _
      | refine LeO.ite ?_ ?_
      | refine LeO.bind ?_ (fun _ => ?_)
    · intro y0 y1 y2 y3
      unfold diacriticref06_Sign.j1
      repeat' first
      | (with_reducible exact ih0 _ _ _ _)
      | (with_reducible exact ih1 _ _ _ _)
      | (with_reducible exact ih2 _ _ _ _)
      | (with_reducible exact ih3 _ _ _ _)
      | (with_reducible exact diacriticref06_Alone.mono _ _)
      | (with_reducible exact diacriticref06_Final.mono _ _)
      | (with_reducible exact LeO.refl _)
      | (with_reducible exact LeO.none _)
      | (with_reducible refine LeO.ite ?_ ?_)
      | (with_reducible refine LeO.bind ?_ (fun _ => ?_))
      | exact ih0 _ _ _ _
      | exact ih1 _ _ _ _
      | exact ih2 _ _ _ _
      | exact ih3 _ _ _ _
      | exact diacriticref06_Alone.mono _ _
      | exact diacriticref06_Final.mono _ _
      | exact LeO.none _
      | refine LeO.ite ?_ ?_
      | refine LeO.bind ?_ (fun _ => ?_)
    · intro y0 y1 y2 y3
      unfold diacriticref06_Sign.j2
      repeat' first
      | (with_reducible exact ih0 _ _ _ _)
      | (with_reducible exact ih1 _ _ _ _)
      | (with_reducible exact ih2 _ _ _ _)
      | (with_reducible exact ih3 _ _ _ _)
      | (with_reducible exact diacriticref06_Alone.mono _ _)
      | (with_reducible exact diacriticref06_Final.mono _ _)
      | (with_reducible exact LeO.refl _)
      | (with_reducible exact LeO.none _)
      | (with_reducible refine LeO.ite ?_ ?_)
      | (with_reducible refine LeO.bind ?_ (fun _ => ?_))
      | exact ih0 _ _ _ _
      | exact ih1 _ _ _ _
      | exact ih2 _ _ _ _
      | exact ih3 _ _ _ _
      | exact diacriticref06_Alone.mono _ _
      | exact diacriticref06_Final.mono _ _
      | exact LeO.none _
      | refine LeO.ite ?_ ?_
      | refine LeO.bind ?_ (fun _ => ?_)
    · intro y0 y1 y2 y3
      unfold diacriticref06_Sign.j3
      repeat' first
      | (with_reducible exact ih0 _ _ _ _)
      | (with_reducible exact ih1 _ _ _ _)
      | (with_reducible exact ih2 _ _ _ _)
      | (with_reducible exact ih3 _ _ _ _)
      | (with_reducible exact diacriticref06_Alone.mono _ _)
      | (with_reducible exact diacriticref06_Final.mono _ _)
      | (with_reducible exact LeO.refl _)
      | (with_reducible exact LeO.none _)
      | (with_reducible refine LeO.ite ?_ ?_)
      | (with_reducible refine LeO.bind ?_ (fun _ => ?_))
      | exact ih0 _ _ _ _
      | exact ih1 _ _ _ _
      | exact ih2 _ _ _ _
      | exact ih3 _ _ _ _
      | exact diacriticref06_Alone.mono _ _
      | exact diacriticref06_Final.mono _ _
      | exact LeO.none _
      | refine LeO.ite ?_ ?_
      | refine LeO.bind ?_ (fun _ => ?_)
theorem diacriticref06_Sign.mono : ∀ a0 k, LeO (diacriticref06_Sign.f k a0) (diacriticref06_Sign.f (k + 1) a0) := by
  intro a0 k
  obtain ⟨ih0, ih1, ih2, ih3⟩ := diacriticref06_Sign.mono_l k
  unfold diacriticref06_Sign.f
  repeat' first
      | (with_reducible exact ih0 _ _ _ _)
      | (with_reducible exact ih1 _ _ _ _)
      | (with_reducible exact ih2 _ _ _ _)
      | (with_reducible exact ih3 _ _ _ _)
      | (with_reducible exact diacriticref06_Alone.mono _ _)
      | (with_reducible exact diacriticref06_Final.mono _ _)
      | (with_reducible exact LeO.refl _)
      | (with_reducible exact LeO.none _)
      | (with_reducible refine LeO.ite ?_ ?_)
      | (with_reducible refine LeO.bind ?_ (fun _ => ?_))
      | exact ih0 _ _ _ _
      | exact ih1 _ _ _ _
      | exact ih2 _ _ _ _
      | exact ih3 _ _ _ _
      | exact diacriticref06_Alone.mono _ _
      | exact diacriticref06_Final.mono _ _
      | exact LeO.none _
      | refine LeO.ite ?_ ?_
      | refine LeO.bind ?_ (fun _ => ?_)
set_option maxHeartbeats 8000000 in
set_option maxRecDepth 100000 in
theorem diacriticref06_Sign.calls (k : Nat) (a0 : Int) (r : Int) (w : World) (h : diacriticref06_Sign.f k a0 = some r) :
    Calls Try.prog 8 #[.int .i64 a0] w fun e w' => e = .returned (.int .i32 r) ∧ Below w.heap.size w w' := by
  have HB := Aside0.mk (Below.refl w.heap.size w)
  have H : (if a0 < 32768 then (some 0) else ((diacriticref06_Medial.f (Int.tmod (wrap64 (Int.tdiv a0 32)) 32)).bind fun t140 => ((diacriticref06_Final.f k (Int.tmod a0 32)).bind fun t141 => (if (wrap64 ((Int.tmod (wrap64 (Int.tdiv a0 1024)) 32) - 2)) < (-1) then (diacriticref06_Sign.j0 k (wrap64 ((Int.tmod (wrap64 (Int.tdiv a0 1024)) 32) - 2)) t140 t141 true) else (if (wrap64 ((Int.tmod (wrap64 (Int.tdiv a0 1024)) 32) - 2)) > 18 then (diacriticref06_Sign.j0 k (wrap64 ((Int.tmod (wrap64 (Int.tdiv a0 1024)) 32) - 2)) t140 t141 true) else (if t140 = (-2) then (diacriticref06_Sign.j0 k (wrap64 ((Int.tmod (wrap64 (Int.tdiv a0 1024)) 32) - 2)) t140 t141 true) else (diacriticref06_Sign.j0 k (wrap64 ((Int.tmod (wrap64 (Int.tdiv a0 1024)) 32) - 2)) t140 t141 (t141 == (-2))))))))) = some r := h
  clear h
  by_cases c2 : a0 < 32768
  · rw [if_pos c2] at H
    have c2b0 : decide (a0 < 32768) = true := decide_eq_true c2
    clear c2
    obtain rfl := Option.some.inj H
    go_enter Try.func8, Try.ntmps8
    go_wp2
    go_ret
    exact ⟨by first | rfl | (simp [errW_none, errW_some] <;> rfl) | (simp [*, errW_none, errW_some] <;> rfl), by repeat (first | (with_reducible first | exact HB.out | apply below_alloc | apply pw_below_drewN | apply below_drew1) | exact HB.out)⟩
  · rw [if_neg c2] at H
    have c2b0 : decide (a0 < 32768) = false := decide_eq_false c2
    clear c2
    replace H := Option.bind_eq_some_iff.mp H
    obtain ⟨t140, A30, H⟩ := H
    replace H : ((diacriticref06_Final.f k (Int.tmod a0 32)).bind fun t141 => (if (wrap64 ((Int.tmod (wrap64 (Int.tdiv a0 1024)) 32) - 2)) < (-1) then (diacriticref06_Sign.j0 k (wrap64 ((Int.tmod (wrap64 (Int.tdiv a0 1024)) 32) - 2)) t140 t141 true) else (if (wrap64 ((Int.tmod (wrap64 (Int.tdiv a0 1024)) 32) - 2)) > 18 then (diacriticref06_Sign.j0 k (wrap64 ((Int.tmod (wrap64 (Int.tdiv a0 1024)) 32) - 2)) t140 t141 true) else (if t140 = (-2) then (diacriticref06_Sign.j0 k (wrap64 ((Int.tmod (wrap64 (Int.tdiv a0 1024)) 32) - 2)) t140 t141 true) else (diacriticref06_Sign.j0 k (wrap64 ((Int.tmod (wrap64 (Int.tdiv a0 1024)) 32) - 2)) t140 t141 (t141 == (-2))))))) = some r := H
    have A3 := Aside0.mk A30
    clear A30
    replace H := Option.bind_eq_some_iff.mp H
    obtain ⟨t141, A40, H⟩ := H
    replace H : (if (wrap64 ((Int.tmod (wrap64 (Int.tdiv a0 1024)) 32) - 2)) < (-1) then (diacriticref06_Sign.j0 k (wrap64 ((Int.tmod (wrap64 (Int.tdiv a0 1024)) 32) - 2)) t140 t141 true) else (if (wrap64 ((Int.tmod (wrap64 (Int.tdiv a0 1024)) 32) - 2)) > 18 then (diacriticref06_Sign.j0 k (wrap64 ((Int.tmod (wrap64 (Int.tdiv a0 1024)) 32) - 2)) t140 t141 true) else (if t140 = (-2) then (diacriticref06_Sign.j0 k (wrap64 ((Int.tmod (wrap64 (Int.tdiv a0 1024)) 32) - 2)) t140 t141 true) else (diacriticref06_Sign.j0 k (wrap64 ((Int.tmod (wrap64 (Int.tdiv a0 1024)) 32) - 2)) t140 t141 (t141 == (-2)))))) = some r := H
    have A4 := Aside0.mk A40
    clear A40
    have HC5 := Aside0.mk H
    clear H
    go_enter Try.func8, Try.ntmps8
    go_upto_region 6 with (first | ((with_reducible refine gate_callee (f := 17) rfl ?_); refine goesL_ (some 15) rfl rfl Try.func17 (by kernel_rfl) rfl #[.int .i64 (Int.tmod (wrap64 (Int.tdiv a0 32)) 32)] rfl (by (try simp only [List.map_toArray, List.map_cons, List.map_nil]); first | done | rfl | (simp only [List.length_drop, List.length_take]; rfl)) ?_; (with_reducible refine (diacriticref06_Medial.calls (Int.tmod (wrap64 (Int.tdiv a0 32)) 32) t140 _ A3.out).mono ?_); rintro e w6 ⟨rfl, hb⟩; refine ⟨_, rfl, ?_⟩; have n0_ := Aside0.mk (below_step (by repeat (first | (with_reducible first | exact HB.out | apply below_alloc | apply pw_below_drewN | apply below_drew1) | exact HB.out)) hb); clear HB; have HB := n0_; clear n0_; (try clear hb); (try clear hb2); (try clear hk); (try clear hi)) | ((with_reducible refine gate_callee (f := 18) rfl ?_); refine goesL_ (some 18) rfl rfl Try.func18 (by kernel_rfl) rfl #[.int .i64 (Int.tmod a0 32)] rfl (by (try simp only [List.map_toArray, List.map_cons, List.map_nil]); first | done | rfl | (simp only [List.length_drop, List.length_take]; rfl)) ?_; (with_reducible refine (diacriticref06_Final.calls k (Int.tmod a0 32) t141 _ A4.out).mono ?_); rintro e w' ⟨rfl, ⟨nd, rfl⟩⟩; refine ⟨_, rfl, ?_⟩))
    (try simp only [Act.put, List.setIfInBounds_toArray, List.set_cons_zero, List.set_cons_succ])
    go_cut [32] (fun v32 wc => ∃ (kq : Nat) (x32_4 : Bool), v32 = .bool x32_4 ∧ Aside0 (diacriticref06_Sign.j0 kq (wrap64 ((Int.tmod (wrap64 (Int.tdiv a0 1024)) 32) - 2)) t140 t141 x32_4 = some r) ∧ Aside0 (kq ≤ k) ∧ Aside0 (Below w.heap.size w wc))
    case first =>
      have H := HC5.out
      clear HC5
      by_cases c7 : (wrap64 ((Int.tmod (wrap64 (Int.tdiv a0 1024)) 32) - 2)) < (-1)
      · rw [if_pos c7] at H
        have c7b0 : decide ((wrap64 ((Int.tmod (wrap64 (Int.tdiv a0 1024)) 32) - 2)) < (-1)) = true := decide_eq_true c7
        clear c7
        (first | rw [c7b0] | (simp only [i64_w, i32_w]; rw [c7b0]) | skip)
        have H' := Aside0.mk H
        clear H
        go_wp2
        go_meet
        case rel => exact ⟨_, (true), (by first | rfl | (simp; done) | (simp [*]; done)), H', ⟨by first | omega | exact Nat.le_refl _⟩, ⟨by repeat (first | (with_reducible first | exact HB.out | apply below_alloc | apply pw_below_drewN | apply below_drew1) | exact HB.out)⟩⟩
      · rw [if_neg c7] at H
        have c7b0 : decide ((wrap64 ((Int.tmod (wrap64 (Int.tdiv a0 1024)) 32) - 2)) < (-1)) = false := decide_eq_false c7
        clear c7
        (first | rw [c7b0] | (simp only [i64_w, i32_w]; rw [c7b0]) | skip)
        by_cases c8 : (wrap64 ((Int.tmod (wrap64 (Int.tdiv a0 1024)) 32) - 2)) > 18
        · rw [if_pos c8] at H
          have c8b0 : decide (18 < (wrap64 ((Int.tmod (wrap64 (Int.tdiv a0 1024)) 32) - 2))) = true := decide_eq_true c8
          clear c8
          have H' := Aside0.mk H
          clear H
          go_wp2
          go_meet
          case rel => exact ⟨_, (true), (by first | rfl | (simp; done) | (simp [*]; done)), H', ⟨by first | omega | exact Nat.le_refl _⟩, ⟨by repeat (first | (with_reducible first | exact HB.out | apply below_alloc | apply pw_below_drewN | apply below_drew1) | exact HB.out)⟩⟩
        · rw [if_neg c8] at H
          have c8b0 : decide (18 < (wrap64 ((Int.tmod (wrap64 (Int.tdiv a0 1024)) 32) - 2))) = false := decide_eq_false c8
          clear c8
          by_cases c9 : t140 = (-2)
          · rw [if_pos c9] at H
            have c9b0 : (t140 == (-2)) = true := beq_iff_eq.mpr c9
            have c9b1 : (t140 != (-2)) = false := bne_eq_false_iff_eq.mpr c9
            clear c9
            have H' := Aside0.mk H
            clear H
            go_wp2
            go_meet
            case rel => exact ⟨_, (true), (by first | rfl | (simp; done) | (simp [*]; done)), H', ⟨by first | omega | exact Nat.le_refl _⟩, ⟨by repeat (first | (with_reducible first | exact HB.out | apply below_alloc | apply pw_below_drewN | apply below_drew1) | exact HB.out)⟩⟩
          · rw [if_neg c9] at H
            have c9b0 : (t140 == (-2)) = false := beq_eq_false_iff_ne.mpr c9
            have c9b1 : (t140 != (-2)) = true := bne_iff_ne.mpr c9
            have H' := Aside0.mk H
            clear H
            go_wp2
            go_meet
            case rel => exact ⟨_, ((t141 == (-2))), (by first | rfl | (simp; done) | (simp [*]; done)), H', ⟨by first | omega | exact Nat.le_refl _⟩, ⟨by repeat (first | (with_reducible first | exact HB.out | apply below_alloc | apply pw_below_drewN | apply below_drew1) | exact HB.out)⟩⟩
    case rest =>
      clear HC5
      try clear c1
      try clear c2
      try clear c2b0
      try clear p2
      try clear p6
      try clear c7
      try clear c7b0
      try clear c8
      try clear c8b0
      try clear c9
      try clear c9b0
      try clear c9b1
      obtain ⟨kq, x32_4, rfl, HA, HJ4, HB⟩ := hcut
      cases kq with
      | zero => exact absurd HA.out (by simp [diacriticref06_Sign.j0])
      | succ kj4 =>
        have H := HA.out
        clear HA
        simp only [diacriticref06_Sign.j0] at H
        by_cases c10 : x32_4 = true
        · subst c10
          have H1 : (some 0) = some r := by rw [if_pos rfl] at H; exact H
          clear H
          have H := H1
          clear H1
          obtain rfl := Option.some.inj H
          go_wp2
          go_ret
          exact ⟨by first | rfl | (simp [errW_none, errW_some] <;> rfl) | (simp [*, errW_none, errW_some] <;> rfl), by repeat (first | (with_reducible first | exact HB.out | apply below_alloc | apply pw_below_drewN | apply below_drew1) | exact HB.out)⟩
        · replace c10 := Bool.eq_false_iff.mpr c10
          subst c10
          have H1 : (if (wrap64 ((Int.tmod (wrap64 (Int.tdiv a0 1024)) 32) - 2)) ≥ 0 then (diacriticref06_Sign.j1 kj4 (wrap64 ((Int.tmod (wrap64 (Int.tdiv a0 1024)) 32) - 2)) t140 t141 (decide (t140 ≥ 0))) else (diacriticref06_Sign.j1 kj4 (wrap64 ((Int.tmod (wrap64 (Int.tdiv a0 1024)) 32) - 2)) t140 t141 false)) = some r := by rw [if_neg (show ¬ (false = true) by decide)] at H; exact H
          clear H
          have H := H1
          clear H1
          have HC11 := Aside0.mk H
          clear H
          go_upto_region 8 with (fail)
          go_cut [38] (fun v38 wc => ∃ (kq : Nat) (x38_10 : Bool), v38 = .bool x38_10 ∧ Aside0 (diacriticref06_Sign.j1 kq (wrap64 ((Int.tmod (wrap64 (Int.tdiv a0 1024)) 32) - 2)) t140 t141 x38_10 = some r) ∧ Aside0 (kq ≤ kj4) ∧ Aside0 (Below w.heap.size w wc))
          case first =>
            have H := HC11.out
            clear HC11
            by_cases c12 : (wrap64 ((Int.tmod (wrap64 (Int.tdiv a0 1024)) 32) - 2)) ≥ 0
            · rw [if_pos c12] at H
              have c12b0 : decide (0 ≤ (wrap64 ((Int.tmod (wrap64 (Int.tdiv a0 1024)) 32) - 2))) = true := decide_eq_true c12
              clear c12
              (first | rw [c12b0] | (simp only [i64_w, i32_w]; rw [c12b0]) | skip)
              have H' := Aside0.mk H
              clear H
              go_wp2
              go_meet
              case rel => exact ⟨_, (decide (t140 ≥ 0)), (by first | rfl | (simp; done) | (simp [*]; done)), H', ⟨by have := HJ4.out; first | omega | exact Nat.le_refl _⟩, ⟨by repeat (first | (with_reducible first | exact HB.out | apply below_alloc | apply pw_below_drewN | apply below_drew1) | exact HB.out)⟩⟩
            · rw [if_neg c12] at H
              have c12b0 : decide (0 ≤ (wrap64 ((Int.tmod (wrap64 (Int.tdiv a0 1024)) 32) - 2))) = false := decide_eq_false c12
              clear c12
              (first | rw [c12b0] | (simp only [i64_w, i32_w]; rw [c12b0]) | skip)
              have H' := Aside0.mk H
              clear H
              go_wp2
              go_meet
              case rel => exact ⟨_, (false), (by first | rfl | (simp; done) | (simp [*]; done)), H', ⟨by have := HJ4.out; first | omega | exact Nat.le_refl _⟩, ⟨by repeat (first | (with_reducible first | exact HB.out | apply below_alloc | apply pw_below_drewN | apply below_drew1) | exact HB.out)⟩⟩
          case rest =>
            clear HC11
            try clear c1
            try clear c2
            try clear c2b0
            try clear p2
            try clear p6
            try clear c7
            try clear c7b0
            try clear c8
            try clear c8b0
            try clear c9
            try clear c9b0
            try clear c9b1
            try clear c10
            try clear c12
            try clear c12b0
            try clear p2
            try clear p6
            obtain ⟨kq, x38_10, rfl, HA, HJ10, HB⟩ := hcut
            cases kq with
            | zero => exact absurd HA.out (by simp [diacriticref06_Sign.j1])
            | succ kj10 =>
              have H := HA.out
              clear HA
              simp only [diacriticref06_Sign.j1] at H
              by_cases c13 : x38_10 = true
              · subst c13
                have H1 : (some (wrap32 (wrap64 ((wrap64 (44032 + (wrap64 ((wrap64 ((wrap64 ((wrap64 ((Int.tmod (wrap64 (Int.tdiv a0 1024)) 32) - 2)) * 21)) + t140)) * 28)))) + t141)))) = some r := by rw [if_pos rfl] at H; exact H
                clear H
                have H := H1
                clear H1
                obtain rfl := Option.some.inj H
                go_wp2
                go_ret
                exact ⟨by first | rfl | (simp [errW_none, errW_some] <;> rfl) | (simp [*, errW_none, errW_some] <;> rfl), by repeat (first | (with_reducible first | exact HB.out | apply below_alloc | apply pw_below_drewN | apply below_drew1) | exact HB.out)⟩
              · replace c13 := Bool.eq_false_iff.mpr c13
                subst c13
                have H1 : (if (wrap64 ((Int.tmod (wrap64 (Int.tdiv a0 1024)) 32) - 2)) < 0 then (if t140 ≥ 0 then (diacriticref06_Sign.j2 kj10 (wrap64 ((Int.tmod (wrap64 (Int.tdiv a0 1024)) 32) - 2)) t140 t141 (t141 == 0)) else (diacriticref06_Sign.j2 kj10 (wrap64 ((Int.tmod (wrap64 (Int.tdiv a0 1024)) 32) - 2)) t140 t141 false)) else (diacriticref06_Sign.j2 kj10 (wrap64 ((Int.tmod (wrap64 (Int.tdiv a0 1024)) 32) - 2)) t140 t141 false)) = some r := by rw [if_neg (show ¬ (false = true) by decide)] at H; exact H
                clear H
                have H := H1
                clear H1
                have HC14 := Aside0.mk H
                clear H
                go_upto_region 10 with (fail)
                go_cut [57] (fun v57 wc => ∃ (kq : Nat) (x57_13 : Bool), v57 = .bool x57_13 ∧ Aside0 (diacriticref06_Sign.j2 kq (wrap64 ((Int.tmod (wrap64 (Int.tdiv a0 1024)) 32) - 2)) t140 t141 x57_13 = some r) ∧ Aside0 (kq ≤ kj10) ∧ Aside0 (Below w.heap.size w wc))
                case first =>
                  have H := HC14.out
                  clear HC14
                  by_cases c15 : (wrap64 ((Int.tmod (wrap64 (Int.tdiv a0 1024)) 32) - 2)) < 0
                  · rw [if_pos c15] at H
                    have c15b0 : decide ((wrap64 ((Int.tmod (wrap64 (Int.tdiv a0 1024)) 32) - 2)) < 0) = true := decide_eq_true c15
                    clear c15
                    (first | rw [c15b0] | (simp only [i64_w, i32_w]; rw [c15b0]) | skip)
                    by_cases c16 : t140 ≥ 0
                    · rw [if_pos c16] at H
                      have c16b0 : decide (0 ≤ t140) = true := decide_eq_true c16
                      clear c16
                      have H' := Aside0.mk H
                      clear H
                      go_wp2
                      go_meet
                      case rel => exact ⟨_, ((t141 == 0)), (by first | rfl | (simp; done) | (simp [*]; done)), H', ⟨by have := HJ4.out; have := HJ10.out; first | omega | exact Nat.le_refl _⟩, ⟨by repeat (first | (with_reducible first | exact HB.out | apply below_alloc | apply pw_below_drewN | apply below_drew1) | exact HB.out)⟩⟩
                    · rw [if_neg c16] at H
                      have c16b0 : decide (0 ≤ t140) = false := decide_eq_false c16
                      clear c16
                      have H' := Aside0.mk H
                      clear H
                      go_wp2
                      go_meet
                      case rel => exact ⟨_, (false), (by first | rfl | (simp; done) | (simp [*]; done)), H', ⟨by have := HJ4.out; have := HJ10.out; first | omega | exact Nat.le_refl _⟩, ⟨by repeat (first | (with_reducible first | exact HB.out | apply below_alloc | apply pw_below_drewN | apply below_drew1) | exact HB.out)⟩⟩
                  · rw [if_neg c15] at H
                    have c15b0 : decide ((wrap64 ((Int.tmod (wrap64 (Int.tdiv a0 1024)) 32) - 2)) < 0) = false := decide_eq_false c15
                    clear c15
                    (first | rw [c15b0] | (simp only [i64_w, i32_w]; rw [c15b0]) | skip)
                    have H' := Aside0.mk H
                    clear H
                    go_wp2
                    go_meet
                    case rel => exact ⟨_, (false), (by first | rfl | (simp; done) | (simp [*]; done)), H', ⟨by have := HJ4.out; have := HJ10.out; first | omega | exact Nat.le_refl _⟩, ⟨by repeat (first | (with_reducible first | exact HB.out | apply below_alloc | apply pw_below_drewN | apply below_drew1) | exact HB.out)⟩⟩
                case rest =>
                  clear HC14
                  try clear c1
                  try clear c2
                  try clear c2b0
                  try clear p2
                  try clear p3
                  try clear p6
                  try clear c7
                  try clear c7b0
                  try clear c8
                  try clear c8b0
                  try clear c9
                  try clear c9b0
                  try clear c9b1
                  try clear c10
                  try clear c12
                  try clear c12b0
                  try clear c13
                  try clear c15
                  try clear c15b0
                  try clear c16
                  try clear c16b0
                  try clear p2
                  try clear p6
                  obtain ⟨kq, x57_13, rfl, HA, HJ13, HB⟩ := hcut
                  cases kq with
                  | zero => exact absurd HA.out (by simp [diacriticref06_Sign.j2])
                  | succ kj13 =>
                    have H := HA.out
                    clear HA
                    simp only [diacriticref06_Sign.j2] at H
                    by_cases c17 : x57_13 = true
                    · subst c17
                      have H1 : (some (wrap32 (wrap64 (12623 + t140)))) = some r := by rw [if_pos rfl] at H; exact H
                      clear H
                      have H := H1
                      clear H1
                      obtain rfl := Option.some.inj H
                      go_wp2
                      go_ret
                      exact ⟨by first | rfl | (simp [errW_none, errW_some] <;> rfl) | (simp [*, errW_none, errW_some] <;> rfl), by repeat (first | (with_reducible first | exact HB.out | apply below_alloc | apply pw_below_drewN | apply below_drew1) | exact HB.out)⟩
                    · replace c17 := Bool.eq_false_iff.mpr c17
                      subst c17
                      have H1 : (if (wrap64 ((Int.tmod (wrap64 (Int.tdiv a0 1024)) 32) - 2)) ≥ 0 then (if t140 < 0 then (diacriticref06_Sign.j3 kj13 (wrap64 ((Int.tmod (wrap64 (Int.tdiv a0 1024)) 32) - 2)) t140 t141 (t141 == 0)) else (diacriticref06_Sign.j3 kj13 (wrap64 ((Int.tmod (wrap64 (Int.tdiv a0 1024)) 32) - 2)) t140 t141 false)) else (diacriticref06_Sign.j3 kj13 (wrap64 ((Int.tmod (wrap64 (Int.tdiv a0 1024)) 32) - 2)) t140 t141 false)) = some r := by rw [if_neg (show ¬ (false = true) by decide)] at H; exact H
                      clear H
                      have H := H1
                      clear H1
                      have HC18 := Aside0.mk H
                      clear H
                      go_upto_region 12 with (fail)
                      go_cut [70] (fun v70 wc => ∃ (kq : Nat) (x70_17 : Bool), v70 = .bool x70_17 ∧ Aside0 (diacriticref06_Sign.j3 kq (wrap64 ((Int.tmod (wrap64 (Int.tdiv a0 1024)) 32) - 2)) t140 t141 x70_17 = some r) ∧ Aside0 (kq ≤ kj13) ∧ Aside0 (Below w.heap.size w wc))
                      case first =>
                        have H := HC18.out
                        clear HC18
                        by_cases c19 : (wrap64 ((Int.tmod (wrap64 (Int.tdiv a0 1024)) 32) - 2)) ≥ 0
                        · rw [if_pos c19] at H
                          have c19b0 : decide (0 ≤ (wrap64 ((Int.tmod (wrap64 (Int.tdiv a0 1024)) 32) - 2))) = true := decide_eq_true c19
                          clear c19
                          (first | rw [c19b0] | (simp only [i64_w, i32_w]; rw [c19b0]) | skip)
                          by_cases c20 : t140 < 0
                          · rw [if_pos c20] at H
                            have c20b0 : decide (t140 < 0) = true := decide_eq_true c20
                            clear c20
                            have H' := Aside0.mk H
                            clear H
                            go_wp2
                            go_meet
                            case rel => exact ⟨_, ((t141 == 0)), (by first | rfl | (simp; done) | (simp [*]; done)), H', ⟨by have := HJ4.out; have := HJ10.out; have := HJ13.out; first | omega | exact Nat.le_refl _⟩, ⟨by repeat (first | (with_reducible first | exact HB.out | apply below_alloc | apply pw_below_drewN | apply below_drew1) | exact HB.out)⟩⟩
                          · rw [if_neg c20] at H
                            have c20b0 : decide (t140 < 0) = false := decide_eq_false c20
                            clear c20
                            have H' := Aside0.mk H
                            clear H
                            go_wp2
                            go_meet
                            case rel => exact ⟨_, (false), (by first | rfl | (simp; done) | (simp [*]; done)), H', ⟨by have := HJ4.out; have := HJ10.out; have := HJ13.out; first | omega | exact Nat.le_refl _⟩, ⟨by repeat (first | (with_reducible first | exact HB.out | apply below_alloc | apply pw_below_drewN | apply below_drew1) | exact HB.out)⟩⟩
                        · rw [if_neg c19] at H
                          have c19b0 : decide (0 ≤ (wrap64 ((Int.tmod (wrap64 (Int.tdiv a0 1024)) 32) - 2))) = false := decide_eq_false c19
                          clear c19
                          (first | rw [c19b0] | (simp only [i64_w, i32_w]; rw [c19b0]) | skip)
                          have H' := Aside0.mk H
                          clear H
                          go_wp2
                          go_meet
                          case rel => exact ⟨_, (false), (by first | rfl | (simp; done) | (simp [*]; done)), H', ⟨by have := HJ4.out; have := HJ10.out; have := HJ13.out; first | omega | exact Nat.le_refl _⟩, ⟨by repeat (first | (with_reducible first | exact HB.out | apply below_alloc | apply pw_below_drewN | apply below_drew1) | exact HB.out)⟩⟩
                      case rest =>
                        clear HC18
                        try clear c1
                        try clear c2
                        try clear c2b0
                        try clear p2
                        try clear p3
                        try clear p6
                        try clear c7
                        try clear c7b0
                        try clear c8
                        try clear c8b0
                        try clear c9
                        try clear c9b0
                        try clear c9b1
                        try clear c10
                        try clear c12
                        try clear c12b0
                        try clear c13
                        try clear c15
                        try clear c15b0
                        try clear c16
                        try clear c16b0
                        try clear c17
                        try clear c18
                        try clear c19
                        try clear c19b0
                        try clear c20
                        try clear c20b0
                        try clear p2
                        try clear p3
                        try clear p6
                        obtain ⟨kq, x70_17, rfl, HA, HJ17, HB⟩ := hcut
                        cases kq with
                        | zero => exact absurd HA.out (by simp [diacriticref06_Sign.j3])
                        | succ kj17 =>
                          have H := HA.out
                          clear HA
                          simp only [diacriticref06_Sign.j3] at H
                          by_cases c21 : x70_17 = true
                          · subst c21
                            have H1 : ((diacriticref06_Alone.f kj17 (wrap64 ((Int.tmod (wrap64 (Int.tdiv a0 1024)) 32) - 2))).bind fun t142 => (some t142)) = some r := by rw [if_pos rfl] at H; exact H
                            clear H
                            have H := H1
                            clear H1
                            replace H := Option.bind_eq_some_iff.mp H
                            obtain ⟨t142, A220, H⟩ := H
                            replace H : (some t142) = some r := H
                            have A22 := Aside0.mk A220
                            clear A220
                            obtain rfl := Option.some.inj H
                            go_wp2_with (first | ((with_reducible refine gate_callee (f := 19) rfl ?_); refine goesL_ (some 72) rfl rfl Try.func19 (by kernel_rfl) rfl #[.int .i64 (wrap64 ((Int.tmod (wrap64 (Int.tdiv a0 1024)) 32) - 2))] rfl (by (try simp only [List.map_toArray, List.map_cons, List.map_nil]); first | done | rfl | (simp only [List.length_drop, List.length_take]; rfl)) ?_; (with_reducible refine (diacriticref06_Alone.calls kj17 (wrap64 ((Int.tmod (wrap64 (Int.tdiv a0 1024)) 32) - 2)) t142 _ A22.out).mono ?_); rintro e w23 ⟨rfl, hb⟩; refine ⟨_, rfl, ?_⟩; have n0_ := Aside0.mk (below_step (by repeat (first | (with_reducible first | exact HB.out | apply below_alloc | apply pw_below_drewN | apply below_drew1) | exact HB.out)) hb); clear HB; have HB := n0_; clear n0_; (try clear hb); (try clear hb2); (try clear hk); (try clear hi)))
                            go_ret
                            exact ⟨by first | rfl | (simp [errW_none, errW_some] <;> rfl) | (simp [*, errW_none, errW_some] <;> rfl), by repeat (first | (with_reducible first | exact HB.out | apply below_alloc | apply pw_below_drewN | apply below_drew1) | exact HB.out)⟩
                          · replace c21 := Bool.eq_false_iff.mpr c21
                            subst c21
                            have H1 : (if (wrap64 ((Int.tmod (wrap64 (Int.tdiv a0 1024)) 32) - 2)) < 0 then (if t140 < 0 then (if t141 > 0 then ((diacriticref06_Alone.f kj17 (wrap64 (100 + t141))).bind fun t143 => (some t143)) else (some 0)) else (some 0)) else (some 0)) = some r := by rw [if_neg (show ¬ (false = true) by decide)] at H; exact H
                            clear H
                            have H := H1
                            clear H1
                            by_cases c24 : (wrap64 ((Int.tmod (wrap64 (Int.tdiv a0 1024)) 32) - 2)) < 0
                            · rw [if_pos c24] at H
                              have c24b0 : decide ((wrap64 ((Int.tmod (wrap64 (Int.tdiv a0 1024)) 32) - 2)) < 0) = true := decide_eq_true c24
                              clear c24
                              by_cases c25 : t140 < 0
                              · rw [if_pos c25] at H
                                have c25b0 : decide (t140 < 0) = true := decide_eq_true c25
                                clear c25
                                by_cases c26 : t141 > 0
                                · rw [if_pos c26] at H
                                  have c26b0 : decide (0 < t141) = true := decide_eq_true c26
                                  clear c26
                                  replace H := Option.bind_eq_some_iff.mp H
                                  obtain ⟨t143, A270, H⟩ := H
                                  replace H : (some t143) = some r := H
                                  have A27 := Aside0.mk A270
                                  clear A270
                                  obtain rfl := Option.some.inj H
                                  go_wp2_with (first | ((with_reducible refine gate_callee (f := 19) rfl ?_); refine goesL_ (some 85) rfl rfl Try.func19 (by kernel_rfl) rfl #[.int .i64 (wrap64 (100 + t141))] rfl (by (try simp only [List.map_toArray, List.map_cons, List.map_nil]); first | done | rfl | (simp only [List.length_drop, List.length_take]; rfl)) ?_; (with_reducible refine (diacriticref06_Alone.calls kj17 (wrap64 (100 + t141)) t143 _ A27.out).mono ?_); rintro e w28 ⟨rfl, hb⟩; refine ⟨_, rfl, ?_⟩; have n0_ := Aside0.mk (below_step (by repeat (first | (with_reducible first | exact HB.out | apply below_alloc | apply pw_below_drewN | apply below_drew1) | exact HB.out)) hb); clear HB; have HB := n0_; clear n0_; (try clear hb); (try clear hb2); (try clear hk); (try clear hi)))
                                  go_ret
                                  exact ⟨by first | rfl | (simp [errW_none, errW_some] <;> rfl) | (simp [*, errW_none, errW_some] <;> rfl), by repeat (first | (with_reducible first | exact HB.out | apply below_alloc | apply pw_below_drewN | apply below_drew1) | exact HB.out)⟩
                                · rw [if_neg c26] at H
                                  have c26b0 : decide (0 < t141) = false := decide_eq_false c26
                                  clear c26
                                  obtain rfl := Option.some.inj H
                                  go_wp2
                                  go_ret
                                  exact ⟨by first | rfl | (simp [errW_none, errW_some] <;> rfl) | (simp [*, errW_none, errW_some] <;> rfl), by repeat (first | (with_reducible first | exact HB.out | apply below_alloc | apply pw_below_drewN | apply below_drew1) | exact HB.out)⟩
                              · rw [if_neg c25] at H
                                have c25b0 : decide (t140 < 0) = false := decide_eq_false c25
                                clear c25
                                obtain rfl := Option.some.inj H
                                go_wp2
                                go_ret
                                exact ⟨by first | rfl | (simp [errW_none, errW_some] <;> rfl) | (simp [*, errW_none, errW_some] <;> rfl), by repeat (first | (with_reducible first | exact HB.out | apply below_alloc | apply pw_below_drewN | apply below_drew1) | exact HB.out)⟩
                            · rw [if_neg c24] at H
                              have c24b0 : decide ((wrap64 ((Int.tmod (wrap64 (Int.tdiv a0 1024)) 32) - 2)) < 0) = false := decide_eq_false c24
                              clear c24
                              obtain rfl := Option.some.inj H
                              go_wp2
                              go_ret
                              exact ⟨by first | rfl | (simp [errW_none, errW_some] <;> rfl) | (simp [*, errW_none, errW_some] <;> rfl), by repeat (first | (with_reducible first | exact HB.out | apply below_alloc | apply pw_below_drewN | apply below_drew1) | exact HB.out)⟩

/-! ### diacriticref06_Code: function 11 -/
mutual
def diacriticref06_Code.j0 : Nat → Int → Bool → Option (Int)
  | 0, _, _ => none
  | k + 1, x0, x17 => if x17 = true then (some (-1)) else (diacriticref06_Code.l0 k x0 32768)
def diacriticref06_Code.l0 : Nat → Int → Int → Option (Int)
  | 0, _, _ => none
  | k + 1, x0, x3 => if x3 < 65536 then ((diacriticref06_Sign.f k x3).bind fun t144 => (if t144 = x0 then (some x3) else (diacriticref06_Code.l0 k x0 (wrap64 (x3 + 1))))) else (some (-1))
end
def diacriticref06_Code.f (k : Nat) (a0 : Int) : Option (Int) := if a0 < 12593 then (diacriticref06_Code.j0 k a0 true) else (if a0 > 55203 then (diacriticref06_Code.j0 k a0 true) else (if a0 > 12643 then (diacriticref06_Code.j0 k a0 (decide (a0 < 44032))) else (diacriticref06_Code.j0 k a0 false)))
theorem diacriticref06_Code.mono_l : ∀ k, (∀ y0 y1, LeO (diacriticref06_Code.j0 k y0 y1) (diacriticref06_Code.j0 (k + 1) y0 y1)) ∧ (∀ y0 y1, LeO (diacriticref06_Code.l0 k y0 y1) (diacriticref06_Code.l0 (k + 1) y0 y1))
  | 0 => ⟨fun _ _ r h => by simp [diacriticref06_Code.j0] at h, fun _ _ r h => by simp [diacriticref06_Code.l0] at h⟩
  | k + 1 => by
    obtain ⟨ih0, ih1⟩ := diacriticref06_Code.mono_l k
    refine ⟨?_, ?_⟩
    · intro y0 y1
      unfold diacriticref06_Code.j0
      repeat' first
      | (with_reducible exact ih0 _ _)
      | (with_reducible exact ih1 _ _)
      | (with_reducible exact diacriticref06_Sign.mono _ _)
      | (with_reducible exact LeO.refl _)
      | (with_reducible exact LeO.none _)
      | (with_reducible refine LeO.ite ?_ ?_)
      | (with_reducible refine LeO.bind ?_ (fun _ => ?_))
      | exact ih0 _ _
      | exact ih1 _ _
      | exact diacriticref06_Sign.mono _ _
      | exact LeO.none _
      | refine LeO.ite ?_ ?_
      | refine LeO.bind ?_ (fun _ => ?_)
    · intro y0 y1
      unfold diacriticref06_Code.l0
      repeat' first
      | (with_reducible exact ih0 _ _)
      | (with_reducible exact ih1 _ _)
      | (with_reducible exact diacriticref06_Sign.mono _ _)
      | (with_reducible exact LeO.refl _)
      | (with_reducible exact LeO.none _)
      | (with_reducible refine LeO.ite ?_ ?_)
      | (with_reducible refine LeO.bind ?_ (fun _ => ?_))
      | exact ih0 _ _
      | exact ih1 _ _
      | exact diacriticref06_Sign.mono _ _
      | exact LeO.none _
      | refine LeO.ite ?_ ?_
      | refine LeO.bind ?_ (fun _ => ?_)
theorem diacriticref06_Code.mono : ∀ a0 k, LeO (diacriticref06_Code.f k a0) (diacriticref06_Code.f (k + 1) a0) := by
  intro a0 k
  obtain ⟨ih0, ih1⟩ := diacriticref06_Code.mono_l k
  unfold diacriticref06_Code.f
  repeat' first
      | (with_reducible exact ih0 _ _)
      | (with_reducible exact ih1 _ _)
      | (with_reducible exact diacriticref06_Sign.mono _ _)
      | (with_reducible exact LeO.refl _)
      | (with_reducible exact LeO.none _)
      | (with_reducible refine LeO.ite ?_ ?_)
      | (with_reducible refine LeO.bind ?_ (fun _ => ?_))
      | exact ih0 _ _
      | exact ih1 _ _
      | exact diacriticref06_Sign.mono _ _
      | exact LeO.none _
      | refine LeO.ite ?_ ?_
      | refine LeO.bind ?_ (fun _ => ?_)
set_option maxHeartbeats 8000000 in
set_option maxRecDepth 100000 in
theorem diacriticref06_Code.calls (k : Nat) (a0 : Int) (r : Int) (w : World) (h : diacriticref06_Code.f k a0 = some r) :
    Calls Try.prog 11 #[.int .i32 a0] w fun e w' => e = .returned (.int .i64 r) ∧ Below w.heap.size w w' := by
  have HB := Aside0.mk (Below.refl w.heap.size w)
  have H : (if a0 < 12593 then (diacriticref06_Code.j0 k a0 true) else (if a0 > 55203 then (diacriticref06_Code.j0 k a0 true) else (if a0 > 12643 then (diacriticref06_Code.j0 k a0 (decide (a0 < 44032))) else (diacriticref06_Code.j0 k a0 false)))) = some r := h
  clear h
  have HC2 := Aside0.mk H
  clear H
  go_enter Try.func11, Try.ntmps11
  go_upto_region 1 with (fail)
  go_cut [17] (fun v17 wc => ∃ (kq : Nat) (x17_1 : Bool), v17 = .bool x17_1 ∧ Aside0 (diacriticref06_Code.j0 kq a0 x17_1 = some r) ∧ Aside0 (kq ≤ k) ∧ Aside0 (Below w.heap.size w wc))
  case first =>
    have H := HC2.out
    clear HC2
    by_cases c3 : a0 < 12593
    · rw [if_pos c3] at H
      have c3b0 : decide (a0 < 12593) = true := decide_eq_true c3
      clear c3
      (first | rw [c3b0] | (simp only [i64_w, i32_w]; rw [c3b0]) | skip)
      have H' := Aside0.mk H
      clear H
      go_wp2
      go_meet
      case rel => exact ⟨_, (true), (by first | rfl | (simp; done) | (simp [*]; done)), H', ⟨by first | omega | exact Nat.le_refl _⟩, ⟨by repeat (first | (with_reducible first | exact HB.out | apply below_alloc | apply pw_below_drewN | apply below_drew1) | exact HB.out)⟩⟩
    · rw [if_neg c3] at H
      have c3b0 : decide (a0 < 12593) = false := decide_eq_false c3
      clear c3
      (first | rw [c3b0] | (simp only [i64_w, i32_w]; rw [c3b0]) | skip)
      by_cases c4 : a0 > 55203
      · rw [if_pos c4] at H
        have c4b0 : decide (55203 < a0) = true := decide_eq_true c4
        clear c4
        have H' := Aside0.mk H
        clear H
        go_wp2
        go_meet
        case rel => exact ⟨_, (true), (by first | rfl | (simp; done) | (simp [*]; done)), H', ⟨by first | omega | exact Nat.le_refl _⟩, ⟨by repeat (first | (with_reducible first | exact HB.out | apply below_alloc | apply pw_below_drewN | apply below_drew1) | exact HB.out)⟩⟩
      · rw [if_neg c4] at H
        have c4b0 : decide (55203 < a0) = false := decide_eq_false c4
        clear c4
        by_cases c5 : a0 > 12643
        · rw [if_pos c5] at H
          have c5b0 : decide (12643 < a0) = true := decide_eq_true c5
          clear c5
          have H' := Aside0.mk H
          clear H
          go_wp2
          go_meet
          case rel => exact ⟨_, (decide (a0 < 44032)), (by first | rfl | (simp; done) | (simp [*]; done)), H', ⟨by first | omega | exact Nat.le_refl _⟩, ⟨by repeat (first | (with_reducible first | exact HB.out | apply below_alloc | apply pw_below_drewN | apply below_drew1) | exact HB.out)⟩⟩
        · rw [if_neg c5] at H
          have c5b0 : decide (12643 < a0) = false := decide_eq_false c5
          clear c5
          have H' := Aside0.mk H
          clear H
          go_wp2
          go_meet
          case rel => exact ⟨_, (false), (by first | rfl | (simp; done) | (simp [*]; done)), H', ⟨by first | omega | exact Nat.le_refl _⟩, ⟨by repeat (first | (with_reducible first | exact HB.out | apply below_alloc | apply pw_below_drewN | apply below_drew1) | exact HB.out)⟩⟩
  case rest =>
    clear HC2
    try clear c1
    try clear p2
    try clear c3
    try clear c3b0
    try clear c4
    try clear c4b0
    try clear c5
    try clear c5b0
    obtain ⟨kq, x17_1, rfl, HA, HJ1, HB⟩ := hcut
    cases kq with
    | zero => exact absurd HA.out (by simp [diacriticref06_Code.j0])
    | succ kj1 =>
      have H := HA.out
      clear HA
      simp only [diacriticref06_Code.j0] at H
      by_cases c6 : x17_1 = true
      · subst c6
        have H1 : (some (-1)) = some r := by rw [if_pos rfl] at H; exact H
        clear H
        have H := H1
        clear H1
        obtain rfl := Option.some.inj H
        go_wp2
        go_ret
        exact ⟨by first | rfl | (simp [errW_none, errW_some] <;> rfl) | (simp [*, errW_none, errW_some] <;> rfl), by repeat (first | (with_reducible first | exact HB.out | apply below_alloc | apply pw_below_drewN | apply below_drew1) | exact HB.out)⟩
      · replace c6 := Bool.eq_false_iff.mpr c6
        subst c6
        have H1 : (diacriticref06_Code.l0 kj1 a0 32768) = some r := by rw [if_neg (show ¬ (false = true) by decide)] at H; exact H
        clear H
        have H := H1
        clear H1
        have H' := Aside0.mk H
        clear H
        go_wp2
        go_loopg [3] kj1 (fun kq v3 w' => ∃ (x3_2 : Int), v3 = .int .i64 x3_2 ∧ Aside0 (diacriticref06_Code.l0 kq a0 x3_2 = some r) ∧ Aside0 (kq ≤ kj1) ∧ Aside0 (Below w.heap.size w w'))
        case atStart => exact ⟨(32768), (by first | rfl | (simp; done) | (simp [*]; done)), H', ⟨Nat.le_refl _⟩, ⟨by repeat (first | (with_reducible first | exact HB.out | apply below_alloc | apply pw_below_drewN | apply below_drew1) | exact HB.out)⟩⟩
        case round =>
          clear H'
          try clear c1
          try clear p2
          try clear c3
          try clear c3b0
          try clear c4
          try clear c4b0
          try clear c5
          try clear c5b0
          try clear c6
          try clear p2
          obtain ⟨x3_2, rfl, HA, HK2, HB⟩ := hrel
          cases gk with
          | zero => exact absurd HA.out (by simp [diacriticref06_Code.l0])
          | succ k2 =>
            have H := HA.out
            clear HA
            simp only [diacriticref06_Code.l0] at H
            by_cases c7 : x3_2 < 65536
            · rw [if_pos c7] at H
              have c7b0 : decide (x3_2 < 65536) = true := decide_eq_true c7
              clear c7
              replace H := Option.bind_eq_some_iff.mp H
              obtain ⟨t144, A80, H⟩ := H
              replace H : (if t144 = a0 then (some x3_2) else (diacriticref06_Code.l0 k2 a0 (wrap64 (x3_2 + 1)))) = some r := H
              have A8 := Aside0.mk A80
              clear A80
              by_cases c9 : t144 = a0
              · rw [if_pos c9] at H
                have c9b0 : (t144 == a0) = true := beq_iff_eq.mpr c9
                have c9b1 : (t144 != a0) = false := bne_eq_false_iff_eq.mpr c9
                clear c9
                obtain rfl := Option.some.inj H
                go_wp2_with (first | ((with_reducible refine gate_callee (f := 8) rfl ?_); refine goesL_ (some 23) rfl rfl Try.func8 (by kernel_rfl) rfl #[.int .i64 x3_2] rfl (by (try simp only [List.map_toArray, List.map_cons, List.map_nil]); first | done | rfl | (simp only [List.length_drop, List.length_take]; rfl)) ?_; (with_reducible refine (diacriticref06_Sign.calls k2 x3_2 t144 _ A8.out).mono ?_); rintro e w10 ⟨rfl, hb⟩; refine ⟨_, rfl, ?_⟩; have n0_ := Aside0.mk (below_step (by repeat (first | (with_reducible first | exact HB.out | apply below_alloc | apply pw_below_drewN | apply below_drew1) | exact HB.out)) hb); clear HB; have HB := n0_; clear n0_; (try clear hb); (try clear hb2); (try clear hk); (try clear hi)))
                go_ret
                exact ⟨by first | rfl | (simp [errW_none, errW_some] <;> rfl) | (simp [*, errW_none, errW_some] <;> rfl), by repeat (first | (with_reducible first | exact HB.out | apply below_alloc | apply pw_below_drewN | apply below_drew1) | exact HB.out)⟩
              · rw [if_neg c9] at H
                have c9b0 : (t144 == a0) = false := beq_eq_false_iff_ne.mpr c9
                have c9b1 : (t144 != a0) = true := bne_iff_ne.mpr c9
                have H' := Aside0.mk H
                clear H
                go_wp2_with (first | ((with_reducible refine gate_callee (f := 8) rfl ?_); refine goesL_ (some 23) rfl rfl Try.func8 (by kernel_rfl) rfl #[.int .i64 x3_2] rfl (by (try simp only [List.map_toArray, List.map_cons, List.map_nil]); first | done | rfl | (simp only [List.length_drop, List.length_take]; rfl)) ?_; (with_reducible refine (diacriticref06_Sign.calls k2 x3_2 t144 _ A8.out).mono ?_); rintro e w11 ⟨rfl, hb⟩; refine ⟨_, rfl, ?_⟩; have n0_ := Aside0.mk (below_step (by repeat (first | (with_reducible first | exact HB.out | apply below_alloc | apply pw_below_drewN | apply below_drew1) | exact HB.out)) hb); clear HB; have HB := n0_; clear n0_; (try clear hb); (try clear hb2); (try clear hk); (try clear hi)))
                go_roundg k2
                case measure => have := HJ1.out; have := HK2.out; omega
                case rel => exact ⟨(wrap64 (x3_2 + 1)), (by first | rfl | (simp; done) | (simp [*]; done)), H', ⟨by have := HJ1.out; have := HK2.out; omega⟩, ⟨by repeat (first | (with_reducible first | exact HB.out | apply below_alloc | apply pw_below_drewN | apply below_drew1) | exact HB.out)⟩⟩
            · rw [if_neg c7] at H
              have c7b0 : decide (x3_2 < 65536) = false := decide_eq_false c7
              clear c7
              obtain rfl := Option.some.inj H
              go_wp2
              go_ret
              exact ⟨by first | rfl | (simp [errW_none, errW_some] <;> rfl) | (simp [*, errW_none, errW_some] <;> rfl), by repeat (first | (with_reducible first | exact HB.out | apply below_alloc | apply pw_below_drewN | apply below_drew1) | exact HB.out)⟩

end Go.Proofs.Ytjdcnpgemlhdfaa.PJohabBytes

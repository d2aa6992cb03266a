-- Laid by a program of this session (mkprint.py: the print with hand-written contracts beside).
import Derived.Test.YtjdcnpgemlhdfaaPJohabSignsx0
import Derived.Test.YtjdcnpgemlhdfaaPJohabSignsx2
import Derived.Test.YtjdcnpgemlhdfaaPJohabSignsx3
namespace Go.Proofs.Ytjdcnpgemlhdfaa.PJohabSigns
open Go.RowKit Go.Proofs.YtjdcnpgemlhdfaaW.PrintWords Go.Proofs.YtjdcnpgemlhdfaaW.PrintLast Go.Proofs.YtjdcnpgemlhdfaaW.PrintMore
attribute [local go_sem] max2_int min2_int max_two min_two max_three min_three max_four min_four   -- for this text's walks alone
set_option linter.unusedVariables false
set_option linter.unusedSimpArgs false

/-! ### johab_Bytes: function 10 -/
mutual
def johab_Bytes.j0 : Nat → Int → Bool → Option (ByteArray × Bool)
  | 0, _, _ => none
  | k + 1, x0, x6 => if x6 = true then ((johab_medialCode.f (Int.tmod (wrap64 (Int.tdiv (wrap64 (wrap32 (x0 - 44032))) 28)) 21)).bind fun t127 => ((johab_finalCode.f (Int.tmod (wrap64 (wrap32 (x0 - 44032))) 28)).bind fun t128 => ((johab_two.f k (wrap64 ((wrap64 (Int.tdiv (wrap64 (Int.tdiv (wrap64 (wrap32 (x0 - 44032))) 28)) 21)) + 2)) t127 t128).bind fun bt129 => (some (bt129.1, bt129.2))))) else (if x0 ≥ 12623 then (johab_Bytes.j1 k x0 (decide (x0 ≤ 12643))) else (johab_Bytes.j1 k x0 false))
def johab_Bytes.j1 : Nat → Int → Bool → Option (ByteArray × Bool)
  | 0, _, _ => none
  | k + 1, x0, x30 => if x30 = true then ((johab_medialCode.f (wrap64 (wrap32 (x0 - 12623)))).bind fun t131 => ((johab_two.f k 1 t131 1).bind fun bt132 => (some (bt132.1, bt132.2)))) else (if x0 ≥ 12593 then (johab_Bytes.j2 k x0 (decide (x0 < 12623))) else (johab_Bytes.j2 k x0 false))
def johab_Bytes.j2 : Nat → Int → Bool → Option (ByteArray × Bool)
  | 0, _, _ => none
  | k + 1, x0, x44 => if x44 = true then (if 0 ≤ (wrap32 (x0 - 12593)) then (if (wrap32 (x0 - 12593)) < 30 then (if (wrap64 (bt (⟨#[97, 98, 68, 99, 70, 71, 100, 101, 102, 74, 75, 76, 77, 78, 79, 80, 103, 104, 105, 83, 106, 107, 108, 109, 110, 111, 112, 113, 114, 115]⟩ : ByteArray) (wrap32 (x0 - 12593)))) ≥ 97 then ((johab_two.f k (wrap64 ((wrap64 ((wrap64 (bt (⟨#[97, 98, 68, 99, 70, 71, 100, 101, 102, 74, 75, 76, 77, 78, 79, 80, 103, 104, 105, 83, 106, 107, 108, 109, 110, 111, 112, 113, 114, 115]⟩ : ByteArray) (wrap32 (x0 - 12593)))) - 97)) + 2)) 2 1).bind fun bt134 => (some (bt134.1, bt134.2))) else ((johab_finalCode.f (wrap64 ((wrap64 (bt (⟨#[97, 98, 68, 99, 70, 71, 100, 101, 102, 74, 75, 76, 77, 78, 79, 80, 103, 104, 105, 83, 106, 107, 108, 109, 110, 111, 112, 113, 114, 115]⟩ : ByteArray) (wrap32 (x0 - 12593)))) - 65))).bind fun t136 => ((johab_two.f k 1 2 t136).bind fun bt137 => (some (bt137.1, bt137.2))))) else (none)) else (none)) else (some ((⟨#[]⟩ : ByteArray), false))
end
def johab_Bytes.f (k : Nat) (a0 : Int) : Option (ByteArray × Bool) := if a0 ≥ 44032 then (johab_Bytes.j0 k a0 (decide (a0 < 55204))) else (johab_Bytes.j0 k a0 false)
theorem johab_Bytes.mono_l : ∀ k, (∀ y0 y1, LeO (johab_Bytes.j0 k y0 y1) (johab_Bytes.j0 (k + 1) y0 y1)) ∧ (∀ y0 y1, LeO (johab_Bytes.j1 k y0 y1) (johab_Bytes.j1 (k + 1) y0 y1)) ∧ (∀ y0 y1, LeO (johab_Bytes.j2 k y0 y1) (johab_Bytes.j2 (k + 1) y0 y1))
  | 0 => ⟨fun _ _ r h => by simp [johab_Bytes.j0] at h, fun _ _ r h => by simp [johab_Bytes.j1] at h, fun _ _ r h => by simp [johab_Bytes.j2] at h⟩
  | k + 1 => by
    obtain ⟨ih0, ih1, ih2⟩ := johab_Bytes.mono_l k
    refine ⟨?_, ?_, ?_⟩
    · intro y0 y1
      unfold johab_Bytes.j0
      repeat' first
      | (with_reducible exact ih0 _ _)
      | (with_reducible exact ih1 _ _)
      | (with_reducible exact ih2 _ _)
      | (with_reducible exact johab_two.mono _ _ _ _)
      | (with_reducible exact LeO.refl _)
      | (with_reducible exact LeO.none _)
      | (with_reducible refine LeO.ite ?_ ?_)
      | (with_reducible refine LeO.bind ?_ (fun _ => ?_))
      | exact ih0 _ _
      | exact ih1 _ _
      | exact ih2 _ _
      | exact johab_two.mono _ _ _ _
      | exact LeO.none _
      | refine LeO.ite ?_ ?_
      | refine LeO.bind ?_ (fun _ => ?_)
    · intro y0 y1
      unfold johab_Bytes.j1
      repeat' first
      | (with_reducible exact ih0 _ _)
      | (with_reducible exact ih1 _ _)
      | (with_reducible exact ih2 _ _)
      | (with_reducible exact johab_two.mono _ _ _ _)
      | (with_reducible exact LeO.refl _)
      | (with_reducible exact LeO.none _)
      | (with_reducible refine LeO.ite ?_ ?_)
      | (with_reducible refine LeO.bind ?_ (fun _ => ?_))
      | exact ih0 _ _
      | exact ih1 _ _
      | exact ih2 _ _
      | exact johab_two.mono _ _ _ _
      | exact LeO.none _
      | refine LeO.ite ?_ ?_
      | refine LeO.bind ?_ (fun _ => ?_)
    · intro y0 y1
      unfold johab_Bytes.j2
      repeat' first
      | (with_reducible exact ih0 _ _)
      | (with_reducible exact ih1 _ _)
      | (with_reducible exact ih2 _ _)
      | (with_reducible exact johab_two.mono _ _ _ _)
      | (with_reducible exact LeO.refl _)
      | (with_reducible exact LeO.none _)
      | (with_reducible refine LeO.ite ?_ ?_)
      | (with_reducible refine LeO.bind ?_ (fun _ => ?_))
      | exact ih0 _ _
      | exact ih1 _ _
      | exact ih2 _ _
      | exact johab_two.mono _ _ _ _
      | exact LeO.none _
      | refine LeO.ite ?_ ?_
      | refine LeO.bind ?_ (fun _ => ?_)
theorem johab_Bytes.mono : ∀ a0 k, LeO (johab_Bytes.f k a0) (johab_Bytes.f (k + 1) a0) := by
  intro a0 k
  obtain ⟨ih0, ih1, ih2⟩ := johab_Bytes.mono_l k
  unfold johab_Bytes.f
  repeat' first
      | (with_reducible exact ih0 _ _)
      | (with_reducible exact ih1 _ _)
      | (with_reducible exact ih2 _ _)
      | (with_reducible exact johab_two.mono _ _ _ _)
      | (with_reducible exact LeO.refl _)
      | (with_reducible exact LeO.none _)
      | (with_reducible refine LeO.ite ?_ ?_)
      | (with_reducible refine LeO.bind ?_ (fun _ => ?_))
      | exact ih0 _ _
      | exact ih1 _ _
      | exact ih2 _ _
      | exact johab_two.mono _ _ _ _
      | exact LeO.none _
      | refine LeO.ite ?_ ?_
      | refine LeO.bind ?_ (fun _ => ?_)
set_option maxHeartbeats 8000000 in
set_option maxRecDepth 100000 in
theorem johab_Bytes.calls (k : Nat) (a0 : Int) (r1 : ByteArray) (r2 : Bool) (w : World) (h : johab_Bytes.f k a0 = some (r1, r2)) :
    Calls Try.prog 10 #[.int .i32 a0] w fun e w' => e = .returned (.tuple #[.string r1, .bool r2]) ∧ Below w.heap.size w w' := by
  have HB := Aside0.mk (Below.refl w.heap.size w)
  have H : (if a0 ≥ 44032 then (johab_Bytes.j0 k a0 (decide (a0 < 55204))) else (johab_Bytes.j0 k a0 false)) = some (r1, r2) := h
  clear h
  have HC2 := Aside0.mk H
  clear H
  go_enter Try.func10, Try.ntmps10
  go_upto_region 1 with (fail)
  go_cut [6] (fun v6 wc => ∃ (kq : Nat) (x6_1 : Bool), v6 = .bool x6_1 ∧ Aside0 (johab_Bytes.j0 kq a0 x6_1 = some (r1, r2)) ∧ Aside0 (kq ≤ k) ∧ Aside0 (Below w.heap.size w wc))
  case first =>
    have H := HC2.out
    clear HC2
    by_cases c3 : a0 ≥ 44032
    · rw [if_pos c3] at H
      have c3b0 : decide (44032 ≤ a0) = true := decide_eq_true c3
      clear c3
      (first | rw [c3b0] | (simp only [i64_w, i32_w]; rw [c3b0]) | skip)
      have H' := Aside0.mk H
      clear H
      go_wp2
      go_meet
      case rel => exact ⟨_, (decide (a0 < 55204)), (by first | rfl | (simp; done) | (simp [*]; done)), H', ⟨by first | omega | exact Nat.le_refl _⟩, ⟨by repeat (first | (with_reducible first | exact HB.out | apply below_alloc | apply pw_below_drewN | apply below_drew1) | exact HB.out)⟩⟩
    · rw [if_neg c3] at H
      have c3b0 : decide (44032 ≤ a0) = false := decide_eq_false c3
      clear c3
      (first | rw [c3b0] | (simp only [i64_w, i32_w]; rw [c3b0]) | skip)
      have H' := Aside0.mk H
      clear H
      go_wp2
      go_meet
      case rel => exact ⟨_, (false), (by first | rfl | (simp; done) | (simp [*]; done)), H', ⟨by first | omega | exact Nat.le_refl _⟩, ⟨by repeat (first | (with_reducible first | exact HB.out | apply below_alloc | apply pw_below_drewN | apply below_drew1) | exact HB.out)⟩⟩
  case rest =>
    clear HC2
    try clear c1
    try clear p2
    try clear c3
    try clear c3b0
    obtain ⟨kq, x6_1, rfl, HA, HJ1, HB⟩ := hcut
    cases kq with
    | zero => exact absurd HA.out (by simp [johab_Bytes.j0])
    | succ kj1 =>
      have H := HA.out
      clear HA
      simp only [johab_Bytes.j0] at H
      by_cases c4 : x6_1 = true
      · subst c4
        have H1 : ((johab_medialCode.f (Int.tmod (wrap64 (Int.tdiv (wrap64 (wrap32 (a0 - 44032))) 28)) 21)).bind fun t127 => ((johab_finalCode.f (Int.tmod (wrap64 (wrap32 (a0 - 44032))) 28)).bind fun t128 => ((johab_two.f kj1 (wrap64 ((wrap64 (Int.tdiv (wrap64 (Int.tdiv (wrap64 (wrap32 (a0 - 44032))) 28)) 21)) + 2)) t127 t128).bind fun bt129 => (some (bt129.1, bt129.2))))) = some (r1, r2) := by rw [if_pos rfl] at H; exact H
        clear H
        have H := H1
        clear H1
        replace H := Option.bind_eq_some_iff.mp H
        obtain ⟨t127, A50, H⟩ := H
        replace H : ((johab_finalCode.f (Int.tmod (wrap64 (wrap32 (a0 - 44032))) 28)).bind fun t128 => ((johab_two.f kj1 (wrap64 ((wrap64 (Int.tdiv (wrap64 (Int.tdiv (wrap64 (wrap32 (a0 - 44032))) 28)) 21)) + 2)) t127 t128).bind fun bt129 => (some (bt129.1, bt129.2)))) = some (r1, r2) := H
        have A5 := Aside0.mk A50
        clear A50
        replace H := Option.bind_eq_some_iff.mp H
        obtain ⟨t128, A60, H⟩ := H
        replace H : ((johab_two.f kj1 (wrap64 ((wrap64 (Int.tdiv (wrap64 (Int.tdiv (wrap64 (wrap32 (a0 - 44032))) 28)) 21)) + 2)) t127 t128).bind fun bt129 => (some (bt129.1, bt129.2))) = some (r1, r2) := H
        have A6 := Aside0.mk A60
        clear A60
        replace H := Option.bind_eq_some_iff.mp H
        obtain ⟨⟨t129, t130⟩, A70, H⟩ := H
        replace H : (some (t129, t130)) = some (r1, r2) := H
        have A7 := Aside0.mk A70
        clear A70
        simp only [Option.some.injEq, Prod.mk.injEq] at H
        obtain ⟨rfl, rfl⟩ := H
        go_wp2_with (first | ((with_reducible refine gate_callee (f := 22) rfl ?_); refine goesL_ (some 23) rfl rfl Try.func22 (by kernel_rfl) rfl #[.int .i64 (Int.tmod (wrap64 (Int.tdiv (wrap64 (wrap32 (a0 - 44032))) 28)) 21)] rfl (by (try simp only [List.map_toArray, List.map_cons, List.map_nil]); first | done | rfl | (simp only [List.length_drop, List.length_take]; rfl)) ?_; (with_reducible refine (johab_medialCode.calls (Int.tmod (wrap64 (Int.tdiv (wrap64 (wrap32 (a0 - 44032))) 28)) 21) t127 _ A5.out).mono ?_); rintro e w' ⟨rfl, ⟨nd, rfl⟩⟩; refine ⟨_, rfl, ?_⟩) | ((with_reducible refine gate_callee (f := 23) rfl ?_); refine goesL_ (some 26) rfl rfl Try.func23 (by kernel_rfl) rfl #[.int .i64 (Int.tmod (wrap64 (wrap32 (a0 - 44032))) 28)] rfl (by (try simp only [List.map_toArray, List.map_cons, List.map_nil]); first | done | rfl | (simp only [List.length_drop, List.length_take]; rfl)) ?_; (with_reducible refine (johab_finalCode.calls (Int.tmod (wrap64 (wrap32 (a0 - 44032))) 28) t128 _ A6.out).mono ?_); rintro e w' ⟨rfl, ⟨nd, rfl⟩⟩; refine ⟨_, rfl, ?_⟩) | ((with_reducible refine gate_callee (f := 21) rfl ?_); refine goesL_ (some 27) rfl rfl Try.func21 (by kernel_rfl) rfl #[.int .i64 (wrap64 ((wrap64 (Int.tdiv (wrap64 (Int.tdiv (wrap64 (wrap32 (a0 - 44032))) 28)) 21)) + 2)), .int .i64 t127, .int .i64 t128] rfl (by (try simp only [List.map_toArray, List.map_cons, List.map_nil]); first | done | rfl | (simp only [List.length_drop, List.length_take]; rfl)) ?_; (with_reducible refine (johab_two.calls kj1 (wrap64 ((wrap64 (Int.tdiv (wrap64 (Int.tdiv (wrap64 (wrap32 (a0 - 44032))) 28)) 21)) + 2)) t127 t128 t129 t130 _ A7.out).mono ?_); rintro e w8 ⟨rfl, hb⟩; refine ⟨_, rfl, ?_⟩; have n0_ := Aside0.mk (below_step (by repeat (first | (with_reducible first | exact HB.out | apply below_alloc | apply pw_below_drewN | apply below_drew1) | exact HB.out)) hb); clear HB; have HB := n0_; clear n0_; (try clear hb); (try clear hb2); (try clear hk); (try clear hi)))
        go_ret2
        exact ⟨by first | rfl | (simp [errW_none, errW_some] <;> rfl) | (simp [*, errW_none, errW_some] <;> rfl), by repeat (first | (with_reducible first | exact HB.out | apply below_alloc | apply pw_below_drewN | apply below_drew1) | exact HB.out)⟩
      · replace c4 := Bool.eq_false_iff.mpr c4
        subst c4
        have H1 : (if a0 ≥ 12623 then (johab_Bytes.j1 kj1 a0 (decide (a0 ≤ 12643))) else (johab_Bytes.j1 kj1 a0 false)) = some (r1, r2) := by rw [if_neg (show ¬ (false = true) by decide)] at H; exact H
        clear H
        have H := H1
        clear H1
        have HC9 := Aside0.mk H
        clear H
        go_upto_region 4 with (fail)
        go_cut [30] (fun v30 wc => ∃ (kq : Nat) (x30_8 : Bool), v30 = .bool x30_8 ∧ Aside0 (johab_Bytes.j1 kq a0 x30_8 = some (r1, r2)) ∧ Aside0 (kq ≤ kj1) ∧ Aside0 (Below w.heap.size w wc))
        case first =>
          have H := HC9.out
          clear HC9
          by_cases c10 : a0 ≥ 12623
          · rw [if_pos c10] at H
            have c10b0 : decide (12623 ≤ a0) = true := decide_eq_true c10
            clear c10
            (first | rw [c10b0] | (simp only [i64_w, i32_w]; rw [c10b0]) | skip)
            have H' := Aside0.mk H
            clear H
            go_wp2
            go_meet
            case rel => exact ⟨_, (decide (a0 ≤ 12643)), (by first | rfl | (simp; done) | (simp [*]; done)), H', ⟨by have := HJ1.out; first | omega | exact Nat.le_refl _⟩, ⟨by repeat (first | (with_reducible first | exact HB.out | apply below_alloc | apply pw_below_drewN | apply below_drew1) | exact HB.out)⟩⟩
          · rw [if_neg c10] at H
            have c10b0 : decide (12623 ≤ a0) = false := decide_eq_false c10
            clear c10
            (first | rw [c10b0] | (simp only [i64_w, i32_w]; rw [c10b0]) | skip)
            have H' := Aside0.mk H
            clear H
            go_wp2
            go_meet
            case rel => exact ⟨_, (false), (by first | rfl | (simp; done) | (simp [*]; done)), H', ⟨by have := HJ1.out; first | omega | exact Nat.le_refl _⟩, ⟨by repeat (first | (with_reducible first | exact HB.out | apply below_alloc | apply pw_below_drewN | apply below_drew1) | exact HB.out)⟩⟩
        case rest =>
          clear HC9
          try clear c1
          try clear c2
          try clear p2
          try clear c3
          try clear c3b0
          try clear p3
          try clear c4
          try clear p6
          try clear c10
          try clear c10b0
          try clear p2
          obtain ⟨kq, x30_8, rfl, HA, HJ8, HB⟩ := hcut
          cases kq with
          | zero => exact absurd HA.out (by simp [johab_Bytes.j1])
          | succ kj8 =>
            have H := HA.out
            clear HA
            simp only [johab_Bytes.j1] at H
            by_cases c11 : x30_8 = true
            · subst c11
              have H1 : ((johab_medialCode.f (wrap64 (wrap32 (a0 - 12623)))).bind fun t131 => ((johab_two.f kj8 1 t131 1).bind fun bt132 => (some (bt132.1, bt132.2)))) = some (r1, r2) := by rw [if_pos rfl] at H; exact H
              clear H
              have H := H1
              clear H1
              replace H := Option.bind_eq_some_iff.mp H
              obtain ⟨t131, A120, H⟩ := H
              replace H : ((johab_two.f kj8 1 t131 1).bind fun bt132 => (some (bt132.1, bt132.2))) = some (r1, r2) := H
              have A12 := Aside0.mk A120
              clear A120
              replace H := Option.bind_eq_some_iff.mp H
              obtain ⟨⟨t132, t133⟩, A130, H⟩ := H
              replace H : (some (t132, t133)) = some (r1, r2) := H
              have A13 := Aside0.mk A130
              clear A130
              simp only [Option.some.injEq, Prod.mk.injEq] at H
              obtain ⟨rfl, rfl⟩ := H
              go_wp2_with (first | ((with_reducible refine gate_callee (f := 22) rfl ?_); refine goesL_ (some 40) rfl rfl Try.func22 (by kernel_rfl) rfl #[.int .i64 (wrap64 (wrap32 (a0 - 12623)))] rfl (by (try simp only [List.map_toArray, List.map_cons, List.map_nil]); first | done | rfl | (simp only [List.length_drop, List.length_take]; rfl)) ?_; (with_reducible refine (johab_medialCode.calls (wrap64 (wrap32 (a0 - 12623))) t131 _ A12.out).mono ?_); rintro e w' ⟨rfl, ⟨nd, rfl⟩⟩; refine ⟨_, rfl, ?_⟩) | ((with_reducible refine gate_callee (f := 21) rfl ?_); refine goesL_ (some 41) rfl rfl Try.func21 (by kernel_rfl) rfl #[.int .i64 1, .int .i64 t131, .int .i64 1] rfl (by (try simp only [List.map_toArray, List.map_cons, List.map_nil]); first | done | rfl | (simp only [List.length_drop, List.length_take]; rfl)) ?_; (with_reducible refine (johab_two.calls kj8 1 t131 1 t132 t133 _ A13.out).mono ?_); rintro e w14 ⟨rfl, hb⟩; refine ⟨_, rfl, ?_⟩; have n0_ := Aside0.mk (below_step (by repeat (first | (with_reducible first | exact HB.out | apply below_alloc | apply pw_below_drewN | apply below_drew1) | exact HB.out)) hb); clear HB; have HB := n0_; clear n0_; (try clear hb); (try clear hb2); (try clear hk); (try clear hi)))
              go_ret2
              exact ⟨by first | rfl | (simp [errW_none, errW_some] <;> rfl) | (simp [*, errW_none, errW_some] <;> rfl), by repeat (first | (with_reducible first | exact HB.out | apply below_alloc | apply pw_below_drewN | apply below_drew1) | exact HB.out)⟩
            · replace c11 := Bool.eq_false_iff.mpr c11
              subst c11
              have H1 : (if a0 ≥ 12593 then (johab_Bytes.j2 kj8 a0 (decide (a0 < 12623))) else (johab_Bytes.j2 kj8 a0 false)) = some (r1, r2) := by rw [if_neg (show ¬ (false = true) by decide)] at H; exact H
              clear H
              have H := H1
              clear H1
              have HC15 := Aside0.mk H
              clear H
              go_upto_region 6 with (fail)
              go_cut [44] (fun v44 wc => ∃ (kq : Nat) (x44_14 : Bool), v44 = .bool x44_14 ∧ Aside0 (johab_Bytes.j2 kq a0 x44_14 = some (r1, r2)) ∧ Aside0 (kq ≤ kj8) ∧ Aside0 (Below w.heap.size w wc))
              case first =>
                have H := HC15.out
                clear HC15
                by_cases c16 : a0 ≥ 12593
                · rw [if_pos c16] at H
                  have c16b0 : decide (12593 ≤ a0) = true := decide_eq_true c16
                  clear c16
                  (first | rw [c16b0] | (simp only [i64_w, i32_w]; rw [c16b0]) | skip)
                  have H' := Aside0.mk H
                  clear H
                  go_wp2
                  go_meet
                  case rel => exact ⟨_, (decide (a0 < 12623)), (by first | rfl | (simp; done) | (simp [*]; done)), H', ⟨by have := HJ1.out; have := HJ8.out; first | omega | exact Nat.le_refl _⟩, ⟨by repeat (first | (with_reducible first | exact HB.out | apply below_alloc | apply pw_below_drewN | apply below_drew1) | exact HB.out)⟩⟩
                · rw [if_neg c16] at H
                  have c16b0 : decide (12593 ≤ a0) = false := decide_eq_false c16
                  clear c16
                  (first | rw [c16b0] | (simp only [i64_w, i32_w]; rw [c16b0]) | skip)
                  have H' := Aside0.mk H
                  clear H
                  go_wp2
                  go_meet
                  case rel => exact ⟨_, (false), (by first | rfl | (simp; done) | (simp [*]; done)), H', ⟨by have := HJ1.out; have := HJ8.out; first | omega | exact Nat.le_refl _⟩, ⟨by repeat (first | (with_reducible first | exact HB.out | apply below_alloc | apply pw_below_drewN | apply below_drew1) | exact HB.out)⟩⟩
              case rest =>
                clear HC15
                try clear c1
                try clear c2
                try clear p2
                try clear c3
                try clear c3b0
                try clear p3
                try clear c4
                try clear p6
                try clear c10
                try clear c10b0
                try clear c11
                try clear c16
                try clear c16b0
                try clear p2
                try clear p3
                try clear p6
                obtain ⟨kq, x44_14, rfl, HA, HJ14, HB⟩ := hcut
                cases kq with
                | zero => exact absurd HA.out (by simp [johab_Bytes.j2])
                | succ kj14 =>
                  have H := HA.out
                  clear HA
                  simp only [johab_Bytes.j2] at H
                  by_cases c17 : x44_14 = true
                  · subst c17
                    have H1 : (if 0 ≤ (wrap32 (a0 - 12593)) then (if (wrap32 (a0 - 12593)) < 30 then (if (wrap64 (bt (⟨#[97, 98, 68, 99, 70, 71, 100, 101, 102, 74, 75, 76, 77, 78, 79, 80, 103, 104, 105, 83, 106, 107, 108, 109, 110, 111, 112, 113, 114, 115]⟩ : ByteArray) (wrap32 (a0 - 12593)))) ≥ 97 then ((johab_two.f kj14 (wrap64 ((wrap64 ((wrap64 (bt (⟨#[97, 98, 68, 99, 70, 71, 100, 101, 102, 74, 75, 76, 77, 78, 79, 80, 103, 104, 105, 83, 106, 107, 108, 109, 110, 111, 112, 113, 114, 115]⟩ : ByteArray) (wrap32 (a0 - 12593)))) - 97)) + 2)) 2 1).bind fun bt134 => (some (bt134.1, bt134.2))) else ((johab_finalCode.f (wrap64 ((wrap64 (bt (⟨#[97, 98, 68, 99, 70, 71, 100, 101, 102, 74, 75, 76, 77, 78, 79, 80, 103, 104, 105, 83, 106, 107, 108, 109, 110, 111, 112, 113, 114, 115]⟩ : ByteArray) (wrap32 (a0 - 12593)))) - 65))).bind fun t136 => ((johab_two.f kj14 1 2 t136).bind fun bt137 => (some (bt137.1, bt137.2))))) else (none)) else (none)) = some (r1, r2) := by rw [if_pos rfl] at H; exact H
                    clear H
                    have H := H1
                    clear H1
                    obtain ⟨ji18, hji18⟩ : ∃ j_ : Int, (wrap32 (a0 - 12593)) = j_ := ⟨_, rfl⟩
                    replace H : (if 0 ≤ (ji18) then (if (ji18) < 30 then (if (wrap64 (bt (⟨#[97, 98, 68, 99, 70, 71, 100, 101, 102, 74, 75, 76, 77, 78, 79, 80, 103, 104, 105, 83, 106, 107, 108, 109, 110, 111, 112, 113, 114, 115]⟩ : ByteArray) (ji18))) ≥ 97 then ((johab_two.f kj14 (wrap64 ((wrap64 ((wrap64 (bt (⟨#[97, 98, 68, 99, 70, 71, 100, 101, 102, 74, 75, 76, 77, 78, 79, 80, 103, 104, 105, 83, 106, 107, 108, 109, 110, 111, 112, 113, 114, 115]⟩ : ByteArray) (ji18))) - 97)) + 2)) 2 1).bind fun bt134 => (some (bt134.1, bt134.2))) else ((johab_finalCode.f (wrap64 ((wrap64 (bt (⟨#[97, 98, 68, 99, 70, 71, 100, 101, 102, 74, 75, 76, 77, 78, 79, 80, 103, 104, 105, 83, 106, 107, 108, 109, 110, 111, 112, 113, 114, 115]⟩ : ByteArray) (ji18))) - 65))).bind fun t136 => ((johab_two.f kj14 1 2 t136).bind fun bt137 => (some (bt137.1, bt137.2))))) else (none)) else (none)) = some (r1, r2) := by first | (rw [hji18] at H; exact H) | (simp only [hji18] at H ⊢; exact H)
                    have hji18w : (IntKind.i32.wrap (a0 - 12593)) = ji18 := (i32_w _).trans hji18
                    by_cases c19 : 0 ≤ (ji18)
                    · rw [if_pos c19] at H
                      have c19b0 : decide (0 ≤ (ji18)) = true := decide_eq_true c19
                      clear c19
                      by_cases c20 : (ji18) < 30
                      · rw [if_pos c20] at H
                        have c20b0 : decide ((ji18) < 30) = true := decide_eq_true c20
                        clear c20
                        by_cases c22 : (wrap64 (bt (⟨#[97, 98, 68, 99, 70, 71, 100, 101, 102, 74, 75, 76, 77, 78, 79, 80, 103, 104, 105, 83, 106, 107, 108, 109, 110, 111, 112, 113, 114, 115]⟩ : ByteArray) (ji18))) ≥ 97
                        · rw [if_pos c22] at H
                          have c22b0 : decide (97 ≤ (wrap64 (bt (⟨#[97, 98, 68, 99, 70, 71, 100, 101, 102, 74, 75, 76, 77, 78, 79, 80, 103, 104, 105, 83, 106, 107, 108, 109, 110, 111, 112, 113, 114, 115]⟩ : ByteArray) (ji18)))) = true := decide_eq_true c22
                          clear c22
                          replace H := Option.bind_eq_some_iff.mp H
                          obtain ⟨⟨t134, t135⟩, A230, H⟩ := H
                          replace H : (some (t134, t135)) = some (r1, r2) := H
                          have A23 := Aside0.mk A230
                          clear A230
                          simp only [Option.some.injEq, Prod.mk.injEq] at H
                          obtain ⟨rfl, rfl⟩ := H
                          have p21 : 0 ≤ ((ji18) : Int) := of_decide_eq_true (by first | (with_reducible assumption) | assumption)
                          have q21 : (ji18) < (30 : Int) := of_decide_eq_true (by first | (with_reducible assumption) | assumption)
                          have hx21 := bt_at (⟨#[97, 98, 68, 99, 70, 71, 100, 101, 102, 74, 75, 76, 77, 78, 79, 80, 103, 104, 105, 83, 106, 107, 108, 109, 110, 111, 112, 113, 114, 115]⟩ : ByteArray) (ji18)
                          replace p21 := eq_true p21
                          replace q21 := eq_true q21
                          go_wp2_with (first | ((with_reducible refine gate_callee (f := 21) rfl ?_); refine goesL_ (some 60) rfl rfl Try.func21 (by kernel_rfl) rfl #[.int .i64 (wrap64 ((wrap64 ((wrap64 (bt (⟨#[97, 98, 68, 99, 70, 71, 100, 101, 102, 74, 75, 76, 77, 78, 79, 80, 103, 104, 105, 83, 106, 107, 108, 109, 110, 111, 112, 113, 114, 115]⟩ : ByteArray) (ji18))) - 97)) + 2)), .int .i64 2, .int .i64 1] rfl (by (try simp only [List.map_toArray, List.map_cons, List.map_nil]); first | done | (simp only [hji18]; rfl) | rfl | (simp only [List.length_drop, List.length_take]; rfl)) ?_; (with_reducible refine (johab_two.calls kj14 (wrap64 ((wrap64 ((wrap64 (bt (⟨#[97, 98, 68, 99, 70, 71, 100, 101, 102, 74, 75, 76, 77, 78, 79, 80, 103, 104, 105, 83, 106, 107, 108, 109, 110, 111, 112, 113, 114, 115]⟩ : ByteArray) (ji18))) - 97)) + 2)) 2 1 t134 t135 _ A23.out).mono ?_); rintro e w24 ⟨rfl, hb⟩; refine ⟨_, rfl, ?_⟩; have n0_ := Aside0.mk (below_step (by repeat (first | (with_reducible first | exact HB.out | apply below_alloc | apply pw_below_drewN | apply below_drew1) | exact HB.out)) hb); clear HB; have HB := n0_; clear n0_; (try clear hb); (try clear hb2); (try clear hk); (try clear hi)))
                          go_ret2
                          exact ⟨by first | rfl | (simp [errW_none, errW_some] <;> rfl) | (simp only [← hji18]; first | rfl | (simp [errW_none, errW_some] <;> rfl)) | (simp [*, errW_none, errW_some] <;> rfl), by repeat (first | (with_reducible first | exact HB.out | apply below_alloc | apply pw_below_drewN | apply below_drew1) | exact HB.out)⟩
                        · rw [if_neg c22] at H
                          have c22b0 : decide (97 ≤ (wrap64 (bt (⟨#[97, 98, 68, 99, 70, 71, 100, 101, 102, 74, 75, 76, 77, 78, 79, 80, 103, 104, 105, 83, 106, 107, 108, 109, 110, 111, 112, 113, 114, 115]⟩ : ByteArray) (ji18)))) = false := decide_eq_false c22
                          clear c22
                          replace H := Option.bind_eq_some_iff.mp H
                          obtain ⟨t136, A250, H⟩ := H
                          replace H : ((johab_two.f kj14 1 2 t136).bind fun bt137 => (some (bt137.1, bt137.2))) = some (r1, r2) := H
                          have A25 := Aside0.mk A250
                          clear A250
                          replace H := Option.bind_eq_some_iff.mp H
                          obtain ⟨⟨t137, t138⟩, A260, H⟩ := H
                          replace H : (some (t137, t138)) = some (r1, r2) := H
                          have A26 := Aside0.mk A260
                          clear A260
                          simp only [Option.some.injEq, Prod.mk.injEq] at H
                          obtain ⟨rfl, rfl⟩ := H
                          have p21 : 0 ≤ ((ji18) : Int) := of_decide_eq_true (by first | (with_reducible assumption) | assumption)
                          have q21 : (ji18) < (30 : Int) := of_decide_eq_true (by first | (with_reducible assumption) | assumption)
                          have hx21 := bt_at (⟨#[97, 98, 68, 99, 70, 71, 100, 101, 102, 74, 75, 76, 77, 78, 79, 80, 103, 104, 105, 83, 106, 107, 108, 109, 110, 111, 112, 113, 114, 115]⟩ : ByteArray) (ji18)
                          replace p21 := eq_true p21
                          replace q21 := eq_true q21
                          go_wp2_with (first | ((with_reducible refine gate_callee (f := 23) rfl ?_); refine goesL_ (some 65) rfl rfl Try.func23 (by kernel_rfl) rfl #[.int .i64 (wrap64 ((wrap64 (bt (⟨#[97, 98, 68, 99, 70, 71, 100, 101, 102, 74, 75, 76, 77, 78, 79, 80, 103, 104, 105, 83, 106, 107, 108, 109, 110, 111, 112, 113, 114, 115]⟩ : ByteArray) (ji18))) - 65))] rfl (by (try simp only [List.map_toArray, List.map_cons, List.map_nil]); first | done | (simp only [hji18]; rfl) | rfl | (simp only [List.length_drop, List.length_take]; rfl)) ?_; (with_reducible refine (johab_finalCode.calls (wrap64 ((wrap64 (bt (⟨#[97, 98, 68, 99, 70, 71, 100, 101, 102, 74, 75, 76, 77, 78, 79, 80, 103, 104, 105, 83, 106, 107, 108, 109, 110, 111, 112, 113, 114, 115]⟩ : ByteArray) (ji18))) - 65)) t136 _ A25.out).mono ?_); rintro e w' ⟨rfl, ⟨nd, rfl⟩⟩; refine ⟨_, rfl, ?_⟩) | ((with_reducible refine gate_callee (f := 21) rfl ?_); refine goesL_ (some 66) rfl rfl Try.func21 (by kernel_rfl) rfl #[.int .i64 1, .int .i64 2, .int .i64 t136] rfl (by (try simp only [List.map_toArray, List.map_cons, List.map_nil]); first | done | rfl | (simp only [List.length_drop, List.length_take]; rfl)) ?_; (with_reducible refine (johab_two.calls kj14 1 2 t136 t137 t138 _ A26.out).mono ?_); rintro e w27 ⟨rfl, hb⟩; refine ⟨_, rfl, ?_⟩; have n0_ := Aside0.mk (below_step (by repeat (first | (with_reducible first | exact HB.out | apply below_alloc | apply pw_below_drewN | apply below_drew1) | exact HB.out)) hb); clear HB; have HB := n0_; clear n0_; (try clear hb); (try clear hb2); (try clear hk); (try clear hi)))
                          go_ret2
                          exact ⟨by first | rfl | (simp [errW_none, errW_some] <;> rfl) | (simp only [← hji18]; first | rfl | (simp [errW_none, errW_some] <;> rfl)) | (simp [*, errW_none, errW_some] <;> rfl), by repeat (first | (with_reducible first | exact HB.out | apply below_alloc | apply pw_below_drewN | apply below_drew1) | exact HB.out)⟩
                      · rw [if_neg c20] at H
                        exact absurd H (by simp)
                    · rw [if_neg c19] at H
                      exact absurd H (by simp)
                  · replace c17 := Bool.eq_false_iff.mpr c17
                    subst c17
                    have H1 : (some ((⟨#[]⟩ : ByteArray), false)) = some (r1, r2) := by rw [if_neg (show ¬ (false = true) by decide)] at H; exact H
                    clear H
                    have H := H1
                    clear H1
                    simp only [Option.some.injEq, Prod.mk.injEq] at H
                    obtain ⟨rfl, rfl⟩ := H
                    go_wp2
                    go_ret2
                    exact ⟨by first | rfl | (simp [errW_none, errW_some] <;> rfl) | (simp [*, errW_none, errW_some] <;> rfl), by repeat (first | (with_reducible first | exact HB.out | apply below_alloc | apply pw_below_drewN | apply below_drew1) | exact HB.out)⟩

/-! ### diacriticlaw06_Awake: function 20 -/
def diacriticlaw06_Awake.f (k : Nat)  : Option (Bool) := (johab_Sign.f k 136 97).bind fun bt139 => ((johab_Bytes.f k 12595).bind fun bt141 => (if bt139.2 = true then (if bt139.1 = 44032 then (if bt141.2 = true then (some (bt141.1.toList == ([132, 68] : List UInt8))) else (some false)) else (some false)) else (some false)))
theorem diacriticlaw06_Awake.mono : ∀ k, LeO (diacriticlaw06_Awake.f k ) (diacriticlaw06_Awake.f (k + 1) ) := by
  intro  k
  unfold diacriticlaw06_Awake.f
  repeat' first
      | (with_reducible exact johab_Bytes.mono _ _)
      | (with_reducible exact johab_Sign.mono _ _ _)
      | (with_reducible exact LeO.refl _)
      | (with_reducible exact LeO.none _)
      | (with_reducible refine LeO.ite ?_ ?_)
      | (with_reducible refine LeO.bind ?_ (fun _ => ?_))
      | exact johab_Bytes.mono _ _
      | exact johab_Sign.mono _ _ _
      | exact LeO.none _
      | refine LeO.ite ?_ ?_
      | refine LeO.bind ?_ (fun _ => ?_)
set_option maxHeartbeats 8000000 in
set_option maxRecDepth 100000 in
theorem diacriticlaw06_Awake.calls (k : Nat)  (r : Bool) (w : World) (h : diacriticlaw06_Awake.f k  = some r) :
    Calls Try.prog 20 #[] w fun e w' => e = .returned (.bool r) ∧ Below w.heap.size w w' := by
  have HB := Aside0.mk (Below.refl w.heap.size w)
  have H : ((johab_Sign.f k 136 97).bind fun bt139 => ((johab_Bytes.f k 12595).bind fun bt141 => (if bt139.2 = true then (if bt139.1 = 44032 then (if bt141.2 = true then (some (bt141.1.toList == ([132, 68] : List UInt8))) else (some false)) else (some false)) else (some false)))) = some r := h
  clear h
  replace H := Option.bind_eq_some_iff.mp H
  obtain ⟨⟨t139, t140⟩, A10, H⟩ := H
  replace H : ((johab_Bytes.f k 12595).bind fun bt141 => (if t140 = true then (if t139 = 44032 then (if bt141.2 = true then (some (bt141.1.toList == ([132, 68] : List UInt8))) else (some false)) else (some false)) else (some false))) = some r := H
  have A1 := Aside0.mk A10
  clear A10
  replace H := Option.bind_eq_some_iff.mp H
  obtain ⟨⟨t141, t142⟩, A20, H⟩ := H
  replace H : (if t140 = true then (if t139 = 44032 then (if t142 = true then (some (t141.toList == ([132, 68] : List UInt8))) else (some false)) else (some false)) else (some false)) = some r := H
  have A2 := Aside0.mk A20
  clear A20
  by_cases c3 : t140 = true
  · subst c3
    have H1 : (if t139 = 44032 then (if t142 = true then (some (t141.toList == ([132, 68] : List UInt8))) else (some false)) else (some false)) = some r := by rw [if_pos rfl] at H; exact H
    clear H
    have H := H1
    clear H1
    by_cases c4 : t139 = 44032
    · rw [if_pos c4] at H
      have c4b0 : (t139 == 44032) = true := beq_iff_eq.mpr c4
      have c4b1 : (t139 != 44032) = false := bne_eq_false_iff_eq.mpr c4
      clear c4
      by_cases c5 : t142 = true
      · subst c5
        have H1 : (some (t141.toList == ([132, 68] : List UInt8))) = some r := by rw [if_pos rfl] at H; exact H
        clear H
        have H := H1
        clear H1
        obtain rfl := Option.some.inj H
        go_enter Try.func20, Try.ntmps20
        go_wp2_with (first | ((with_reducible refine gate_callee (f := 7) rfl ?_); refine goesL_ (some 6) rfl rfl Try.func7 (by kernel_rfl) rfl #[.int .u8 136, .int .u8 97] rfl (by (try simp only [List.map_toArray, List.map_cons, List.map_nil]); first | done | rfl | (simp only [List.length_drop, List.length_take]; rfl)) ?_; (with_reducible refine (johab_Sign.calls k 136 97 t139 true _ A1.out).mono ?_); rintro e w' ⟨rfl, ⟨nd, rfl⟩⟩; refine ⟨_, rfl, ?_⟩) | ((with_reducible refine gate_callee (f := 10) rfl ?_); refine goesL_ (some 10) rfl rfl Try.func10 (by kernel_rfl) rfl #[.int .i32 12595] rfl (by (try simp only [List.map_toArray, List.map_cons, List.map_nil]); first | done | rfl | (simp only [List.length_drop, List.length_take]; rfl)) ?_; (with_reducible refine (johab_Bytes.calls k 12595 t141 true _ A2.out).mono ?_); rintro e w6 ⟨rfl, hb⟩; refine ⟨_, rfl, ?_⟩; have n0_ := Aside0.mk (below_step (by repeat (first | (with_reducible first | exact HB.out | apply below_alloc | apply pw_below_drewN | apply below_drew1) | exact HB.out)) hb); clear HB; have HB := n0_; clear n0_; (try clear hb); (try clear hb2); (try clear hk); (try clear hi)))
        go_ret
        exact ⟨by first | rfl | (simp [errW_none, errW_some] <;> rfl) | (simp [*, errW_none, errW_some] <;> rfl), by repeat (first | (with_reducible first | exact HB.out | apply below_alloc | apply pw_below_drewN | apply below_drew1) | exact HB.out)⟩
      · replace c5 := Bool.eq_false_iff.mpr c5
        subst c5
        have H1 : (some false) = some r := by rw [if_neg (show ¬ (false = true) by decide)] at H; exact H
        clear H
        have H := H1
        clear H1
        obtain rfl := Option.some.inj H
        go_enter Try.func20, Try.ntmps20
        go_wp2_with (first | ((with_reducible refine gate_callee (f := 7) rfl ?_); refine goesL_ (some 6) rfl rfl Try.func7 (by kernel_rfl) rfl #[.int .u8 136, .int .u8 97] rfl (by (try simp only [List.map_toArray, List.map_cons, List.map_nil]); first | done | rfl | (simp only [List.length_drop, List.length_take]; rfl)) ?_; (with_reducible refine (johab_Sign.calls k 136 97 t139 true _ A1.out).mono ?_); rintro e w' ⟨rfl, ⟨nd, rfl⟩⟩; refine ⟨_, rfl, ?_⟩) | ((with_reducible refine gate_callee (f := 10) rfl ?_); refine goesL_ (some 10) rfl rfl Try.func10 (by kernel_rfl) rfl #[.int .i32 12595] rfl (by (try simp only [List.map_toArray, List.map_cons, List.map_nil]); first | done | rfl | (simp only [List.length_drop, List.length_take]; rfl)) ?_; (with_reducible refine (johab_Bytes.calls k 12595 t141 false _ A2.out).mono ?_); rintro e w7 ⟨rfl, hb⟩; refine ⟨_, rfl, ?_⟩; have n0_ := Aside0.mk (below_step (by repeat (first | (with_reducible first | exact HB.out | apply below_alloc | apply pw_below_drewN | apply below_drew1) | exact HB.out)) hb); clear HB; have HB := n0_; clear n0_; (try clear hb); (try clear hb2); (try clear hk); (try clear hi)))
        go_ret
        exact ⟨by first | rfl | (simp [errW_none, errW_some] <;> rfl) | (simp [*, errW_none, errW_some] <;> rfl), by repeat (first | (with_reducible first | exact HB.out | apply below_alloc | apply pw_below_drewN | apply below_drew1) | exact HB.out)⟩
    · rw [if_neg c4] at H
      have c4b0 : (t139 == 44032) = false := beq_eq_false_iff_ne.mpr c4
      have c4b1 : (t139 != 44032) = true := bne_iff_ne.mpr c4
      obtain rfl := Option.some.inj H
      go_enter Try.func20, Try.ntmps20
      go_wp2_with (first | ((with_reducible refine gate_callee (f := 7) rfl ?_); refine goesL_ (some 6) rfl rfl Try.func7 (by kernel_rfl) rfl #[.int .u8 136, .int .u8 97] rfl (by (try simp only [List.map_toArray, List.map_cons, List.map_nil]); first | done | rfl | (simp only [List.length_drop, List.length_take]; rfl)) ?_; (with_reducible refine (johab_Sign.calls k 136 97 t139 true _ A1.out).mono ?_); rintro e w' ⟨rfl, ⟨nd, rfl⟩⟩; refine ⟨_, rfl, ?_⟩) | ((with_reducible refine gate_callee (f := 10) rfl ?_); refine goesL_ (some 10) rfl rfl Try.func10 (by kernel_rfl) rfl #[.int .i32 12595] rfl (by (try simp only [List.map_toArray, List.map_cons, List.map_nil]); first | done | rfl | (simp only [List.length_drop, List.length_take]; rfl)) ?_; (with_reducible refine (johab_Bytes.calls k 12595 t141 t142 _ A2.out).mono ?_); rintro e w8 ⟨rfl, hb⟩; refine ⟨_, rfl, ?_⟩; have n0_ := Aside0.mk (below_step (by repeat (first | (with_reducible first | exact HB.out | apply below_alloc | apply pw_below_drewN | apply below_drew1) | exact HB.out)) hb); clear HB; have HB := n0_; clear n0_; (try clear hb); (try clear hb2); (try clear hk); (try clear hi)))
      go_ret
      exact ⟨by first | rfl | (simp [errW_none, errW_some] <;> rfl) | (simp [*, errW_none, errW_some] <;> rfl), by repeat (first | (with_reducible first | exact HB.out | apply below_alloc | apply pw_below_drewN | apply below_drew1) | exact HB.out)⟩
  · replace c3 := Bool.eq_false_iff.mpr c3
    subst c3
    have H1 : (some false) = some r := by rw [if_neg (show ¬ (false = true) by decide)] at H; exact H
    clear H
    have H := H1
    clear H1
    obtain rfl := Option.some.inj H
    go_enter Try.func20, Try.ntmps20
    go_wp2_with (first | ((with_reducible refine gate_callee (f := 7) rfl ?_); refine goesL_ (some 6) rfl rfl Try.func7 (by kernel_rfl) rfl #[.int .u8 136, .int .u8 97] rfl (by (try simp only [List.map_toArray, List.map_cons, List.map_nil]); first | done | rfl | (simp only [List.length_drop, List.length_take]; rfl)) ?_; (with_reducible refine (johab_Sign.calls k 136 97 t139 false _ A1.out).mono ?_); rintro e w' ⟨rfl, ⟨nd, rfl⟩⟩; refine ⟨_, rfl, ?_⟩) | ((with_reducible refine gate_callee (f := 10) rfl ?_); refine goesL_ (some 10) rfl rfl Try.func10 (by kernel_rfl) rfl #[.int .i32 12595] rfl (by (try simp only [List.map_toArray, List.map_cons, List.map_nil]); first | done | rfl | (simp only [List.length_drop, List.length_take]; rfl)) ?_; (with_reducible refine (johab_Bytes.calls k 12595 t141 t142 _ A2.out).mono ?_); rintro e w9 ⟨rfl, hb⟩; refine ⟨_, rfl, ?_⟩; have n0_ := Aside0.mk (below_step (by repeat (first | (with_reducible first | exact HB.out | apply below_alloc | apply pw_below_drewN | apply below_drew1) | exact HB.out)) hb); clear HB; have HB := n0_; clear n0_; (try clear hb); (try clear hb2); (try clear hk); (try clear hi)))
    go_ret
    exact ⟨by first | rfl | (simp [errW_none, errW_some] <;> rfl) | (simp [*, errW_none, errW_some] <;> rfl), by repeat (first | (with_reducible first | exact HB.out | apply below_alloc | apply pw_below_drewN | apply below_drew1) | exact HB.out)⟩

/-! ### diacriticlaw06_awake: function 9 -/
def diacriticlaw06_awake.f (k : Nat)  : Option (Bool) := (diacriticlaw06_Awake.f k).bind fun t143 => (some t143)
theorem diacriticlaw06_awake.mono : ∀ k, LeO (diacriticlaw06_awake.f k ) (diacriticlaw06_awake.f (k + 1) ) := by
  intro  k
  unfold diacriticlaw06_awake.f
  repeat' first
      | (with_reducible exact diacriticlaw06_Awake.mono _)
      | (with_reducible exact LeO.refl _)
      | (with_reducible exact LeO.none _)
      | (with_reducible refine LeO.ite ?_ ?_)
      | (with_reducible refine LeO.bind ?_ (fun _ => ?_))
      | exact diacriticlaw06_Awake.mono _
      | exact LeO.none _
      | refine LeO.ite ?_ ?_
      | refine LeO.bind ?_ (fun _ => ?_)
set_option maxHeartbeats 8000000 in
set_option maxRecDepth 100000 in
theorem diacriticlaw06_awake.calls (k : Nat)  (r : Bool) (w : World) (h : diacriticlaw06_awake.f k  = some r) :
    Calls Try.prog 9 #[] w fun e w' => e = .returned (.bool r) ∧ Below w.heap.size w w' := by
  have HB := Aside0.mk (Below.refl w.heap.size w)
  have H : ((diacriticlaw06_Awake.f k).bind fun t143 => (some t143)) = some r := h
  clear h
  replace H := Option.bind_eq_some_iff.mp H
  obtain ⟨t143, A10, H⟩ := H
  replace H : (some t143) = some r := H
  have A1 := Aside0.mk A10
  clear A10
  obtain rfl := Option.some.inj H
  go_enter Try.func9, Try.ntmps9
  go_wp2_with (first | ((with_reducible refine gate_callee (f := 20) rfl ?_); refine goesL_ (some 1) rfl rfl Try.func20 (by kernel_rfl) rfl #[] rfl (by (try simp only [List.map_toArray, List.map_cons, List.map_nil]); first | done | rfl | (simp only [List.length_drop, List.length_take]; rfl)) ?_; (with_reducible refine (diacriticlaw06_Awake.calls k  t143 _ A1.out).mono ?_); rintro e w2 ⟨rfl, hb⟩; refine ⟨_, rfl, ?_⟩; have n0_ := Aside0.mk (below_step (by repeat (first | (with_reducible first | exact HB.out | apply below_alloc | apply pw_below_drewN | apply below_drew1) | exact HB.out)) hb); clear HB; have HB := n0_; clear n0_; (try clear hb); (try clear hb2); (try clear hk); (try clear hi)))
  go_ret
  exact ⟨by first | rfl | (simp [errW_none, errW_some] <;> rfl) | (simp [*, errW_none, errW_some] <;> rfl), by repeat (first | (with_reducible first | exact HB.out | apply below_alloc | apply pw_below_drewN | apply below_drew1) | exact HB.out)⟩

/-! ### diacriticlaw06_JohabSigns: function 3 -/
def diacriticlaw06_JohabSigns.j0 : Nat → Int → Int → Int → Bool → Bool → Option (Bool)
  | 0, _, _, _, _, _ => none
  | k + 1, x0, x1, x5, x6, x31 => if x31 = true then (some false) else (if x6 = true then ((johab_Bytes.f k x5).bind fun bt147 => ((diacriticlaw06_awake.f k).bind fun t149 => (if t149 = true then (if bt147.2 = true then (if (bt147.1.size : Int) = 2 then (if 0 < (bt147.1.size : Int) then (if (bt bt147.1 0) = x0 then (if 1 < (bt147.1.size : Int) then (some ((bt bt147.1 1) == x1)) else (none)) else (some false)) else (none)) else (some false)) else (some false)) else (some false)))) else ((diacriticlaw06_awake.f k).bind fun t150 => (some t150)))
def diacriticlaw06_JohabSigns.f (k : Nat) (a0 : Int) (a1 : Int) : Option (Bool) := (johab_Sign.f k a0 a1).bind fun bt144 => ((diacriticref06_Sign.f k (wrap64 ((wrap64 ((wrap64 (a0)) * 256)) + (wrap64 (a1))))).bind fun t146 => (if (bt144.2 != (t146 != 0)) = true then (diacriticlaw06_JohabSigns.j0 k a0 a1 bt144.1 bt144.2 true) else (diacriticlaw06_JohabSigns.j0 k a0 a1 bt144.1 bt144.2 (bt144.1 != t146))))
theorem diacriticlaw06_JohabSigns.mono_l : ∀ k, (∀ y0 y1 y2 y3 y4, LeO (diacriticlaw06_JohabSigns.j0 k y0 y1 y2 y3 y4) (diacriticlaw06_JohabSigns.j0 (k + 1) y0 y1 y2 y3 y4))
  | 0 => fun _ _ _ _ _ r h => by simp [diacriticlaw06_JohabSigns.j0] at h
  | k + 1 => by
    have ih0 := diacriticlaw06_JohabSigns.mono_l k
    · intro y0 y1 y2 y3 y4
      unfold diacriticlaw06_JohabSigns.j0
      repeat' first
      | (with_reducible exact ih0 _ _ _ _ _)
      | (with_reducible exact diacriticlaw06_awake.mono _)
      | (with_reducible exact diacriticref06_Sign.mono _ _)
      | (with_reducible exact johab_Bytes.mono _ _)
      | (with_reducible exact johab_Sign.mono _ _ _)
      | (with_reducible exact LeO.refl _)
      | (with_reducible exact LeO.none _)
      | (with_reducible refine LeO.ite ?_ ?_)
      | (with_reducible refine LeO.bind ?_ (fun _ => ?_))
      | exact ih0 _ _ _ _ _
      | exact diacriticlaw06_awake.mono _
      | exact diacriticref06_Sign.mono _ _
      | exact johab_Bytes.mono _ _
      | exact johab_Sign.mono _ _ _
      | exact LeO.none _
      | refine LeO.ite ?_ ?_
      | refine LeO.bind ?_ (fun _ => ?_)
theorem diacriticlaw06_JohabSigns.mono : ∀ a0 a1 k, LeO (diacriticlaw06_JohabSigns.f k a0 a1) (diacriticlaw06_JohabSigns.f (k + 1) a0 a1) := by
  intro a0 a1 k
  have ih0 := diacriticlaw06_JohabSigns.mono_l k
  unfold diacriticlaw06_JohabSigns.f
  repeat' first
      | (with_reducible exact ih0 _ _ _ _ _)
      | (with_reducible exact diacriticlaw06_awake.mono _)
      | (with_reducible exact diacriticref06_Sign.mono _ _)
      | (with_reducible exact johab_Bytes.mono _ _)
      | (with_reducible exact johab_Sign.mono _ _ _)
      | (with_reducible exact LeO.refl _)
      | (with_reducible exact LeO.none _)
      | (with_reducible refine LeO.ite ?_ ?_)
      | (with_reducible refine LeO.bind ?_ (fun _ => ?_))
      | exact ih0 _ _ _ _ _
      | exact diacriticlaw06_awake.mono _
      | exact diacriticref06_Sign.mono _ _
      | exact johab_Bytes.mono _ _
      | exact johab_Sign.mono _ _ _
      | exact LeO.none _
      | refine LeO.ite ?_ ?_
      | refine LeO.bind ?_ (fun _ => ?_)
set_option maxHeartbeats 8000000 in
set_option maxRecDepth 100000 in
theorem diacriticlaw06_JohabSigns.calls (k : Nat) (a0 : Int) (a1 : Int) (r : Bool) (w : World) (h : diacriticlaw06_JohabSigns.f k a0 a1 = some r) :
    Calls Try.prog 3 #[.int .u8 a0, .int .u8 a1] w fun e w' => e = .returned (.bool r) ∧ Below w.heap.size w w' := by
  have HB := Aside0.mk (Below.refl w.heap.size w)
  have H : ((johab_Sign.f k a0 a1).bind fun bt144 => ((diacriticref06_Sign.f k (wrap64 ((wrap64 ((wrap64 (a0)) * 256)) + (wrap64 (a1))))).bind fun t146 => (if (bt144.2 != (t146 != 0)) = true then (diacriticlaw06_JohabSigns.j0 k a0 a1 bt144.1 bt144.2 true) else (diacriticlaw06_JohabSigns.j0 k a0 a1 bt144.1 bt144.2 (bt144.1 != t146))))) = some r := h
  clear h
  replace H := Option.bind_eq_some_iff.mp H
  obtain ⟨⟨t144, t145⟩, A30, H⟩ := H
  replace H : ((diacriticref06_Sign.f k (wrap64 ((wrap64 ((wrap64 (a0)) * 256)) + (wrap64 (a1))))).bind fun t146 => (if (t145 != (t146 != 0)) = true then (diacriticlaw06_JohabSigns.j0 k a0 a1 t144 t145 true) else (diacriticlaw06_JohabSigns.j0 k a0 a1 t144 t145 (t144 != t146)))) = some r := H
  have A3 := Aside0.mk A30
  clear A30
  replace H := Option.bind_eq_some_iff.mp H
  obtain ⟨t146, A40, H⟩ := H
  replace H : (if (t145 != (t146 != 0)) = true then (diacriticlaw06_JohabSigns.j0 k a0 a1 t144 t145 true) else (diacriticlaw06_JohabSigns.j0 k a0 a1 t144 t145 (t144 != t146))) = some r := H
  have A4 := Aside0.mk A40
  clear A40
  have HC5 := Aside0.mk H
  clear H
  go_enter Try.func3, Try.ntmps3
  go_upto_region 3 with (first | ((with_reducible refine gate_callee (f := 7) rfl ?_); refine goesL_ (some 13) rfl rfl Try.func7 (by kernel_rfl) rfl #[.int .u8 a0, .int .u8 a1] rfl (by (try simp only [List.map_toArray, List.map_cons, List.map_nil]); first | done | rfl | (simp only [List.length_drop, List.length_take]; rfl)) ?_; (with_reducible refine (johab_Sign.calls k a0 a1 t144 t145 _ A3.out).mono ?_); rintro e w' ⟨rfl, ⟨nd, rfl⟩⟩; refine ⟨_, rfl, ?_⟩) | ((with_reducible refine gate_callee (f := 8) rfl ?_); refine goesL_ (some 22) rfl rfl Try.func8 (by kernel_rfl) rfl #[.int .i64 (wrap64 ((wrap64 ((wrap64 (a0)) * 256)) + (wrap64 (a1))))] rfl (by (try simp only [List.map_toArray, List.map_cons, List.map_nil]); first | done | rfl | (simp only [List.length_drop, List.length_take]; rfl)) ?_; (with_reducible refine (diacriticref06_Sign.calls k (wrap64 ((wrap64 ((wrap64 (a0)) * 256)) + (wrap64 (a1)))) t146 _ A4.out).mono ?_); rintro e w6 ⟨rfl, hb⟩; refine ⟨_, rfl, ?_⟩; have n0_ := Aside0.mk (below_step (by repeat (first | (with_reducible first | exact HB.out | apply below_alloc | apply pw_below_drewN | apply below_drew1) | exact HB.out)) hb); clear HB; have HB := n0_; clear n0_; (try clear hb); (try clear hb2); (try clear hk); (try clear hi)))
  (try simp only [Act.put, List.setIfInBounds_toArray, List.set_cons_zero, List.set_cons_succ])
  go_cut [31] (fun v31 wc => ∃ (kq : Nat) (x31_4 : Bool), v31 = .bool x31_4 ∧ Aside0 (diacriticlaw06_JohabSigns.j0 kq a0 a1 t144 t145 x31_4 = some r) ∧ Aside0 (kq ≤ k) ∧ Aside0 (Below w.heap.size w wc))
  case first =>
    have H := HC5.out
    clear HC5
    by_cases c7 : (t145 != (t146 != 0)) = true
    · rw [if_pos c7] at H
      have c7b0 : (t145 != (t146 != 0)) = true := c7
      (try (have c7b1 : decide (t145 = (t146 != 0)) = false := by simpa using c7))
      (try (have c7b2 : (t145 == (t146 != 0)) = false := by simpa using c7))
      (try (have c7b3 : ¬ (t145 = (t146 != 0)) := by simpa using c7))
      clear c7
      (first | rw [c7b0] | (simp only [i64_w, i32_w]; rw [c7b0]) | skip)
      have H' := Aside0.mk H
      clear H
      go_wp2
      go_meet
      case rel => exact ⟨_, (true), (by first | rfl | (simp; done) | (simp [*]; done)), H', ⟨by first | omega | exact Nat.le_refl _⟩, ⟨by repeat (first | (with_reducible first | exact HB.out | apply below_alloc | apply pw_below_drewN | apply below_drew1) | exact HB.out)⟩⟩
    · rw [if_neg c7] at H
      have c7b0 : (t145 != (t146 != 0)) = false := by simpa using c7
      (try (have c7b1 : decide (t145 = (t146 != 0)) = true := by simpa using c7))
      (try (have c7b2 : (t145 == (t146 != 0)) = true := by simpa using c7))
      clear c7
      (first | rw [c7b0] | (simp only [i64_w, i32_w]; rw [c7b0]) | skip)
      have H' := Aside0.mk H
      clear H
      go_wp2
      go_meet
      case rel => exact ⟨_, ((t144 != t146)), (by first | rfl | (simp; done) | (simp [*]; done)), H', ⟨by first | omega | exact Nat.le_refl _⟩, ⟨by repeat (first | (with_reducible first | exact HB.out | apply below_alloc | apply pw_below_drewN | apply below_drew1) | exact HB.out)⟩⟩
  case rest =>
    clear HC5
    try clear p2
    try clear c3
    try clear p6
    try clear c7
    try clear c7b0
    try clear c7b1
    try clear c7b2
    obtain ⟨kq, x31_4, rfl, HA, HJ4, HB⟩ := hcut
    cases kq with
    | zero => exact absurd HA.out (by simp [diacriticlaw06_JohabSigns.j0])
    | succ kj4 =>
      have H := HA.out
      clear HA
      simp only [diacriticlaw06_JohabSigns.j0] at H
      by_cases c8 : x31_4 = true
      · subst c8
        have H1 : (some false) = some r := by rw [if_pos rfl] at H; exact H
        clear H
        have H := H1
        clear H1
        obtain rfl := Option.some.inj H
        go_wp2
        go_ret
        exact ⟨by first | rfl | (simp [errW_none, errW_some] <;> rfl) | (simp [*, errW_none, errW_some] <;> rfl), by repeat (first | (with_reducible first | exact HB.out | apply below_alloc | apply pw_below_drewN | apply below_drew1) | exact HB.out)⟩
      · replace c8 := Bool.eq_false_iff.mpr c8
        subst c8
        have H1 : (if t145 = true then ((johab_Bytes.f kj4 t144).bind fun bt147 => ((diacriticlaw06_awake.f kj4).bind fun t149 => (if t149 = true then (if bt147.2 = true then (if (bt147.1.size : Int) = 2 then (if 0 < (bt147.1.size : Int) then (if (bt bt147.1 0) = a0 then (if 1 < (bt147.1.size : Int) then (some ((bt bt147.1 1) == a1)) else (none)) else (some false)) else (none)) else (some false)) else (some false)) else (some false)))) else ((diacriticlaw06_awake.f kj4).bind fun t150 => (some t150))) = some r := by rw [if_neg (show ¬ (false = true) by decide)] at H; exact H
        clear H
        have H := H1
        clear H1
        by_cases c9 : t145 = true
        · subst c9
          have H1 : ((johab_Bytes.f kj4 t144).bind fun bt147 => ((diacriticlaw06_awake.f kj4).bind fun t149 => (if t149 = true then (if bt147.2 = true then (if (bt147.1.size : Int) = 2 then (if 0 < (bt147.1.size : Int) then (if (bt bt147.1 0) = a0 then (if 1 < (bt147.1.size : Int) then (some ((bt bt147.1 1) == a1)) else (none)) else (some false)) else (none)) else (some false)) else (some false)) else (some false)))) = some r := by rw [if_pos rfl] at H; exact H
          clear H
          have H := H1
          clear H1
          replace H := Option.bind_eq_some_iff.mp H
          obtain ⟨⟨t147, t148⟩, A100, H⟩ := H
          replace H : ((diacriticlaw06_awake.f kj4).bind fun t149 => (if t149 = true then (if t148 = true then (if (t147.size : Int) = 2 then (if 0 < (t147.size : Int) then (if (bt t147 0) = a0 then (if 1 < (t147.size : Int) then (some ((bt t147 1) == a1)) else (none)) else (some false)) else (none)) else (some false)) else (some false)) else (some false))) = some r := H
          have A10 := Aside0.mk A100
          clear A100
          replace H := Option.bind_eq_some_iff.mp H
          obtain ⟨t149, A110, H⟩ := H
          replace H : (if t149 = true then (if t148 = true then (if (t147.size : Int) = 2 then (if 0 < (t147.size : Int) then (if (bt t147 0) = a0 then (if 1 < (t147.size : Int) then (some ((bt t147 1) == a1)) else (none)) else (some false)) else (none)) else (some false)) else (some false)) else (some false)) = some r := H
          have A11 := Aside0.mk A110
          clear A110
          by_cases c12 : t149 = true
          · subst c12
            have H1 : (if t148 = true then (if (t147.size : Int) = 2 then (if 0 < (t147.size : Int) then (if (bt t147 0) = a0 then (if 1 < (t147.size : Int) then (some ((bt t147 1) == a1)) else (none)) else (some false)) else (none)) else (some false)) else (some false)) = some r := by rw [if_pos rfl] at H; exact H
            clear H
            have H := H1
            clear H1
            by_cases c13 : t148 = true
            · subst c13
              have H1 : (if (t147.size : Int) = 2 then (if 0 < (t147.size : Int) then (if (bt t147 0) = a0 then (if 1 < (t147.size : Int) then (some ((bt t147 1) == a1)) else (none)) else (some false)) else (none)) else (some false)) = some r := by rw [if_pos rfl] at H; exact H
              clear H
              have H := H1
              clear H1
              by_cases c14 : (t147.size : Int) = 2
              · rw [if_pos c14] at H
                have c14b0 : ((t147.size : Int) == 2) = true := beq_iff_eq.mpr c14
                have c14b1 : ((t147.size : Int) != 2) = false := bne_eq_false_iff_eq.mpr c14
                clear c14
                by_cases c15 : 0 < (t147.size : Int)
                · rw [if_pos c15] at H
                  have c15b0 : decide (0 < (t147.size : Int)) = true := decide_eq_true c15
                  have c15b1 : decide (0 < t147.size) = true := decide_eq_true (by omega)
                  clear c15
                  by_cases c17 : (bt t147 0) = a0
                  · rw [if_pos c17] at H
                    have c17b0 : ((bt t147 0) == a0) = true := beq_iff_eq.mpr c17
                    have c17b1 : ((bt t147 0) != a0) = false := bne_eq_false_iff_eq.mpr c17
                    clear c17
                    by_cases c18 : 1 < (t147.size : Int)
                    · rw [if_pos c18] at H
                      have c18b0 : decide (1 < (t147.size : Int)) = true := decide_eq_true c18
                      have c18b1 : decide (1 < t147.size) = true := decide_eq_true (by omega)
                      clear c18
                      obtain rfl := Option.some.inj H
                      go_wp2_with (first | ((with_reducible refine gate_callee (f := 10) rfl ?_); refine goesL_ (some 37) rfl rfl Try.func10 (by kernel_rfl) rfl #[.int .i32 t144] rfl (by (try simp only [List.map_toArray, List.map_cons, List.map_nil]); first | done | rfl | (simp only [List.length_drop, List.length_take]; rfl)) ?_; (with_reducible refine (johab_Bytes.calls kj4 t144 t147 true _ A10.out).mono ?_); rintro e w20 ⟨rfl, hb⟩; refine ⟨_, rfl, ?_⟩; have n0_ := Aside0.mk (below_step (by repeat (first | (with_reducible first | exact HB.out | apply below_alloc | apply pw_below_drewN | apply below_drew1) | exact HB.out)) hb); clear HB; have HB := n0_; clear n0_; (try clear hb); (try clear hb2); (try clear hk); (try clear hi)) | ((with_reducible refine gate_callee (f := 9) rfl ?_); refine goesL_ (some 40) rfl rfl Try.func9 (by kernel_rfl) rfl #[] rfl (by (try simp only [List.map_toArray, List.map_cons, List.map_nil]); first | done | rfl | (simp only [List.length_drop, List.length_take]; rfl)) ?_; (with_reducible refine (diacriticlaw06_awake.calls kj4  true _ A11.out).mono ?_); rintro e w21 ⟨rfl, hb⟩; refine ⟨_, rfl, ?_⟩; have n0_ := Aside0.mk (below_step (by repeat (first | (with_reducible first | exact HB.out | apply below_alloc | apply pw_below_drewN | apply below_drew1) | exact HB.out)) hb); clear HB; have HB := n0_; clear n0_; (try clear hb); (try clear hb2); (try clear hk); (try clear hi); have p16 : 0 ≤ (0 : Int) := (by omega); have q16 : 0 < t147.size := (by have : (0 : Int) < (t147.size : Int) := of_decide_eq_true (by first | (with_reducible assumption) | assumption); omega); have hx16 : ∀ h : 0 < t147.size, ((t147[0]'h).toNat : Int) = bt t147 0 := bt_at t147 0; clear p16; have qi16 : (0 < (t147.size : Int)) = True := eq_true (of_decide_eq_true (by first | (with_reducible assumption) | assumption)); replace q16 := eq_true q16; have p19 : 0 ≤ (1 : Int) := (by omega); have q19 : 1 < t147.size := (by have : (1 : Int) < (t147.size : Int) := of_decide_eq_true (by first | (with_reducible assumption) | assumption); omega); have hx19 : ∀ h : 1 < t147.size, ((t147[1]'h).toNat : Int) = bt t147 1 := bt_at t147 1; clear p19; have qi19 : (1 < (t147.size : Int)) = True := eq_true (of_decide_eq_true (by first | (with_reducible assumption) | assumption)); replace q19 := eq_true q19))
                      go_ret
                      exact ⟨by first | rfl | (simp [errW_none, errW_some] <;> rfl) | (simp [*, errW_none, errW_some] <;> rfl), by repeat (first | (with_reducible first | exact HB.out | apply below_alloc | apply pw_below_drewN | apply below_drew1) | exact HB.out)⟩
                    · rw [if_neg c18] at H
                      exact absurd H (by simp)
                  · rw [if_neg c17] at H
                    have c17b0 : ((bt t147 0) == a0) = false := beq_eq_false_iff_ne.mpr c17
                    have c17b1 : ((bt t147 0) != a0) = true := bne_iff_ne.mpr c17
                    obtain rfl := Option.some.inj H
                    go_wp2_with (first | ((with_reducible refine gate_callee (f := 10) rfl ?_); refine goesL_ (some 37) rfl rfl Try.func10 (by kernel_rfl) rfl #[.int .i32 t144] rfl (by (try simp only [List.map_toArray, List.map_cons, List.map_nil]); first | done | rfl | (simp only [List.length_drop, List.length_take]; rfl)) ?_; (with_reducible refine (johab_Bytes.calls kj4 t144 t147 true _ A10.out).mono ?_); rintro e w22 ⟨rfl, hb⟩; refine ⟨_, rfl, ?_⟩; have n0_ := Aside0.mk (below_step (by repeat (first | (with_reducible first | exact HB.out | apply below_alloc | apply pw_below_drewN | apply below_drew1) | exact HB.out)) hb); clear HB; have HB := n0_; clear n0_; (try clear hb); (try clear hb2); (try clear hk); (try clear hi)) | ((with_reducible refine gate_callee (f := 9) rfl ?_); refine goesL_ (some 40) rfl rfl Try.func9 (by kernel_rfl) rfl #[] rfl (by (try simp only [List.map_toArray, List.map_cons, List.map_nil]); first | done | rfl | (simp only [List.length_drop, List.length_take]; rfl)) ?_; (with_reducible refine (diacriticlaw06_awake.calls kj4  true _ A11.out).mono ?_); rintro e w23 ⟨rfl, hb⟩; refine ⟨_, rfl, ?_⟩; have n0_ := Aside0.mk (below_step (by repeat (first | (with_reducible first | exact HB.out | apply below_alloc | apply pw_below_drewN | apply below_drew1) | exact HB.out)) hb); clear HB; have HB := n0_; clear n0_; (try clear hb); (try clear hb2); (try clear hk); (try clear hi); have p16 : 0 ≤ (0 : Int) := (by omega); have q16 : 0 < t147.size := (by have : (0 : Int) < (t147.size : Int) := of_decide_eq_true (by first | (with_reducible assumption) | assumption); omega); have hx16 : ∀ h : 0 < t147.size, ((t147[0]'h).toNat : Int) = bt t147 0 := bt_at t147 0; clear p16; have qi16 : (0 < (t147.size : Int)) = True := eq_true (of_decide_eq_true (by first | (with_reducible assumption) | assumption)); replace q16 := eq_true q16))
                    go_ret
                    exact ⟨by first | rfl | (simp [errW_none, errW_some] <;> rfl) | (simp [*, errW_none, errW_some] <;> rfl), by repeat (first | (with_reducible first | exact HB.out | apply below_alloc | apply pw_below_drewN | apply below_drew1) | exact HB.out)⟩
                · rw [if_neg c15] at H
                  exact absurd H (by simp)
              · rw [if_neg c14] at H
                have c14b0 : ((t147.size : Int) == 2) = false := beq_eq_false_iff_ne.mpr c14
                have c14b1 : ((t147.size : Int) != 2) = true := bne_iff_ne.mpr c14
                obtain rfl := Option.some.inj H
                go_wp2_with (first | ((with_reducible refine gate_callee (f := 10) rfl ?_); refine goesL_ (some 37) rfl rfl Try.func10 (by kernel_rfl) rfl #[.int .i32 t144] rfl (by (try simp only [List.map_toArray, List.map_cons, List.map_nil]); first | done | rfl | (simp only [List.length_drop, List.length_take]; rfl)) ?_; (with_reducible refine (johab_Bytes.calls kj4 t144 t147 true _ A10.out).mono ?_); rintro e w24 ⟨rfl, hb⟩; refine ⟨_, rfl, ?_⟩; have n0_ := Aside0.mk (below_step (by repeat (first | (with_reducible first | exact HB.out | apply below_alloc | apply pw_below_drewN | apply below_drew1) | exact HB.out)) hb); clear HB; have HB := n0_; clear n0_; (try clear hb); (try clear hb2); (try clear hk); (try clear hi)) | ((with_reducible refine gate_callee (f := 9) rfl ?_); refine goesL_ (some 40) rfl rfl Try.func9 (by kernel_rfl) rfl #[] rfl (by (try simp only [List.map_toArray, List.map_cons, List.map_nil]); first | done | rfl | (simp only [List.length_drop, List.length_take]; rfl)) ?_; (with_reducible refine (diacriticlaw06_awake.calls kj4  true _ A11.out).mono ?_); rintro e w25 ⟨rfl, hb⟩; refine ⟨_, rfl, ?_⟩; have n0_ := Aside0.mk (below_step (by repeat (first | (with_reducible first | exact HB.out | apply below_alloc | apply pw_below_drewN | apply below_drew1) | exact HB.out)) hb); clear HB; have HB := n0_; clear n0_; (try clear hb); (try clear hb2); (try clear hk); (try clear hi)))
                go_ret
                exact ⟨by first | rfl | (simp [errW_none, errW_some] <;> rfl) | (simp [*, errW_none, errW_some] <;> rfl), by repeat (first | (with_reducible first | exact HB.out | apply below_alloc | apply pw_below_drewN | apply below_drew1) | exact HB.out)⟩
            · replace c13 := Bool.eq_false_iff.mpr c13
              subst c13
              have H1 : (some false) = some r := by rw [if_neg (show ¬ (false = true) by decide)] at H; exact H
              clear H
              have H := H1
              clear H1
              obtain rfl := Option.some.inj H
              go_wp2_with (first | ((with_reducible refine gate_callee (f := 10) rfl ?_); refine goesL_ (some 37) rfl rfl Try.func10 (by kernel_rfl) rfl #[.int .i32 t144] rfl (by (try simp only [List.map_toArray, List.map_cons, List.map_nil]); first | done | rfl | (simp only [List.length_drop, List.length_take]; rfl)) ?_; (with_reducible refine (johab_Bytes.calls kj4 t144 t147 false _ A10.out).mono ?_); rintro e w26 ⟨rfl, hb⟩; refine ⟨_, rfl, ?_⟩; have n0_ := Aside0.mk (below_step (by repeat (first | (with_reducible first | exact HB.out | apply below_alloc | apply pw_below_drewN | apply below_drew1) | exact HB.out)) hb); clear HB; have HB := n0_; clear n0_; (try clear hb); (try clear hb2); (try clear hk); (try clear hi)) | ((with_reducible refine gate_callee (f := 9) rfl ?_); refine goesL_ (some 40) rfl rfl Try.func9 (by kernel_rfl) rfl #[] rfl (by (try simp only [List.map_toArray, List.map_cons, List.map_nil]); first | done | rfl | (simp only [List.length_drop, List.length_take]; rfl)) ?_; (with_reducible refine (diacriticlaw06_awake.calls kj4  true _ A11.out).mono ?_); rintro e w27 ⟨rfl, hb⟩; refine ⟨_, rfl, ?_⟩; have n0_ := Aside0.mk (below_step (by repeat (first | (with_reducible first | exact HB.out | apply below_alloc | apply pw_below_drewN | apply below_drew1) | exact HB.out)) hb); clear HB; have HB := n0_; clear n0_; (try clear hb); (try clear hb2); (try clear hk); (try clear hi)))
              go_ret
              exact ⟨by first | rfl | (simp [errW_none, errW_some] <;> rfl) | (simp [*, errW_none, errW_some] <;> rfl), by repeat (first | (with_reducible first | exact HB.out | apply below_alloc | apply pw_below_drewN | apply below_drew1) | exact HB.out)⟩
          · replace c12 := Bool.eq_false_iff.mpr c12
            subst c12
            have H1 : (some false) = some r := by rw [if_neg (show ¬ (false = true) by decide)] at H; exact H
            clear H
            have H := H1
            clear H1
            obtain rfl := Option.some.inj H
            go_wp2_with (first | ((with_reducible refine gate_callee (f := 10) rfl ?_); refine goesL_ (some 37) rfl rfl Try.func10 (by kernel_rfl) rfl #[.int .i32 t144] rfl (by (try simp only [List.map_toArray, List.map_cons, List.map_nil]); first | done | rfl | (simp only [List.length_drop, List.length_take]; rfl)) ?_; (with_reducible refine (johab_Bytes.calls kj4 t144 t147 t148 _ A10.out).mono ?_); rintro e w28 ⟨rfl, hb⟩; refine ⟨_, rfl, ?_⟩; have n0_ := Aside0.mk (below_step (by repeat (first | (with_reducible first | exact HB.out | apply below_alloc | apply pw_below_drewN | apply below_drew1) | exact HB.out)) hb); clear HB; have HB := n0_; clear n0_; (try clear hb); (try clear hb2); (try clear hk); (try clear hi)) | ((with_reducible refine gate_callee (f := 9) rfl ?_); refine goesL_ (some 40) rfl rfl Try.func9 (by kernel_rfl) rfl #[] rfl (by (try simp only [List.map_toArray, List.map_cons, List.map_nil]); first | done | rfl | (simp only [List.length_drop, List.length_take]; rfl)) ?_; (with_reducible refine (diacriticlaw06_awake.calls kj4  false _ A11.out).mono ?_); rintro e w29 ⟨rfl, hb⟩; refine ⟨_, rfl, ?_⟩; have n0_ := Aside0.mk (below_step (by repeat (first | (with_reducible first | exact HB.out | apply below_alloc | apply pw_below_drewN | apply below_drew1) | exact HB.out)) hb); clear HB; have HB := n0_; clear n0_; (try clear hb); (try clear hb2); (try clear hk); (try clear hi)))
            go_ret
            exact ⟨by first | rfl | (simp [errW_none, errW_some] <;> rfl) | (simp [*, errW_none, errW_some] <;> rfl), by repeat (first | (with_reducible first | exact HB.out | apply below_alloc | apply pw_below_drewN | apply below_drew1) | exact HB.out)⟩
        · replace c9 := Bool.eq_false_iff.mpr c9
          subst c9
          have H1 : ((diacriticlaw06_awake.f kj4).bind fun t150 => (some t150)) = some r := by rw [if_neg (show ¬ (false = true) by decide)] at H; exact H
          clear H
          have H := H1
          clear H1
          replace H := Option.bind_eq_some_iff.mp H
          obtain ⟨t150, A300, H⟩ := H
          replace H : (some t150) = some r := H
          have A30 := Aside0.mk A300
          clear A300
          obtain rfl := Option.some.inj H
          go_wp2_with (first | ((with_reducible refine gate_callee (f := 9) rfl ?_); refine goesL_ (some 34) rfl rfl Try.func9 (by kernel_rfl) rfl #[] rfl (by (try simp only [List.map_toArray, List.map_cons, List.map_nil]); first | done | rfl | (simp only [List.length_drop, List.length_take]; rfl)) ?_; (with_reducible refine (diacriticlaw06_awake.calls kj4  t150 _ A30.out).mono ?_); rintro e w31 ⟨rfl, hb⟩; refine ⟨_, rfl, ?_⟩; have n0_ := Aside0.mk (below_step (by repeat (first | (with_reducible first | exact HB.out | apply below_alloc | apply pw_below_drewN | apply below_drew1) | exact HB.out)) hb); clear HB; have HB := n0_; clear n0_; (try clear hb); (try clear hb2); (try clear hk); (try clear hi)))
          go_ret
          exact ⟨by first | rfl | (simp [errW_none, errW_some] <;> rfl) | (simp [*, errW_none, errW_some] <;> rfl), by repeat (first | (with_reducible first | exact HB.out | apply below_alloc | apply pw_below_drewN | apply below_drew1) | exact HB.out)⟩

/-- THE ONE PURE STATEMENT of diacriticlaw06_JohabSigns: yours. -/
def diacriticlaw06_JohabSigns.Pure : Prop := ∀ (a0 : Int) (a1 : Int), (Lit.int .u8 a0).wf = true → (Lit.int .u8 a1).wf = true → ∃ k, diacriticlaw06_JohabSigns.f k a0 a1 = some true
theorem diacriticlaw06_JohabSigns.walk (P : diacriticlaw06_JohabSigns.Pure) (a0 : Int) (a1 : Int) (w : World) (w0 : (Lit.int .u8 a0).wf = true) (w1 : (Lit.int .u8 a1).wf = true) :
    Calls Try.prog 3 #[.int .u8 a0, .int .u8 a1] w fun e w' => e = .returned (.bool true) ∧ Below w.heap.size w w' := by
  obtain ⟨k, h⟩ := P a0 a1 w0 w1
  refine (diacriticlaw06_JohabSigns.calls k a0 a1 true w h).mono ?_
  rintro e w' ⟨rfl, hd⟩
  exact ⟨rfl, hd⟩

end Go.Proofs.Ytjdcnpgemlhdfaa.PJohabSigns

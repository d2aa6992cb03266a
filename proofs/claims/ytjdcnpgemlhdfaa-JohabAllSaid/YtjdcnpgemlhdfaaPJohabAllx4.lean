-- Laid by a program of this session (mkprint.py: the print with hand-written contracts beside).
import Derived.Test.YtjdcnpgemlhdfaaPJohabAllx0
import Derived.Test.YtjdcnpgemlhdfaaPJohabAllx3
namespace Go.Proofs.Ytjdcnpgemlhdfaa.PJohabAll
open Go.RowKit Go.Proofs.YtjdcnpgemlhdfaaW.PrintWords Go.Proofs.YtjdcnpgemlhdfaaW.PrintLast Go.Proofs.YtjdcnpgemlhdfaaW.PrintMore
attribute [local go_sem] max2_int min2_int max_two min_two max_three min_three max_four min_four   -- for this text's walks alone
set_option linter.unusedVariables false
set_option linter.unusedSimpArgs false

/-! ### johab_Bytes: function 10 -/
mutual
def johab_Bytes.j0 : Nat → Int → Bool → Option (ByteArray × Bool)
  | 0, _, _ => none
  | k + 1, x0, x6 => if x6 = true then ((johab_medialCode.f (Int.tmod (wrap64 (Int.tdiv (wrap64 (wrap32 (x0 - 44032))) 28)) 21)).bind fun t127 => ((johab_finalCode.f (Int.tmod (wrap64 (wrap32 (x0 - 44032))) 28)).bind fun t128 => ((johab_two.f k (wrap64 ((wrap64 (Int.tdiv (wrap64 (Int.tdiv (wrap64 (wrap32 (x0 - 44032))) 28)) 21)) + 2)) t127 t128).bind fun bt129 => (some (bt129.1, bt129.2))))) else (if x0 ≥ 12623 then (johab_Bytes.j1 k x0 (decide (x0 ≤ 12643))) else (johab_Bytes.j1 k x0 false))
def johab_Bytes.j1 : Nat → Int → Bool → Option (ByteArray × Bool)
  | 0, _, _ => none
  | k + 1, x0, x30 => if x30 = true then ((johab_medialCode.f (wrap64 (wrap32 (x0 - 12623)))).bind fun t131 => ((johab_two.f k 1 t131 1).bind fun bt132 => (some (bt132.1, bt132.2)))) else (if x0 ≥ 12593 then (johab_Bytes.j2 k x0 (decide (x0 < 12623))) else (johab_Bytes.j2 k x0 false))
def johab_Bytes.j2 : Nat → Int → Bool → Option (ByteArray × Bool)
  | 0, _, _ => none
  | k + 1, x0, x44 => if x44 = true then (if 0 ≤ (wrap32 (x0 - 12593)) then (if (wrap32 (x0 - 12593)) < 30 then (if (wrap64 (bt (⟨#[97, 98, 68, 99, 70, 71, 100, 101, 102, 74, 75, 76, 77, 78, 79, 80, 103, 104, 105, 83, 106, 107, 108, 109, 110, 111, 112, 113, 114, 115]⟩ : ByteArray) (wrap32 (x0 - 12593)))) ≥ 97 then ((johab_two.f k (wrap64 ((wrap64 ((wrap64 (bt (⟨#[97, 98, 68, 99, 70, 71, 100, 101, 102, 74, 75, 76, 77, 78, 79, 80, 103, 104, 105, 83, 106, 107, 108, 109, 110, 111, 112, 113, 114, 115]⟩ : ByteArray) (wrap32 (x0 - 12593)))) - 97)) + 2)) 2 1).bind fun bt134 => (some (bt134.1, bt134.2))) else ((johab_finalCode.f (wrap64 ((wrap64 (bt (⟨#[97, 98, 68, 99, 70, 71, 100, 101, 102, 74, 75, 76, 77, 78, 79, 80, 103, 104, 105, 83, 106, 107, 108, 109, 110, 111, 112, 113, 114, 115]⟩ : ByteArray) (wrap32 (x0 - 12593)))) - 65))).bind fun t136 => ((johab_two.f k 1 2 t136).bind fun bt137 => (some (bt137.1, bt137.2))))) else (none)) else (none)) else (some ((⟨#[]⟩ : ByteArray), false))
end
def johab_Bytes.f (k : Nat) (a0 : Int) : Option (ByteArray × Bool) := if a0 ≥ 44032 then (johab_Bytes.j0 k a0 (decide (a0 < 55204))) else (johab_Bytes.j0 k a0 false)
theorem johab_Bytes.mono_l : ∀ k, (∀ y0 y1, LeO (johab_Bytes.j0 k y0 y1) (johab_Bytes.j0 (k + 1) y0 y1)) ∧ (∀ y0 y1, LeO (johab_Bytes.j1 k y0 y1) (johab_Bytes.j1 (k + 1) y0 y1)) ∧ (∀ y0 y1, LeO (johab_Bytes.j2 k y0 y1) (johab_Bytes.j2 (k + 1) y0 y1))
  | 0 => ⟨fun _ _ r h => by simp [johab_Bytes.j0] at h, fun _ _ r h => by simp [johab_Bytes.j1] at h, fun _ _ r h => by simp [johab_Bytes.j2] at h⟩
  | k + 1 => by
    obtain ⟨ih0, ih1, ih2⟩ := johab_Bytes.mono_l k
    refine ⟨?_, ?_, ?_⟩
    · intro y0 y1
      unfold johab_Bytes.j0
      repeat' first
      | (with_reducible exact ih0 _ _)
      | (with_reducible exact ih1 _ _)
      | (with_reducible exact ih2 _ _)
      | (with_reducible exact johab_two.mono _ _ _ _)
      | (with_reducible exact LeO.refl _)
      | (with_reducible exact LeO.none _)
      | (with_reducible refine LeO.ite ?_ ?_)
      | (with_reducible refine LeO.bind ?_ (fun _ => ?_))
      | exact ih0 _ _
      | exact ih1 _ _
      | exact ih2 _ _
      | exact johab_two.mono _ _ _ _
      | exact LeO.none _
      | refine LeO.ite ?_ ?_
      | refine LeO.bind ?_ (fun _ => ?_)
    · intro y0 y1
      unfold johab_Bytes.j1
      repeat' first
      | (with_reducible exact ih0 _ _)
      | (with_reducible exact ih1 _ _)
      | (with_reducible exact ih2 _ _)
      | (with_reducible exact johab_two.mono _ _ _ _)
      | (with_reducible exact LeO.refl _)
      | (with_reducible exact LeO.none _)
      | (with_reducible refine LeO.ite ?_ ?_)
      | (with_reducible refine LeO.bind ?_ (fun _ => ?_))
      | exact ih0 _ _
      | exact ih1 _ _
      | exact ih2 _ _
      | exact johab_two.mono _ _ _ _
      | exact LeO.none _
      | refine LeO.ite ?_ ?_
      | refine LeO.bind ?_ (fun _ => ?_)
    · intro y0 y1
      unfold johab_Bytes.j2
      repeat' first
      | (with_reducible exact ih0 _ _)
      | (with_reducible exact ih1 _ _)
      | (with_reducible exact ih2 _ _)
      | (with_reducible exact johab_two.mono _ _ _ _)
      | (with_reducible exact LeO.refl _)
      | (with_reducible exact LeO.none _)
      | (with_reducible refine LeO.ite ?_ ?_)
      | (with_reducible refine LeO.bind ?_ (fun _ => ?_))
      | exact ih0 _ _
      | exact ih1 _ _
      | exact ih2 _ _
      | exact johab_two.mono _ _ _ _
      | exact LeO.none _
      | refine LeO.ite ?_ ?_
      | refine LeO.bind ?_ (fun _ => ?_)
theorem johab_Bytes.mono : ∀ a0 k, LeO (johab_Bytes.f k a0) (johab_Bytes.f (k + 1) a0) := by
  intro a0 k
  obtain ⟨ih0, ih1, ih2⟩ := johab_Bytes.mono_l k
  unfold johab_Bytes.f
  repeat' first
      | (with_reducible exact ih0 _ _)
      | (with_reducible exact ih1 _ _)
      | (with_reducible exact ih2 _ _)
      | (with_reducible exact johab_two.mono _ _ _ _)
      | (with_reducible exact LeO.refl _)
      | (with_reducible exact LeO.none _)
      | (with_reducible refine LeO.ite ?_ ?_)
      | (with_reducible refine LeO.bind ?_ (fun _ => ?_))
      | exact ih0 _ _
      | exact ih1 _ _
      | exact ih2 _ _
      | exact johab_two.mono _ _ _ _
      | exact LeO.none _
      | refine LeO.ite ?_ ?_
      | refine LeO.bind ?_ (fun _ => ?_)
set_option maxHeartbeats 8000000 in
set_option maxRecDepth 100000 in
theorem johab_Bytes.calls (k : Nat) (a0 : Int) (r1 : ByteArray) (r2 : Bool) (w : World) (h : johab_Bytes.f k a0 = some (r1, r2)) :
    Calls Try.prog 10 #[.int .i32 a0] w fun e w' => e = .returned (.tuple #[.string r1, .bool r2]) ∧ Below w.heap.size w w' := by
  have HB := Aside0.mk (Below.refl w.heap.size w)
  have H : (if a0 ≥ 44032 then (johab_Bytes.j0 k a0 (decide (a0 < 55204))) else (johab_Bytes.j0 k a0 false)) = some (r1, r2) := h
  clear h
  have HC2 := Aside0.mk H
  clear H
  go_enter Try.func10, Try.ntmps10
  go_upto_region 1 with (fail)
  go_cut [6] (fun v6 wc => ∃ (kq : Nat) (x6_1 : Bool), v6 = .bool x6_1 ∧ Aside0 (johab_Bytes.j0 kq a0 x6_1 = some (r1, r2)) ∧ Aside0 (kq ≤ k) ∧ Aside0 (Below w.heap.size w wc))
  case first =>
    have H := HC2.out
    clear HC2
    by_cases c3 : a0 ≥ 44032
    · rw [if_pos c3] at H
      have c3b0 : decide (44032 ≤ a0) = true := decide_eq_true c3
      clear c3
      (first | rw [c3b0] | (simp only [i64_w, i32_w]; rw [c3b0]) | skip)
      have H' := Aside0.mk H
      clear H
      go_wp2
      go_meet
      case rel => exact ⟨_, (decide (a0 < 55204)), (by first | rfl | (simp; done) | (simp [*]; done)), H', ⟨by first | omega | exact Nat.le_refl _⟩, ⟨by repeat (first | (with_reducible first | exact HB.out | apply below_alloc | apply pw_below_drewN | apply below_drew1) | exact HB.out)⟩⟩
    · rw [if_neg c3] at H
      have c3b0 : decide (44032 ≤ a0) = false := decide_eq_false c3
      clear c3
      (first | rw [c3b0] | (simp only [i64_w, i32_w]; rw [c3b0]) | skip)
      have H' := Aside0.mk H
      clear H
      go_wp2
      go_meet
      case rel => exact ⟨_, (false), (by first | rfl | (simp; done) | (simp [*]; done)), H', ⟨by first | omega | exact Nat.le_refl _⟩, ⟨by repeat (first | (with_reducible first | exact HB.out | apply below_alloc | apply pw_below_drewN | apply below_drew1) | exact HB.out)⟩⟩
  case rest =>
    clear HC2
    try clear c1
    try clear p2
    try clear c3
    try clear c3b0
    obtain ⟨kq, x6_1, rfl, HA, HJ1, HB⟩ := hcut
    cases kq with
    | zero => exact absurd HA.out (by simp [johab_Bytes.j0])
    | succ kj1 =>
      have H := HA.out
      clear HA
      simp only [johab_Bytes.j0] at H
      by_cases c4 : x6_1 = true
      · subst c4
        have H1 : ((johab_medialCode.f (Int.tmod (wrap64 (Int.tdiv (wrap64 (wrap32 (a0 - 44032))) 28)) 21)).bind fun t127 => ((johab_finalCode.f (Int.tmod (wrap64 (wrap32 (a0 - 44032))) 28)).bind fun t128 => ((johab_two.f kj1 (wrap64 ((wrap64 (Int.tdiv (wrap64 (Int.tdiv (wrap64 (wrap32 (a0 - 44032))) 28)) 21)) + 2)) t127 t128).bind fun bt129 => (some (bt129.1, bt129.2))))) = some (r1, r2) := by rw [if_pos rfl] at H; exact H
        clear H
        have H := H1
        clear H1
        replace H := Option.bind_eq_some_iff.mp H
        obtain ⟨t127, A50, H⟩ := H
        replace H : ((johab_finalCode.f (Int.tmod (wrap64 (wrap32 (a0 - 44032))) 28)).bind fun t128 => ((johab_two.f kj1 (wrap64 ((wrap64 (Int.tdiv (wrap64 (Int.tdiv (wrap64 (wrap32 (a0 - 44032))) 28)) 21)) + 2)) t127 t128).bind fun bt129 => (some (bt129.1, bt129.2)))) = some (r1, r2) := H
        have A5 := Aside0.mk A50
        clear A50
        replace H := Option.bind_eq_some_iff.mp H
        obtain ⟨t128, A60, H⟩ := H
        replace H : ((johab_two.f kj1 (wrap64 ((wrap64 (Int.tdiv (wrap64 (Int.tdiv (wrap64 (wrap32 (a0 - 44032))) 28)) 21)) + 2)) t127 t128).bind fun bt129 => (some (bt129.1, bt129.2))) = some (r1, r2) := H
        have A6 := Aside0.mk A60
        clear A60
        replace H := Option.bind_eq_some_iff.mp H
        obtain ⟨⟨t129, t130⟩, A70, H⟩ := H
        replace H : (some (t129, t130)) = some (r1, r2) := H
        have A7 := Aside0.mk A70
        clear A70
        simp only [Option.some.injEq, Prod.mk.injEq] at H
        obtain ⟨rfl, rfl⟩ := H
        go_wp2_with (first | ((with_reducible refine gate_callee (f := 22) rfl ?_); refine goesL_ (some 23) rfl rfl Try.func22 (by kernel_rfl) rfl #[.int .i64 (Int.tmod (wrap64 (Int.tdiv (wrap64 (wrap32 (a0 - 44032))) 28)) 21)] rfl (by (try simp only [List.map_toArray, List.map_cons, List.map_nil]); first | done | rfl | (simp only [List.length_drop, List.length_take]; rfl)) ?_; (with_reducible refine (johab_medialCode.calls (Int.tmod (wrap64 (Int.tdiv (wrap64 (wrap32 (a0 - 44032))) 28)) 21) t127 _ A5.out).mono ?_); rintro e w' ⟨rfl, ⟨nd, rfl⟩⟩; refine ⟨_, rfl, ?_⟩) | ((with_reducible refine gate_callee (f := 23) rfl ?_); refine goesL_ (some 26) rfl rfl Try.func23 (by kernel_rfl) rfl #[.int .i64 (Int.tmod (wrap64 (wrap32 (a0 - 44032))) 28)] rfl (by (try simp only [List.map_toArray, List.map_cons, List.map_nil]); first | done | rfl | (simp only [List.length_drop, List.length_take]; rfl)) ?_; (with_reducible refine (johab_finalCode.calls (Int.tmod (wrap64 (wrap32 (a0 - 44032))) 28) t128 _ A6.out).mono ?_); rintro e w' ⟨rfl, ⟨nd, rfl⟩⟩; refine ⟨_, rfl, ?_⟩) | ((with_reducible refine gate_callee (f := 21) rfl ?_); refine goesL_ (some 27) rfl rfl Try.func21 (by kernel_rfl) rfl #[.int .i64 (wrap64 ((wrap64 (Int.tdiv (wrap64 (Int.tdiv (wrap64 (wrap32 (a0 - 44032))) 28)) 21)) + 2)), .int .i64 t127, .int .i64 t128] rfl (by (try simp only [List.map_toArray, List.map_cons, List.map_nil]); first | done | rfl | (simp only [List.length_drop, List.length_take]; rfl)) ?_; (with_reducible refine (johab_two.calls kj1 (wrap64 ((wrap64 (Int.tdiv (wrap64 (Int.tdiv (wrap64 (wrap32 (a0 - 44032))) 28)) 21)) + 2)) t127 t128 t129 t130 _ A7.out).mono ?_); rintro e w8 ⟨rfl, hb⟩; refine ⟨_, rfl, ?_⟩; have n0_ := Aside0.mk (below_step (by repeat (first | (with_reducible first | exact HB.out | apply below_alloc | apply pw_below_drewN | apply below_drew1) | exact HB.out)) hb); clear HB; have HB := n0_; clear n0_; (try clear hb); (try clear hb2); (try clear hk); (try clear hi)))
        go_ret2
        exact ⟨by first | rfl | (simp [errW_none, errW_some] <;> rfl) | (simp [*, errW_none, errW_some] <;> rfl), by repeat (first | (with_reducible first | exact HB.out | apply below_alloc | apply pw_below_drewN | apply below_drew1) | exact HB.out)⟩
      · replace c4 := Bool.eq_false_iff.mpr c4
        subst c4
        have H1 : (if a0 ≥ 12623 then (johab_Bytes.j1 kj1 a0 (decide (a0 ≤ 12643))) else (johab_Bytes.j1 kj1 a0 false)) = some (r1, r2) := by rw [if_neg (show ¬ (false = true) by decide)] at H; exact H
        clear H
        have H := H1
        clear H1
        have HC9 := Aside0.mk H
        clear H
        go_upto_region 4 with (fail)
        go_cut [30] (fun v30 wc => ∃ (kq : Nat) (x30_8 : Bool), v30 = .bool x30_8 ∧ Aside0 (johab_Bytes.j1 kq a0 x30_8 = some (r1, r2)) ∧ Aside0 (kq ≤ kj1) ∧ Aside0 (Below w.heap.size w wc))
        case first =>
          have H := HC9.out
          clear HC9
          by_cases c10 : a0 ≥ 12623
          · rw [if_pos c10] at H
            have c10b0 : decide (12623 ≤ a0) = true := decide_eq_true c10
            clear c10
            (first | rw [c10b0] | (simp only [i64_w, i32_w]; rw [c10b0]) | skip)
            have H' := Aside0.mk H
            clear H
            go_wp2
            go_meet
            case rel => exact ⟨_, (decide (a0 ≤ 12643)), (by first | rfl | (simp; done) | (simp [*]; done)), H', ⟨by have := HJ1.out; first | omega | exact Nat.le_refl _⟩, ⟨by repeat (first | (with_reducible first | exact HB.out | apply below_alloc | apply pw_below_drewN | apply below_drew1) | exact HB.out)⟩⟩
          · rw [if_neg c10] at H
            have c10b0 : decide (12623 ≤ a0) = false := decide_eq_false c10
            clear c10
            (first | rw [c10b0] | (simp only [i64_w, i32_w]; rw [c10b0]) | skip)
            have H' := Aside0.mk H
            clear H
            go_wp2
            go_meet
            case rel => exact ⟨_, (false), (by first | rfl | (simp; done) | (simp [*]; done)), H', ⟨by have := HJ1.out; first | omega | exact Nat.le_refl _⟩, ⟨by repeat (first | (with_reducible first | exact HB.out | apply below_alloc | apply pw_below_drewN | apply below_drew1) | exact HB.out)⟩⟩
        case rest =>
          clear HC9
          try clear c1
          try clear c2
          try clear p2
          try clear c3
          try clear c3b0
          try clear p3
          try clear c4
          try clear p6
          try clear c10
          try clear c10b0
          try clear p2
          obtain ⟨kq, x30_8, rfl, HA, HJ8, HB⟩ := hcut
          cases kq with
          | zero => exact absurd HA.out (by simp [johab_Bytes.j1])
          | succ kj8 =>
            have H := HA.out
            clear HA
            simp only [johab_Bytes.j1] at H
            by_cases c11 : x30_8 = true
            · subst c11
              have H1 : ((johab_medialCode.f (wrap64 (wrap32 (a0 - 12623)))).bind fun t131 => ((johab_two.f kj8 1 t131 1).bind fun bt132 => (some (bt132.1, bt132.2)))) = some (r1, r2) := by rw [if_pos rfl] at H; exact H
              clear H
              have H := H1
              clear H1
              replace H := Option.bind_eq_some_iff.mp H
              obtain ⟨t131, A120, H⟩ := H
              replace H : ((johab_two.f kj8 1 t131 1).bind fun bt132 => (some (bt132.1, bt132.2))) = some (r1, r2) := H
              have A12 := Aside0.mk A120
              clear A120
              replace H := Option.bind_eq_some_iff.mp H
              obtain ⟨⟨t132, t133⟩, A130, H⟩ := H
              replace H : (some (t132, t133)) = some (r1, r2) := H
              have A13 := Aside0.mk A130
              clear A130
              simp only [Option.some.injEq, Prod.mk.injEq] at H
              obtain ⟨rfl, rfl⟩ := H
              go_wp2_with (first | ((with_reducible refine gate_callee (f := 22) rfl ?_); refine goesL_ (some 40) rfl rfl Try.func22 (by kernel_rfl) rfl #[.int .i64 (wrap64 (wrap32 (a0 - 12623)))] rfl (by (try simp only [List.map_toArray, List.map_cons, List.map_nil]); first | done | rfl | (simp only [List.length_drop, List.length_take]; rfl)) ?_; (with_reducible refine (johab_medialCode.calls (wrap64 (wrap32 (a0 - 12623))) t131 _ A12.out).mono ?_); rintro e w' ⟨rfl, ⟨nd, rfl⟩⟩; refine ⟨_, rfl, ?_⟩) | ((with_reducible refine gate_callee (f := 21) rfl ?_); refine goesL_ (some 41) rfl rfl Try.func21 (by kernel_rfl) rfl #[.int .i64 1, .int .i64 t131, .int .i64 1] rfl (by (try simp only [List.map_toArray, List.map_cons, List.map_nil]); first | done | rfl | (simp only [List.length_drop, List.length_take]; rfl)) ?_; (with_reducible refine (johab_two.calls kj8 1 t131 1 t132 t133 _ A13.out).mono ?_); rintro e w14 ⟨rfl, hb⟩; refine ⟨_, rfl, ?_⟩; have n0_ := Aside0.mk (below_step (by repeat (first | (with_reducible first | exact HB.out | apply below_alloc | apply pw_below_drewN | apply below_drew1) | exact HB.out)) hb); clear HB; have HB := n0_; clear n0_; (try clear hb); (try clear hb2); (try clear hk); (try clear hi)))
              go_ret2
              exact ⟨by first | rfl | (simp [errW_none, errW_some] <;> rfl) | (simp [*, errW_none, errW_some] <;> rfl), by repeat (first | (with_reducible first | exact HB.out | apply below_alloc | apply pw_below_drewN | apply below_drew1) | exact HB.out)⟩
            · replace c11 := Bool.eq_false_iff.mpr c11
              subst c11
              have H1 : (if a0 ≥ 12593 then (johab_Bytes.j2 kj8 a0 (decide (a0 < 12623))) else (johab_Bytes.j2 kj8 a0 false)) = some (r1, r2) := by rw [if_neg (show ¬ (false = true) by decide)] at H; exact H
              clear H
              have H := H1
              clear H1
              have HC15 := Aside0.mk H
              clear H
              go_upto_region 6 with (fail)
              go_cut [44] (fun v44 wc => ∃ (kq : Nat) (x44_14 : Bool), v44 = .bool x44_14 ∧ Aside0 (johab_Bytes.j2 kq a0 x44_14 = some (r1, r2)) ∧ Aside0 (kq ≤ kj8) ∧ Aside0 (Below w.heap.size w wc))
              case first =>
                have H := HC15.out
                clear HC15
                by_cases c16 : a0 ≥ 12593
                · rw [if_pos c16] at H
                  have c16b0 : decide (12593 ≤ a0) = true := decide_eq_true c16
                  clear c16
                  (first | rw [c16b0] | (simp only [i64_w, i32_w]; rw [c16b0]) | skip)
                  have H' := Aside0.mk H
                  clear H
                  go_wp2
                  go_meet
                  case rel => exact ⟨_, (decide (a0 < 12623)), (by first | rfl | (simp; done) | (simp [*]; done)), H', ⟨by have := HJ1.out; have := HJ8.out; first | omega | exact Nat.le_refl _⟩, ⟨by repeat (first | (with_reducible first | exact HB.out | apply below_alloc | apply pw_below_drewN | apply below_drew1) | exact HB.out)⟩⟩
                · rw [if_neg c16] at H
                  have c16b0 : decide (12593 ≤ a0) = false := decide_eq_false c16
                  clear c16
                  (first | rw [c16b0] | (simp only [i64_w, i32_w]; rw [c16b0]) | skip)
                  have H' := Aside0.mk H
                  clear H
                  go_wp2
                  go_meet
                  case rel => exact ⟨_, (false), (by first | rfl | (simp; done) | (simp [*]; done)), H', ⟨by have := HJ1.out; have := HJ8.out; first | omega | exact Nat.le_refl _⟩, ⟨by repeat (first | (with_reducible first | exact HB.out | apply below_alloc | apply pw_below_drewN | apply below_drew1) | exact HB.out)⟩⟩
              case rest =>
                clear HC15
                try clear c1
                try clear c2
                try clear p2
                try clear c3
                try clear c3b0
                try clear p3
                try clear c4
                try clear p6
                try clear c10
                try clear c10b0
                try clear c11
                try clear c16
                try clear c16b0
                try clear p2
                try clear p3
                try clear p6
                obtain ⟨kq, x44_14, rfl, HA, HJ14, HB⟩ := hcut
                cases kq with
                | zero => exact absurd HA.out (by simp [johab_Bytes.j2])
                | succ kj14 =>
                  have H := HA.out
                  clear HA
                  simp only [johab_Bytes.j2] at H
                  by_cases c17 : x44_14 = true
                  · subst c17
                    have H1 : (if 0 ≤ (wrap32 (a0 - 12593)) then (if (wrap32 (a0 - 12593)) < 30 then (if (wrap64 (bt (⟨#[97, 98, 68, 99, 70, 71, 100, 101, 102, 74, 75, 76, 77, 78, 79, 80, 103, 104, 105, 83, 106, 107, 108, 109, 110, 111, 112, 113, 114, 115]⟩ : ByteArray) (wrap32 (a0 - 12593)))) ≥ 97 then ((johab_two.f kj14 (wrap64 ((wrap64 ((wrap64 (bt (⟨#[97, 98, 68, 99, 70, 71, 100, 101, 102, 74, 75, 76, 77, 78, 79, 80, 103, 104, 105, 83, 106, 107, 108, 109, 110, 111, 112, 113, 114, 115]⟩ : ByteArray) (wrap32 (a0 - 12593)))) - 97)) + 2)) 2 1).bind fun bt134 => (some (bt134.1, bt134.2))) else ((johab_finalCode.f (wrap64 ((wrap64 (bt (⟨#[97, 98, 68, 99, 70, 71, 100, 101, 102, 74, 75, 76, 77, 78, 79, 80, 103, 104, 105, 83, 106, 107, 108, 109, 110, 111, 112, 113, 114, 115]⟩ : ByteArray) (wrap32 (a0 - 12593)))) - 65))).bind fun t136 => ((johab_two.f kj14 1 2 t136).bind fun bt137 => (some (bt137.1, bt137.2))))) else (none)) else (none)) = some (r1, r2) := by rw [if_pos rfl] at H; exact H
                    clear H
                    have H := H1
                    clear H1
                    obtain ⟨ji18, hji18⟩ : ∃ j_ : Int, (wrap32 (a0 - 12593)) = j_ := ⟨_, rfl⟩
                    replace H : (if 0 ≤ (ji18) then (if (ji18) < 30 then (if (wrap64 (bt (⟨#[97, 98, 68, 99, 70, 71, 100, 101, 102, 74, 75, 76, 77, 78, 79, 80, 103, 104, 105, 83, 106, 107, 108, 109, 110, 111, 112, 113, 114, 115]⟩ : ByteArray) (ji18))) ≥ 97 then ((johab_two.f kj14 (wrap64 ((wrap64 ((wrap64 (bt (⟨#[97, 98, 68, 99, 70, 71, 100, 101, 102, 74, 75, 76, 77, 78, 79, 80, 103, 104, 105, 83, 106, 107, 108, 109, 110, 111, 112, 113, 114, 115]⟩ : ByteArray) (ji18))) - 97)) + 2)) 2 1).bind fun bt134 => (some (bt134.1, bt134.2))) else ((johab_finalCode.f (wrap64 ((wrap64 (bt (⟨#[97, 98, 68, 99, 70, 71, 100, 101, 102, 74, 75, 76, 77, 78, 79, 80, 103, 104, 105, 83, 106, 107, 108, 109, 110, 111, 112, 113, 114, 115]⟩ : ByteArray) (ji18))) - 65))).bind fun t136 => ((johab_two.f kj14 1 2 t136).bind fun bt137 => (some (bt137.1, bt137.2))))) else (none)) else (none)) = some (r1, r2) := by first | (rw [hji18] at H; exact H) | (simp only [hji18] at H ⊢; exact H)
                    have hji18w : (IntKind.i32.wrap (a0 - 12593)) = ji18 := (i32_w _).trans hji18
                    by_cases c19 : 0 ≤ (ji18)
                    · rw [if_pos c19] at H
                      have c19b0 : decide (0 ≤ (ji18)) = true := decide_eq_true c19
                      clear c19
                      by_cases c20 : (ji18) < 30
                      · rw [if_pos c20] at H
                        have c20b0 : decide ((ji18) < 30) = true := decide_eq_true c20
                        clear c20
                        by_cases c22 : (wrap64 (bt (⟨#[97, 98, 68, 99, 70, 71, 100, 101, 102, 74, 75, 76, 77, 78, 79, 80, 103, 104, 105, 83, 106, 107, 108, 109, 110, 111, 112, 113, 114, 115]⟩ : ByteArray) (ji18))) ≥ 97
                        · rw [if_pos c22] at H
                          have c22b0 : decide (97 ≤ (wrap64 (bt (⟨#[97, 98, 68, 99, 70, 71, 100, 101, 102, 74, 75, 76, 77, 78, 79, 80, 103, 104, 105, 83, 106, 107, 108, 109, 110, 111, 112, 113, 114, 115]⟩ : ByteArray) (ji18)))) = true := decide_eq_true c22
                          clear c22
                          replace H := Option.bind_eq_some_iff.mp H
                          obtain ⟨⟨t134, t135⟩, A230, H⟩ := H
                          replace H : (some (t134, t135)) = some (r1, r2) := H
                          have A23 := Aside0.mk A230
                          clear A230
                          simp only [Option.some.injEq, Prod.mk.injEq] at H
                          obtain ⟨rfl, rfl⟩ := H
                          have p21 : 0 ≤ ((ji18) : Int) := of_decide_eq_true (by first | (with_reducible assumption) | assumption)
                          have q21 : (ji18) < (30 : Int) := of_decide_eq_true (by first | (with_reducible assumption) | assumption)
                          have hx21 := bt_at (⟨#[97, 98, 68, 99, 70, 71, 100, 101, 102, 74, 75, 76, 77, 78, 79, 80, 103, 104, 105, 83, 106, 107, 108, 109, 110, 111, 112, 113, 114, 115]⟩ : ByteArray) (ji18)
                          replace p21 := eq_true p21
                          replace q21 := eq_true q21
                          go_wp2_with (first | ((with_reducible refine gate_callee (f := 21) rfl ?_); refine goesL_ (some 60) rfl rfl Try.func21 (by kernel_rfl) rfl #[.int .i64 (wrap64 ((wrap64 ((wrap64 (bt (⟨#[97, 98, 68, 99, 70, 71, 100, 101, 102, 74, 75, 76, 77, 78, 79, 80, 103, 104, 105, 83, 106, 107, 108, 109, 110, 111, 112, 113, 114, 115]⟩ : ByteArray) (ji18))) - 97)) + 2)), .int .i64 2, .int .i64 1] rfl (by (try simp only [List.map_toArray, List.map_cons, List.map_nil]); first | done | (simp only [hji18]; rfl) | rfl | (simp only [List.length_drop, List.length_take]; rfl)) ?_; (with_reducible refine (johab_two.calls kj14 (wrap64 ((wrap64 ((wrap64 (bt (⟨#[97, 98, 68, 99, 70, 71, 100, 101, 102, 74, 75, 76, 77, 78, 79, 80, 103, 104, 105, 83, 106, 107, 108, 109, 110, 111, 112, 113, 114, 115]⟩ : ByteArray) (ji18))) - 97)) + 2)) 2 1 t134 t135 _ A23.out).mono ?_); rintro e w24 ⟨rfl, hb⟩; refine ⟨_, rfl, ?_⟩; have n0_ := Aside0.mk (below_step (by repeat (first | (with_reducible first | exact HB.out | apply below_alloc | apply pw_below_drewN | apply below_drew1) | exact HB.out)) hb); clear HB; have HB := n0_; clear n0_; (try clear hb); (try clear hb2); (try clear hk); (try clear hi)))
                          go_ret2
                          exact ⟨by first | rfl | (simp [errW_none, errW_some] <;> rfl) | (simp only [← hji18]; first | rfl | (simp [errW_none, errW_some] <;> rfl)) | (simp [*, errW_none, errW_some] <;> rfl), by repeat (first | (with_reducible first | exact HB.out | apply below_alloc | apply pw_below_drewN | apply below_drew1) | exact HB.out)⟩
                        · rw [if_neg c22] at H
                          have c22b0 : decide (97 ≤ (wrap64 (bt (⟨#[97, 98, 68, 99, 70, 71, 100, 101, 102, 74, 75, 76, 77, 78, 79, 80, 103, 104, 105, 83, 106, 107, 108, 109, 110, 111, 112, 113, 114, 115]⟩ : ByteArray) (ji18)))) = false := decide_eq_false c22
                          clear c22
                          replace H := Option.bind_eq_some_iff.mp H
                          obtain ⟨t136, A250, H⟩ := H
                          replace H : ((johab_two.f kj14 1 2 t136).bind fun bt137 => (some (bt137.1, bt137.2))) = some (r1, r2) := H
                          have A25 := Aside0.mk A250
                          clear A250
                          replace H := Option.bind_eq_some_iff.mp H
                          obtain ⟨⟨t137, t138⟩, A260, H⟩ := H
                          replace H : (some (t137, t138)) = some (r1, r2) := H
                          have A26 := Aside0.mk A260
                          clear A260
                          simp only [Option.some.injEq, Prod.mk.injEq] at H
                          obtain ⟨rfl, rfl⟩ := H
                          have p21 : 0 ≤ ((ji18) : Int) := of_decide_eq_true (by first | (with_reducible assumption) | assumption)
                          have q21 : (ji18) < (30 : Int) := of_decide_eq_true (by first | (with_reducible assumption) | assumption)
                          have hx21 := bt_at (⟨#[97, 98, 68, 99, 70, 71, 100, 101, 102, 74, 75, 76, 77, 78, 79, 80, 103, 104, 105, 83, 106, 107, 108, 109, 110, 111, 112, 113, 114, 115]⟩ : ByteArray) (ji18)
                          replace p21 := eq_true p21
                          replace q21 := eq_true q21
                          go_wp2_with (first | ((with_reducible refine gate_callee (f := 23) rfl ?_); refine goesL_ (some 65) rfl rfl Try.func23 (by kernel_rfl) rfl #[.int .i64 (wrap64 ((wrap64 (bt (⟨#[97, 98, 68, 99, 70, 71, 100, 101, 102, 74, 75, 76, 77, 78, 79, 80, 103, 104, 105, 83, 106, 107, 108, 109, 110, 111, 112, 113, 114, 115]⟩ : ByteArray) (ji18))) - 65))] rfl (by (try simp only [List.map_toArray, List.map_cons, List.map_nil]); first | done | (simp only [hji18]; rfl) | rfl | (simp only [List.length_drop, List.length_take]; rfl)) ?_; (with_reducible refine (johab_finalCode.calls (wrap64 ((wrap64 (bt (⟨#[97, 98, 68, 99, 70, 71, 100, 101, 102, 74, 75, 76, 77, 78, 79, 80, 103, 104, 105, 83, 106, 107, 108, 109, 110, 111, 112, 113, 114, 115]⟩ : ByteArray) (ji18))) - 65)) t136 _ A25.out).mono ?_); rintro e w' ⟨rfl, ⟨nd, rfl⟩⟩; refine ⟨_, rfl, ?_⟩) | ((with_reducible refine gate_callee (f := 21) rfl ?_); refine goesL_ (some 66) rfl rfl Try.func21 (by kernel_rfl) rfl #[.int .i64 1, .int .i64 2, .int .i64 t136] rfl (by (try simp only [List.map_toArray, List.map_cons, List.map_nil]); first | done | rfl | (simp only [List.length_drop, List.length_take]; rfl)) ?_; (with_reducible refine (johab_two.calls kj14 1 2 t136 t137 t138 _ A26.out).mono ?_); rintro e w27 ⟨rfl, hb⟩; refine ⟨_, rfl, ?_⟩; have n0_ := Aside0.mk (below_step (by repeat (first | (with_reducible first | exact HB.out | apply below_alloc | apply pw_below_drewN | apply below_drew1) | exact HB.out)) hb); clear HB; have HB := n0_; clear n0_; (try clear hb); (try clear hb2); (try clear hk); (try clear hi)))
                          go_ret2
                          exact ⟨by first | rfl | (simp [errW_none, errW_some] <;> rfl) | (simp only [← hji18]; first | rfl | (simp [errW_none, errW_some] <;> rfl)) | (simp [*, errW_none, errW_some] <;> rfl), by repeat (first | (with_reducible first | exact HB.out | apply below_alloc | apply pw_below_drewN | apply below_drew1) | exact HB.out)⟩
                      · rw [if_neg c20] at H
                        exact absurd H (by simp)
                    · rw [if_neg c19] at H
                      exact absurd H (by simp)
                  · replace c17 := Bool.eq_false_iff.mpr c17
                    subst c17
                    have H1 : (some ((⟨#[]⟩ : ByteArray), false)) = some (r1, r2) := by rw [if_neg (show ¬ (false = true) by decide)] at H; exact H
                    clear H
                    have H := H1
                    clear H1
                    simp only [Option.some.injEq, Prod.mk.injEq] at H
                    obtain ⟨rfl, rfl⟩ := H
                    go_wp2
                    go_ret2
                    exact ⟨by first | rfl | (simp [errW_none, errW_some] <;> rfl) | (simp [*, errW_none, errW_some] <;> rfl), by repeat (first | (with_reducible first | exact HB.out | apply below_alloc | apply pw_below_drewN | apply below_drew1) | exact HB.out)⟩

/-! ### diacriticlaw06_Awake: function 20 -/
def diacriticlaw06_Awake.f (k : Nat)  : Option (Bool) := (johab_Sign.f k 136 97).bind fun bt139 => ((johab_Bytes.f k 12595).bind fun bt141 => (if bt139.2 = true then (if bt139.1 = 44032 then (if bt141.2 = true then (some (bt141.1.toList == ([132, 68] : List UInt8))) else (some false)) else (some false)) else (some false)))
theorem diacriticlaw06_Awake.mono : ∀ k, LeO (diacriticlaw06_Awake.f k ) (diacriticlaw06_Awake.f (k + 1) ) := by
  intro  k
  unfold diacriticlaw06_Awake.f
  repeat' first
      | (with_reducible exact johab_Bytes.mono _ _)
      | (with_reducible exact johab_Sign.mono _ _ _)
      | (with_reducible exact LeO.refl _)
      | (with_reducible exact LeO.none _)
      | (with_reducible refine LeO.ite ?_ ?_)
      | (with_reducible refine LeO.bind ?_ (fun _ => ?_))
      | exact johab_Bytes.mono _ _
      | exact johab_Sign.mono _ _ _
      | exact LeO.none _
      | refine LeO.ite ?_ ?_
      | refine LeO.bind ?_ (fun _ => ?_)
set_option maxHeartbeats 8000000 in
set_option maxRecDepth 100000 in
theorem diacriticlaw06_Awake.calls (k : Nat)  (r : Bool) (w : World) (h : diacriticlaw06_Awake.f k  = some r) :
    Calls Try.prog 20 #[] w fun e w' => e = .returned (.bool r) ∧ Below w.heap.size w w' := by
  have HB := Aside0.mk (Below.refl w.heap.size w)
  have H : ((johab_Sign.f k 136 97).bind fun bt139 => ((johab_Bytes.f k 12595).bind fun bt141 => (if bt139.2 = true then (if bt139.1 = 44032 then (if bt141.2 = true then (some (bt141.1.toList == ([132, 68] : List UInt8))) else (some false)) else (some false)) else (some false)))) = some r := h
  clear h
  replace H := Option.bind_eq_some_iff.mp H
  obtain ⟨⟨t139, t140⟩, A10, H⟩ := H
  replace H : ((johab_Bytes.f k 12595).bind fun bt141 => (if t140 = true then (if t139 = 44032 then (if bt141.2 = true then (some (bt141.1.toList == ([132, 68] : List UInt8))) else (some false)) else (some false)) else (some false))) = some r := H
  have A1 := Aside0.mk A10
  clear A10
  replace H := Option.bind_eq_some_iff.mp H
  obtain ⟨⟨t141, t142⟩, A20, H⟩ := H
  replace H : (if t140 = true then (if t139 = 44032 then (if t142 = true then (some (t141.toList == ([132, 68] : List UInt8))) else (some false)) else (some false)) else (some false)) = some r := H
  have A2 := Aside0.mk A20
  clear A20
  by_cases c3 : t140 = true
  · subst c3
    have H1 : (if t139 = 44032 then (if t142 = true then (some (t141.toList == ([132, 68] : List UInt8))) else (some false)) else (some false)) = some r := by rw [if_pos rfl] at H; exact H
    clear H
    have H := H1
    clear H1
    by_cases c4 : t139 = 44032
    · rw [if_pos c4] at H
      have c4b0 : (t139 == 44032) = true := beq_iff_eq.mpr c4
      have c4b1 : (t139 != 44032) = false := bne_eq_false_iff_eq.mpr c4
      clear c4
      by_cases c5 : t142 = true
      · subst c5
        have H1 : (some (t141.toList == ([132, 68] : List UInt8))) = some r := by rw [if_pos rfl] at H; exact H
        clear H
        have H := H1
        clear H1
        obtain rfl := Option.some.inj H
        go_enter Try.func20, Try.ntmps20
        go_wp2_with (first | ((with_reducible refine gate_callee (f := 7) rfl ?_); refine goesL_ (some 6) rfl rfl Try.func7 (by kernel_rfl) rfl #[.int .u8 136, .int .u8 97] rfl (by (try simp only [List.map_toArray, List.map_cons, List.map_nil]); first | done | rfl | (simp only [List.length_drop, List.length_take]; rfl)) ?_; (with_reducible refine (johab_Sign.calls k 136 97 t139 true _ A1.out).mono ?_); rintro e w' ⟨rfl, ⟨nd, rfl⟩⟩; refine ⟨_, rfl, ?_⟩) | ((with_reducible refine gate_callee (f := 10) rfl ?_); refine goesL_ (some 10) rfl rfl Try.func10 (by kernel_rfl) rfl #[.int .i32 12595] rfl (by (try simp only [List.map_toArray, List.map_cons, List.map_nil]); first | done | rfl | (simp only [List.length_drop, List.length_take]; rfl)) ?_; (with_reducible refine (johab_Bytes.calls k 12595 t141 true _ A2.out).mono ?_); rintro e w6 ⟨rfl, hb⟩; refine ⟨_, rfl, ?_⟩; have n0_ := Aside0.mk (below_step (by repeat (first | (with_reducible first | exact HB.out | apply below_alloc | apply pw_below_drewN | apply below_drew1) | exact HB.out)) hb); clear HB; have HB := n0_; clear n0_; (try clear hb); (try clear hb2); (try clear hk); (try clear hi)))
        go_ret
        exact ⟨by first | rfl | (simp [errW_none, errW_some] <;> rfl) | (simp [*, errW_none, errW_some] <;> rfl), by repeat (first | (with_reducible first | exact HB.out | apply below_alloc | apply pw_below_drewN | apply below_drew1) | exact HB.out)⟩
      · replace c5 := Bool.eq_false_iff.mpr c5
        subst c5
        have H1 : (some false) = some r := by rw [if_neg (show ¬ (false = true) by decide)] at H; exact H
        clear H
        have H := H1
        clear H1
        obtain rfl := Option.some.inj H
        go_enter Try.func20, Try.ntmps20
        go_wp2_with (first | ((with_reducible refine gate_callee (f := 7) rfl ?_); refine goesL_ (some 6) rfl rfl Try.func7 (by kernel_rfl) rfl #[.int .u8 136, .int .u8 97] rfl (by (try simp only [List.map_toArray, List.map_cons, List.map_nil]); first | done | rfl | (simp only [List.length_drop, List.length_take]; rfl)) ?_; (with_reducible refine (johab_Sign.calls k 136 97 t139 true _ A1.out).mono ?_); rintro e w' ⟨rfl, ⟨nd, rfl⟩⟩; refine ⟨_, rfl, ?_⟩) | ((with_reducible refine gate_callee (f := 10) rfl ?_); refine goesL_ (some 10) rfl rfl Try.func10 (by kernel_rfl) rfl #[.int .i32 12595] rfl (by (try simp only [List.map_toArray, List.map_cons, List.map_nil]); first | done | rfl | (simp only [List.length_drop, List.length_take]; rfl)) ?_; (with_reducible refine (johab_Bytes.calls k 12595 t141 false _ A2.out).mono ?_); rintro e w7 ⟨rfl, hb⟩; refine ⟨_, rfl, ?_⟩; have n0_ := Aside0.mk (below_step (by repeat (first | (with_reducible first | exact HB.out | apply below_alloc | apply pw_below_drewN | apply below_drew1) | exact HB.out)) hb); clear HB; have HB := n0_; clear n0_; (try clear hb); (try clear hb2); (try clear hk); (try clear hi)))
        go_ret
        exact ⟨by first | rfl | (simp [errW_none, errW_some] <;> rfl) | (simp [*, errW_none, errW_some] <;> rfl), by repeat (first | (with_reducible first | exact HB.out | apply below_alloc | apply pw_below_drewN | apply below_drew1) | exact HB.out)⟩
    · rw [if_neg c4] at H
      have c4b0 : (t139 == 44032) = false := beq_eq_false_iff_ne.mpr c4
      have c4b1 : (t139 != 44032) = true := bne_iff_ne.mpr c4
      obtain rfl := Option.some.inj H
      go_enter Try.func20, Try.ntmps20
      go_wp2_with (first | ((with_reducible refine gate_callee (f := 7) rfl ?_); refine goesL_ (some 6) rfl rfl Try.func7 (by kernel_rfl) rfl #[.int .u8 136, .int .u8 97] rfl (by (try simp only [List.map_toArray, List.map_cons, List.map_nil]); first | done | rfl | (simp only [List.length_drop, List.length_take]; rfl)) ?_; (with_reducible refine (johab_Sign.calls k 136 97 t139 true _ A1.out).mono ?_); rintro e w' ⟨rfl, ⟨nd, rfl⟩⟩; refine ⟨_, rfl, ?_⟩) | ((with_reducible refine gate_callee (f := 10) rfl ?_); refine goesL_ (some 10) rfl rfl Try.func10 (by kernel_rfl) rfl #[.int .i32 12595] rfl (by (try simp only [List.map_toArray, List.map_cons, List.map_nil]); first | done | rfl | (simp only [List.length_drop, List.length_take]; rfl)) ?_; (with_reducible refine (johab_Bytes.calls k 12595 t141 t142 _ A2.out).mono ?_); rintro e w8 ⟨rfl, hb⟩; refine ⟨_, rfl, ?_⟩; have n0_ := Aside0.mk (below_step (by repeat (first | (with_reducible first | exact HB.out | apply below_alloc | apply pw_below_drewN | apply below_drew1) | exact HB.out)) hb); clear HB; have HB := n0_; clear n0_; (try clear hb); (try clear hb2); (try clear hk); (try clear hi)))
      go_ret
      exact ⟨by first | rfl | (simp [errW_none, errW_some] <;> rfl) | (simp [*, errW_none, errW_some] <;> rfl), by repeat (first | (with_reducible first | exact HB.out | apply below_alloc | apply pw_below_drewN | apply below_drew1) | exact HB.out)⟩
  · replace c3 := Bool.eq_false_iff.mpr c3
    subst c3
    have H1 : (some false) = some r := by rw [if_neg (show ¬ (false = true) by decide)] at H; exact H
    clear H
    have H := H1
    clear H1
    obtain rfl := Option.some.inj H
    go_enter Try.func20, Try.ntmps20
    go_wp2_with (first | ((with_reducible refine gate_callee (f := 7) rfl ?_); refine goesL_ (some 6) rfl rfl Try.func7 (by kernel_rfl) rfl #[.int .u8 136, .int .u8 97] rfl (by (try simp only [List.map_toArray, List.map_cons, List.map_nil]); first | done | rfl | (simp only [List.length_drop, List.length_take]; rfl)) ?_; (with_reducible refine (johab_Sign.calls k 136 97 t139 false _ A1.out).mono ?_); rintro e w' ⟨rfl, ⟨nd, rfl⟩⟩; refine ⟨_, rfl, ?_⟩) | ((with_reducible refine gate_callee (f := 10) rfl ?_); refine goesL_ (some 10) rfl rfl Try.func10 (by kernel_rfl) rfl #[.int .i32 12595] rfl (by (try simp only [List.map_toArray, List.map_cons, List.map_nil]); first | done | rfl | (simp only [List.length_drop, List.length_take]; rfl)) ?_; (with_reducible refine (johab_Bytes.calls k 12595 t141 t142 _ A2.out).mono ?_); rintro e w9 ⟨rfl, hb⟩; refine ⟨_, rfl, ?_⟩; have n0_ := Aside0.mk (below_step (by repeat (first | (with_reducible first | exact HB.out | apply below_alloc | apply pw_below_drewN | apply below_drew1) | exact HB.out)) hb); clear HB; have HB := n0_; clear n0_; (try clear hb); (try clear hb2); (try clear hk); (try clear hi)))
    go_ret
    exact ⟨by first | rfl | (simp [errW_none, errW_some] <;> rfl) | (simp [*, errW_none, errW_some] <;> rfl), by repeat (first | (with_reducible first | exact HB.out | apply below_alloc | apply pw_below_drewN | apply below_drew1) | exact HB.out)⟩

/-! ### diacriticlaw06_awake: function 9 -/
def diacriticlaw06_awake.f (k : Nat)  : Option (Bool) := (diacriticlaw06_Awake.f k).bind fun t143 => (some t143)
theorem diacriticlaw06_awake.mono : ∀ k, LeO (diacriticlaw06_awake.f k ) (diacriticlaw06_awake.f (k + 1) ) := by
  intro  k
  unfold diacriticlaw06_awake.f
  repeat' first
      | (with_reducible exact diacriticlaw06_Awake.mono _)
      | (with_reducible exact LeO.refl _)
      | (with_reducible exact LeO.none _)
      | (with_reducible refine LeO.ite ?_ ?_)
      | (with_reducible refine LeO.bind ?_ (fun _ => ?_))
      | exact diacriticlaw06_Awake.mono _
      | exact LeO.none _
      | refine LeO.ite ?_ ?_
      | refine LeO.bind ?_ (fun _ => ?_)
set_option maxHeartbeats 8000000 in
set_option maxRecDepth 100000 in
theorem diacriticlaw06_awake.calls (k : Nat)  (r : Bool) (w : World) (h : diacriticlaw06_awake.f k  = some r) :
    Calls Try.prog 9 #[] w fun e w' => e = .returned (.bool r) ∧ Below w.heap.size w w' := by
  have HB := Aside0.mk (Below.refl w.heap.size w)
  have H : ((diacriticlaw06_Awake.f k).bind fun t143 => (some t143)) = some r := h
  clear h
  replace H := Option.bind_eq_some_iff.mp H
  obtain ⟨t143, A10, H⟩ := H
  replace H : (some t143) = some r := H
  have A1 := Aside0.mk A10
  clear A10
  obtain rfl := Option.some.inj H
  go_enter Try.func9, Try.ntmps9
  go_wp2_with (first | ((with_reducible refine gate_callee (f := 20) rfl ?_); refine goesL_ (some 1) rfl rfl Try.func20 (by kernel_rfl) rfl #[] rfl (by (try simp only [List.map_toArray, List.map_cons, List.map_nil]); first | done | rfl | (simp only [List.length_drop, List.length_take]; rfl)) ?_; (with_reducible refine (diacriticlaw06_Awake.calls k  t143 _ A1.out).mono ?_); rintro e w2 ⟨rfl, hb⟩; refine ⟨_, rfl, ?_⟩; have n0_ := Aside0.mk (below_step (by repeat (first | (with_reducible first | exact HB.out | apply below_alloc | apply pw_below_drewN | apply below_drew1) | exact HB.out)) hb); clear HB; have HB := n0_; clear n0_; (try clear hb); (try clear hb2); (try clear hk); (try clear hi)))
  go_ret
  exact ⟨by first | rfl | (simp [errW_none, errW_some] <;> rfl) | (simp [*, errW_none, errW_some] <;> rfl), by repeat (first | (with_reducible first | exact HB.out | apply below_alloc | apply pw_below_drewN | apply below_drew1) | exact HB.out)⟩

/-! ### johab_Pairs: function 13 -/
def johab_Pairs.l0 : Nat → List (S37) → Int → Option ((List (S37)))
  | 0, _, _ => none
  | k + 1, x1, x2 => if x2 < 65536 then ((johab_Sign.f k ((x2 / 256) % 256) ((x2) % 256)).bind fun bt144 => (if bt144.2 = true then (if x1.length < 8796093022208 then (johab_Pairs.l0 k (x1 ++ [(⟨x2, bt144.1⟩ : S37)]) (wrap64 (x2 + 1))) else (none)) else (johab_Pairs.l0 k x1 (wrap64 (x2 + 1))))) else (some x1)
def johab_Pairs.f (k : Nat)  : Option ((List (S37))) := johab_Pairs.l0 k ([] : List (S37)) 32768
theorem johab_Pairs.mono_l : ∀ k, (∀ y0 y1, LeO (johab_Pairs.l0 k y0 y1) (johab_Pairs.l0 (k + 1) y0 y1))
  | 0 => fun _ _ r h => by simp [johab_Pairs.l0] at h
  | k + 1 => by
    have ih0 := johab_Pairs.mono_l k
    · intro y0 y1
      unfold johab_Pairs.l0
      repeat' first
      | (with_reducible exact ih0 _ _)
      | (with_reducible exact johab_Sign.mono _ _ _)
      | (with_reducible exact LeO.refl _)
      | (with_reducible exact LeO.none _)
      | (with_reducible refine LeO.ite ?_ ?_)
      | (with_reducible refine LeO.bind ?_ (fun _ => ?_))
      | exact ih0 _ _
      | exact johab_Sign.mono _ _ _
      | exact LeO.none _
      | refine LeO.ite ?_ ?_
      | refine LeO.bind ?_ (fun _ => ?_)
theorem johab_Pairs.mono : ∀ k, LeO (johab_Pairs.f k ) (johab_Pairs.f (k + 1) ) := by
  intro  k
  have ih0 := johab_Pairs.mono_l k
  unfold johab_Pairs.f
  repeat' first
      | (with_reducible exact ih0 _ _)
      | (with_reducible exact johab_Sign.mono _ _ _)
      | (with_reducible exact LeO.refl _)
      | (with_reducible exact LeO.none _)
      | (with_reducible refine LeO.ite ?_ ?_)
      | (with_reducible refine LeO.bind ?_ (fun _ => ?_))
      | exact ih0 _ _
      | exact johab_Sign.mono _ _ _
      | exact LeO.none _
      | refine LeO.ite ?_ ?_
      | refine LeO.bind ?_ (fun _ => ?_)
set_option maxHeartbeats 8000000 in
set_option maxRecDepth 100000 in
theorem johab_Pairs.calls (k : Nat)  (r : List (S37)) (w : World) (h : johab_Pairs.f k  = some r) :
    Calls Try.prog 13 #[] w fun e w' => ∃ v0_ : Value, e = .returned (v0_) ∧ Kd.R k37 37 w' w.heap.size (fun _ => True) v0_ r ∧ Below w.heap.size w w' := by
  have hu37 := Try.underlying37
  have HB := Aside0.mk (Below.refl w.heap.size w)
  have H : (johab_Pairs.l0 k ([] : List (S37)) 32768) = some r := h
  clear h
  have H' := Aside0.mk H
  clear H
  go_enter Try.func13, Try.ntmps13
  go_wp2
  go_loopg [1, 2] k (fun kq v1 v2 w' => ∃ (x1_1 : List (S37)) (x2_1 : Int), v2 = .int .i64 x2_1 ∧ Aside0 (johab_Pairs.l0 kq x1_1 x2_1 = some r) ∧ Aside0 (kq ≤ k) ∧ Aside0 (Kd.R k37 37 w' w.heap.size (fun _ => True) v1 x1_1) ∧ Aside0 (Below w.heap.size w w'))
  case atStart => exact ⟨(([] : List (S37))), (32768), (by first | rfl | (simp; done) | (simp [*]; done)), H', ⟨Nat.le_refl _⟩, ⟨by first | exact Kd.R_nil _ _ _ _ _ | exact Kd.N_nil _ _ _ _ _ | exact Kd.V_nil _ _ _ _ _ | exact Kd.Q_nil _ _ _ _ _ | exact Kd.S_nil _ _ _ _ _⟩, ⟨by repeat (first | (with_reducible first | exact HB.out | apply below_alloc | apply pw_below_drewN | apply below_drew1) | exact HB.out)⟩⟩
  case round =>
    clear H'
    obtain ⟨x1_1, x2_1, rfl, HA, HK1, HO_1, HB⟩ := hrel
    cases gk with
    | zero => exact absurd HA.out (by simp [johab_Pairs.l0])
    | succ k1 =>
      have H := HA.out
      clear HA
      simp only [johab_Pairs.l0] at H
      by_cases c1 : x2_1 < 65536
      · rw [if_pos c1] at H
        have c1b0 : decide (x2_1 < 65536) = true := decide_eq_true c1
        clear c1
        replace H := Option.bind_eq_some_iff.mp H
        obtain ⟨⟨t144, t145⟩, A20, H⟩ := H
        replace H : (if t145 = true then (if x1_1.length < 8796093022208 then (johab_Pairs.l0 k1 (x1_1 ++ [(⟨x2_1, t144⟩ : S37)]) (wrap64 (x2_1 + 1))) else (none)) else (johab_Pairs.l0 k1 x1_1 (wrap64 (x2_1 + 1)))) = some r := H
        have A2 := Aside0.mk A20
        clear A20
        by_cases c3 : t145 = true
        · subst c3
          have H1 : (if x1_1.length < 8796093022208 then (johab_Pairs.l0 k1 (x1_1 ++ [(⟨x2_1, t144⟩ : S37)]) (wrap64 (x2_1 + 1))) else (none)) = some r := by rw [if_pos rfl] at H; exact H
          clear H
          have H := H1
          clear H1
          by_cases c4 : x1_1.length < 8796093022208
          · rw [if_pos c4] at H
            have LMc4 := Aside0.mk c4
            clear c4
            obtain ⟨y146, hy146⟩ : ∃ y_ : List (S37), y_ = (x1_1 ++ [(⟨x2_1, t144⟩ : S37)]) := ⟨_, rfl⟩
            replace H : (johab_Pairs.l0 k1 y146 (wrap64 (x2_1 + 1))) = some r := by first | (rw [hy146]; with_reducible exact H) | (have H2_ := (Option.bind_some _ _).symm.trans H; rw [hy146]; with_reducible exact H2_) | (have H2_ := (Option.bind_some _ _).symm.trans H; with_reducible exact H2_) | with_reducible exact H | (rw [hy146]; exact H) | exact H
            have Ny146 := Aside0.mk hy146
            clear hy146
            have H' := Aside0.mk H
            clear H
            go_wp2_with (first | ((with_reducible refine gate_callee (f := 7) rfl ?_); refine goesL_ (some 15) rfl rfl Try.func7 (by kernel_rfl) rfl #[.int .u8 ((x2_1 / 256) % 256), .int .u8 ((x2_1) % 256)] rfl (by (try simp only [List.map_toArray, List.map_cons, List.map_nil]); first | done | rfl | (simp only [List.length_drop, List.length_take]; rfl)) ?_; (with_reducible refine (johab_Sign.calls k1 ((x2_1 / 256) % 256) ((x2_1) % 256) t144 true _ A2.out).mono ?_); rintro e w' ⟨rfl, ⟨nd, rfl⟩⟩; refine ⟨_, rfl, ?_⟩) | ((with_reducible refine gate_builtin (b := .append) (xs := #[.tmp 19, .tmp 23]) rfl ?_); at_builtin; refine Kd.R_append k37 (w0 := w) w.heap.size rfl (.tmp 19) (.tmp 23) 34 37 (.agg #[(.int .i64 0), (.int .i32 0)]) 16 rfl Try.underlying34 info37 rfl (by decide) (by omega) u1 x1_1 (⟨x2_1, t144⟩ : S37) [.int .i64 x2_1, .int .i32 t144] (fun _ => True) (fun _ => False) rfl rfl ?aP (fun _ hk => hk.elim) ?aF ?aO ?aB ?aS ?aL ?_; (case aP => exact k37_mkM _ _ _ (⟨x2_1, t144⟩ : S37)); (case aB => exact (by repeat (first | (with_reducible first | exact HB.out | apply below_alloc | apply pw_below_drewN | apply below_drew1) | exact HB.out))); (case aF => exact (fun _ _ => trivial)); (case aO => exact (by (with_reducible repeat (first | apply Kd.R_alloc | apply Kd.R_drewN | apply Kd.R_drew)); exact HO_1.out)); (case aS => exact (below_size (by repeat (first | (with_reducible first | exact HB.out | apply below_alloc | apply pw_below_drewN | apply below_drew1) | exact HB.out)))); (case aL => have := LMc4.out; omega); intro v147 w5 ho hb hg hat; rw [← Ny146.out] at ho; have n0_ := Aside0.mk (hb); have n1_ := Aside0.mk (ho); clear HB; clear HO_1; have HB := n0_; have HO148 := n1_; clear n0_ n1_; clear ho hb hg hat))
            go_roundg k1
            case measure => have := HK1.out; omega
            case rel => exact ⟨(y146), (wrap64 (x2_1 + 1)), (by first | rfl | (simp; done) | (simp [*]; done)), H', ⟨by have := HK1.out; omega⟩, ⟨by (with_reducible repeat (first | apply Kd.R_alloc | apply Kd.R_drewN | apply Kd.R_drew)); exact HO148.out⟩, ⟨by repeat (first | (with_reducible first | exact HB.out | apply below_alloc | apply pw_below_drewN | apply below_drew1) | exact HB.out)⟩⟩
          · rw [if_neg c4] at H
            exact absurd H (by simp)
        · replace c3 := Bool.eq_false_iff.mpr c3
          subst c3
          have H1 : (johab_Pairs.l0 k1 x1_1 (wrap64 (x2_1 + 1))) = some r := by rw [if_neg (show ¬ (false = true) by decide)] at H; exact H
          clear H
          have H := H1
          clear H1
          have H' := Aside0.mk H
          clear H
          go_wp2_with (first | ((with_reducible refine gate_callee (f := 7) rfl ?_); refine goesL_ (some 15) rfl rfl Try.func7 (by kernel_rfl) rfl #[.int .u8 ((x2_1 / 256) % 256), .int .u8 ((x2_1) % 256)] rfl (by (try simp only [List.map_toArray, List.map_cons, List.map_nil]); first | done | rfl | (simp only [List.length_drop, List.length_take]; rfl)) ?_; (with_reducible refine (johab_Sign.calls k1 ((x2_1 / 256) % 256) ((x2_1) % 256) t144 false _ A2.out).mono ?_); rintro e w' ⟨rfl, ⟨nd, rfl⟩⟩; refine ⟨_, rfl, ?_⟩))
          go_roundg k1
          case measure => have := HK1.out; omega
          case rel => exact ⟨(x1_1), (wrap64 (x2_1 + 1)), (by first | rfl | (simp; done) | (simp [*]; done)), H', ⟨by have := HK1.out; omega⟩, ⟨by (with_reducible repeat (first | apply Kd.R_alloc | apply Kd.R_drewN | apply Kd.R_drew)); exact HO_1.out⟩, ⟨by repeat (first | (with_reducible first | exact HB.out | apply below_alloc | apply pw_below_drewN | apply below_drew1) | exact HB.out)⟩⟩
      · rw [if_neg c1] at H
        have c1b0 : decide (x2_1 < 65536) = false := decide_eq_false c1
        clear c1
        obtain rfl := Option.some.inj H
        go_wp2
        go_ret
        exact ⟨_, by first | rfl | (simp [errW_none, errW_some] <;> rfl) | (simp [*, errW_none, errW_some] <;> rfl), by (with_reducible repeat (first | apply Kd.R_alloc | apply Kd.R_drewN | apply Kd.R_drew)); exact HO_1.out, by repeat (first | (with_reducible first | exact HB.out | apply below_alloc | apply pw_below_drewN | apply below_drew1) | exact HB.out)⟩

end Go.Proofs.Ytjdcnpgemlhdfaa.PJohabAll

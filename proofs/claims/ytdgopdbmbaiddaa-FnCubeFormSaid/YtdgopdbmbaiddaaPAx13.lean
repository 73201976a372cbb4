-- Written by xprint.py, a program of this claim's own (over the kit's print.py)
import Derived.Test.YtdgopdbmbaiddaaPAx0
import Derived.Test.YtdgopdbmbaiddaaPAx1
namespace Go.Proofs.Ytdgopdbmbaiddaa.PA
open Go.RowKit Go.Proofs.YtdgopdbmbaiddaaW.PrintWords Go.Proofs.YtdgopdbmbaiddaaW.PrintLast Go.Proofs.YtdgopdbmbaiddaaW.PrintMore
attribute [local go_sem] max2_int min2_int max_two min_two max_three min_three max_four min_four   -- for this text's walks alone
set_option linter.unusedVariables false
set_option linter.unusedSimpArgs false

/-! ### spec_l6sSlope: function 66 -/
mutual
def spec_l6sSlope.l0 : Nat → Int → List Int → List Int → Int → Int → Int → Int → Option (Int)
  | 0, _, _, _, _, _, _, _ => none
  | k + 1, x0, x1, x2, x3, x9, x10, x11 => if x11 < 4 then (spec_l6sSlope.l1 k x0 x1 x2 x3 x9 x10 x11 x11) else (some x9)
def spec_l6sSlope.l1 : Nat → Int → List Int → List Int → Int → Int → Int → Int → Int → Option (Int)
  | 0, _, _, _, _, _, _, _, _ => none
  | k + 1, x0, x1, x2, x3, x9, x10, x11, x12 => if x12 < 4 then (spec_l6sSlope.l2 k x0 x1 x2 x3 x9 x10 x11 x12 x12) else (spec_l6sSlope.l0 k x0 x1 x2 x3 x9 x10 (wrap64 (x11 + 1)))
def spec_l6sSlope.l2 : Nat → Int → List Int → List Int → Int → Int → Int → Int → Int → Int → Option (Int)
  | 0, _, _, _, _, _, _, _, _, _ => none
  | k + 1, x0, x1, x2, x3, x9, x10, x11, x12, x13 => if x13 < 4 then (if 0 ≤ x10 then (if x10 < (x1.length : Int) then (if x11 = x3 then (if 0 ≤ x12 then (if x12 < (x2.length : Int) then (if x0 = 0 then (none) else (if 0 ≤ x13 then (if x13 < (x2.length : Int) then (spec_l6sSlope.j3 k x0 x1 x2 x3 (Int.tmod (wrap64 (x9 + (wrap64 ((Int.tmod (wrap64 ((rd x1 x10) * (rd x2 x12))) x0) * (rd x2 x13))))) x0) x10 x11 x12 x13 (rd x1 x10)) else (none)) else (none))) else (none)) else (none)) else (spec_l6sSlope.j3 k x0 x1 x2 x3 x9 x10 x11 x12 x13 (rd x1 x10))) else (none)) else (none)) else (spec_l6sSlope.l1 k x0 x1 x2 x3 x9 x10 x11 (wrap64 (x12 + 1)))
def spec_l6sSlope.j3 : Nat → Int → List Int → List Int → Int → Int → Int → Int → Int → Int → Int → Option (Int)
  | 0, _, _, _, _, _, _, _, _, _, _ => none
  | k + 1, x0, x1, x2, x3, x9, x10, x11, x12, x13, x14 => if x12 = x3 then (if 0 ≤ x11 then (if x11 < (x2.length : Int) then (if x0 = 0 then (none) else (if 0 ≤ x13 then (if x13 < (x2.length : Int) then (if x13 = x3 then (if 0 ≤ x12 then (if x12 < (x2.length : Int) then (spec_l6sSlope.l2 k x0 x1 x2 x3 (Int.tmod (wrap64 ((Int.tmod (wrap64 (x9 + (wrap64 ((Int.tmod (wrap64 (x14 * (rd x2 x11))) x0) * (rd x2 x13))))) x0) + (wrap64 ((Int.tmod (wrap64 (x14 * (rd x2 x11))) x0) * (rd x2 x12))))) x0) (wrap64 (x10 + 1)) x11 x12 (wrap64 (x13 + 1))) else (none)) else (none)) else (spec_l6sSlope.l2 k x0 x1 x2 x3 (Int.tmod (wrap64 (x9 + (wrap64 ((Int.tmod (wrap64 (x14 * (rd x2 x11))) x0) * (rd x2 x13))))) x0) (wrap64 (x10 + 1)) x11 x12 (wrap64 (x13 + 1)))) else (none)) else (none))) else (none)) else (none)) else (if x13 = x3 then (if 0 ≤ x11 then (if x11 < (x2.length : Int) then (if x0 = 0 then (none) else (if 0 ≤ x12 then (if x12 < (x2.length : Int) then (spec_l6sSlope.l2 k x0 x1 x2 x3 (Int.tmod (wrap64 (x9 + (wrap64 ((Int.tmod (wrap64 (x14 * (rd x2 x11))) x0) * (rd x2 x12))))) x0) (wrap64 (x10 + 1)) x11 x12 (wrap64 (x13 + 1))) else (none)) else (none))) else (none)) else (none)) else (spec_l6sSlope.l2 k x0 x1 x2 x3 x9 (wrap64 (x10 + 1)) x11 x12 (wrap64 (x13 + 1))))
end
def spec_l6sSlope.f (k : Nat) (a0 : Int) (l1 : List Int) (l2 : List Int) (a3 : Int) : Option (Int) := spec_l6sSlope.l0 k a0 l1 l2 a3 0 0 0
theorem spec_l6sSlope.mono_l : ∀ k, (∀ y0 y1 y2 y3 y4 y5 y6, LeO (spec_l6sSlope.l0 k y0 y1 y2 y3 y4 y5 y6) (spec_l6sSlope.l0 (k + 1) y0 y1 y2 y3 y4 y5 y6)) ∧ (∀ y0 y1 y2 y3 y4 y5 y6 y7, LeO (spec_l6sSlope.l1 k y0 y1 y2 y3 y4 y5 y6 y7) (spec_l6sSlope.l1 (k + 1) y0 y1 y2 y3 y4 y5 y6 y7)) ∧ (∀ y0 y1 y2 y3 y4 y5 y6 y7 y8, LeO (spec_l6sSlope.l2 k y0 y1 y2 y3 y4 y5 y6 y7 y8) (spec_l6sSlope.l2 (k + 1) y0 y1 y2 y3 y4 y5 y6 y7 y8)) ∧ (∀ y0 y1 y2 y3 y4 y5 y6 y7 y8 y9, LeO (spec_l6sSlope.j3 k y0 y1 y2 y3 y4 y5 y6 y7 y8 y9) (spec_l6sSlope.j3 (k + 1) y0 y1 y2 y3 y4 y5 y6 y7 y8 y9))
  | 0 => ⟨fun _ _ _ _ _ _ _ r h => by simp [spec_l6sSlope.l0] at h, fun _ _ _ _ _ _ _ _ r h => by simp [spec_l6sSlope.l1] at h, fun _ _ _ _ _ _ _ _ _ r h => by simp [spec_l6sSlope.l2] at h, fun _ _ _ _ _ _ _ _ _ _ r h => by simp [spec_l6sSlope.j3] at h⟩
  | k + 1 => by
    obtain ⟨ih0, ih1, ih2, ih3⟩ := spec_l6sSlope.mono_l k
    refine ⟨?_, ?_, ?_, ?_⟩
    · intro y0 y1 y2 y3 y4 y5 y6
      unfold spec_l6sSlope.l0
      repeat' first
      | (with_reducible exact ih0 _ _ _ _ _ _ _)
      | (with_reducible exact ih1 _ _ _ _ _ _ _ _)
      | (with_reducible exact ih2 _ _ _ _ _ _ _ _ _)
      | (with_reducible exact ih3 _ _ _ _ _ _ _ _ _ _)
      | (with_reducible exact LeO.refl _)
      | (with_reducible exact LeO.none _)
      | (with_reducible refine LeO.ite ?_ ?_)
      | (with_reducible refine LeO.bind ?_ (fun _ => ?_))
      | exact ih0 _ _ _ _ _ _ _
      | exact ih1 _ _ _ _ _ _ _ _
      | exact ih2 _ _ _ _ _ _ _ _ _
      | exact ih3 _ _ _ _ _ _ _ _ _ _
      | exact LeO.none _
      | refine LeO.ite ?_ ?_
      | refine LeO.bind ?_ (fun _ => ?_)
    · intro y0 y1 y2 y3 y4 y5 y6 y7
      unfold spec_l6sSlope.l1
      repeat' first
      | (with_reducible exact ih0 _ _ _ _ _ _ _)
      | (with_reducible exact ih1 _ _ _ _ _ _ _ _)
      | (with_reducible exact ih2 _ _ _ _ _ _ _ _ _)
      | (with_reducible exact ih3 _ _ _ _ _ _ _ _ _ _)
      | (with_reducible exact LeO.refl _)
      | (with_reducible exact LeO.none _)
      | (with_reducible refine LeO.ite ?_ ?_)
      | (with_reducible refine LeO.bind ?_ (fun _ => ?_))
      | exact ih0 _ _ _ _ _ _ _
      | exact ih1 _ _ _ _ _ _ _ _
      | exact ih2 _ _ _ _ _ _ _ _ _
      | exact ih3 _ _ _ _ _ _ _ _ _ _
      | exact LeO.none _
      | refine LeO.ite ?_ ?_
      | refine LeO.bind ?_ (fun _ => ?_)
    · intro y0 y1 y2 y3 y4 y5 y6 y7 y8
      unfold spec_l6sSlope.l2
      repeat' first
      | (with_reducible exact ih0 _ _ _ _ _ _ _)
      | (with_reducible exact ih1 _ _ _ _ _ _ _ _)
      | (with_reducible exact ih2 _ _ _ _ _ _ _ _ _)
      | (with_reducible exact ih3 _ _ _ _ _ _ _ _ _ _)
      | (with_reducible exact LeO.refl _)
      | (with_reducible exact LeO.none _)
      | (with_reducible refine LeO.ite ?_ ?_)
      | (with_reducible refine LeO.bind ?_ (fun _ => ?_))
      | exact ih0 _ _ _ _ _ _ _
      | exact ih1 _ _ _ _ _ _ _ _
      | exact ih2 _ _ _ _ _ _ _ _ _
      | exact ih3 _ _ _ _ _ _ _ _ _ _
      | exact LeO.none _
      | refine LeO.ite ?_ ?_
      | refine LeO.bind ?_ (fun _ => ?_)
    · intro y0 y1 y2 y3 y4 y5 y6 y7 y8 y9
      unfold spec_l6sSlope.j3
      repeat' first
      | (with_reducible exact ih0 _ _ _ _ _ _ _)
      | (with_reducible exact ih1 _ _ _ _ _ _ _ _)
      | (with_reducible exact ih2 _ _ _ _ _ _ _ _ _)
      | (with_reducible exact ih3 _ _ _ _ _ _ _ _ _ _)
      | (with_reducible exact LeO.refl _)
      | (with_reducible exact LeO.none _)
      | (with_reducible refine LeO.ite ?_ ?_)
      | (with_reducible refine LeO.bind ?_ (fun _ => ?_))
      | exact ih0 _ _ _ _ _ _ _
      | exact ih1 _ _ _ _ _ _ _ _
      | exact ih2 _ _ _ _ _ _ _ _ _
      | exact ih3 _ _ _ _ _ _ _ _ _ _
      | exact LeO.none _
      | refine LeO.ite ?_ ?_
      | refine LeO.bind ?_ (fun _ => ?_)
theorem spec_l6sSlope.mono : ∀ a0 a1 a2 a3 k, LeO (spec_l6sSlope.f k a0 a1 a2 a3) (spec_l6sSlope.f (k + 1) a0 a1 a2 a3) := by
  intro a0 a1 a2 a3 k
  obtain ⟨ih0, ih1, ih2, ih3⟩ := spec_l6sSlope.mono_l k
  unfold spec_l6sSlope.f
  repeat' first
      | (with_reducible exact ih0 _ _ _ _ _ _ _)
      | (with_reducible exact ih1 _ _ _ _ _ _ _ _)
      | (with_reducible exact ih2 _ _ _ _ _ _ _ _ _)
      | (with_reducible exact ih3 _ _ _ _ _ _ _ _ _ _)
      | (with_reducible exact LeO.refl _)
      | (with_reducible exact LeO.none _)
      | (with_reducible refine LeO.ite ?_ ?_)
      | (with_reducible refine LeO.bind ?_ (fun _ => ?_))
      | exact ih0 _ _ _ _ _ _ _
      | exact ih1 _ _ _ _ _ _ _ _
      | exact ih2 _ _ _ _ _ _ _ _ _
      | exact ih3 _ _ _ _ _ _ _ _ _ _
      | exact LeO.none _
      | refine LeO.ite ?_ ?_
      | refine LeO.bind ?_ (fun _ => ?_)
set_option maxHeartbeats 8000000 in
set_option maxRecDepth 100000 in
theorem spec_l6sSlope.calls (k : Nat) (a0 : Int) (A1 : Option Addr) (c1 : Nat) (l1 : List Int) (A2 : Option Addr) (c2 : Nat) (l2 : List Int) (a3 : Int) (r : Int) (w : World) (hr1 : Kd.C (Kd.int .i64) w A1 l1.length l1) (hc1 : l1.length ≤ c1) (hr2 : Kd.C (Kd.int .i64) w A2 l2.length l2) (hc2 : l2.length ≤ c2) (h : spec_l6sSlope.f k a0 l1 l2 a3 = some r) :
    Calls Try.prog 66 #[.int .i64 a0, .slice A1 l1.length c1, .slice A2 l2.length c2, .int .i64 a3] w fun e w' => e = .returned (.int .i64 r) ∧ Drawn0 w w' := by
  have HR1 := Aside0.mk hr1
  have HC1 := Aside0.mk hc1
  clear hr1 hc1
  have HR2 := Aside0.mk hr2
  have HC2 := Aside0.mk hc2
  clear hr2 hc2
  have H : (spec_l6sSlope.l0 k a0 l1 l2 a3 0 0 0) = some r := h
  clear h
  have H' := Aside0.mk H
  clear H
  go_enter Try.func66, Try.ntmps66
  go_wp2
  repeat (go_quiet (fail); try go_wp2)
  go_loopg [9, 10, 11] k (fun kq v9 v10 v11 w' => ∃ (x9_1 : Int) (x10_1 : Int) (x11_1 : Int), v9 = .int .i64 x9_1 ∧ v10 = .int .i64 x10_1 ∧ v11 = .int .i64 x11_1 ∧ Aside0 (spec_l6sSlope.l0 kq a0 l1 l2 a3 x9_1 x10_1 x11_1 = some r) ∧ Aside0 (kq ≤ k) ∧ Drawn0 w w')
  case atStart => exact ⟨(0), (0), (0), (by first | rfl | (simp; done) | (simp [*]; done)), (by first | rfl | (simp; done) | (simp [*]; done)), (by first | rfl | (simp; done) | (simp [*]; done)), H', ⟨Nat.le_refl _⟩, by repeat (first | exact Drawn0.refl _ | apply Drawn0.step)⟩
  case round =>
    clear H'
    try clear c1
    try clear c2
    try clear p2
    obtain ⟨x9_1, x10_1, x11_1, rfl, rfl, rfl, HA, HK1, ⟨m1, rfl⟩⟩ := hrel
    cases gk with
    | zero => exact absurd HA.out (by simp [spec_l6sSlope.l0])
    | succ k1 =>
      have H := HA.out
      clear HA
      simp only [spec_l6sSlope.l0] at H
      by_cases c5 : x11_1 < 4
      · rw [if_pos c5] at H
        have c5b0 : decide (x11_1 < 4) = true := decide_eq_true c5
        clear c5
        have H' := Aside0.mk H
        clear H
        go_wp2
        repeat (go_quiet (fail); try go_wp2)
        go_loopg [9, 10, 12] k1 (fun kq v9 v10 v12 w' => ∃ (x9_2 : Int) (x10_2 : Int) (x12_2 : Int), v9 = .int .i64 x9_2 ∧ v10 = .int .i64 x10_2 ∧ v12 = .int .i64 x12_2 ∧ Aside0 (spec_l6sSlope.l1 kq a0 l1 l2 a3 x9_2 x10_2 x11_1 x12_2 = some r) ∧ Aside0 (kq ≤ k1) ∧ Drawn0 w w')
        case atStart => exact ⟨(x9_1), (x10_1), (x11_1), (by first | rfl | (simp; done) | (simp [*]; done)), (by first | rfl | (simp; done) | (simp [*]; done)), (by first | rfl | (simp; done) | (simp [*]; done)), H', ⟨Nat.le_refl _⟩, by repeat (first | exact Drawn0.refl _ | apply Drawn0.step)⟩
        case round =>
          clear H'
          try clear c1
          try clear c2
          try clear p2
          try clear c5
          try clear c5b0
          try clear p2
          obtain ⟨x9_2, x10_2, x12_2, rfl, rfl, rfl, HA, HK2, ⟨m2, rfl⟩⟩ := hrel
          cases gk with
          | zero => exact absurd HA.out (by simp [spec_l6sSlope.l1])
          | succ k2 =>
            have H := HA.out
            clear HA
            simp only [spec_l6sSlope.l1] at H
            by_cases c6 : x12_2 < 4
            · rw [if_pos c6] at H
              have c6b0 : decide (x12_2 < 4) = true := decide_eq_true c6
              clear c6
              have H' := Aside0.mk H
              clear H
              go_wp2
              repeat (go_quiet (fail); try go_wp2)
              go_loopg [9, 10, 13] k2 (fun kq v9 v10 v13 w' => ∃ (x9_3 : Int) (x10_3 : Int) (x13_3 : Int), v9 = .int .i64 x9_3 ∧ v10 = .int .i64 x10_3 ∧ v13 = .int .i64 x13_3 ∧ Aside0 (spec_l6sSlope.l2 kq a0 l1 l2 a3 x9_3 x10_3 x11_1 x12_2 x13_3 = some r) ∧ Aside0 (kq ≤ k2) ∧ Drawn0 w w')
              case atStart => exact ⟨(x9_2), (x10_2), (x12_2), (by first | rfl | (simp; done) | (simp [*]; done)), (by first | rfl | (simp; done) | (simp [*]; done)), (by first | rfl | (simp; done) | (simp [*]; done)), H', ⟨Nat.le_refl _⟩, by repeat (first | exact Drawn0.refl _ | apply Drawn0.step)⟩
              case round =>
                clear H'
                try clear c1
                try clear c2
                try clear p2
                try clear c5
                try clear c5b0
                try clear c6
                try clear c6b0
                try clear p2
                obtain ⟨x9_3, x10_3, x13_3, rfl, rfl, rfl, HA, HK3, ⟨m3, rfl⟩⟩ := hrel
                cases gk with
                | zero => exact absurd HA.out (by simp [spec_l6sSlope.l2])
                | succ k3 =>
                  have H := HA.out
                  clear HA
                  simp only [spec_l6sSlope.l2] at H
                  by_cases c7 : x13_3 < 4
                  · rw [if_pos c7] at H
                    have c7b0 : decide (x13_3 < 4) = true := decide_eq_true c7
                    clear c7
                    by_cases c8 : 0 ≤ x10_3
                    · rw [if_pos c8] at H
                      have c8b0 : decide (0 ≤ x10_3) = true := decide_eq_true c8
                      clear c8
                      by_cases c9 : x10_3 < (l1.length : Int)
                      · rw [if_pos c9] at H
                        have c9b0 : decide (x10_3 < (l1.length : Int)) = true := decide_eq_true c9
                        clear c9
                        have HC10 := Aside0.mk H
                        clear H
                        have p398 : 0 ≤ (x10_3 : Int) := of_decide_eq_true (by first | (with_reducible assumption) | assumption)
                        have q398 : x10_3 < (l1.length : Int) := of_decide_eq_true (by first | (with_reducible assumption) | assumption)
                        obtain ⟨ad398, e398, hx398_0⟩ := Kd.at_int HR1.out x10_3 p398 q398
                        cases e398
                        replace p398 := eq_true p398
                        replace q398 := eq_true q398
                        go_upto_if 35 with (fail)
                        repeat (go_quiet (fail); go_upto_if 35 with (fail))
                        go_cut [9] (fun v9 wc => ∃ (kq : Nat) (x9_9 : Int), v9 = .int .i64 x9_9 ∧ Aside0 (spec_l6sSlope.j3 kq a0 l1 l2 a3 x9_9 x10_3 x11_1 x12_2 x13_3 (rd l1 x10_3) = some r) ∧ Aside0 (kq ≤ k3) ∧ Drawn0 w wc)
                        case first =>
                          have H := HC10.out
                          clear HC10
                          by_cases c11 : x11_1 = a3
                          · rw [if_pos c11] at H
                            have c11b0 : (x11_1 == a3) = true := beq_iff_eq.mpr c11
                            have c11b1 : (x11_1 != a3) = false := bne_eq_false_iff_eq.mpr c11
                            clear c11
                            (first | rw [c11b0] | (simp only [i64_w, i32_w]; rw [c11b0]) | skip)
                            by_cases c12 : 0 ≤ x12_2
                            · rw [if_pos c12] at H
                              have c12b0 : decide (0 ≤ x12_2) = true := decide_eq_true c12
                              clear c12
                              by_cases c13 : x12_2 < (l2.length : Int)
                              · rw [if_pos c13] at H
                                have c13b0 : decide (x12_2 < (l2.length : Int)) = true := decide_eq_true c13
                                clear c13
                                by_cases c14 : a0 = 0
                                · rw [if_pos c14] at H
                                  exact absurd H (by simp)
                                · rw [if_neg c14] at H
                                  have c14b0 : (a0 == 0) = false := beq_eq_false_iff_ne.mpr c14
                                  have c14b1 : (a0 != 0) = true := bne_iff_ne.mpr c14
                                  by_cases c15 : 0 ≤ x13_3
                                  · rw [if_pos c15] at H
                                    have c15b0 : decide (0 ≤ x13_3) = true := decide_eq_true c15
                                    clear c15
                                    by_cases c16 : x13_3 < (l2.length : Int)
                                    · rw [if_pos c16] at H
                                      have c16b0 : decide (x13_3 < (l2.length : Int)) = true := decide_eq_true c16
                                      clear c16
                                      have H' := Aside0.mk H
                                      clear H
                                      have p399 : 0 ≤ (x12_2 : Int) := of_decide_eq_true (by first | (with_reducible assumption) | assumption)
                                      have q399 : x12_2 < (l2.length : Int) := of_decide_eq_true (by first | (with_reducible assumption) | assumption)
                                      obtain ⟨ad399, e399, hx399_0⟩ := Kd.at_int HR2.out x12_2 p399 q399
                                      cases e399
                                      replace p399 := eq_true p399
                                      replace q399 := eq_true q399
                                      have p400 : 0 ≤ (x13_3 : Int) := of_decide_eq_true (by first | (with_reducible assumption) | assumption)
                                      have q400 : x13_3 < (l2.length : Int) := of_decide_eq_true (by first | (with_reducible assumption) | assumption)
                                      obtain ⟨ad400, e400, hx400_0⟩ := Kd.at_int HR2.out x13_3 p400 q400
                                      obtain rfl : ad399 = ad400 := (by injection e400)
                                      replace p400 := eq_true p400
                                      replace q400 := eq_true q400
                                      go_wp2
                                      repeat (go_quiet (fail); try go_wp2)
                                      go_meet
                                      case rel => exact ⟨_, (Int.tmod (wrap64 (x9_3 + (wrap64 ((Int.tmod (wrap64 ((rd l1 x10_3) * (rd l2 x12_2))) a0) * (rd l2 x13_3))))) a0), (by first | rfl | (simp; done) | (simp [*]; done)), H', ⟨by have := HK1.out; have := HK2.out; have := HK3.out; first | omega | exact Nat.le_refl _⟩, by repeat (first | exact Drawn0.refl _ | apply Drawn0.step)⟩
                                    · rw [if_neg c16] at H
                                      exact absurd H (by simp)
                                  · rw [if_neg c15] at H
                                    exact absurd H (by simp)
                              · rw [if_neg c13] at H
                                exact absurd H (by simp)
                            · rw [if_neg c12] at H
                              exact absurd H (by simp)
                          · rw [if_neg c11] at H
                            have c11b0 : (x11_1 == a3) = false := beq_eq_false_iff_ne.mpr c11
                            have c11b1 : (x11_1 != a3) = true := bne_iff_ne.mpr c11
                            (first | rw [c11b0] | (simp only [i64_w, i32_w]; rw [c11b0]) | skip)
                            have H' := Aside0.mk H
                            clear H
                            go_wp2
                            repeat (go_quiet (fail); try go_wp2)
                            go_meet
                            case rel => exact ⟨_, (x9_3), (by first | rfl | (simp; done) | (simp [*]; done)), H', ⟨by have := HK1.out; have := HK2.out; have := HK3.out; first | omega | exact Nat.le_refl _⟩, by repeat (first | exact Drawn0.refl _ | apply Drawn0.step)⟩
                        case rest =>
                          clear HC10
                          try clear c1
                          try clear c2
                          try clear p2
                          try clear p3
                          try clear q3
                          try clear hx3
                          try clear p4
                          try clear q4
                          try clear hx4
                          try clear c5
                          try clear c5b0
                          try clear c6
                          try clear c6b0
                          try clear p6
                          try clear c7
                          try clear c7b0
                          try clear c8
                          try clear c8b0
                          try clear c9
                          try clear c9b0
                          try clear c11
                          try clear c11b0
                          try clear c11b1
                          try clear c12
                          try clear c12b0
                          try clear c13
                          try clear c13b0
                          try clear c14
                          try clear c14b0
                          try clear c14b1
                          try clear c15
                          try clear c15b0
                          try clear c16
                          try clear c16b0
                          try clear hx398_0
                          try clear hx399_0
                          try clear hx400_0
                          try clear p2
                          try clear p398
                          try clear p399
                          try clear p400
                          try clear q398
                          try clear q399
                          try clear q400
                          obtain ⟨kq, x9_9, rfl, HA, HJ9, ⟨mc9, rfl⟩⟩ := hcut
                          cases kq with
                          | zero => exact absurd HA.out (by simp [spec_l6sSlope.j3])
                          | succ kj9 =>
                            have H := HA.out
                            clear HA
                            simp only [spec_l6sSlope.j3] at H
                            by_cases c17 : x12_2 = a3
                            · rw [if_pos c17] at H
                              have c17b0 : (x12_2 == a3) = true := beq_iff_eq.mpr c17
                              have c17b1 : (x12_2 != a3) = false := bne_eq_false_iff_eq.mpr c17
                              clear c17
                              by_cases c18 : 0 ≤ x11_1
                              · rw [if_pos c18] at H
                                have c18b0 : decide (0 ≤ x11_1) = true := decide_eq_true c18
                                clear c18
                                by_cases c19 : x11_1 < (l2.length : Int)
                                · rw [if_pos c19] at H
                                  have c19b0 : decide (x11_1 < (l2.length : Int)) = true := decide_eq_true c19
                                  clear c19
                                  by_cases c20 : a0 = 0
                                  · rw [if_pos c20] at H
                                    exact absurd H (by simp)
                                  · rw [if_neg c20] at H
                                    have c20b0 : (a0 == 0) = false := beq_eq_false_iff_ne.mpr c20
                                    have c20b1 : (a0 != 0) = true := bne_iff_ne.mpr c20
                                    by_cases c21 : 0 ≤ x13_3
                                    · rw [if_pos c21] at H
                                      have c21b0 : decide (0 ≤ x13_3) = true := decide_eq_true c21
                                      clear c21
                                      by_cases c22 : x13_3 < (l2.length : Int)
                                      · rw [if_pos c22] at H
                                        have c22b0 : decide (x13_3 < (l2.length : Int)) = true := decide_eq_true c22
                                        clear c22
                                        by_cases c23 : x13_3 = a3
                                        · rw [if_pos c23] at H
                                          have c23b0 : (x13_3 == a3) = true := beq_iff_eq.mpr c23
                                          have c23b1 : (x13_3 != a3) = false := bne_eq_false_iff_eq.mpr c23
                                          clear c23
                                          by_cases c24 : 0 ≤ x12_2
                                          · rw [if_pos c24] at H
                                            have c24b0 : decide (0 ≤ x12_2) = true := decide_eq_true c24
                                            clear c24
                                            by_cases c25 : x12_2 < (l2.length : Int)
                                            · rw [if_pos c25] at H
                                              have c25b0 : decide (x12_2 < (l2.length : Int)) = true := decide_eq_true c25
                                              clear c25
                                              have H' := Aside0.mk H
                                              clear H
                                              have p401 : 0 ≤ (x11_1 : Int) := of_decide_eq_true (by first | (with_reducible assumption) | assumption)
                                              have q401 : x11_1 < (l2.length : Int) := of_decide_eq_true (by first | (with_reducible assumption) | assumption)
                                              obtain ⟨ad401, e401, hx401_0⟩ := Kd.at_int HR2.out x11_1 p401 q401
                                              cases e401
                                              replace p401 := eq_true p401
                                              replace q401 := eq_true q401
                                              have p402 : 0 ≤ (x13_3 : Int) := of_decide_eq_true (by first | (with_reducible assumption) | assumption)
                                              have q402 : x13_3 < (l2.length : Int) := of_decide_eq_true (by first | (with_reducible assumption) | assumption)
                                              obtain ⟨ad402, e402, hx402_0⟩ := Kd.at_int HR2.out x13_3 p402 q402
                                              obtain rfl : ad401 = ad402 := (by injection e402)
                                              replace p402 := eq_true p402
                                              replace q402 := eq_true q402
                                              have p403 : 0 ≤ (x11_1 : Int) := of_decide_eq_true (by first | (with_reducible assumption) | assumption)
                                              have q403 : x11_1 < (l2.length : Int) := of_decide_eq_true (by first | (with_reducible assumption) | assumption)
                                              obtain ⟨ad403, e403, hx403_0⟩ := Kd.at_int HR2.out x11_1 p403 q403
                                              obtain rfl : ad401 = ad403 := (by injection e403)
                                              replace p403 := eq_true p403
                                              replace q403 := eq_true q403
                                              have p404 : 0 ≤ (x12_2 : Int) := of_decide_eq_true (by first | (with_reducible assumption) | assumption)
                                              have q404 : x12_2 < (l2.length : Int) := of_decide_eq_true (by first | (with_reducible assumption) | assumption)
                                              obtain ⟨ad404, e404, hx404_0⟩ := Kd.at_int HR2.out x12_2 p404 q404
                                              obtain rfl : ad401 = ad404 := (by injection e404)
                                              replace p404 := eq_true p404
                                              replace q404 := eq_true q404
                                              go_wp2
                                              repeat (go_quiet (fail); try go_wp2)
                                              go_roundg kj9
                                              case measure => have := HK1.out; have := HK2.out; have := HK3.out; have := HJ9.out; omega
                                              case rel => exact ⟨(Int.tmod (wrap64 ((Int.tmod (wrap64 (x9_9 + (wrap64 ((Int.tmod (wrap64 ((rd l1 x10_3) * (rd l2 x11_1))) a0) * (rd l2 x13_3))))) a0) + (wrap64 ((Int.tmod (wrap64 ((rd l1 x10_3) * (rd l2 x11_1))) a0) * (rd l2 x12_2))))) a0), (wrap64 (x10_3 + 1)), (wrap64 (x13_3 + 1)), (by first | rfl | (simp; done) | (simp [*]; done)), (by first | rfl | (simp; done) | (simp [*]; done)), (by first | rfl | (simp; done) | (simp [*]; done)), H', ⟨by have := HK1.out; have := HK2.out; have := HK3.out; have := HJ9.out; omega⟩, by repeat (first | exact Drawn0.refl _ | apply Drawn0.step)⟩
                                            · rw [if_neg c25] at H
                                              exact absurd H (by simp)
                                          · rw [if_neg c24] at H
                                            exact absurd H (by simp)
                                        · rw [if_neg c23] at H
                                          have c23b0 : (x13_3 == a3) = false := beq_eq_false_iff_ne.mpr c23
                                          have c23b1 : (x13_3 != a3) = true := bne_iff_ne.mpr c23
                                          have H' := Aside0.mk H
                                          clear H
                                          have p401 : 0 ≤ (x11_1 : Int) := of_decide_eq_true (by first | (with_reducible assumption) | assumption)
                                          have q401 : x11_1 < (l2.length : Int) := of_decide_eq_true (by first | (with_reducible assumption) | assumption)
                                          obtain ⟨ad401, e401, hx401_0⟩ := Kd.at_int HR2.out x11_1 p401 q401
                                          cases e401
                                          replace p401 := eq_true p401
                                          replace q401 := eq_true q401
                                          have p402 : 0 ≤ (x13_3 : Int) := of_decide_eq_true (by first | (with_reducible assumption) | assumption)
                                          have q402 : x13_3 < (l2.length : Int) := of_decide_eq_true (by first | (with_reducible assumption) | assumption)
                                          obtain ⟨ad402, e402, hx402_0⟩ := Kd.at_int HR2.out x13_3 p402 q402
                                          obtain rfl : ad401 = ad402 := (by injection e402)
                                          replace p402 := eq_true p402
                                          replace q402 := eq_true q402
                                          go_wp2
                                          repeat (go_quiet (fail); try go_wp2)
                                          go_roundg kj9
                                          case measure => have := HK1.out; have := HK2.out; have := HK3.out; have := HJ9.out; omega
                                          case rel => exact ⟨(Int.tmod (wrap64 (x9_9 + (wrap64 ((Int.tmod (wrap64 ((rd l1 x10_3) * (rd l2 x11_1))) a0) * (rd l2 x13_3))))) a0), (wrap64 (x10_3 + 1)), (wrap64 (x13_3 + 1)), (by first | rfl | (simp; done) | (simp [*]; done)), (by first | rfl | (simp; done) | (simp [*]; done)), (by first | rfl | (simp; done) | (simp [*]; done)), H', ⟨by have := HK1.out; have := HK2.out; have := HK3.out; have := HJ9.out; omega⟩, by repeat (first | exact Drawn0.refl _ | apply Drawn0.step)⟩
                                      · rw [if_neg c22] at H
                                        exact absurd H (by simp)
                                    · rw [if_neg c21] at H
                                      exact absurd H (by simp)
                                · rw [if_neg c19] at H
                                  exact absurd H (by simp)
                              · rw [if_neg c18] at H
                                exact absurd H (by simp)
                            · rw [if_neg c17] at H
                              have c17b0 : (x12_2 == a3) = false := beq_eq_false_iff_ne.mpr c17
                              have c17b1 : (x12_2 != a3) = true := bne_iff_ne.mpr c17
                              by_cases c26 : x13_3 = a3
                              · rw [if_pos c26] at H
                                have c26b0 : (x13_3 == a3) = true := beq_iff_eq.mpr c26
                                have c26b1 : (x13_3 != a3) = false := bne_eq_false_iff_eq.mpr c26
                                clear c26
                                by_cases c27 : 0 ≤ x11_1
                                · rw [if_pos c27] at H
                                  have c27b0 : decide (0 ≤ x11_1) = true := decide_eq_true c27
                                  clear c27
                                  by_cases c28 : x11_1 < (l2.length : Int)
                                  · rw [if_pos c28] at H
                                    have c28b0 : decide (x11_1 < (l2.length : Int)) = true := decide_eq_true c28
                                    clear c28
                                    by_cases c29 : a0 = 0
                                    · rw [if_pos c29] at H
                                      exact absurd H (by simp)
                                    · rw [if_neg c29] at H
                                      have c29b0 : (a0 == 0) = false := beq_eq_false_iff_ne.mpr c29
                                      have c29b1 : (a0 != 0) = true := bne_iff_ne.mpr c29
                                      by_cases c30 : 0 ≤ x12_2
                                      · rw [if_pos c30] at H
                                        have c30b0 : decide (0 ≤ x12_2) = true := decide_eq_true c30
                                        clear c30
                                        by_cases c31 : x12_2 < (l2.length : Int)
                                        · rw [if_pos c31] at H
                                          have c31b0 : decide (x12_2 < (l2.length : Int)) = true := decide_eq_true c31
                                          clear c31
                                          have H' := Aside0.mk H
                                          clear H
                                          have p405 : 0 ≤ (x11_1 : Int) := of_decide_eq_true (by first | (with_reducible assumption) | assumption)
                                          have q405 : x11_1 < (l2.length : Int) := of_decide_eq_true (by first | (with_reducible assumption) | assumption)
                                          obtain ⟨ad405, e405, hx405_0⟩ := Kd.at_int HR2.out x11_1 p405 q405
                                          cases e405
                                          replace p405 := eq_true p405
                                          replace q405 := eq_true q405
                                          have p406 : 0 ≤ (x12_2 : Int) := of_decide_eq_true (by first | (with_reducible assumption) | assumption)
                                          have q406 : x12_2 < (l2.length : Int) := of_decide_eq_true (by first | (with_reducible assumption) | assumption)
                                          obtain ⟨ad406, e406, hx406_0⟩ := Kd.at_int HR2.out x12_2 p406 q406
                                          obtain rfl : ad405 = ad406 := (by injection e406)
                                          replace p406 := eq_true p406
                                          replace q406 := eq_true q406
                                          go_wp2
                                          repeat (go_quiet (fail); try go_wp2)
                                          go_roundg kj9
                                          case measure => have := HK1.out; have := HK2.out; have := HK3.out; have := HJ9.out; omega
                                          case rel => exact ⟨(Int.tmod (wrap64 (x9_9 + (wrap64 ((Int.tmod (wrap64 ((rd l1 x10_3) * (rd l2 x11_1))) a0) * (rd l2 x12_2))))) a0), (wrap64 (x10_3 + 1)), (wrap64 (x13_3 + 1)), (by first | rfl | (simp; done) | (simp [*]; done)), (by first | rfl | (simp; done) | (simp [*]; done)), (by first | rfl | (simp; done) | (simp [*]; done)), H', ⟨by have := HK1.out; have := HK2.out; have := HK3.out; have := HJ9.out; omega⟩, by repeat (first | exact Drawn0.refl _ | apply Drawn0.step)⟩
                                        · rw [if_neg c31] at H
                                          exact absurd H (by simp)
                                      · rw [if_neg c30] at H
                                        exact absurd H (by simp)
                                  · rw [if_neg c28] at H
                                    exact absurd H (by simp)
                                · rw [if_neg c27] at H
                                  exact absurd H (by simp)
                              · rw [if_neg c26] at H
                                have c26b0 : (x13_3 == a3) = false := beq_eq_false_iff_ne.mpr c26
                                have c26b1 : (x13_3 != a3) = true := bne_iff_ne.mpr c26
                                have H' := Aside0.mk H
                                clear H
                                go_wp2
                                repeat (go_quiet (fail); try go_wp2)
                                go_roundg kj9
                                case measure => have := HK1.out; have := HK2.out; have := HK3.out; have := HJ9.out; omega
                                case rel => exact ⟨(x9_9), (wrap64 (x10_3 + 1)), (wrap64 (x13_3 + 1)), (by first | rfl | (simp; done) | (simp [*]; done)), (by first | rfl | (simp; done) | (simp [*]; done)), (by first | rfl | (simp; done) | (simp [*]; done)), H', ⟨by have := HK1.out; have := HK2.out; have := HK3.out; have := HJ9.out; omega⟩, by repeat (first | exact Drawn0.refl _ | apply Drawn0.step)⟩
                      · rw [if_neg c9] at H
                        exact absurd H (by simp)
                    · rw [if_neg c8] at H
                      exact absurd H (by simp)
                  · rw [if_neg c7] at H
                    have c7b0 : decide (x13_3 < 4) = false := decide_eq_false c7
                    clear c7
                    have H' := Aside0.mk H
                    clear H
                    go_wp2
                    repeat (go_quiet (fail); try go_wp2)
                    go_roundg k3
                    case measure => have := HK1.out; have := HK2.out; have := HK3.out; omega
                    case rel => exact ⟨(x9_3), (x10_3), (wrap64 (x12_2 + 1)), (by first | rfl | (simp; done) | (simp [*]; done)), (by first | rfl | (simp; done) | (simp [*]; done)), (by first | rfl | (simp; done) | (simp [*]; done)), H', ⟨by have := HK1.out; have := HK2.out; have := HK3.out; omega⟩, by repeat (first | exact Drawn0.refl _ | apply Drawn0.step)⟩
            · rw [if_neg c6] at H
              have c6b0 : decide (x12_2 < 4) = false := decide_eq_false c6
              clear c6
              have H' := Aside0.mk H
              clear H
              go_wp2
              repeat (go_quiet (fail); try go_wp2)
              go_roundg k2
              case measure => have := HK1.out; have := HK2.out; omega
              case rel => exact ⟨(x9_2), (x10_2), (wrap64 (x11_1 + 1)), (by first | rfl | (simp; done) | (simp [*]; done)), (by first | rfl | (simp; done) | (simp [*]; done)), (by first | rfl | (simp; done) | (simp [*]; done)), H', ⟨by have := HK1.out; have := HK2.out; omega⟩, by repeat (first | exact Drawn0.refl _ | apply Drawn0.step)⟩
      · rw [if_neg c5] at H
        have c5b0 : decide (x11_1 < 4) = false := decide_eq_false c5
        clear c5
        obtain rfl := Option.some.inj H
        go_wp2
        repeat (go_quiet (fail); try go_wp2)
        go_ret
        exact ⟨by first | rfl | (simp; done) | (simp [*]; done), by repeat (first | exact Drawn0.refl _ | apply Drawn0.step)⟩

/-! ### spec_FormSmooth: function 30 -/
def spec_FormSmooth.l0 : Nat → Int → List Int → Int → Option (Bool)
  | 0, _, _, _ => none
  | k + 1, x0, x1, x5 => if x5 < (wrap64 ((wrap64 ((wrap64 (1 + x0)) + (wrap64 (x0 * x0)))) + (wrap64 ((wrap64 (x0 * x0)) * x0)))) then ((spec_l6sPlace.f x0 x5).bind fun t408 => ((spec_l6sValue.f k x0 x1 t408).bind fun t411 => (if t411 = 0 then ((spec_l6sSlope.f k x0 x1 t408 0).bind fun t412 => (if t412 = 0 then ((spec_l6sSlope.f k x0 x1 t408 1).bind fun t413 => (if t413 = 0 then ((spec_l6sSlope.f k x0 x1 t408 2).bind fun t414 => (if t414 = 0 then ((spec_l6sSlope.f k x0 x1 t408 3).bind fun t415 => (if t415 = 0 then (some false) else (spec_FormSmooth.l0 k x0 x1 (wrap64 (x5 + 1))))) else (spec_FormSmooth.l0 k x0 x1 (wrap64 (x5 + 1))))) else (spec_FormSmooth.l0 k x0 x1 (wrap64 (x5 + 1))))) else (spec_FormSmooth.l0 k x0 x1 (wrap64 (x5 + 1))))) else (spec_FormSmooth.l0 k x0 x1 (wrap64 (x5 + 1)))))) else (some true)
def spec_FormSmooth.f (k : Nat) (a0 : Int) (l1 : List Int) : Option (Bool) := (spec_FormIn.f k a0 l1).bind fun t407 => (if t407 = true then (spec_FormSmooth.l0 k a0 l1 0) else (some false))
theorem spec_FormSmooth.mono_l : ∀ k, (∀ y0 y1 y2, LeO (spec_FormSmooth.l0 k y0 y1 y2) (spec_FormSmooth.l0 (k + 1) y0 y1 y2))
  | 0 => fun _ _ _ r h => by simp [spec_FormSmooth.l0] at h
  | k + 1 => by
    have ih0 := spec_FormSmooth.mono_l k
    · intro y0 y1 y2
      unfold spec_FormSmooth.l0
      repeat' first
      | (with_reducible exact ih0 _ _ _)
      | (with_reducible exact spec_FormIn.mono _ _ _)
      | (with_reducible exact spec_l6sSlope.mono _ _ _ _ _)
      | (with_reducible exact spec_l6sValue.mono _ _ _ _)
      | (with_reducible exact LeO.refl _)
      | (with_reducible exact LeO.none _)
      | (with_reducible refine LeO.ite ?_ ?_)
      | (with_reducible refine LeO.bind ?_ (fun _ => ?_))
      | exact ih0 _ _ _
      | exact spec_FormIn.mono _ _ _
      | exact spec_l6sSlope.mono _ _ _ _ _
      | exact spec_l6sValue.mono _ _ _ _
      | exact LeO.none _
      | refine LeO.ite ?_ ?_
      | refine LeO.bind ?_ (fun _ => ?_)
theorem spec_FormSmooth.mono : ∀ a0 a1 k, LeO (spec_FormSmooth.f k a0 a1) (spec_FormSmooth.f (k + 1) a0 a1) := by
  intro a0 a1 k
  have ih0 := spec_FormSmooth.mono_l k
  unfold spec_FormSmooth.f
  repeat' first
      | (with_reducible exact ih0 _ _ _)
      | (with_reducible exact spec_FormIn.mono _ _ _)
      | (with_reducible exact spec_l6sSlope.mono _ _ _ _ _)
      | (with_reducible exact spec_l6sValue.mono _ _ _ _)
      | (with_reducible exact LeO.refl _)
      | (with_reducible exact LeO.none _)
      | (with_reducible refine LeO.ite ?_ ?_)
      | (with_reducible refine LeO.bind ?_ (fun _ => ?_))
      | exact ih0 _ _ _
      | exact spec_FormIn.mono _ _ _
      | exact spec_l6sSlope.mono _ _ _ _ _
      | exact spec_l6sValue.mono _ _ _ _
      | exact LeO.none _
      | refine LeO.ite ?_ ?_
      | refine LeO.bind ?_ (fun _ => ?_)
set_option maxHeartbeats 8000000 in
set_option maxRecDepth 100000 in
theorem spec_FormSmooth.calls (k : Nat) (a0 : Int) (A1 : Option Addr) (c1 : Nat) (l1 : List Int) (r : Bool) (w : World) (hr1 : Kd.C (Kd.int .i64) w A1 l1.length l1) (hc1 : l1.length ≤ c1) (h : spec_FormSmooth.f k a0 l1 = some r) :
    Calls Try.prog 30 #[.int .i64 a0, .slice A1 l1.length c1] w fun e w' => e = .returned (.bool r) ∧ Below w.heap.size w w' := by
  have HR1 := Aside0.mk hr1
  have HC1 := Aside0.mk hc1
  clear hr1 hc1
  have HB := Aside0.mk (Below.refl w.heap.size w)
  have H : ((spec_FormIn.f k a0 l1).bind fun t407 => (if t407 = true then (spec_FormSmooth.l0 k a0 l1 0) else (some false))) = some r := h
  clear h
  replace H := Option.bind_eq_some_iff.mp H
  obtain ⟨t407, A30, H⟩ := H
  replace H : (if t407 = true then (spec_FormSmooth.l0 k a0 l1 0) else (some false)) = some r := H
  have A3 := Aside0.mk A30
  clear A30
  by_cases c4 : t407 = true
  · subst c4
    have H1 : (spec_FormSmooth.l0 k a0 l1 0) = some r := by rw [if_pos rfl] at H; exact H
    clear H
    have H := H1
    clear H1
    have H' := Aside0.mk H
    clear H
    go_enter Try.func30, Try.ntmps30
    go_wp2_with (first | ((with_reducible refine gate_callee (f := 46) rfl ?_); refine goesL_ (some 9) rfl rfl Try.func46 (by kernel_rfl) rfl #[.int .i64 a0, .slice A1 l1.length c1] rfl (by (try simp only [List.map_toArray, List.map_cons, List.map_nil]); first | done | rfl | (simp only [List.length_drop, List.length_take]; rfl)) ?_; (with_reducible refine (spec_FormIn.calls k a0 _ _ l1 true _ ?side1 ?side2 A3.out).mono ?_); (case side1 => repeat (first | exact HR1.out | (with_reducible refine Kd.C_alloc ?_ _) | (with_reducible refine Kd.C_drewN ?_ _) | (with_reducible refine Kd.C_drew ?_))); (case side2 => exact HC1.out); rintro e w' ⟨rfl, ⟨nd, rfl⟩⟩; refine ⟨_, rfl, ?_⟩))
    go_loopg [5] k (fun kq v5 w' => ∃ (x5_1 : Int), v5 = .int .i64 x5_1 ∧ Aside0 (spec_FormSmooth.l0 kq a0 l1 x5_1 = some r) ∧ Aside0 (kq ≤ k) ∧ Aside0 (Below w.heap.size w w'))
    case atStart => exact ⟨(0), (by first | rfl | (simp; done) | (simp [*]; done)), H', ⟨Nat.le_refl _⟩, ⟨by repeat (first | (with_reducible first | exact HB.out | apply below_alloc | apply pw_below_drewN | apply below_drew1) | exact HB.out)⟩⟩
    case round =>
      clear H'
      try clear c1
      try clear p2
      try clear c3
      try clear c4
      obtain ⟨x5_1, rfl, HA, HK1, HB⟩ := hrel
      cases gk with
      | zero => exact absurd HA.out (by simp [spec_FormSmooth.l0])
      | succ k1 =>
        have H := HA.out
        clear HA
        simp only [spec_FormSmooth.l0] at H
        by_cases c5 : x5_1 < (wrap64 ((wrap64 ((wrap64 (1 + a0)) + (wrap64 (a0 * a0)))) + (wrap64 ((wrap64 (a0 * a0)) * a0))))
        · rw [if_pos c5] at H
          have c5b0 : decide (x5_1 < (wrap64 ((wrap64 ((wrap64 (1 + a0)) + (wrap64 (a0 * a0)))) + (wrap64 ((wrap64 (a0 * a0)) * a0))))) = true := decide_eq_true c5
          clear c5
          replace H := Option.bind_eq_some_iff.mp H
          obtain ⟨t408, A60, H⟩ := H
          replace H : ((spec_l6sValue.f k1 a0 l1 t408).bind fun t411 => (if t411 = 0 then ((spec_l6sSlope.f k1 a0 l1 t408 0).bind fun t412 => (if t412 = 0 then ((spec_l6sSlope.f k1 a0 l1 t408 1).bind fun t413 => (if t413 = 0 then ((spec_l6sSlope.f k1 a0 l1 t408 2).bind fun t414 => (if t414 = 0 then ((spec_l6sSlope.f k1 a0 l1 t408 3).bind fun t415 => (if t415 = 0 then (some false) else (spec_FormSmooth.l0 k1 a0 l1 (wrap64 (x5_1 + 1))))) else (spec_FormSmooth.l0 k1 a0 l1 (wrap64 (x5_1 + 1))))) else (spec_FormSmooth.l0 k1 a0 l1 (wrap64 (x5_1 + 1))))) else (spec_FormSmooth.l0 k1 a0 l1 (wrap64 (x5_1 + 1))))) else (spec_FormSmooth.l0 k1 a0 l1 (wrap64 (x5_1 + 1))))) = some r := H
          have A6 := Aside0.mk A60
          clear A60
          replace H := Option.bind_eq_some_iff.mp H
          obtain ⟨t411, A70, H⟩ := H
          replace H : (if t411 = 0 then ((spec_l6sSlope.f k1 a0 l1 t408 0).bind fun t412 => (if t412 = 0 then ((spec_l6sSlope.f k1 a0 l1 t408 1).bind fun t413 => (if t413 = 0 then ((spec_l6sSlope.f k1 a0 l1 t408 2).bind fun t414 => (if t414 = 0 then ((spec_l6sSlope.f k1 a0 l1 t408 3).bind fun t415 => (if t415 = 0 then (some false) else (spec_FormSmooth.l0 k1 a0 l1 (wrap64 (x5_1 + 1))))) else (spec_FormSmooth.l0 k1 a0 l1 (wrap64 (x5_1 + 1))))) else (spec_FormSmooth.l0 k1 a0 l1 (wrap64 (x5_1 + 1))))) else (spec_FormSmooth.l0 k1 a0 l1 (wrap64 (x5_1 + 1))))) else (spec_FormSmooth.l0 k1 a0 l1 (wrap64 (x5_1 + 1)))) = some r := H
          have A7 := Aside0.mk A70
          clear A70
          by_cases c8 : t411 = 0
          · rw [if_pos c8] at H
            have c8b0 : (t411 == 0) = true := beq_iff_eq.mpr c8
            have c8b1 : (t411 != 0) = false := bne_eq_false_iff_eq.mpr c8
            clear c8
            replace H := Option.bind_eq_some_iff.mp H
            obtain ⟨t412, A90, H⟩ := H
            replace H : (if t412 = 0 then ((spec_l6sSlope.f k1 a0 l1 t408 1).bind fun t413 => (if t413 = 0 then ((spec_l6sSlope.f k1 a0 l1 t408 2).bind fun t414 => (if t414 = 0 then ((spec_l6sSlope.f k1 a0 l1 t408 3).bind fun t415 => (if t415 = 0 then (some false) else (spec_FormSmooth.l0 k1 a0 l1 (wrap64 (x5_1 + 1))))) else (spec_FormSmooth.l0 k1 a0 l1 (wrap64 (x5_1 + 1))))) else (spec_FormSmooth.l0 k1 a0 l1 (wrap64 (x5_1 + 1))))) else (spec_FormSmooth.l0 k1 a0 l1 (wrap64 (x5_1 + 1)))) = some r := H
            have A9 := Aside0.mk A90
            clear A90
            by_cases c10 : t412 = 0
            · rw [if_pos c10] at H
              have c10b0 : (t412 == 0) = true := beq_iff_eq.mpr c10
              have c10b1 : (t412 != 0) = false := bne_eq_false_iff_eq.mpr c10
              clear c10
              replace H := Option.bind_eq_some_iff.mp H
              obtain ⟨t413, A110, H⟩ := H
              replace H : (if t413 = 0 then ((spec_l6sSlope.f k1 a0 l1 t408 2).bind fun t414 => (if t414 = 0 then ((spec_l6sSlope.f k1 a0 l1 t408 3).bind fun t415 => (if t415 = 0 then (some false) else (spec_FormSmooth.l0 k1 a0 l1 (wrap64 (x5_1 + 1))))) else (spec_FormSmooth.l0 k1 a0 l1 (wrap64 (x5_1 + 1))))) else (spec_FormSmooth.l0 k1 a0 l1 (wrap64 (x5_1 + 1)))) = some r := H
              have A11 := Aside0.mk A110
              clear A110
              by_cases c12 : t413 = 0
              · rw [if_pos c12] at H
                have c12b0 : (t413 == 0) = true := beq_iff_eq.mpr c12
                have c12b1 : (t413 != 0) = false := bne_eq_false_iff_eq.mpr c12
                clear c12
                replace H := Option.bind_eq_some_iff.mp H
                obtain ⟨t414, A130, H⟩ := H
                replace H : (if t414 = 0 then ((spec_l6sSlope.f k1 a0 l1 t408 3).bind fun t415 => (if t415 = 0 then (some false) else (spec_FormSmooth.l0 k1 a0 l1 (wrap64 (x5_1 + 1))))) else (spec_FormSmooth.l0 k1 a0 l1 (wrap64 (x5_1 + 1)))) = some r := H
                have A13 := Aside0.mk A130
                clear A130
                by_cases c14 : t414 = 0
                · rw [if_pos c14] at H
                  have c14b0 : (t414 == 0) = true := beq_iff_eq.mpr c14
                  have c14b1 : (t414 != 0) = false := bne_eq_false_iff_eq.mpr c14
                  clear c14
                  replace H := Option.bind_eq_some_iff.mp H
                  obtain ⟨t415, A150, H⟩ := H
                  replace H : (if t415 = 0 then (some false) else (spec_FormSmooth.l0 k1 a0 l1 (wrap64 (x5_1 + 1)))) = some r := H
                  have A15 := Aside0.mk A150
                  clear A150
                  by_cases c16 : t415 = 0
                  · rw [if_pos c16] at H
                    have c16b0 : (t415 == 0) = true := beq_iff_eq.mpr c16
                    have c16b1 : (t415 != 0) = false := bne_eq_false_iff_eq.mpr c16
                    clear c16
                    obtain rfl := Option.some.inj H
                    go_wp2_with (first | ((with_reducible refine gate_callee (f := 48) rfl ?_); refine goesL_ (some 29) rfl rfl Try.func48 (by kernel_rfl) rfl #[.int .i64 a0, .int .i64 x5_1] rfl (by (try simp only [List.map_toArray, List.map_cons, List.map_nil]); first | done | rfl | (simp only [List.length_drop, List.length_take]; rfl)) ?_; (with_reducible refine (spec_l6sPlace.calls a0 x5_1 t408 _ A6.out).mono ?_); rintro e w17 ⟨v409, rfl, ho0, hb⟩; refine ⟨_, rfl, ?_⟩; have n0_ := Aside0.mk (Kd.R_lower ho0 (below_size (by repeat (first | (with_reducible first | exact HB.out | apply below_alloc | apply pw_below_drewN | apply below_drew1) | exact HB.out)))); have n1_ := Aside0.mk (below_step (by repeat (first | (with_reducible first | exact HB.out | apply below_alloc | apply pw_below_drewN | apply below_drew1) | exact HB.out)) hb); clear HB; have HO410 := n0_; have HB := n1_; clear n0_ n1_; (try clear hb); (try clear hb2); (try clear hk); (try clear hi); (try clear ho0); obtain ⟨Ao18, co18, eo18⟩ := Kd.R_slice HO410.out; subst eo18) | ((with_reducible refine gate_callee (f := 47) rfl ?_); refine goesL_ (some 33) rfl rfl Try.func47 (by kernel_rfl) rfl #[.int .i64 a0, .slice A1 l1.length c1, .slice Ao18 t408.length co18] rfl (by (try simp only [List.map_toArray, List.map_cons, List.map_nil]); first | done | rfl | (simp only [List.length_drop, List.length_take]; rfl)) ?_; (with_reducible refine (spec_l6sValue.calls k1 a0 _ _ l1 _ _ t408 t411 _ ?side1 ?side2 ?side3 ?side4 A7.out).mono ?_); (case side1 => repeat (first | exact (Kd.C_below HR1.out HB.out) | (with_reducible refine Kd.C_alloc ?_ _) | (with_reducible refine Kd.C_drewN ?_ _) | (with_reducible refine Kd.C_drew ?_))); (case side2 => exact HC1.out); (case side3 => repeat (first | exact (Kd.R_reads' HO410.out).2.2 | (with_reducible refine Kd.C_alloc ?_ _) | (with_reducible refine Kd.C_drewN ?_ _) | (with_reducible refine Kd.C_drew ?_))); (case side4 => exact (Kd.R_reads' HO410.out).2.1); rintro e w' ⟨rfl, ⟨nd, rfl⟩⟩; refine ⟨_, rfl, ?_⟩) | (go_at_call 66; (with_reducible refine (spec_l6sSlope.calls k1 a0 _ _ l1 _ _ t408 0 t412 _ ?side1 ?side2 ?side3 ?side4 A9.out).mono ?_); (case side1 => repeat (first | exact (Kd.C_below HR1.out (by repeat (first | (with_reducible first | exact HB.out | apply below_alloc | apply pw_below_drewN | apply below_drew1) | exact HB.out))) | (with_reducible refine Kd.C_alloc ?_ _) | (with_reducible refine Kd.C_drewN ?_ _) | (with_reducible refine Kd.C_drew ?_))); (case side2 => exact HC1.out); (case side3 => repeat (first | exact (Kd.R_reads' HO410.out).2.2 | (with_reducible refine Kd.C_alloc ?_ _) | (with_reducible refine Kd.C_drewN ?_ _) | (with_reducible refine Kd.C_drew ?_))); (case side4 => exact (Kd.R_reads' HO410.out).2.1); rintro e w' ⟨rfl, ⟨nd, rfl⟩⟩) | (go_at_call 66; (with_reducible refine (spec_l6sSlope.calls k1 a0 _ _ l1 _ _ t408 1 t413 _ ?side1 ?side2 ?side3 ?side4 A11.out).mono ?_); (case side1 => repeat (first | exact (Kd.C_below HR1.out (by repeat (first | (with_reducible first | exact HB.out | apply below_alloc | apply pw_below_drewN | apply below_drew1) | exact HB.out))) | (with_reducible refine Kd.C_alloc ?_ _) | (with_reducible refine Kd.C_drewN ?_ _) | (with_reducible refine Kd.C_drew ?_))); (case side2 => exact HC1.out); (case side3 => repeat (first | exact (Kd.R_reads' HO410.out).2.2 | (with_reducible refine Kd.C_alloc ?_ _) | (with_reducible refine Kd.C_drewN ?_ _) | (with_reducible refine Kd.C_drew ?_))); (case side4 => exact (Kd.R_reads' HO410.out).2.1); rintro e w' ⟨rfl, ⟨nd, rfl⟩⟩) | (go_at_call 66; (with_reducible refine (spec_l6sSlope.calls k1 a0 _ _ l1 _ _ t408 2 t414 _ ?side1 ?side2 ?side3 ?side4 A13.out).mono ?_); (case side1 => repeat (first | exact (Kd.C_below HR1.out (by repeat (first | (with_reducible first | exact HB.out | apply below_alloc | apply pw_below_drewN | apply below_drew1) | exact HB.out))) | (with_reducible refine Kd.C_alloc ?_ _) | (with_reducible refine Kd.C_drewN ?_ _) | (with_reducible refine Kd.C_drew ?_))); (case side2 => exact HC1.out); (case side3 => repeat (first | exact (Kd.R_reads' HO410.out).2.2 | (with_reducible refine Kd.C_alloc ?_ _) | (with_reducible refine Kd.C_drewN ?_ _) | (with_reducible refine Kd.C_drew ?_))); (case side4 => exact (Kd.R_reads' HO410.out).2.1); rintro e w' ⟨rfl, ⟨nd, rfl⟩⟩) | (go_at_call 66; (with_reducible refine (spec_l6sSlope.calls k1 a0 _ _ l1 _ _ t408 3 t415 _ ?side1 ?side2 ?side3 ?side4 A15.out).mono ?_); (case side1 => repeat (first | exact (Kd.C_below HR1.out (by repeat (first | (with_reducible first | exact HB.out | apply below_alloc | apply pw_below_drewN | apply below_drew1) | exact HB.out))) | (with_reducible refine Kd.C_alloc ?_ _) | (with_reducible refine Kd.C_drewN ?_ _) | (with_reducible refine Kd.C_drew ?_))); (case side2 => exact HC1.out); (case side3 => repeat (first | exact (Kd.R_reads' HO410.out).2.2 | (with_reducible refine Kd.C_alloc ?_ _) | (with_reducible refine Kd.C_drewN ?_ _) | (with_reducible refine Kd.C_drew ?_))); (case side4 => exact (Kd.R_reads' HO410.out).2.1); rintro e w' ⟨rfl, ⟨nd, rfl⟩⟩))
                    go_ret
                    exact ⟨by first | rfl | (simp [errW_none, errW_some] <;> rfl) | (simp [*, errW_none, errW_some] <;> rfl), by repeat (first | (with_reducible first | exact HB.out | apply below_alloc | apply pw_below_drewN | apply below_drew1) | exact HB.out)⟩
                  · rw [if_neg c16] at H
                    have c16b0 : (t415 == 0) = false := beq_eq_false_iff_ne.mpr c16
                    have c16b1 : (t415 != 0) = true := bne_iff_ne.mpr c16
                    have H' := Aside0.mk H
                    clear H
                    go_wp2_with (first | ((with_reducible refine gate_callee (f := 48) rfl ?_); refine goesL_ (some 29) rfl rfl Try.func48 (by kernel_rfl) rfl #[.int .i64 a0, .int .i64 x5_1] rfl (by (try simp only [List.map_toArray, List.map_cons, List.map_nil]); first | done | rfl | (simp only [List.length_drop, List.length_take]; rfl)) ?_; (with_reducible refine (spec_l6sPlace.calls a0 x5_1 t408 _ A6.out).mono ?_); rintro e w19 ⟨v409, rfl, ho0, hb⟩; refine ⟨_, rfl, ?_⟩; have n0_ := Aside0.mk (Kd.R_lower ho0 (below_size (by repeat (first | (with_reducible first | exact HB.out | apply below_alloc | apply pw_below_drewN | apply below_drew1) | exact HB.out)))); have n1_ := Aside0.mk (below_step (by repeat (first | (with_reducible first | exact HB.out | apply below_alloc | apply pw_below_drewN | apply below_drew1) | exact HB.out)) hb); clear HB; have HO410 := n0_; have HB := n1_; clear n0_ n1_; (try clear hb); (try clear hb2); (try clear hk); (try clear hi); (try clear ho0); obtain ⟨Ao20, co20, eo20⟩ := Kd.R_slice HO410.out; subst eo20) | ((with_reducible refine gate_callee (f := 47) rfl ?_); refine goesL_ (some 33) rfl rfl Try.func47 (by kernel_rfl) rfl #[.int .i64 a0, .slice A1 l1.length c1, .slice Ao20 t408.length co20] rfl (by (try simp only [List.map_toArray, List.map_cons, List.map_nil]); first | done | rfl | (simp only [List.length_drop, List.length_take]; rfl)) ?_; (with_reducible refine (spec_l6sValue.calls k1 a0 _ _ l1 _ _ t408 t411 _ ?side1 ?side2 ?side3 ?side4 A7.out).mono ?_); (case side1 => repeat (first | exact (Kd.C_below HR1.out HB.out) | (with_reducible refine Kd.C_alloc ?_ _) | (with_reducible refine Kd.C_drewN ?_ _) | (with_reducible refine Kd.C_drew ?_))); (case side2 => exact HC1.out); (case side3 => repeat (first | exact (Kd.R_reads' HO410.out).2.2 | (with_reducible refine Kd.C_alloc ?_ _) | (with_reducible refine Kd.C_drewN ?_ _) | (with_reducible refine Kd.C_drew ?_))); (case side4 => exact (Kd.R_reads' HO410.out).2.1); rintro e w' ⟨rfl, ⟨nd, rfl⟩⟩; refine ⟨_, rfl, ?_⟩) | (go_at_call 66; (with_reducible refine (spec_l6sSlope.calls k1 a0 _ _ l1 _ _ t408 0 t412 _ ?side1 ?side2 ?side3 ?side4 A9.out).mono ?_); (case side1 => repeat (first | exact (Kd.C_below HR1.out (by repeat (first | (with_reducible first | exact HB.out | apply below_alloc | apply pw_below_drewN | apply below_drew1) | exact HB.out))) | (with_reducible refine Kd.C_alloc ?_ _) | (with_reducible refine Kd.C_drewN ?_ _) | (with_reducible refine Kd.C_drew ?_))); (case side2 => exact HC1.out); (case side3 => repeat (first | exact (Kd.R_reads' HO410.out).2.2 | (with_reducible refine Kd.C_alloc ?_ _) | (with_reducible refine Kd.C_drewN ?_ _) | (with_reducible refine Kd.C_drew ?_))); (case side4 => exact (Kd.R_reads' HO410.out).2.1); rintro e w' ⟨rfl, ⟨nd, rfl⟩⟩) | (go_at_call 66; (with_reducible refine (spec_l6sSlope.calls k1 a0 _ _ l1 _ _ t408 1 t413 _ ?side1 ?side2 ?side3 ?side4 A11.out).mono ?_); (case side1 => repeat (first | exact (Kd.C_below HR1.out (by repeat (first | (with_reducible first | exact HB.out | apply below_alloc | apply pw_below_drewN | apply below_drew1) | exact HB.out))) | (with_reducible refine Kd.C_alloc ?_ _) | (with_reducible refine Kd.C_drewN ?_ _) | (with_reducible refine Kd.C_drew ?_))); (case side2 => exact HC1.out); (case side3 => repeat (first | exact (Kd.R_reads' HO410.out).2.2 | (with_reducible refine Kd.C_alloc ?_ _) | (with_reducible refine Kd.C_drewN ?_ _) | (with_reducible refine Kd.C_drew ?_))); (case side4 => exact (Kd.R_reads' HO410.out).2.1); rintro e w' ⟨rfl, ⟨nd, rfl⟩⟩) | (go_at_call 66; (with_reducible refine (spec_l6sSlope.calls k1 a0 _ _ l1 _ _ t408 2 t414 _ ?side1 ?side2 ?side3 ?side4 A13.out).mono ?_); (case side1 => repeat (first | exact (Kd.C_below HR1.out (by repeat (first | (with_reducible first | exact HB.out | apply below_alloc | apply pw_below_drewN | apply below_drew1) | exact HB.out))) | (with_reducible refine Kd.C_alloc ?_ _) | (with_reducible refine Kd.C_drewN ?_ _) | (with_reducible refine Kd.C_drew ?_))); (case side2 => exact HC1.out); (case side3 => repeat (first | exact (Kd.R_reads' HO410.out).2.2 | (with_reducible refine Kd.C_alloc ?_ _) | (with_reducible refine Kd.C_drewN ?_ _) | (with_reducible refine Kd.C_drew ?_))); (case side4 => exact (Kd.R_reads' HO410.out).2.1); rintro e w' ⟨rfl, ⟨nd, rfl⟩⟩) | (go_at_call 66; (with_reducible refine (spec_l6sSlope.calls k1 a0 _ _ l1 _ _ t408 3 t415 _ ?side1 ?side2 ?side3 ?side4 A15.out).mono ?_); (case side1 => repeat (first | exact (Kd.C_below HR1.out (by repeat (first | (with_reducible first | exact HB.out | apply below_alloc | apply pw_below_drewN | apply below_drew1) | exact HB.out))) | (with_reducible refine Kd.C_alloc ?_ _) | (with_reducible refine Kd.C_drewN ?_ _) | (with_reducible refine Kd.C_drew ?_))); (case side2 => exact HC1.out); (case side3 => repeat (first | exact (Kd.R_reads' HO410.out).2.2 | (with_reducible refine Kd.C_alloc ?_ _) | (with_reducible refine Kd.C_drewN ?_ _) | (with_reducible refine Kd.C_drew ?_))); (case side4 => exact (Kd.R_reads' HO410.out).2.1); rintro e w' ⟨rfl, ⟨nd, rfl⟩⟩))
                    go_roundg k1
                    case measure => have := HK1.out; omega
                    case rel => exact ⟨(wrap64 (x5_1 + 1)), (by first | rfl | (simp; done) | (simp [*]; done)), H', ⟨by have := HK1.out; omega⟩, ⟨by repeat (first | (with_reducible first | exact HB.out | apply below_alloc | apply pw_below_drewN | apply below_drew1) | exact HB.out)⟩⟩
                · rw [if_neg c14] at H
                  have c14b0 : (t414 == 0) = false := beq_eq_false_iff_ne.mpr c14
                  have c14b1 : (t414 != 0) = true := bne_iff_ne.mpr c14
                  have H' := Aside0.mk H
                  clear H
                  go_wp2_with (first | ((with_reducible refine gate_callee (f := 48) rfl ?_); refine goesL_ (some 29) rfl rfl Try.func48 (by kernel_rfl) rfl #[.int .i64 a0, .int .i64 x5_1] rfl (by (try simp only [List.map_toArray, List.map_cons, List.map_nil]); first | done | rfl | (simp only [List.length_drop, List.length_take]; rfl)) ?_; (with_reducible refine (spec_l6sPlace.calls a0 x5_1 t408 _ A6.out).mono ?_); rintro e w21 ⟨v409, rfl, ho0, hb⟩; refine ⟨_, rfl, ?_⟩; have n0_ := Aside0.mk (Kd.R_lower ho0 (below_size (by repeat (first | (with_reducible first | exact HB.out | apply below_alloc | apply pw_below_drewN | apply below_drew1) | exact HB.out)))); have n1_ := Aside0.mk (below_step (by repeat (first | (with_reducible first | exact HB.out | apply below_alloc | apply pw_below_drewN | apply below_drew1) | exact HB.out)) hb); clear HB; have HO410 := n0_; have HB := n1_; clear n0_ n1_; (try clear hb); (try clear hb2); (try clear hk); (try clear hi); (try clear ho0); obtain ⟨Ao22, co22, eo22⟩ := Kd.R_slice HO410.out; subst eo22) | ((with_reducible refine gate_callee (f := 47) rfl ?_); refine goesL_ (some 33) rfl rfl Try.func47 (by kernel_rfl) rfl #[.int .i64 a0, .slice A1 l1.length c1, .slice Ao22 t408.length co22] rfl (by (try simp only [List.map_toArray, List.map_cons, List.map_nil]); first | done | rfl | (simp only [List.length_drop, List.length_take]; rfl)) ?_; (with_reducible refine (spec_l6sValue.calls k1 a0 _ _ l1 _ _ t408 t411 _ ?side1 ?side2 ?side3 ?side4 A7.out).mono ?_); (case side1 => repeat (first | exact (Kd.C_below HR1.out HB.out) | (with_reducible refine Kd.C_alloc ?_ _) | (with_reducible refine Kd.C_drewN ?_ _) | (with_reducible refine Kd.C_drew ?_))); (case side2 => exact HC1.out); (case side3 => repeat (first | exact (Kd.R_reads' HO410.out).2.2 | (with_reducible refine Kd.C_alloc ?_ _) | (with_reducible refine Kd.C_drewN ?_ _) | (with_reducible refine Kd.C_drew ?_))); (case side4 => exact (Kd.R_reads' HO410.out).2.1); rintro e w' ⟨rfl, ⟨nd, rfl⟩⟩; refine ⟨_, rfl, ?_⟩) | (go_at_call 66; (with_reducible refine (spec_l6sSlope.calls k1 a0 _ _ l1 _ _ t408 0 t412 _ ?side1 ?side2 ?side3 ?side4 A9.out).mono ?_); (case side1 => repeat (first | exact (Kd.C_below HR1.out (by repeat (first | (with_reducible first | exact HB.out | apply below_alloc | apply pw_below_drewN | apply below_drew1) | exact HB.out))) | (with_reducible refine Kd.C_alloc ?_ _) | (with_reducible refine Kd.C_drewN ?_ _) | (with_reducible refine Kd.C_drew ?_))); (case side2 => exact HC1.out); (case side3 => repeat (first | exact (Kd.R_reads' HO410.out).2.2 | (with_reducible refine Kd.C_alloc ?_ _) | (with_reducible refine Kd.C_drewN ?_ _) | (with_reducible refine Kd.C_drew ?_))); (case side4 => exact (Kd.R_reads' HO410.out).2.1); rintro e w' ⟨rfl, ⟨nd, rfl⟩⟩) | (go_at_call 66; (with_reducible refine (spec_l6sSlope.calls k1 a0 _ _ l1 _ _ t408 1 t413 _ ?side1 ?side2 ?side3 ?side4 A11.out).mono ?_); (case side1 => repeat (first | exact (Kd.C_below HR1.out (by repeat (first | (with_reducible first | exact HB.out | apply below_alloc | apply pw_below_drewN | apply below_drew1) | exact HB.out))) | (with_reducible refine Kd.C_alloc ?_ _) | (with_reducible refine Kd.C_drewN ?_ _) | (with_reducible refine Kd.C_drew ?_))); (case side2 => exact HC1.out); (case side3 => repeat (first | exact (Kd.R_reads' HO410.out).2.2 | (with_reducible refine Kd.C_alloc ?_ _) | (with_reducible refine Kd.C_drewN ?_ _) | (with_reducible refine Kd.C_drew ?_))); (case side4 => exact (Kd.R_reads' HO410.out).2.1); rintro e w' ⟨rfl, ⟨nd, rfl⟩⟩) | (go_at_call 66; (with_reducible refine (spec_l6sSlope.calls k1 a0 _ _ l1 _ _ t408 2 t414 _ ?side1 ?side2 ?side3 ?side4 A13.out).mono ?_); (case side1 => repeat (first | exact (Kd.C_below HR1.out (by repeat (first | (with_reducible first | exact HB.out | apply below_alloc | apply pw_below_drewN | apply below_drew1) | exact HB.out))) | (with_reducible refine Kd.C_alloc ?_ _) | (with_reducible refine Kd.C_drewN ?_ _) | (with_reducible refine Kd.C_drew ?_))); (case side2 => exact HC1.out); (case side3 => repeat (first | exact (Kd.R_reads' HO410.out).2.2 | (with_reducible refine Kd.C_alloc ?_ _) | (with_reducible refine Kd.C_drewN ?_ _) | (with_reducible refine Kd.C_drew ?_))); (case side4 => exact (Kd.R_reads' HO410.out).2.1); rintro e w' ⟨rfl, ⟨nd, rfl⟩⟩))
                  go_roundg k1
                  case measure => have := HK1.out; omega
                  case rel => exact ⟨(wrap64 (x5_1 + 1)), (by first | rfl | (simp; done) | (simp [*]; done)), H', ⟨by have := HK1.out; omega⟩, ⟨by repeat (first | (with_reducible first | exact HB.out | apply below_alloc | apply pw_below_drewN | apply below_drew1) | exact HB.out)⟩⟩
              · rw [if_neg c12] at H
                have c12b0 : (t413 == 0) = false := beq_eq_false_iff_ne.mpr c12
                have c12b1 : (t413 != 0) = true := bne_iff_ne.mpr c12
                have H' := Aside0.mk H
                clear H
                go_wp2_with (first | ((with_reducible refine gate_callee (f := 48) rfl ?_); refine goesL_ (some 29) rfl rfl Try.func48 (by kernel_rfl) rfl #[.int .i64 a0, .int .i64 x5_1] rfl (by (try simp only [List.map_toArray, List.map_cons, List.map_nil]); first | done | rfl | (simp only [List.length_drop, List.length_take]; rfl)) ?_; (with_reducible refine (spec_l6sPlace.calls a0 x5_1 t408 _ A6.out).mono ?_); rintro e w23 ⟨v409, rfl, ho0, hb⟩; refine ⟨_, rfl, ?_⟩; have n0_ := Aside0.mk (Kd.R_lower ho0 (below_size (by repeat (first | (with_reducible first | exact HB.out | apply below_alloc | apply pw_below_drewN | apply below_drew1) | exact HB.out)))); have n1_ := Aside0.mk (below_step (by repeat (first | (with_reducible first | exact HB.out | apply below_alloc | apply pw_below_drewN | apply below_drew1) | exact HB.out)) hb); clear HB; have HO410 := n0_; have HB := n1_; clear n0_ n1_; (try clear hb); (try clear hb2); (try clear hk); (try clear hi); (try clear ho0); obtain ⟨Ao24, co24, eo24⟩ := Kd.R_slice HO410.out; subst eo24) | ((with_reducible refine gate_callee (f := 47) rfl ?_); refine goesL_ (some 33) rfl rfl Try.func47 (by kernel_rfl) rfl #[.int .i64 a0, .slice A1 l1.length c1, .slice Ao24 t408.length co24] rfl (by (try simp only [List.map_toArray, List.map_cons, List.map_nil]); first | done | rfl | (simp only [List.length_drop, List.length_take]; rfl)) ?_; (with_reducible refine (spec_l6sValue.calls k1 a0 _ _ l1 _ _ t408 t411 _ ?side1 ?side2 ?side3 ?side4 A7.out).mono ?_); (case side1 => repeat (first | exact (Kd.C_below HR1.out HB.out) | (with_reducible refine Kd.C_alloc ?_ _) | (with_reducible refine Kd.C_drewN ?_ _) | (with_reducible refine Kd.C_drew ?_))); (case side2 => exact HC1.out); (case side3 => repeat (first | exact (Kd.R_reads' HO410.out).2.2 | (with_reducible refine Kd.C_alloc ?_ _) | (with_reducible refine Kd.C_drewN ?_ _) | (with_reducible refine Kd.C_drew ?_))); (case side4 => exact (Kd.R_reads' HO410.out).2.1); rintro e w' ⟨rfl, ⟨nd, rfl⟩⟩; refine ⟨_, rfl, ?_⟩) | (go_at_call 66; (with_reducible refine (spec_l6sSlope.calls k1 a0 _ _ l1 _ _ t408 0 t412 _ ?side1 ?side2 ?side3 ?side4 A9.out).mono ?_); (case side1 => repeat (first | exact (Kd.C_below HR1.out (by repeat (first | (with_reducible first | exact HB.out | apply below_alloc | apply pw_below_drewN | apply below_drew1) | exact HB.out))) | (with_reducible refine Kd.C_alloc ?_ _) | (with_reducible refine Kd.C_drewN ?_ _) | (with_reducible refine Kd.C_drew ?_))); (case side2 => exact HC1.out); (case side3 => repeat (first | exact (Kd.R_reads' HO410.out).2.2 | (with_reducible refine Kd.C_alloc ?_ _) | (with_reducible refine Kd.C_drewN ?_ _) | (with_reducible refine Kd.C_drew ?_))); (case side4 => exact (Kd.R_reads' HO410.out).2.1); rintro e w' ⟨rfl, ⟨nd, rfl⟩⟩) | (go_at_call 66; (with_reducible refine (spec_l6sSlope.calls k1 a0 _ _ l1 _ _ t408 1 t413 _ ?side1 ?side2 ?side3 ?side4 A11.out).mono ?_); (case side1 => repeat (first | exact (Kd.C_below HR1.out (by repeat (first | (with_reducible first | exact HB.out | apply below_alloc | apply pw_below_drewN | apply below_drew1) | exact HB.out))) | (with_reducible refine Kd.C_alloc ?_ _) | (with_reducible refine Kd.C_drewN ?_ _) | (with_reducible refine Kd.C_drew ?_))); (case side2 => exact HC1.out); (case side3 => repeat (first | exact (Kd.R_reads' HO410.out).2.2 | (with_reducible refine Kd.C_alloc ?_ _) | (with_reducible refine Kd.C_drewN ?_ _) | (with_reducible refine Kd.C_drew ?_))); (case side4 => exact (Kd.R_reads' HO410.out).2.1); rintro e w' ⟨rfl, ⟨nd, rfl⟩⟩))
                go_roundg k1
                case measure => have := HK1.out; omega
                case rel => exact ⟨(wrap64 (x5_1 + 1)), (by first | rfl | (simp; done) | (simp [*]; done)), H', ⟨by have := HK1.out; omega⟩, ⟨by repeat (first | (with_reducible first | exact HB.out | apply below_alloc | apply pw_below_drewN | apply below_drew1) | exact HB.out)⟩⟩
            · rw [if_neg c10] at H
              have c10b0 : (t412 == 0) = false := beq_eq_false_iff_ne.mpr c10
              have c10b1 : (t412 != 0) = true := bne_iff_ne.mpr c10
              have H' := Aside0.mk H
              clear H
              go_wp2_with (first | ((with_reducible refine gate_callee (f := 48) rfl ?_); refine goesL_ (some 29) rfl rfl Try.func48 (by kernel_rfl) rfl #[.int .i64 a0, .int .i64 x5_1] rfl (by (try simp only [List.map_toArray, List.map_cons, List.map_nil]); first | done | rfl | (simp only [List.length_drop, List.length_take]; rfl)) ?_; (with_reducible refine (spec_l6sPlace.calls a0 x5_1 t408 _ A6.out).mono ?_); rintro e w25 ⟨v409, rfl, ho0, hb⟩; refine ⟨_, rfl, ?_⟩; have n0_ := Aside0.mk (Kd.R_lower ho0 (below_size (by repeat (first | (with_reducible first | exact HB.out | apply below_alloc | apply pw_below_drewN | apply below_drew1) | exact HB.out)))); have n1_ := Aside0.mk (below_step (by repeat (first | (with_reducible first | exact HB.out | apply below_alloc | apply pw_below_drewN | apply below_drew1) | exact HB.out)) hb); clear HB; have HO410 := n0_; have HB := n1_; clear n0_ n1_; (try clear hb); (try clear hb2); (try clear hk); (try clear hi); (try clear ho0); obtain ⟨Ao26, co26, eo26⟩ := Kd.R_slice HO410.out; subst eo26) | ((with_reducible refine gate_callee (f := 47) rfl ?_); refine goesL_ (some 33) rfl rfl Try.func47 (by kernel_rfl) rfl #[.int .i64 a0, .slice A1 l1.length c1, .slice Ao26 t408.length co26] rfl (by (try simp only [List.map_toArray, List.map_cons, List.map_nil]); first | done | rfl | (simp only [List.length_drop, List.length_take]; rfl)) ?_; (with_reducible refine (spec_l6sValue.calls k1 a0 _ _ l1 _ _ t408 t411 _ ?side1 ?side2 ?side3 ?side4 A7.out).mono ?_); (case side1 => repeat (first | exact (Kd.C_below HR1.out HB.out) | (with_reducible refine Kd.C_alloc ?_ _) | (with_reducible refine Kd.C_drewN ?_ _) | (with_reducible refine Kd.C_drew ?_))); (case side2 => exact HC1.out); (case side3 => repeat (first | exact (Kd.R_reads' HO410.out).2.2 | (with_reducible refine Kd.C_alloc ?_ _) | (with_reducible refine Kd.C_drewN ?_ _) | (with_reducible refine Kd.C_drew ?_))); (case side4 => exact (Kd.R_reads' HO410.out).2.1); rintro e w' ⟨rfl, ⟨nd, rfl⟩⟩; refine ⟨_, rfl, ?_⟩) | (go_at_call 66; (with_reducible refine (spec_l6sSlope.calls k1 a0 _ _ l1 _ _ t408 0 t412 _ ?side1 ?side2 ?side3 ?side4 A9.out).mono ?_); (case side1 => repeat (first | exact (Kd.C_below HR1.out (by repeat (first | (with_reducible first | exact HB.out | apply below_alloc | apply pw_below_drewN | apply below_drew1) | exact HB.out))) | (with_reducible refine Kd.C_alloc ?_ _) | (with_reducible refine Kd.C_drewN ?_ _) | (with_reducible refine Kd.C_drew ?_))); (case side2 => exact HC1.out); (case side3 => repeat (first | exact (Kd.R_reads' HO410.out).2.2 | (with_reducible refine Kd.C_alloc ?_ _) | (with_reducible refine Kd.C_drewN ?_ _) | (with_reducible refine Kd.C_drew ?_))); (case side4 => exact (Kd.R_reads' HO410.out).2.1); rintro e w' ⟨rfl, ⟨nd, rfl⟩⟩))
              go_roundg k1
              case measure => have := HK1.out; omega
              case rel => exact ⟨(wrap64 (x5_1 + 1)), (by first | rfl | (simp; done) | (simp [*]; done)), H', ⟨by have := HK1.out; omega⟩, ⟨by repeat (first | (with_reducible first | exact HB.out | apply below_alloc | apply pw_below_drewN | apply below_drew1) | exact HB.out)⟩⟩
          · rw [if_neg c8] at H
            have c8b0 : (t411 == 0) = false := beq_eq_false_iff_ne.mpr c8
            have c8b1 : (t411 != 0) = true := bne_iff_ne.mpr c8
            have H' := Aside0.mk H
            clear H
            go_wp2_with (first | ((with_reducible refine gate_callee (f := 48) rfl ?_); refine goesL_ (some 29) rfl rfl Try.func48 (by kernel_rfl) rfl #[.int .i64 a0, .int .i64 x5_1] rfl (by (try simp only [List.map_toArray, List.map_cons, List.map_nil]); first | done | rfl | (simp only [List.length_drop, List.length_take]; rfl)) ?_; (with_reducible refine (spec_l6sPlace.calls a0 x5_1 t408 _ A6.out).mono ?_); rintro e w27 ⟨v409, rfl, ho0, hb⟩; refine ⟨_, rfl, ?_⟩; have n0_ := Aside0.mk (Kd.R_lower ho0 (below_size (by repeat (first | (with_reducible first | exact HB.out | apply below_alloc | apply pw_below_drewN | apply below_drew1) | exact HB.out)))); have n1_ := Aside0.mk (below_step (by repeat (first | (with_reducible first | exact HB.out | apply below_alloc | apply pw_below_drewN | apply below_drew1) | exact HB.out)) hb); clear HB; have HO410 := n0_; have HB := n1_; clear n0_ n1_; (try clear hb); (try clear hb2); (try clear hk); (try clear hi); (try clear ho0); obtain ⟨Ao28, co28, eo28⟩ := Kd.R_slice HO410.out; subst eo28) | ((with_reducible refine gate_callee (f := 47) rfl ?_); refine goesL_ (some 33) rfl rfl Try.func47 (by kernel_rfl) rfl #[.int .i64 a0, .slice A1 l1.length c1, .slice Ao28 t408.length co28] rfl (by (try simp only [List.map_toArray, List.map_cons, List.map_nil]); first | done | rfl | (simp only [List.length_drop, List.length_take]; rfl)) ?_; (with_reducible refine (spec_l6sValue.calls k1 a0 _ _ l1 _ _ t408 t411 _ ?side1 ?side2 ?side3 ?side4 A7.out).mono ?_); (case side1 => repeat (first | exact (Kd.C_below HR1.out HB.out) | (with_reducible refine Kd.C_alloc ?_ _) | (with_reducible refine Kd.C_drewN ?_ _) | (with_reducible refine Kd.C_drew ?_))); (case side2 => exact HC1.out); (case side3 => repeat (first | exact (Kd.R_reads' HO410.out).2.2 | (with_reducible refine Kd.C_alloc ?_ _) | (with_reducible refine Kd.C_drewN ?_ _) | (with_reducible refine Kd.C_drew ?_))); (case side4 => exact (Kd.R_reads' HO410.out).2.1); rintro e w' ⟨rfl, ⟨nd, rfl⟩⟩; refine ⟨_, rfl, ?_⟩))
            go_roundg k1
            case measure => have := HK1.out; omega
            case rel => exact ⟨(wrap64 (x5_1 + 1)), (by first | rfl | (simp; done) | (simp [*]; done)), H', ⟨by have := HK1.out; omega⟩, ⟨by repeat (first | (with_reducible first | exact HB.out | apply below_alloc | apply pw_below_drewN | apply below_drew1) | exact HB.out)⟩⟩
        · rw [if_neg c5] at H
          have c5b0 : decide (x5_1 < (wrap64 ((wrap64 ((wrap64 (1 + a0)) + (wrap64 (a0 * a0)))) + (wrap64 ((wrap64 (a0 * a0)) * a0))))) = false := decide_eq_false c5
          clear c5
          obtain rfl := Option.some.inj H
          go_wp2
          go_ret
          exact ⟨by first | rfl | (simp [errW_none, errW_some] <;> rfl) | (simp [*, errW_none, errW_some] <;> rfl), by repeat (first | (with_reducible first | exact HB.out | apply below_alloc | apply pw_below_drewN | apply below_drew1) | exact HB.out)⟩
  · replace c4 := Bool.eq_false_iff.mpr c4
    subst c4
    have H1 : (some false) = some r := by rw [if_neg (show ¬ (false = true) by decide)] at H; exact H
    clear H
    have H := H1
    clear H1
    obtain rfl := Option.some.inj H
    go_enter Try.func30, Try.ntmps30
    go_wp2_with (first | ((with_reducible refine gate_callee (f := 46) rfl ?_); refine goesL_ (some 9) rfl rfl Try.func46 (by kernel_rfl) rfl #[.int .i64 a0, .slice A1 l1.length c1] rfl (by (try simp only [List.map_toArray, List.map_cons, List.map_nil]); first | done | rfl | (simp only [List.length_drop, List.length_take]; rfl)) ?_; (with_reducible refine (spec_FormIn.calls k a0 _ _ l1 false _ ?side1 ?side2 A3.out).mono ?_); (case side1 => repeat (first | exact HR1.out | (with_reducible refine Kd.C_alloc ?_ _) | (with_reducible refine Kd.C_drewN ?_ _) | (with_reducible refine Kd.C_drew ?_))); (case side2 => exact HC1.out); rintro e w' ⟨rfl, ⟨nd, rfl⟩⟩; refine ⟨_, rfl, ?_⟩))
    go_ret
    exact ⟨by first | rfl | (simp [errW_none, errW_some] <;> rfl) | (simp [*, errW_none, errW_some] <;> rfl), by repeat (first | (with_reducible first | exact HB.out | apply below_alloc | apply pw_below_drewN | apply below_drew1) | exact HB.out)⟩

end Go.Proofs.Ytdgopdbmbaiddaa.PA

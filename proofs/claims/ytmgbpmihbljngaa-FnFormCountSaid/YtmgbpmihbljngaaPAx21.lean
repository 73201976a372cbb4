-- Written by xprint.py, a program of this claim's own (over the kit's print.py)
import Derived.Test.YtmgbpmihbljngaaPAx0
import Derived.Test.YtmgbpmihbljngaaPAx19
import Derived.Test.YtmgbpmihbljngaaPAx20
import Derived.BigQuiet
import Derived.Deep.QuietTactic
namespace Go.Proofs.Ytmgbpmihbljngaa.PA
open Go.RowKit Go.Proofs.YtmgbpmihbljngaaW.PrintWords Go.Proofs.YtmgbpmihbljngaaW.PrintLast Go.Proofs.YtmgbpmihbljngaaW.PrintMore
attribute [local go_sem] max2_int min2_int max_two min_two max_three min_three max_four min_four   -- for this text's walks alone
set_option linter.unusedVariables false
set_option linter.unusedSimpArgs false

/-! ### spec_l6sSlope: function 61 -/
mutual
def spec_l6sSlope.l0 : Nat → Int → List Int → List Int → Int → Int → Int → Int → Option (Int)
 | 0, _, _, _, _, _, _, _ => none
 | k + 1, x0, x1, x2, x3, x9, x10, x11 => if x11 < 4 then (spec_l6sSlope.l1 k x0 x1 x2 x3 x9 x10 x11 x11) else (some x9)
def spec_l6sSlope.l1 : Nat → Int → List Int → List Int → Int → Int → Int → Int → Int → Option (Int)
 | 0, _, _, _, _, _, _, _, _ => none
 | k + 1, x0, x1, x2, x3, x9, x10, x11, x12 => if x12 < 4 then (spec_l6sSlope.l2 k x0 x1 x2 x3 x9 x10 x11 x12 x12) else (spec_l6sSlope.l0 k x0 x1 x2 x3 x9 x10 (wrap64 (x11 + 1)))
def spec_l6sSlope.l2 : Nat → Int → List Int → List Int → Int → Int → Int → Int → Int → Int → Option (Int)
 | 0, _, _, _, _, _, _, _, _, _ => none
 | k + 1, x0, x1, x2, x3, x9, x10, x11, x12, x13 => if x13 < 4 then (if 0 ≤ x10 then (if x10 < (x1.length : Int) then (if x11 = x3 then (if 0 ≤ x12 then (if x12 < (x2.length : Int) then (if x0 = 0 then (none) else (if 0 ≤ x13 then (if x13 < (x2.length : Int) then (spec_l6sSlope.j3 k x0 x1 x2 x3 (Int.tmod (wrap64 (x9 + (wrap64 ((Int.tmod (wrap64 ((rd x1 x10) * (rd x2 x12))) x0) * (rd x2 x13))))) x0) x10 x11 x12 x13 (rd x1 x10)) else (none)) else (none))) else (none)) else (none)) else (spec_l6sSlope.j3 k x0 x1 x2 x3 x9 x10 x11 x12 x13 (rd x1 x10))) else (none)) else (none)) else (spec_l6sSlope.l1 k x0 x1 x2 x3 x9 x10 x11 (wrap64 (x12 + 1)))
def spec_l6sSlope.j3 : Nat → Int → List Int → List Int → Int → Int → Int → Int → Int → Int → Int → Option (Int)
 | 0, _, _, _, _, _, _, _, _, _, _ => none
 | k + 1, x0, x1, x2, x3, x9, x10, x11, x12, x13, x14 => if x12 = x3 then (if 0 ≤ x11 then (if x11 < (x2.length : Int) then (if x0 = 0 then (none) else (if 0 ≤ x13 then (if x13 < (x2.length : Int) then (if x13 = x3 then (if 0 ≤ x12 then (if x12 < (x2.length : Int) then (spec_l6sSlope.l2 k x0 x1 x2 x3 (Int.tmod (wrap64 ((Int.tmod (wrap64 (x9 + (wrap64 ((Int.tmod (wrap64 (x14 * (rd x2 x11))) x0) * (rd x2 x13))))) x0) + (wrap64 ((Int.tmod (wrap64 (x14 * (rd x2 x11))) x0) * (rd x2 x12))))) x0) (wrap64 (x10 + 1)) x11 x12 (wrap64 (x13 + 1))) else (none)) else (none)) else (spec_l6sSlope.l2 k x0 x1 x2 x3 (Int.tmod (wrap64 (x9 + (wrap64 ((Int.tmod (wrap64 (x14 * (rd x2 x11))) x0) * (rd x2 x13))))) x0) (wrap64 (x10 + 1)) x11 x12 (wrap64 (x13 + 1)))) else (none)) else (none))) else (none)) else (none)) else (if x13 = x3 then (if 0 ≤ x11 then (if x11 < (x2.length : Int) then (if x0 = 0 then (none) else (if 0 ≤ x12 then (if x12 < (x2.length : Int) then (spec_l6sSlope.l2 k x0 x1 x2 x3 (Int.tmod (wrap64 (x9 + (wrap64 ((Int.tmod (wrap64 (x14 * (rd x2 x11))) x0) * (rd x2 x12))))) x0) (wrap64 (x10 + 1)) x11 x12 (wrap64 (x13 + 1))) else (none)) else (none))) else (none)) else (none)) else (spec_l6sSlope.l2 k x0 x1 x2 x3 x9 (wrap64 (x10 + 1)) x11 x12 (wrap64 (x13 + 1))))
end
def spec_l6sSlope.f (k : Nat) (a0 : Int) (l1 : List Int) (l2 : List Int) (a3 : Int) : Option (Int) := spec_l6sSlope.l0 k a0 l1 l2 a3 0 0 0
theorem spec_l6sSlope.mono_l : ∀ k, (∀ y0 y1 y2 y3 y4 y5 y6, LeO (spec_l6sSlope.l0 k y0 y1 y2 y3 y4 y5 y6) (spec_l6sSlope.l0 (k + 1) y0 y1 y2 y3 y4 y5 y6)) ∧ (∀ y0 y1 y2 y3 y4 y5 y6 y7, LeO (spec_l6sSlope.l1 k y0 y1 y2 y3 y4 y5 y6 y7) (spec_l6sSlope.l1 (k + 1) y0 y1 y2 y3 y4 y5 y6 y7)) ∧ (∀ y0 y1 y2 y3 y4 y5 y6 y7 y8, LeO (spec_l6sSlope.l2 k y0 y1 y2 y3 y4 y5 y6 y7 y8) (spec_l6sSlope.l2 (k + 1) y0 y1 y2 y3 y4 y5 y6 y7 y8)) ∧ (∀ y0 y1 y2 y3 y4 y5 y6 y7 y8 y9, LeO (spec_l6sSlope.j3 k y0 y1 y2 y3 y4 y5 y6 y7 y8 y9) (spec_l6sSlope.j3 (k + 1) y0 y1 y2 y3 y4 y5 y6 y7 y8 y9))
 | 0 => ⟨fun _ _ _ _ _ _ _ r h => by simp [spec_l6sSlope.l0] at h, fun _ _ _ _ _ _ _ _ r h => by simp [spec_l6sSlope.l1] at h, fun _ _ _ _ _ _ _ _ _ r h => by simp [spec_l6sSlope.l2] at h, fun _ _ _ _ _ _ _ _ _ _ r h => by simp [spec_l6sSlope.j3] at h⟩
 | k + 1 => by
  obtain ⟨ih0, ih1, ih2, ih3⟩ := spec_l6sSlope.mono_l k
  refine ⟨?_, ?_, ?_, ?_⟩
  ·intro y0 y1 y2 y3 y4 y5 y6
   unfold spec_l6sSlope.l0
   repeat' first | (with_reducible first | apply ih0 | apply ih1 | apply ih2 | apply ih3 | exact LeO.refl _ | exact LeO.none _ | refine LeO.ite ?_ ?_ | refine LeO.bind ?_ (fun _ => ?_)) | (first | apply ih0 | apply ih1 | apply ih2 | apply ih3 | exact LeO.none _ | refine LeO.ite ?_ ?_ | refine LeO.bind ?_ (fun _ => ?_))
  ·intro y0 y1 y2 y3 y4 y5 y6 y7
   unfold spec_l6sSlope.l1
   repeat' first | (with_reducible first | apply ih0 | apply ih1 | apply ih2 | apply ih3 | exact LeO.refl _ | exact LeO.none _ | refine LeO.ite ?_ ?_ | refine LeO.bind ?_ (fun _ => ?_)) | (first | apply ih0 | apply ih1 | apply ih2 | apply ih3 | exact LeO.none _ | refine LeO.ite ?_ ?_ | refine LeO.bind ?_ (fun _ => ?_))
  ·intro y0 y1 y2 y3 y4 y5 y6 y7 y8
   unfold spec_l6sSlope.l2
   repeat' first | (with_reducible first | apply ih0 | apply ih1 | apply ih2 | apply ih3 | exact LeO.refl _ | exact LeO.none _ | refine LeO.ite ?_ ?_ | refine LeO.bind ?_ (fun _ => ?_)) | (first | apply ih0 | apply ih1 | apply ih2 | apply ih3 | exact LeO.none _ | refine LeO.ite ?_ ?_ | refine LeO.bind ?_ (fun _ => ?_))
  ·intro y0 y1 y2 y3 y4 y5 y6 y7 y8 y9
   unfold spec_l6sSlope.j3
   repeat' first | (with_reducible first | apply ih0 | apply ih1 | apply ih2 | apply ih3 | exact LeO.refl _ | exact LeO.none _ | refine LeO.ite ?_ ?_ | refine LeO.bind ?_ (fun _ => ?_)) | (first | apply ih0 | apply ih1 | apply ih2 | apply ih3 | exact LeO.none _ | refine LeO.ite ?_ ?_ | refine LeO.bind ?_ (fun _ => ?_))
theorem spec_l6sSlope.mono : ∀ a0 a1 a2 a3 k, LeO (spec_l6sSlope.f k a0 a1 a2 a3) (spec_l6sSlope.f (k + 1) a0 a1 a2 a3) := by
 intro a0 a1 a2 a3 k
 obtain ⟨ih0, ih1, ih2, ih3⟩ := spec_l6sSlope.mono_l k
 unfold spec_l6sSlope.f
 repeat' first | (with_reducible first | apply ih0 | apply ih1 | apply ih2 | apply ih3 | exact LeO.refl _ | exact LeO.none _ | refine LeO.ite ?_ ?_ | refine LeO.bind ?_ (fun _ => ?_)) | (first | apply ih0 | apply ih1 | apply ih2 | apply ih3 | exact LeO.none _ | refine LeO.ite ?_ ?_ | refine LeO.bind ?_ (fun _ => ?_))
set_option maxHeartbeats 8000000 in
set_option maxRecDepth 100000 in
theorem spec_l6sSlope.calls (k : Nat) (a0 : Int) (A1 : Option Addr) (c1 : Nat) (l1 : List Int) (A2 : Option Addr) (c2 : Nat) (l2 : List Int) (a3 : Int) (r : Int) (w : World) (hr1 : Kd.C (Kd.int .i64) w A1 l1.length l1) (hc1 : l1.length ≤ c1) (hr2 : Kd.C (Kd.int .i64) w A2 l2.length l2) (hc2 : l2.length ≤ c2) (h : spec_l6sSlope.f k a0 l1 l2 a3 = some r) :
  Calls Try.prog 61 #[.int .i64 a0, .slice A1 l1.length c1, .slice A2 l2.length c2, .int .i64 a3] w fun e w' => e = .returned (.int .i64 r) ∧ Drawn0 w w' := by
 have HR1 := am hr1
 have HC1 := am hc1
 clear hr1 hc1
 have HR2 := am hr2
 have HC2 := am hc2
 clear hr2 hc2
 have H : (spec_l6sSlope.l0 k a0 l1 l2 a3 0 0 0) = some r := h
 clear h; have H' := am H; clear H
 go_enter Try.func61, Try.ntmps61
 go_wp2
 repeat (go_quiet (fail); try go_wp2)
 go_loopg [9, 10, 11] k (fun kq v9 v10 v11 w' => ∃ (x9_1 : Int) (x10_1 : Int) (x11_1 : Int), v9 = .int .i64 x9_1 ∧ v10 = .int .i64 x10_1 ∧ v11 = .int .i64 x11_1 ∧ Aside0 (spec_l6sSlope.l0 kq a0 l1 l2 a3 x9_1 x10_1 x11_1 = some r) ∧ Aside0 (kq ≤ k) ∧ Drawn0 w w')
 case atStart => exact ⟨(0), (0), (0), fr, fr, fr, H', ⟨Nat.le_refl _⟩, df⟩
 case round =>
  clear H'; try clear c1; try clear c2; try clear p2
  obtain ⟨x9_1, x10_1, x11_1, rfl, rfl, rfl, HA, HK1, ⟨m1, rfl⟩⟩ := hrel
  cases gk with
  | zero => exact absurd HA.out (by simp [spec_l6sSlope.l0])
  | succ k1 =>
   have H := HA.out; clear HA
   simp only [spec_l6sSlope.l0] at H
   by_cases c5 : x11_1 < 4
   ·rw [if_pos c5] at H
    have c5b0 := decide_eq_true c5; clear c5; have H' := am H; clear H; go_wp2
    repeat (go_quiet (fail); try go_wp2)
    go_loopg [9, 10, 12] k1 (fun kq v9 v10 v12 w' => ∃ (x9_2 : Int) (x10_2 : Int) (x12_2 : Int), v9 = .int .i64 x9_2 ∧ v10 = .int .i64 x10_2 ∧ v12 = .int .i64 x12_2 ∧ Aside0 (spec_l6sSlope.l1 kq a0 l1 l2 a3 x9_2 x10_2 x11_1 x12_2 = some r) ∧ Aside0 (kq ≤ k1) ∧ Drawn0 w w')
    case atStart => exact ⟨(x9_1), (x10_1), (x11_1), fr, fr, fr, H', ⟨Nat.le_refl _⟩, df⟩
    case round =>
     clear H'; try clear c1; try clear c2; try clear p2; try clear c5; try clear c5b0; try clear p2
     obtain ⟨x9_2, x10_2, x12_2, rfl, rfl, rfl, HA, HK2, ⟨m2, rfl⟩⟩ := hrel
     cases gk with
     | zero => exact absurd HA.out (by simp [spec_l6sSlope.l1])
     | succ k2 =>
      have H := HA.out; clear HA
      simp only [spec_l6sSlope.l1] at H
      by_cases c6 : x12_2 < 4
      ·rw [if_pos c6] at H
       have c6b0 := decide_eq_true c6; clear c6; have H' := am H; clear H; go_wp2
       repeat (go_quiet (fail); try go_wp2)
       go_loopg [9, 10, 13] k2 (fun kq v9 v10 v13 w' => ∃ (x9_3 : Int) (x10_3 : Int) (x13_3 : Int), v9 = .int .i64 x9_3 ∧ v10 = .int .i64 x10_3 ∧ v13 = .int .i64 x13_3 ∧ Aside0 (spec_l6sSlope.l2 kq a0 l1 l2 a3 x9_3 x10_3 x11_1 x12_2 x13_3 = some r) ∧ Aside0 (kq ≤ k2) ∧ Drawn0 w w')
       case atStart => exact ⟨(x9_2), (x10_2), (x12_2), fr, fr, fr, H', ⟨Nat.le_refl _⟩, df⟩
       case round =>
        clear H'; try clear c1; try clear c2; try clear p2; try clear c5; try clear c5b0; try clear c6; try clear c6b0; try clear p2
        obtain ⟨x9_3, x10_3, x13_3, rfl, rfl, rfl, HA, HK3, ⟨m3, rfl⟩⟩ := hrel
        cases gk with
        | zero => exact absurd HA.out (by simp [spec_l6sSlope.l2])
        | succ k3 =>
         have H := HA.out; clear HA
         simp only [spec_l6sSlope.l2] at H
         by_cases c7 : x13_3 < 4
         ·rw [if_pos c7] at H
          have c7b0 := decide_eq_true c7; clear c7; replace H := ifn H; obtain ⟨c8, H⟩ := H; have c8b0 := decide_eq_true c8; clear c8; replace H := ifn H; obtain ⟨c9, H⟩ := H; have c9b0 := decide_eq_true c9; clear c9
          have HC10 := am H
          clear H
          have p524 : 0 ≤ (x10_3 : Int) := od
          have q524 : x10_3 < (l1.length : Int) := od
          obtain ⟨ad524, e524, hx524_0⟩ := Kd.at_int HR1.out x10_3 p524 q524
          cases e524; replace p524 := eq_true p524; replace q524 := eq_true q524
          go_upto_if 35 with (fail)
          repeat (go_quiet (fail); go_upto_if 35 with (fail))
          go_cut [9] (fun v9 wc => ∃ (kq : Nat) (x9_9 : Int), v9 = .int .i64 x9_9 ∧ Aside0 (spec_l6sSlope.j3 kq a0 l1 l2 a3 x9_9 x10_3 x11_1 x12_2 x13_3 (rd l1 x10_3) = some r) ∧ Aside0 (kq ≤ k3) ∧ Drawn0 w wc)
          case first =>
           have H := HC10.out
           clear HC10
           by_cases c11 : x11_1 = a3
           ·rw [if_pos c11] at H
            have c11b0 := beq_iff_eq.mpr c11; have c11b1 := bne_eq_false_iff_eq.mpr c11; clear c11
            (first | rw [c11b0] | (simp only [i64_w, i32_w]; rw [c11b0]) | skip)
            replace H := ifn H; obtain ⟨c12, H⟩ := H; have c12b0 := decide_eq_true c12; clear c12; replace H := ifn H; obtain ⟨c13, H⟩ := H; have c13b0 := decide_eq_true c13; clear c13; replace H := ifm H; obtain ⟨c14, H⟩ := H; have c14b0 := beq_eq_false_iff_ne.mpr c14
            have c14b1 := bne_iff_ne.mpr c14; replace H := ifn H; obtain ⟨c15, H⟩ := H; have c15b0 := decide_eq_true c15; clear c15; replace H := ifn H; obtain ⟨c16, H⟩ := H; have c16b0 := decide_eq_true c16; clear c16; have H' := am H; clear H
            have p525 : 0 ≤ (x12_2 : Int) := od
            have q525 : x12_2 < (l2.length : Int) := od
            obtain ⟨ad525, e525, hx525_0⟩ := Kd.at_int HR2.out x12_2 p525 q525
            cases e525; replace p525 := eq_true p525; replace q525 := eq_true q525
            have p526 : 0 ≤ (x13_3 : Int) := od
            have q526 : x13_3 < (l2.length : Int) := od
            obtain ⟨ad526, e526, hx526_0⟩ := Kd.at_int HR2.out x13_3 p526 q526
            obtain rfl : ad525 = ad526 := (by injection e526)
            replace p526 := eq_true p526; replace q526 := eq_true q526; go_wp2
            repeat (go_quiet (fail); try go_wp2)
            go_meet
            case rel => exact ⟨_, (Int.tmod (wrap64 (x9_3 + (wrap64 ((Int.tmod (wrap64 ((rd l1 x10_3) * (rd l2 x12_2))) a0) * (rd l2 x13_3))))) a0), fr, H', ⟨by have := HK1.out; have := HK2.out; have := HK3.out; first | omega | exact Nat.le_refl _⟩, df⟩
           ·rw [if_neg c11] at H
            have c11b0 := beq_eq_false_iff_ne.mpr c11; have c11b1 := bne_iff_ne.mpr c11
            (first | rw [c11b0] | (simp only [i64_w, i32_w]; rw [c11b0]) | skip)
            have H' := am H; clear H; go_wp2
            repeat (go_quiet (fail); try go_wp2)
            go_meet
            case rel => exact ⟨_, (x9_3), fr, H', ⟨by have := HK1.out; have := HK2.out; have := HK3.out; first | omega | exact Nat.le_refl _⟩, df⟩
          case rest =>
           clear HC10; try clear c1; try clear c2; try clear p2; try clear c5; try clear c5b0; try clear p5; try clear q5; try clear hx5; try clear c6; try clear c6b0; try clear p6; try clear c7; try clear c7b0; try clear c8; try clear c8b0; try clear c9
           try clear c9b0; try clear c11; try clear c11b0; try clear c11b1; try clear c12; try clear c12b0; try clear c13; try clear c13b0; try clear c14; try clear c14b0; try clear c14b1; try clear c15; try clear c15b0; try clear c16; try clear c16b0
           try clear hx524_0; try clear hx525_0; try clear hx526_0; try clear p2; try clear p524; try clear p525; try clear p526; try clear q524; try clear q525; try clear q526
           obtain ⟨kq, x9_9, rfl, HA, HJ9, ⟨mc9, rfl⟩⟩ := hcut
           cases kq with
           | zero => exact absurd HA.out (by simp [spec_l6sSlope.j3])
           | succ kj9 =>
            have H := HA.out; clear HA
            simp only [spec_l6sSlope.j3] at H
            by_cases c17 : x12_2 = a3
            ·rw [if_pos c17] at H
             have c17b0 := beq_iff_eq.mpr c17; have c17b1 := bne_eq_false_iff_eq.mpr c17; clear c17; replace H := ifn H; obtain ⟨c18, H⟩ := H; have c18b0 := decide_eq_true c18; clear c18; replace H := ifn H; obtain ⟨c19, H⟩ := H; have c19b0 := decide_eq_true c19
             clear c19; replace H := ifm H; obtain ⟨c20, H⟩ := H; have c20b0 := beq_eq_false_iff_ne.mpr c20; have c20b1 := bne_iff_ne.mpr c20; replace H := ifn H; obtain ⟨c21, H⟩ := H; have c21b0 := decide_eq_true c21; clear c21; replace H := ifn H; obtain ⟨c22, H⟩ := H
             have c22b0 := decide_eq_true c22; clear c22
             by_cases c23 : x13_3 = a3
             ·rw [if_pos c23] at H
              have c23b0 := beq_iff_eq.mpr c23; have c23b1 := bne_eq_false_iff_eq.mpr c23; clear c23; replace H := ifn H; obtain ⟨c24, H⟩ := H; have c24b0 := decide_eq_true c24; clear c24; replace H := ifn H; obtain ⟨c25, H⟩ := H; have c25b0 := decide_eq_true c25
              clear c25; have H' := am H; clear H
              have p527 : 0 ≤ (x11_1 : Int) := od
              have q527 : x11_1 < (l2.length : Int) := od
              obtain ⟨ad527, e527, hx527_0⟩ := Kd.at_int HR2.out x11_1 p527 q527
              cases e527; replace p527 := eq_true p527; replace q527 := eq_true q527
              have p528 : 0 ≤ (x13_3 : Int) := od
              have q528 : x13_3 < (l2.length : Int) := od
              obtain ⟨ad528, e528, hx528_0⟩ := Kd.at_int HR2.out x13_3 p528 q528
              obtain rfl : ad527 = ad528 := (by injection e528)
              replace p528 := eq_true p528; replace q528 := eq_true q528
              have p529 : 0 ≤ (x11_1 : Int) := od
              have q529 : x11_1 < (l2.length : Int) := od
              obtain ⟨ad529, e529, hx529_0⟩ := Kd.at_int HR2.out x11_1 p529 q529
              obtain rfl : ad527 = ad529 := (by injection e529)
              replace p529 := eq_true p529; replace q529 := eq_true q529
              have p530 : 0 ≤ (x12_2 : Int) := od
              have q530 : x12_2 < (l2.length : Int) := od
              obtain ⟨ad530, e530, hx530_0⟩ := Kd.at_int HR2.out x12_2 p530 q530
              obtain rfl : ad527 = ad530 := (by injection e530)
              replace p530 := eq_true p530; replace q530 := eq_true q530; go_wp2
              repeat (go_quiet (fail); try go_wp2)
              go_roundg kj9
              case measure => have := HK1.out; have := HK2.out; have := HK3.out; have := HJ9.out; omega
              case rel => exact ⟨(Int.tmod (wrap64 ((Int.tmod (wrap64 (x9_9 + (wrap64 ((Int.tmod (wrap64 ((rd l1 x10_3) * (rd l2 x11_1))) a0) * (rd l2 x13_3))))) a0) + (wrap64 ((Int.tmod (wrap64 ((rd l1 x10_3) * (rd l2 x11_1))) a0) * (rd l2 x12_2))))) a0), (wrap64 (x10_3 + 1)), (wrap64 (x13_3 + 1)), fr, fr, fr, H', ⟨by have := HK1.out; have := HK2.out; have := HK3.out; have := HJ9.out; omega⟩, df⟩
             ·rw [if_neg c23] at H
              have c23b0 := beq_eq_false_iff_ne.mpr c23; have c23b1 := bne_iff_ne.mpr c23; have H' := am H; clear H
              have p527 : 0 ≤ (x11_1 : Int) := od
              have q527 : x11_1 < (l2.length : Int) := od
              obtain ⟨ad527, e527, hx527_0⟩ := Kd.at_int HR2.out x11_1 p527 q527
              cases e527; replace p527 := eq_true p527; replace q527 := eq_true q527
              have p528 : 0 ≤ (x13_3 : Int) := od
              have q528 : x13_3 < (l2.length : Int) := od
              obtain ⟨ad528, e528, hx528_0⟩ := Kd.at_int HR2.out x13_3 p528 q528
              obtain rfl : ad527 = ad528 := (by injection e528)
              replace p528 := eq_true p528; replace q528 := eq_true q528; go_wp2
              repeat (go_quiet (fail); try go_wp2)
              go_roundg kj9
              case measure => have := HK1.out; have := HK2.out; have := HK3.out; have := HJ9.out; omega
              case rel => exact ⟨(Int.tmod (wrap64 (x9_9 + (wrap64 ((Int.tmod (wrap64 ((rd l1 x10_3) * (rd l2 x11_1))) a0) * (rd l2 x13_3))))) a0), (wrap64 (x10_3 + 1)), (wrap64 (x13_3 + 1)), fr, fr, fr, H', ⟨by have := HK1.out; have := HK2.out; have := HK3.out; have := HJ9.out; omega⟩, df⟩
            ·rw [if_neg c17] at H
             have c17b0 := beq_eq_false_iff_ne.mpr c17; have c17b1 := bne_iff_ne.mpr c17
             by_cases c26 : x13_3 = a3
             ·rw [if_pos c26] at H
              have c26b0 := beq_iff_eq.mpr c26; have c26b1 := bne_eq_false_iff_eq.mpr c26; clear c26; replace H := ifn H; obtain ⟨c27, H⟩ := H; have c27b0 := decide_eq_true c27; clear c27; replace H := ifn H; obtain ⟨c28, H⟩ := H; have c28b0 := decide_eq_true c28
              clear c28; replace H := ifm H; obtain ⟨c29, H⟩ := H; have c29b0 := beq_eq_false_iff_ne.mpr c29; have c29b1 := bne_iff_ne.mpr c29; replace H := ifn H; obtain ⟨c30, H⟩ := H; have c30b0 := decide_eq_true c30; clear c30; replace H := ifn H; obtain ⟨c31, H⟩ := H
              have c31b0 := decide_eq_true c31; clear c31; have H' := am H; clear H
              have p531 : 0 ≤ (x11_1 : Int) := od
              have q531 : x11_1 < (l2.length : Int) := od
              obtain ⟨ad531, e531, hx531_0⟩ := Kd.at_int HR2.out x11_1 p531 q531
              cases e531; replace p531 := eq_true p531; replace q531 := eq_true q531
              have p532 : 0 ≤ (x12_2 : Int) := od
              have q532 : x12_2 < (l2.length : Int) := od
              obtain ⟨ad532, e532, hx532_0⟩ := Kd.at_int HR2.out x12_2 p532 q532
              obtain rfl : ad531 = ad532 := (by injection e532)
              replace p532 := eq_true p532; replace q532 := eq_true q532; go_wp2
              repeat (go_quiet (fail); try go_wp2)
              go_roundg kj9
              case measure => have := HK1.out; have := HK2.out; have := HK3.out; have := HJ9.out; omega
              case rel => exact ⟨(Int.tmod (wrap64 (x9_9 + (wrap64 ((Int.tmod (wrap64 ((rd l1 x10_3) * (rd l2 x11_1))) a0) * (rd l2 x12_2))))) a0), (wrap64 (x10_3 + 1)), (wrap64 (x13_3 + 1)), fr, fr, fr, H', ⟨by have := HK1.out; have := HK2.out; have := HK3.out; have := HJ9.out; omega⟩, df⟩
             ·rw [if_neg c26] at H
              have c26b0 := beq_eq_false_iff_ne.mpr c26; have c26b1 := bne_iff_ne.mpr c26; have H' := am H; clear H; go_wp2
              repeat (go_quiet (fail); try go_wp2)
              go_roundg kj9
              case measure => have := HK1.out; have := HK2.out; have := HK3.out; have := HJ9.out; omega
              case rel => exact ⟨(x9_9), (wrap64 (x10_3 + 1)), (wrap64 (x13_3 + 1)), fr, fr, fr, H', ⟨by have := HK1.out; have := HK2.out; have := HK3.out; have := HJ9.out; omega⟩, df⟩
         ·rw [if_neg c7] at H
          have c7b0 := decide_eq_false c7; clear c7; have H' := am H; clear H; go_wp2
          repeat (go_quiet (fail); try go_wp2)
          go_roundg k3
          case measure => have := HK1.out; have := HK2.out; have := HK3.out; omega
          case rel => exact ⟨(x9_3), (x10_3), (wrap64 (x12_2 + 1)), fr, fr, fr, H', ⟨by have := HK1.out; have := HK2.out; have := HK3.out; omega⟩, df⟩
      ·rw [if_neg c6] at H
       have c6b0 := decide_eq_false c6; clear c6; have H' := am H; clear H; go_wp2
       repeat (go_quiet (fail); try go_wp2)
       go_roundg k2
       case measure => have := HK1.out; have := HK2.out; omega
       case rel => exact ⟨(x9_2), (x10_2), (wrap64 (x11_1 + 1)), fr, fr, fr, H', ⟨by have := HK1.out; have := HK2.out; omega⟩, df⟩
   ·rw [if_neg c5] at H
    have c5b0 := decide_eq_false c5; clear c5; obtain rfl := Option.some.inj H; go_wp2
    repeat (go_quiet (fail); try go_wp2)
    go_ret
    exact ⟨fr, df⟩/-! ### spec_FormSmooth: function 18 -/
def spec_FormSmooth.l0 : Nat → Int → List Int → Int → Option (Bool)
 | 0, _, _, _ => none
 | k + 1, x0, x1, x5 => if x5 < (wrap64 ((wrap64 ((wrap64 (1 + x0)) + (wrap64 (x0 * x0)))) + (wrap64 ((wrap64 (x0 * x0)) * x0)))) then ((spec_l6sPlace.f x0 x5).bind fun t534 => ((spec_l6sValue.f k x0 x1 t534).bind fun t537 => (if t537 = 0 then ((spec_l6sSlope.f k x0 x1 t534 0).bind fun t538 => (if t538 = 0 then ((spec_l6sSlope.f k x0 x1 t534 1).bind fun t539 => (if t539 = 0 then ((spec_l6sSlope.f k x0 x1 t534 2).bind fun t540 => (if t540 = 0 then ((spec_l6sSlope.f k x0 x1 t534 3).bind fun t541 => (if t541 = 0 then (some false) else (spec_FormSmooth.l0 k x0 x1 (wrap64 (x5 + 1))))) else (spec_FormSmooth.l0 k x0 x1 (wrap64 (x5 + 1))))) else (spec_FormSmooth.l0 k x0 x1 (wrap64 (x5 + 1))))) else (spec_FormSmooth.l0 k x0 x1 (wrap64 (x5 + 1))))) else (spec_FormSmooth.l0 k x0 x1 (wrap64 (x5 + 1)))))) else (some true)
def spec_FormSmooth.f (k : Nat) (a0 : Int) (l1 : List Int) : Option (Bool) := (spec_FormIn.f k a0 l1).bind fun t533 => (if t533 = true then (spec_FormSmooth.l0 k a0 l1 0) else (some false))
theorem spec_FormSmooth.mono_l : ∀ k, (∀ y0 y1 y2, LeO (spec_FormSmooth.l0 k y0 y1 y2) (spec_FormSmooth.l0 (k + 1) y0 y1 y2))
 | 0 => fun _ _ _ r h => by simp [spec_FormSmooth.l0] at h
 | k + 1 => by
  have ih0 := spec_FormSmooth.mono_l k
  ·intro y0 y1 y2
   unfold spec_FormSmooth.l0
   repeat' first | (with_reducible first | apply ih0 | apply spec_FormIn.mono | apply spec_l6sSlope.mono | apply spec_l6sValue.mono | exact LeO.refl _ | exact LeO.none _ | refine LeO.ite ?_ ?_ | refine LeO.bind ?_ (fun _ => ?_)) | (first | apply ih0 | apply spec_FormIn.mono | apply spec_l6sSlope.mono | apply spec_l6sValue.mono | exact LeO.none _ | refine LeO.ite ?_ ?_ | refine LeO.bind ?_ (fun _ => ?_))
theorem spec_FormSmooth.mono : ∀ a0 a1 k, LeO (spec_FormSmooth.f k a0 a1) (spec_FormSmooth.f (k + 1) a0 a1) := by
 intro a0 a1 k
 have ih0 := spec_FormSmooth.mono_l k
 unfold spec_FormSmooth.f
 repeat' first | (with_reducible first | apply ih0 | apply spec_FormIn.mono | apply spec_l6sSlope.mono | apply spec_l6sValue.mono | exact LeO.refl _ | exact LeO.none _ | refine LeO.ite ?_ ?_ | refine LeO.bind ?_ (fun _ => ?_)) | (first | apply ih0 | apply spec_FormIn.mono | apply spec_l6sSlope.mono | apply spec_l6sValue.mono | exact LeO.none _ | refine LeO.ite ?_ ?_ | refine LeO.bind ?_ (fun _ => ?_))
set_option maxHeartbeats 8000000 in
set_option maxRecDepth 100000 in
theorem spec_FormSmooth.calls (k : Nat) (a0 : Int) (A1 : Option Addr) (c1 : Nat) (l1 : List Int) (r : Bool) (w : World) (hr1 : Kd.C (Kd.int .i64) w A1 l1.length l1) (hc1 : l1.length ≤ c1) (h : spec_FormSmooth.f k a0 l1 = some r) :
  Calls Try.prog 18 #[.int .i64 a0, .slice A1 l1.length c1] w fun e w' => e = .returned (.bool r) ∧ Below w.heap.size w w' := by
 have HR1 := am hr1
 have HC1 := am hc1
 clear hr1 hc1
 have HB := am (Below.refl w.heap.size w)
 have H : ((spec_FormIn.f k a0 l1).bind fun t533 => (if t533 = true then (spec_FormSmooth.l0 k a0 l1 0) else (some false))) = some r := h
 clear h; replace H := bs H; obtain ⟨t533, A3, H⟩ := H
 by_cases c4 : t533 = true
 ·subst c4
  rw [if_pos rfl] at H
  have H' := am H; clear H
  go_enter Try.func18, Try.ntmps18
  go_wp2_with (first | ((with_reducible refine gate_callee (f := 56) rfl ?_); refine gl 9 Try.func56 #[.int .i64 a0, .slice A1 l1.length c1] ?_; (with_reducible refine (spec_FormIn.calls k a0 _ _ l1 true _ ?_ ?_ A3.out).mono ?_); exact wC HR1; exact HC1.out; rintro e w' ⟨rfl, ⟨nd, rfl⟩⟩; refine ⟨_, rfl, ?_⟩))
  go_loopg [5] k (fun kq v5 w' => ∃ (x5_1 : Int), v5 = .int .i64 x5_1 ∧ Aside0 (spec_FormSmooth.l0 kq a0 l1 x5_1 = some r) ∧ Aside0 (kq ≤ k) ∧ Aside0 (Below w.heap.size w w'))
  case atStart => exact ⟨(0), fr, H', ⟨Nat.le_refl _⟩, ⟨bw HB⟩⟩
  case round =>
   clear H'; try clear c1; try clear p2; try clear c4
   obtain ⟨x5_1, rfl, HA, HK1, HB⟩ := hrel
   cases gk with
   | zero => exact absurd HA.out (by simp [spec_FormSmooth.l0])
   | succ k1 =>
    have H := HA.out; clear HA
    simp only [spec_FormSmooth.l0] at H
    by_cases c5 : x5_1 < (wrap64 ((wrap64 ((wrap64 (1 + a0)) + (wrap64 (a0 * a0)))) + (wrap64 ((wrap64 (a0 * a0)) * a0))))
    ·rw [if_pos c5] at H
     have c5b0 := decide_eq_true c5; clear c5; replace H := bs H; obtain ⟨t534, A6, H⟩ := H; replace H := bs H; obtain ⟨t537, A7, H⟩ := H
     by_cases c8 : t537 = 0
     ·rw [if_pos c8] at H
      have c8b0 := beq_iff_eq.mpr c8; have c8b1 := bne_eq_false_iff_eq.mpr c8; clear c8; replace H := bs H; obtain ⟨t538, A9, H⟩ := H
      by_cases c10 : t538 = 0
      ·rw [if_pos c10] at H
       have c10b0 := beq_iff_eq.mpr c10; have c10b1 := bne_eq_false_iff_eq.mpr c10; clear c10; replace H := bs H; obtain ⟨t539, A11, H⟩ := H
       by_cases c12 : t539 = 0
       ·rw [if_pos c12] at H
        have c12b0 := beq_iff_eq.mpr c12; have c12b1 := bne_eq_false_iff_eq.mpr c12; clear c12; replace H := bs H; obtain ⟨t540, A13, H⟩ := H
        by_cases c14 : t540 = 0
        ·rw [if_pos c14] at H
         have c14b0 := beq_iff_eq.mpr c14; have c14b1 := bne_eq_false_iff_eq.mpr c14; clear c14; replace H := bs H; obtain ⟨t541, A15, H⟩ := H
         by_cases c16 : t541 = 0
         ·rw [if_pos c16] at H
          have c16b0 := beq_iff_eq.mpr c16; have c16b1 := bne_eq_false_iff_eq.mpr c16; clear c16; obtain rfl := Option.some.inj H
          go_wp2_with (first | ((with_reducible refine gate_callee (f := 58) rfl ?_); refine gl 29 Try.func58 #[.int .i64 a0, .int .i64 x5_1] ?_; (with_reducible refine (spec_l6sPlace.calls a0 x5_1 t534 _ A6.out).mono ?_); rintro e w17 ⟨v535, rfl, ho0, hb⟩; refine ⟨_, rfl, ?_⟩; have HO536 := am (Kd.R_lower ho0 (bz HB)); replace HB := bq HB hb; (try clear hb); (try clear ho0); obtain ⟨Ao18, co18, eo18⟩ := Kd.R_slice HO536.out; subst eo18) | ((with_reducible refine gate_callee (f := 57) rfl ?_); refine gl 33 Try.func57 #[.int .i64 a0, .slice A1 l1.length c1, .slice Ao18 t534.length co18] ?_; (with_reducible refine (spec_l6sValue.calls k1 a0 _ _ l1 _ _ t534 t537 _ ?_ ?_ ?_ ?_ A7.out).mono ?_); exact Kd.C_below HR1.out (bw HB); exact HC1.out; exact Kd.C_below (Kd.R_reads' HO536.out).2.2 gs; exact (Kd.R_reads' HO536.out).2.1; rintro e w' ⟨rfl, ⟨nd, rfl⟩⟩; refine ⟨_, rfl, ?_⟩) | (go_at_call 61; (with_reducible refine (spec_l6sSlope.calls k1 a0 _ _ l1 _ _ t534 0 t538 _ ?_ ?_ ?_ ?_ A9.out).mono ?_); exact Kd.C_below HR1.out (bw HB); exact HC1.out; exact Kd.C_below (Kd.R_reads' HO536.out).2.2 gs; exact (Kd.R_reads' HO536.out).2.1; rintro e w' ⟨rfl, ⟨nd, rfl⟩⟩) | (go_at_call 61; (with_reducible refine (spec_l6sSlope.calls k1 a0 _ _ l1 _ _ t534 1 t539 _ ?_ ?_ ?_ ?_ A11.out).mono ?_); exact Kd.C_below HR1.out (bw HB); exact HC1.out; exact Kd.C_below (Kd.R_reads' HO536.out).2.2 gs; exact (Kd.R_reads' HO536.out).2.1; rintro e w' ⟨rfl, ⟨nd, rfl⟩⟩) | (go_at_call 61; (with_reducible refine (spec_l6sSlope.calls k1 a0 _ _ l1 _ _ t534 2 t540 _ ?_ ?_ ?_ ?_ A13.out).mono ?_); exact Kd.C_below HR1.out (bw HB); exact HC1.out; exact Kd.C_below (Kd.R_reads' HO536.out).2.2 gs; exact (Kd.R_reads' HO536.out).2.1; rintro e w' ⟨rfl, ⟨nd, rfl⟩⟩) | (go_at_call 61; (with_reducible refine (spec_l6sSlope.calls k1 a0 _ _ l1 _ _ t534 3 t541 _ ?_ ?_ ?_ ?_ A15.out).mono ?_); exact Kd.C_below HR1.out (bw HB); exact HC1.out; exact Kd.C_below (Kd.R_reads' HO536.out).2.2 gs; exact (Kd.R_reads' HO536.out).2.1; rintro e w' ⟨rfl, ⟨nd, rfl⟩⟩))
          go_ret
          exact ⟨fq, bw HB⟩
         ·rw [if_neg c16] at H
          have c16b0 := beq_eq_false_iff_ne.mpr c16; have c16b1 := bne_iff_ne.mpr c16; have H' := am H; clear H
          go_wp2_with (first | ((with_reducible refine gate_callee (f := 58) rfl ?_); refine gl 29 Try.func58 #[.int .i64 a0, .int .i64 x5_1] ?_; (with_reducible refine (spec_l6sPlace.calls a0 x5_1 t534 _ A6.out).mono ?_); rintro e w19 ⟨v535, rfl, ho0, hb⟩; refine ⟨_, rfl, ?_⟩; have HO536 := am (Kd.R_lower ho0 (bz HB)); replace HB := bq HB hb; (try clear hb); (try clear ho0); obtain ⟨Ao20, co20, eo20⟩ := Kd.R_slice HO536.out; subst eo20) | ((with_reducible refine gate_callee (f := 57) rfl ?_); refine gl 33 Try.func57 #[.int .i64 a0, .slice A1 l1.length c1, .slice Ao20 t534.length co20] ?_; (with_reducible refine (spec_l6sValue.calls k1 a0 _ _ l1 _ _ t534 t537 _ ?_ ?_ ?_ ?_ A7.out).mono ?_); exact Kd.C_below HR1.out (bw HB); exact HC1.out; exact Kd.C_below (Kd.R_reads' HO536.out).2.2 gs; exact (Kd.R_reads' HO536.out).2.1; rintro e w' ⟨rfl, ⟨nd, rfl⟩⟩; refine ⟨_, rfl, ?_⟩) | (go_at_call 61; (with_reducible refine (spec_l6sSlope.calls k1 a0 _ _ l1 _ _ t534 0 t538 _ ?_ ?_ ?_ ?_ A9.out).mono ?_); exact Kd.C_below HR1.out (bw HB); exact HC1.out; exact Kd.C_below (Kd.R_reads' HO536.out).2.2 gs; exact (Kd.R_reads' HO536.out).2.1; rintro e w' ⟨rfl, ⟨nd, rfl⟩⟩) | (go_at_call 61; (with_reducible refine (spec_l6sSlope.calls k1 a0 _ _ l1 _ _ t534 1 t539 _ ?_ ?_ ?_ ?_ A11.out).mono ?_); exact Kd.C_below HR1.out (bw HB); exact HC1.out; exact Kd.C_below (Kd.R_reads' HO536.out).2.2 gs; exact (Kd.R_reads' HO536.out).2.1; rintro e w' ⟨rfl, ⟨nd, rfl⟩⟩) | (go_at_call 61; (with_reducible refine (spec_l6sSlope.calls k1 a0 _ _ l1 _ _ t534 2 t540 _ ?_ ?_ ?_ ?_ A13.out).mono ?_); exact Kd.C_below HR1.out (bw HB); exact HC1.out; exact Kd.C_below (Kd.R_reads' HO536.out).2.2 gs; exact (Kd.R_reads' HO536.out).2.1; rintro e w' ⟨rfl, ⟨nd, rfl⟩⟩) | (go_at_call 61; (with_reducible refine (spec_l6sSlope.calls k1 a0 _ _ l1 _ _ t534 3 t541 _ ?_ ?_ ?_ ?_ A15.out).mono ?_); exact Kd.C_below HR1.out (bw HB); exact HC1.out; exact Kd.C_below (Kd.R_reads' HO536.out).2.2 gs; exact (Kd.R_reads' HO536.out).2.1; rintro e w' ⟨rfl, ⟨nd, rfl⟩⟩))
          go_roundg k1
          case measure => have := HK1.out; omega
          case rel => exact ⟨(wrap64 (x5_1 + 1)), fr, H', ⟨by have := HK1.out; omega⟩, ⟨bw HB⟩⟩
        ·rw [if_neg c14] at H
         have c14b0 := beq_eq_false_iff_ne.mpr c14; have c14b1 := bne_iff_ne.mpr c14; have H' := am H; clear H
         go_wp2_with (first | ((with_reducible refine gate_callee (f := 58) rfl ?_); refine gl 29 Try.func58 #[.int .i64 a0, .int .i64 x5_1] ?_; (with_reducible refine (spec_l6sPlace.calls a0 x5_1 t534 _ A6.out).mono ?_); rintro e w21 ⟨v535, rfl, ho0, hb⟩; refine ⟨_, rfl, ?_⟩; have HO536 := am (Kd.R_lower ho0 (bz HB)); replace HB := bq HB hb; (try clear hb); (try clear ho0); obtain ⟨Ao22, co22, eo22⟩ := Kd.R_slice HO536.out; subst eo22) | ((with_reducible refine gate_callee (f := 57) rfl ?_); refine gl 33 Try.func57 #[.int .i64 a0, .slice A1 l1.length c1, .slice Ao22 t534.length co22] ?_; (with_reducible refine (spec_l6sValue.calls k1 a0 _ _ l1 _ _ t534 t537 _ ?_ ?_ ?_ ?_ A7.out).mono ?_); exact Kd.C_below HR1.out (bw HB); exact HC1.out; exact Kd.C_below (Kd.R_reads' HO536.out).2.2 gs; exact (Kd.R_reads' HO536.out).2.1; rintro e w' ⟨rfl, ⟨nd, rfl⟩⟩; refine ⟨_, rfl, ?_⟩) | (go_at_call 61; (with_reducible refine (spec_l6sSlope.calls k1 a0 _ _ l1 _ _ t534 0 t538 _ ?_ ?_ ?_ ?_ A9.out).mono ?_); exact Kd.C_below HR1.out (bw HB); exact HC1.out; exact Kd.C_below (Kd.R_reads' HO536.out).2.2 gs; exact (Kd.R_reads' HO536.out).2.1; rintro e w' ⟨rfl, ⟨nd, rfl⟩⟩) | (go_at_call 61; (with_reducible refine (spec_l6sSlope.calls k1 a0 _ _ l1 _ _ t534 1 t539 _ ?_ ?_ ?_ ?_ A11.out).mono ?_); exact Kd.C_below HR1.out (bw HB); exact HC1.out; exact Kd.C_below (Kd.R_reads' HO536.out).2.2 gs; exact (Kd.R_reads' HO536.out).2.1; rintro e w' ⟨rfl, ⟨nd, rfl⟩⟩) | (go_at_call 61; (with_reducible refine (spec_l6sSlope.calls k1 a0 _ _ l1 _ _ t534 2 t540 _ ?_ ?_ ?_ ?_ A13.out).mono ?_); exact Kd.C_below HR1.out (bw HB); exact HC1.out; exact Kd.C_below (Kd.R_reads' HO536.out).2.2 gs; exact (Kd.R_reads' HO536.out).2.1; rintro e w' ⟨rfl, ⟨nd, rfl⟩⟩))
         go_roundg k1
         case measure => have := HK1.out; omega
         case rel => exact ⟨(wrap64 (x5_1 + 1)), fr, H', ⟨by have := HK1.out; omega⟩, ⟨bw HB⟩⟩
       ·rw [if_neg c12] at H
        have c12b0 := beq_eq_false_iff_ne.mpr c12; have c12b1 := bne_iff_ne.mpr c12; have H' := am H; clear H
        go_wp2_with (first | ((with_reducible refine gate_callee (f := 58) rfl ?_); refine gl 29 Try.func58 #[.int .i64 a0, .int .i64 x5_1] ?_; (with_reducible refine (spec_l6sPlace.calls a0 x5_1 t534 _ A6.out).mono ?_); rintro e w23 ⟨v535, rfl, ho0, hb⟩; refine ⟨_, rfl, ?_⟩; have HO536 := am (Kd.R_lower ho0 (bz HB)); replace HB := bq HB hb; (try clear hb); (try clear ho0); obtain ⟨Ao24, co24, eo24⟩ := Kd.R_slice HO536.out; subst eo24) | ((with_reducible refine gate_callee (f := 57) rfl ?_); refine gl 33 Try.func57 #[.int .i64 a0, .slice A1 l1.length c1, .slice Ao24 t534.length co24] ?_; (with_reducible refine (spec_l6sValue.calls k1 a0 _ _ l1 _ _ t534 t537 _ ?_ ?_ ?_ ?_ A7.out).mono ?_); exact Kd.C_below HR1.out (bw HB); exact HC1.out; exact Kd.C_below (Kd.R_reads' HO536.out).2.2 gs; exact (Kd.R_reads' HO536.out).2.1; rintro e w' ⟨rfl, ⟨nd, rfl⟩⟩; refine ⟨_, rfl, ?_⟩) | (go_at_call 61; (with_reducible refine (spec_l6sSlope.calls k1 a0 _ _ l1 _ _ t534 0 t538 _ ?_ ?_ ?_ ?_ A9.out).mono ?_); exact Kd.C_below HR1.out (bw HB); exact HC1.out; exact Kd.C_below (Kd.R_reads' HO536.out).2.2 gs; exact (Kd.R_reads' HO536.out).2.1; rintro e w' ⟨rfl, ⟨nd, rfl⟩⟩) | (go_at_call 61; (with_reducible refine (spec_l6sSlope.calls k1 a0 _ _ l1 _ _ t534 1 t539 _ ?_ ?_ ?_ ?_ A11.out).mono ?_); exact Kd.C_below HR1.out (bw HB); exact HC1.out; exact Kd.C_below (Kd.R_reads' HO536.out).2.2 gs; exact (Kd.R_reads' HO536.out).2.1; rintro e w' ⟨rfl, ⟨nd, rfl⟩⟩))
        go_roundg k1
        case measure => have := HK1.out; omega
        case rel => exact ⟨(wrap64 (x5_1 + 1)), fr, H', ⟨by have := HK1.out; omega⟩, ⟨bw HB⟩⟩
      ·rw [if_neg c10] at H
       have c10b0 := beq_eq_false_iff_ne.mpr c10; have c10b1 := bne_iff_ne.mpr c10; have H' := am H; clear H
       go_wp2_with (first | ((with_reducible refine gate_callee (f := 58) rfl ?_); refine gl 29 Try.func58 #[.int .i64 a0, .int .i64 x5_1] ?_; (with_reducible refine (spec_l6sPlace.calls a0 x5_1 t534 _ A6.out).mono ?_); rintro e w25 ⟨v535, rfl, ho0, hb⟩; refine ⟨_, rfl, ?_⟩; have HO536 := am (Kd.R_lower ho0 (bz HB)); replace HB := bq HB hb; (try clear hb); (try clear ho0); obtain ⟨Ao26, co26, eo26⟩ := Kd.R_slice HO536.out; subst eo26) | ((with_reducible refine gate_callee (f := 57) rfl ?_); refine gl 33 Try.func57 #[.int .i64 a0, .slice A1 l1.length c1, .slice Ao26 t534.length co26] ?_; (with_reducible refine (spec_l6sValue.calls k1 a0 _ _ l1 _ _ t534 t537 _ ?_ ?_ ?_ ?_ A7.out).mono ?_); exact Kd.C_below HR1.out (bw HB); exact HC1.out; exact Kd.C_below (Kd.R_reads' HO536.out).2.2 gs; exact (Kd.R_reads' HO536.out).2.1; rintro e w' ⟨rfl, ⟨nd, rfl⟩⟩; refine ⟨_, rfl, ?_⟩) | (go_at_call 61; (with_reducible refine (spec_l6sSlope.calls k1 a0 _ _ l1 _ _ t534 0 t538 _ ?_ ?_ ?_ ?_ A9.out).mono ?_); exact Kd.C_below HR1.out (bw HB); exact HC1.out; exact Kd.C_below (Kd.R_reads' HO536.out).2.2 gs; exact (Kd.R_reads' HO536.out).2.1; rintro e w' ⟨rfl, ⟨nd, rfl⟩⟩))
       go_roundg k1
       case measure => have := HK1.out; omega
       case rel => exact ⟨(wrap64 (x5_1 + 1)), fr, H', ⟨by have := HK1.out; omega⟩, ⟨bw HB⟩⟩
     ·rw [if_neg c8] at H
      have c8b0 := beq_eq_false_iff_ne.mpr c8; have c8b1 := bne_iff_ne.mpr c8; have H' := am H; clear H
      go_wp2_with (first | ((with_reducible refine gate_callee (f := 58) rfl ?_); refine gl 29 Try.func58 #[.int .i64 a0, .int .i64 x5_1] ?_; (with_reducible refine (spec_l6sPlace.calls a0 x5_1 t534 _ A6.out).mono ?_); rintro e w27 ⟨v535, rfl, ho0, hb⟩; refine ⟨_, rfl, ?_⟩; have HO536 := am (Kd.R_lower ho0 (bz HB)); replace HB := bq HB hb; (try clear hb); (try clear ho0); obtain ⟨Ao28, co28, eo28⟩ := Kd.R_slice HO536.out; subst eo28) | ((with_reducible refine gate_callee (f := 57) rfl ?_); refine gl 33 Try.func57 #[.int .i64 a0, .slice A1 l1.length c1, .slice Ao28 t534.length co28] ?_; (with_reducible refine (spec_l6sValue.calls k1 a0 _ _ l1 _ _ t534 t537 _ ?_ ?_ ?_ ?_ A7.out).mono ?_); exact Kd.C_below HR1.out (bw HB); exact HC1.out; exact Kd.C_below (Kd.R_reads' HO536.out).2.2 gs; exact (Kd.R_reads' HO536.out).2.1; rintro e w' ⟨rfl, ⟨nd, rfl⟩⟩; refine ⟨_, rfl, ?_⟩))
      go_roundg k1
      case measure => have := HK1.out; omega
      case rel => exact ⟨(wrap64 (x5_1 + 1)), fr, H', ⟨by have := HK1.out; omega⟩, ⟨bw HB⟩⟩
    ·rw [if_neg c5] at H
     have c5b0 := decide_eq_false c5; clear c5; obtain rfl := Option.some.inj H; go_wp2; go_ret
     exact ⟨fq, bw HB⟩
 ·replace c4 := Bool.eq_false_iff.mpr c4
  subst c4
  rw [if_neg (show ¬ (false = true) by decide)] at H
  obtain rfl := Option.some.inj H
  go_enter Try.func18, Try.ntmps18
  go_wp2_with (first | ((with_reducible refine gate_callee (f := 56) rfl ?_); refine gl 9 Try.func56 #[.int .i64 a0, .slice A1 l1.length c1] ?_; (with_reducible refine (spec_FormIn.calls k a0 _ _ l1 false _ ?_ ?_ A3.out).mono ?_); exact wC HR1; exact HC1.out; rintro e w' ⟨rfl, ⟨nd, rfl⟩⟩; refine ⟨_, rfl, ?_⟩))
  go_ret
  exact ⟨fq, bw HB⟩
end Go.Proofs.Ytmgbpmihbljngaa.PA

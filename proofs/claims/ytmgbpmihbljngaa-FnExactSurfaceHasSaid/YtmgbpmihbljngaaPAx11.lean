-- Written by xprint.py, a program of this claim's own (over the kit's print.py)
import Derived.Test.YtmgbpmihbljngaaPAx0
import Derived.BigQuiet
import Derived.Deep.QuietTactic
namespace Go.Proofs.Ytmgbpmihbljngaa.PA
open Go.RowKit Go.Proofs.YtmgbpmihbljngaaW.PrintWords Go.Proofs.YtmgbpmihbljngaaW.PrintLast Go.Proofs.YtmgbpmihbljngaaW.PrintMore
attribute [local go_sem] max2_int min2_int max_two min_two max_three min_three max_four min_four   -- for this text's walks alone
set_option linter.unusedVariables false
set_option linter.unusedSimpArgs false

/-! ### spec_l6sValue: function 57 -/
mutual
def spec_l6sValue.l0 : Nat → Int → List Int → List Int → Int → Int → Int → Option (Int)
 | 0, _, _, _, _, _, _ => none
 | k + 1, x0, x1, x2, x7, x8, x9 => if x9 < 4 then (spec_l6sValue.l1 k x0 x1 x2 x7 x8 x9 x9) else (some x7)
def spec_l6sValue.l1 : Nat → Int → List Int → List Int → Int → Int → Int → Int → Option (Int)
 | 0, _, _, _, _, _, _, _ => none
 | k + 1, x0, x1, x2, x7, x8, x9, x10 => if x10 < 4 then (spec_l6sValue.l2 k x0 x1 x2 x7 x8 x9 x10 x10) else (spec_l6sValue.l0 k x0 x1 x2 x7 x8 (wrap64 (x9 + 1)))
def spec_l6sValue.l2 : Nat → Int → List Int → List Int → Int → Int → Int → Int → Int → Option (Int)
 | 0, _, _, _, _, _, _, _, _ => none
 | k + 1, x0, x1, x2, x7, x8, x9, x10, x11 => if x11 < 4 then (if 0 ≤ x8 then (if x8 < (x1.length : Int) then (if 0 ≤ x9 then (if x9 < (x2.length : Int) then (if x0 = 0 then (none) else (if 0 ≤ x10 then (if x10 < (x2.length : Int) then (if 0 ≤ x11 then (if x11 < (x2.length : Int) then (spec_l6sValue.l2 k x0 x1 x2 (Int.tmod (wrap64 (x7 + (wrap64 ((Int.tmod (wrap64 ((Int.tmod (wrap64 ((rd x1 x8) * (rd x2 x9))) x0) * (rd x2 x10))) x0) * (rd x2 x11))))) x0) (wrap64 (x8 + 1)) x9 x10 (wrap64 (x11 + 1))) else (none)) else (none)) else (none)) else (none))) else (none)) else (none)) else (none)) else (none)) else (spec_l6sValue.l1 k x0 x1 x2 x7 x8 x9 (wrap64 (x10 + 1)))
end
def spec_l6sValue.f (k : Nat) (a0 : Int) (l1 : List Int) (l2 : List Int) : Option (Int) := spec_l6sValue.l0 k a0 l1 l2 0 0 0
theorem spec_l6sValue.mono_l : ∀ k, (∀ y0 y1 y2 y3 y4 y5, LeO (spec_l6sValue.l0 k y0 y1 y2 y3 y4 y5) (spec_l6sValue.l0 (k + 1) y0 y1 y2 y3 y4 y5)) ∧ (∀ y0 y1 y2 y3 y4 y5 y6, LeO (spec_l6sValue.l1 k y0 y1 y2 y3 y4 y5 y6) (spec_l6sValue.l1 (k + 1) y0 y1 y2 y3 y4 y5 y6)) ∧ (∀ y0 y1 y2 y3 y4 y5 y6 y7, LeO (spec_l6sValue.l2 k y0 y1 y2 y3 y4 y5 y6 y7) (spec_l6sValue.l2 (k + 1) y0 y1 y2 y3 y4 y5 y6 y7))
 | 0 => ⟨fun _ _ _ _ _ _ r h => by simp [spec_l6sValue.l0] at h, fun _ _ _ _ _ _ _ r h => by simp [spec_l6sValue.l1] at h, fun _ _ _ _ _ _ _ _ r h => by simp [spec_l6sValue.l2] at h⟩
 | k + 1 => by
  obtain ⟨ih0, ih1, ih2⟩ := spec_l6sValue.mono_l k
  refine ⟨?_, ?_, ?_⟩
  ·intro y0 y1 y2 y3 y4 y5
   unfold spec_l6sValue.l0
   repeat' first | (with_reducible first | apply ih0 | apply ih1 | apply ih2 | exact LeO.refl _ | exact LeO.none _ | refine LeO.ite ?_ ?_ | refine LeO.bind ?_ (fun _ => ?_)) | (first | apply ih0 | apply ih1 | apply ih2 | exact LeO.none _ | refine LeO.ite ?_ ?_ | refine LeO.bind ?_ (fun _ => ?_))
  ·intro y0 y1 y2 y3 y4 y5 y6
   unfold spec_l6sValue.l1
   repeat' first | (with_reducible first | apply ih0 | apply ih1 | apply ih2 | exact LeO.refl _ | exact LeO.none _ | refine LeO.ite ?_ ?_ | refine LeO.bind ?_ (fun _ => ?_)) | (first | apply ih0 | apply ih1 | apply ih2 | exact LeO.none _ | refine LeO.ite ?_ ?_ | refine LeO.bind ?_ (fun _ => ?_))
  ·intro y0 y1 y2 y3 y4 y5 y6 y7
   unfold spec_l6sValue.l2
   repeat' first | (with_reducible first | apply ih0 | apply ih1 | apply ih2 | exact LeO.refl _ | exact LeO.none _ | refine LeO.ite ?_ ?_ | refine LeO.bind ?_ (fun _ => ?_)) | (first | apply ih0 | apply ih1 | apply ih2 | exact LeO.none _ | refine LeO.ite ?_ ?_ | refine LeO.bind ?_ (fun _ => ?_))
theorem spec_l6sValue.mono : ∀ a0 a1 a2 k, LeO (spec_l6sValue.f k a0 a1 a2) (spec_l6sValue.f (k + 1) a0 a1 a2) := by
 intro a0 a1 a2 k
 obtain ⟨ih0, ih1, ih2⟩ := spec_l6sValue.mono_l k
 unfold spec_l6sValue.f
 repeat' first | (with_reducible first | apply ih0 | apply ih1 | apply ih2 | exact LeO.refl _ | exact LeO.none _ | refine LeO.ite ?_ ?_ | refine LeO.bind ?_ (fun _ => ?_)) | (first | apply ih0 | apply ih1 | apply ih2 | exact LeO.none _ | refine LeO.ite ?_ ?_ | refine LeO.bind ?_ (fun _ => ?_))
set_option maxHeartbeats 8000000 in
set_option maxRecDepth 100000 in
theorem spec_l6sValue.calls (k : Nat) (a0 : Int) (A1 : Option Addr) (c1 : Nat) (l1 : List Int) (A2 : Option Addr) (c2 : Nat) (l2 : List Int) (r : Int) (w : World) (hr1 : Kd.C (Kd.int .i64) w A1 l1.length l1) (hc1 : l1.length ≤ c1) (hr2 : Kd.C (Kd.int .i64) w A2 l2.length l2) (hc2 : l2.length ≤ c2) (h : spec_l6sValue.f k a0 l1 l2 = some r) :
  Calls Try.prog 57 #[.int .i64 a0, .slice A1 l1.length c1, .slice A2 l2.length c2] w fun e w' => e = .returned (.int .i64 r) ∧ Drawn0 w w' := by
 have HR1 := am hr1
 have HC1 := am hc1
 clear hr1 hc1
 have HR2 := am hr2
 have HC2 := am hc2
 clear hr2 hc2
 have H : (spec_l6sValue.l0 k a0 l1 l2 0 0 0) = some r := h
 clear h; have H' := am H; clear H
 go_enter Try.func57, Try.ntmps57
 go_wp2
 repeat (go_quiet (fail); try go_wp2)
 go_loopg [7, 8, 9] k (fun kq v7 v8 v9 w' => ∃ (x7_1 : Int) (x8_1 : Int) (x9_1 : Int), v7 = .int .i64 x7_1 ∧ v8 = .int .i64 x8_1 ∧ v9 = .int .i64 x9_1 ∧ Aside0 (spec_l6sValue.l0 kq a0 l1 l2 x7_1 x8_1 x9_1 = some r) ∧ Aside0 (kq ≤ k) ∧ Drawn0 w w')
 case atStart => exact ⟨(0), (0), (0), fr, fr, fr, H', ⟨Nat.le_refl _⟩, df⟩
 case round =>
  clear H'; try clear c1; try clear c2; try clear p2
  obtain ⟨x7_1, x8_1, x9_1, rfl, rfl, rfl, HA, HK1, ⟨m1, rfl⟩⟩ := hrel
  cases gk with
  | zero => exact absurd HA.out (by simp [spec_l6sValue.l0])
  | succ k1 =>
   have H := HA.out; clear HA
   simp only [spec_l6sValue.l0] at H
   by_cases c4 : x9_1 < 4
   ·rw [if_pos c4] at H
    have c4b0 := decide_eq_true c4; clear c4; have H' := am H; clear H; go_wp2
    repeat (go_quiet (fail); try go_wp2)
    go_loopg [7, 8, 10] k1 (fun kq v7 v8 v10 w' => ∃ (x7_2 : Int) (x8_2 : Int) (x10_2 : Int), v7 = .int .i64 x7_2 ∧ v8 = .int .i64 x8_2 ∧ v10 = .int .i64 x10_2 ∧ Aside0 (spec_l6sValue.l1 kq a0 l1 l2 x7_2 x8_2 x9_1 x10_2 = some r) ∧ Aside0 (kq ≤ k1) ∧ Drawn0 w w')
    case atStart => exact ⟨(x7_1), (x8_1), (x9_1), fr, fr, fr, H', ⟨Nat.le_refl _⟩, df⟩
    case round =>
     clear H'; try clear c1; try clear c2; try clear p2; try clear c4; try clear c4b0; try clear p2
     obtain ⟨x7_2, x8_2, x10_2, rfl, rfl, rfl, HA, HK2, ⟨m2, rfl⟩⟩ := hrel
     cases gk with
     | zero => exact absurd HA.out (by simp [spec_l6sValue.l1])
     | succ k2 =>
      have H := HA.out; clear HA
      simp only [spec_l6sValue.l1] at H
      by_cases c5 : x10_2 < 4
      ·rw [if_pos c5] at H
       have c5b0 := decide_eq_true c5; clear c5; have H' := am H; clear H; go_wp2
       repeat (go_quiet (fail); try go_wp2)
       go_loopg [7, 8, 11] k2 (fun kq v7 v8 v11 w' => ∃ (x7_3 : Int) (x8_3 : Int) (x11_3 : Int), v7 = .int .i64 x7_3 ∧ v8 = .int .i64 x8_3 ∧ v11 = .int .i64 x11_3 ∧ Aside0 (spec_l6sValue.l2 kq a0 l1 l2 x7_3 x8_3 x9_1 x10_2 x11_3 = some r) ∧ Aside0 (kq ≤ k2) ∧ Drawn0 w w')
       case atStart => exact ⟨(x7_2), (x8_2), (x10_2), fr, fr, fr, H', ⟨Nat.le_refl _⟩, df⟩
       case round =>
        clear H'; try clear c1; try clear c2; try clear p2; try clear c4; try clear c4b0; try clear c5; try clear c5b0; try clear p2
        obtain ⟨x7_3, x8_3, x11_3, rfl, rfl, rfl, HA, HK3, ⟨m3, rfl⟩⟩ := hrel
        cases gk with
        | zero => exact absurd HA.out (by simp [spec_l6sValue.l2])
        | succ k3 =>
         have H := HA.out; clear HA
         simp only [spec_l6sValue.l2] at H
         by_cases c6 : x11_3 < 4
         ·rw [if_pos c6] at H
          have c6b0 := decide_eq_true c6; clear c6; replace H := ifn H; obtain ⟨c7, H⟩ := H; have c7b0 := decide_eq_true c7; clear c7; replace H := ifn H; obtain ⟨c8, H⟩ := H; have c8b0 := decide_eq_true c8; clear c8; replace H := ifn H; obtain ⟨c9, H⟩ := H
          have c9b0 := decide_eq_true c9; clear c9; replace H := ifn H; obtain ⟨c10, H⟩ := H; have c10b0 := decide_eq_true c10; clear c10; replace H := ifm H; obtain ⟨c11, H⟩ := H; have c11b0 := beq_eq_false_iff_ne.mpr c11; have c11b1 := bne_iff_ne.mpr c11
          replace H := ifn H; obtain ⟨c12, H⟩ := H; have c12b0 := decide_eq_true c12; clear c12; replace H := ifn H; obtain ⟨c13, H⟩ := H; have c13b0 := decide_eq_true c13; clear c13; replace H := ifn H; obtain ⟨c14, H⟩ := H; have c14b0 := decide_eq_true c14
          clear c14; replace H := ifn H; obtain ⟨c15, H⟩ := H; have c15b0 := decide_eq_true c15; clear c15; have H' := am H; clear H
          have p243 : 0 ≤ (x8_3 : Int) := od
          have q243 : x8_3 < (l1.length : Int) := od
          obtain ⟨ad243, e243, hx243_0⟩ := Kd.at_int HR1.out x8_3 p243 q243
          cases e243; replace p243 := eq_true p243; replace q243 := eq_true q243
          have p244 : 0 ≤ (x9_1 : Int) := od
          have q244 : x9_1 < (l2.length : Int) := od
          obtain ⟨ad244, e244, hx244_0⟩ := Kd.at_int HR2.out x9_1 p244 q244
          cases e244; replace p244 := eq_true p244; replace q244 := eq_true q244
          have p245 : 0 ≤ (x10_2 : Int) := od
          have q245 : x10_2 < (l2.length : Int) := od
          obtain ⟨ad245, e245, hx245_0⟩ := Kd.at_int HR2.out x10_2 p245 q245
          obtain rfl : ad244 = ad245 := (by injection e245)
          replace p245 := eq_true p245; replace q245 := eq_true q245
          have p246 : 0 ≤ (x11_3 : Int) := od
          have q246 : x11_3 < (l2.length : Int) := od
          obtain ⟨ad246, e246, hx246_0⟩ := Kd.at_int HR2.out x11_3 p246 q246
          obtain rfl : ad244 = ad246 := (by injection e246)
          replace p246 := eq_true p246; replace q246 := eq_true q246; go_wp2
          repeat (go_quiet (fail); try go_wp2)
          go_roundg k3
          case measure => have := HK1.out; have := HK2.out; have := HK3.out; omega
          case rel => exact ⟨(Int.tmod (wrap64 (x7_3 + (wrap64 ((Int.tmod (wrap64 ((Int.tmod (wrap64 ((rd l1 x8_3) * (rd l2 x9_1))) a0) * (rd l2 x10_2))) a0) * (rd l2 x11_3))))) a0), (wrap64 (x8_3 + 1)), (wrap64 (x11_3 + 1)), fr, fr, fr, H', ⟨by have := HK1.out; have := HK2.out; have := HK3.out; omega⟩, df⟩
         ·rw [if_neg c6] at H
          have c6b0 := decide_eq_false c6; clear c6; have H' := am H; clear H; go_wp2
          repeat (go_quiet (fail); try go_wp2)
          go_roundg k3
          case measure => have := HK1.out; have := HK2.out; have := HK3.out; omega
          case rel => exact ⟨(x7_3), (x8_3), (wrap64 (x10_2 + 1)), fr, fr, fr, H', ⟨by have := HK1.out; have := HK2.out; have := HK3.out; omega⟩, df⟩
      ·rw [if_neg c5] at H
       have c5b0 := decide_eq_false c5; clear c5; have H' := am H; clear H; go_wp2
       repeat (go_quiet (fail); try go_wp2)
       go_roundg k2
       case measure => have := HK1.out; have := HK2.out; omega
       case rel => exact ⟨(x7_2), (x8_2), (wrap64 (x9_1 + 1)), fr, fr, fr, H', ⟨by have := HK1.out; have := HK2.out; omega⟩, df⟩
   ·rw [if_neg c4] at H
    have c4b0 := decide_eq_false c4; clear c4; obtain rfl := Option.some.inj H; go_wp2
    repeat (go_quiet (fail); try go_wp2)
    go_ret
    exact ⟨fr, df⟩/-! ### spec_PrimeIn: function 103 -/
def spec_PrimeIn.f (a0 : Int) : Option (Bool) := if a0 = 7 then (some true) else (if a0 = 11 then (some true) else (if a0 = 13 then (some true) else (if a0 = 17 then (some true) else (if a0 = 19 then (some true) else (if a0 = 23 then (some true) else (if a0 = 29 then (some true) else (if a0 = 31 then (some true) else (some false))))))))
set_option maxHeartbeats 8000000 in
set_option maxRecDepth 100000 in
theorem spec_PrimeIn.calls (a0 : Int) (r : Bool) (w : World) (h : spec_PrimeIn.f a0 = some r) :
  Calls Try.prog 103 #[.int .i64 a0] w fun e w' => e = .returned (.bool r) ∧ Drawn0 w w' := by
 have H : (if a0 = 7 then (some true) else (if a0 = 11 then (some true) else (if a0 = 13 then (some true) else (if a0 = 17 then (some true) else (if a0 = 19 then (some true) else (if a0 = 23 then (some true) else (if a0 = 29 then (some true) else (if a0 = 31 then (some true) else (some false))))))))) = some r := h
 clear h
 by_cases c2 : a0 = 7
 ·rw [if_pos c2] at H
  have c2b0 := beq_iff_eq.mpr c2; have c2b1 := bne_eq_false_iff_eq.mpr c2; clear c2; obtain rfl := Option.some.inj H
  go_enter Try.func103, Try.ntmps103
  go_wp2; go_ret
  exact ⟨fr, df⟩
 ·rw [if_neg c2] at H
  have c2b0 := beq_eq_false_iff_ne.mpr c2; have c2b1 := bne_iff_ne.mpr c2
  by_cases c3 : a0 = 11
  ·rw [if_pos c3] at H
   have c3b0 := beq_iff_eq.mpr c3; have c3b1 := bne_eq_false_iff_eq.mpr c3; clear c3; obtain rfl := Option.some.inj H
   go_enter Try.func103, Try.ntmps103
   go_wp2; go_ret
   exact ⟨fr, df⟩
  ·rw [if_neg c3] at H
   have c3b0 := beq_eq_false_iff_ne.mpr c3; have c3b1 := bne_iff_ne.mpr c3
   by_cases c4 : a0 = 13
   ·rw [if_pos c4] at H
    have c4b0 := beq_iff_eq.mpr c4; have c4b1 := bne_eq_false_iff_eq.mpr c4; clear c4; obtain rfl := Option.some.inj H
    go_enter Try.func103, Try.ntmps103
    go_wp2; go_ret
    exact ⟨fr, df⟩
   ·rw [if_neg c4] at H
    have c4b0 := beq_eq_false_iff_ne.mpr c4; have c4b1 := bne_iff_ne.mpr c4
    by_cases c5 : a0 = 17
    ·rw [if_pos c5] at H
     have c5b0 := beq_iff_eq.mpr c5; have c5b1 := bne_eq_false_iff_eq.mpr c5; clear c5; obtain rfl := Option.some.inj H
     go_enter Try.func103, Try.ntmps103
     go_wp2; go_ret
     exact ⟨fr, df⟩
    ·rw [if_neg c5] at H
     have c5b0 := beq_eq_false_iff_ne.mpr c5; have c5b1 := bne_iff_ne.mpr c5
     by_cases c6 : a0 = 19
     ·rw [if_pos c6] at H
      have c6b0 := beq_iff_eq.mpr c6; have c6b1 := bne_eq_false_iff_eq.mpr c6; clear c6; obtain rfl := Option.some.inj H
      go_enter Try.func103, Try.ntmps103
      go_wp2; go_ret
      exact ⟨fr, df⟩
     ·rw [if_neg c6] at H
      have c6b0 := beq_eq_false_iff_ne.mpr c6; have c6b1 := bne_iff_ne.mpr c6
      by_cases c7 : a0 = 23
      ·rw [if_pos c7] at H
       have c7b0 := beq_iff_eq.mpr c7; have c7b1 := bne_eq_false_iff_eq.mpr c7; clear c7; obtain rfl := Option.some.inj H
       go_enter Try.func103, Try.ntmps103
       go_wp2; go_ret
       exact ⟨fr, df⟩
      ·rw [if_neg c7] at H
       have c7b0 := beq_eq_false_iff_ne.mpr c7; have c7b1 := bne_iff_ne.mpr c7
       by_cases c8 : a0 = 29
       ·rw [if_pos c8] at H
        have c8b0 := beq_iff_eq.mpr c8; have c8b1 := bne_eq_false_iff_eq.mpr c8; clear c8; obtain rfl := Option.some.inj H
        go_enter Try.func103, Try.ntmps103
        go_wp2; go_ret
        exact ⟨fr, df⟩
       ·rw [if_neg c8] at H
        have c8b0 := beq_eq_false_iff_ne.mpr c8; have c8b1 := bne_iff_ne.mpr c8
        by_cases c9 : a0 = 31
        ·rw [if_pos c9] at H
         have c9b0 := beq_iff_eq.mpr c9; have c9b1 := bne_eq_false_iff_eq.mpr c9; clear c9; obtain rfl := Option.some.inj H
         go_enter Try.func103, Try.ntmps103
         go_wp2; go_ret
         exact ⟨fr, df⟩
        ·rw [if_neg c9] at H
         have c9b0 := beq_eq_false_iff_ne.mpr c9; have c9b1 := bne_iff_ne.mpr c9; obtain rfl := Option.some.inj H
         go_enter Try.func103, Try.ntmps103
         go_wp2; go_ret
         exact ⟨fr, df⟩/-! ### spec_l4Zero: function 79 -/
def spec_l4Zero.l0 : Nat → List Int → Int → Option (Bool)
 | 0, _, _ => none
 | k + 1, x0, x3 => if x3 < (x0.length : Int) then (if 0 ≤ x3 then (if (rd x0 x3) = 0 then (spec_l4Zero.l0 k x0 (wrap64 (x3 + 1))) else (some false)) else (none)) else (some true)
def spec_l4Zero.f (k : Nat) (l0 : List Int) : Option (Bool) := spec_l4Zero.l0 k l0 0
theorem spec_l4Zero.mono_l : ∀ k, (∀ y0 y1, LeO (spec_l4Zero.l0 k y0 y1) (spec_l4Zero.l0 (k + 1) y0 y1))
 | 0 => fun _ _ r h => by simp [spec_l4Zero.l0] at h
 | k + 1 => by
  have ih0 := spec_l4Zero.mono_l k
  ·intro y0 y1
   unfold spec_l4Zero.l0
   repeat' first | (with_reducible first | apply ih0 | exact LeO.refl _ | exact LeO.none _ | refine LeO.ite ?_ ?_ | refine LeO.bind ?_ (fun _ => ?_)) | (first | apply ih0 | exact LeO.none _ | refine LeO.ite ?_ ?_ | refine LeO.bind ?_ (fun _ => ?_))
theorem spec_l4Zero.mono : ∀ a0 k, LeO (spec_l4Zero.f k a0) (spec_l4Zero.f (k + 1) a0) := by
 intro a0 k
 have ih0 := spec_l4Zero.mono_l k
 unfold spec_l4Zero.f
 repeat' first | (with_reducible first | apply ih0 | exact LeO.refl _ | exact LeO.none _ | refine LeO.ite ?_ ?_ | refine LeO.bind ?_ (fun _ => ?_)) | (first | apply ih0 | exact LeO.none _ | refine LeO.ite ?_ ?_ | refine LeO.bind ?_ (fun _ => ?_))
set_option maxHeartbeats 8000000 in
set_option maxRecDepth 100000 in
theorem spec_l4Zero.calls (k : Nat) (A0 : Option Addr) (c0 : Nat) (l0 : List Int) (r : Bool) (w : World) (hr0 : Kd.C (Kd.int .i64) w A0 l0.length l0) (hc0 : l0.length ≤ c0) (h : spec_l4Zero.f k l0 = some r) :
  Calls Try.prog 79 #[.slice A0 l0.length c0] w fun e w' => e = .returned (.bool r) ∧ Drawn0 w w' := by
 have HR0 := am hr0
 have HC0 := am hc0
 clear hr0 hc0
 have H : (spec_l4Zero.l0 k l0 0) = some r := h
 clear h; have H' := am H; clear H
 go_enter Try.func79, Try.ntmps79
 go_wp2
 go_loopg [3] k (fun kq v3 w' => ∃ (x3_1 : Int), v3 = .int .i64 x3_1 ∧ Aside0 (spec_l4Zero.l0 kq l0 x3_1 = some r) ∧ Aside0 (kq ≤ k) ∧ Drawn0 w w')
 case atStart => exact ⟨(0), fr, H', ⟨Nat.le_refl _⟩, df⟩
 case round =>
  clear H'
  obtain ⟨x3_1, rfl, HA, HK1, ⟨m1, rfl⟩⟩ := hrel
  cases gk with
  | zero => exact absurd HA.out (by simp [spec_l4Zero.l0])
  | succ k1 =>
   have H := HA.out; clear HA
   simp only [spec_l4Zero.l0] at H
   by_cases c2 : x3_1 < (l0.length : Int)
   ·rw [if_pos c2] at H
    have c2b0 := decide_eq_true c2; clear c2; replace H := ifn H; obtain ⟨c3, H⟩ := H; have c3b0 := decide_eq_true c3; clear c3
    by_cases c4 : (rd l0 x3_1) = 0
    ·rw [if_pos c4] at H
     have c4b0 := beq_iff_eq.mpr c4; have c4b1 := bne_eq_false_iff_eq.mpr c4; clear c4; have H' := am H; clear H
     have p247 : 0 ≤ (x3_1 : Int) := od
     have q247 : x3_1 < (l0.length : Int) := od
     obtain ⟨ad247, e247, hx247_0⟩ := Kd.at_int HR0.out x3_1 p247 q247
     cases e247; replace p247 := eq_true p247; replace q247 := eq_true q247; go_wp2
     go_roundg k1
     case measure => have := HK1.out; omega
     case rel => exact ⟨(wrap64 (x3_1 + 1)), fr, H', ⟨by have := HK1.out; omega⟩, df⟩
    ·rw [if_neg c4] at H
     have c4b0 := beq_eq_false_iff_ne.mpr c4; have c4b1 := bne_iff_ne.mpr c4; obtain rfl := Option.some.inj H
     have p247 : 0 ≤ (x3_1 : Int) := od
     have q247 : x3_1 < (l0.length : Int) := od
     obtain ⟨ad247, e247, hx247_0⟩ := Kd.at_int HR0.out x3_1 p247 q247
     cases e247; replace p247 := eq_true p247; replace q247 := eq_true q247; go_wp2; go_ret
     exact ⟨fr, df⟩
   ·rw [if_neg c2] at H
    have c2b0 := decide_eq_false c2; clear c2; obtain rfl := Option.some.inj H; go_wp2; go_ret
    exact ⟨fr, df⟩/-! ### spec_l4Turned: function 125 -/
def spec_l4Turned.l0 : Nat → Int → Int → Int → Option (Int)
 | 0, _, _, _ => none
 | k + 1, x0, x1, x5 => if x5 < x0 then (if x0 = 0 then (none) else (if (Int.tmod (wrap64 (x5 * x1)) x0) = 1 then (some x5) else (spec_l4Turned.l0 k x0 x1 (wrap64 (x5 + 1))))) else (some 0)
def spec_l4Turned.f (k : Nat) (a0 : Int) (a1 : Int) : Option (Int) := spec_l4Turned.l0 k a0 a1 1
theorem spec_l4Turned.mono_l : ∀ k, (∀ y0 y1 y2, LeO (spec_l4Turned.l0 k y0 y1 y2) (spec_l4Turned.l0 (k + 1) y0 y1 y2))
 | 0 => fun _ _ _ r h => by simp [spec_l4Turned.l0] at h
 | k + 1 => by
  have ih0 := spec_l4Turned.mono_l k
  ·intro y0 y1 y2
   unfold spec_l4Turned.l0
   repeat' first | (with_reducible first | apply ih0 | exact LeO.refl _ | exact LeO.none _ | refine LeO.ite ?_ ?_ | refine LeO.bind ?_ (fun _ => ?_)) | (first | apply ih0 | exact LeO.none _ | refine LeO.ite ?_ ?_ | refine LeO.bind ?_ (fun _ => ?_))
theorem spec_l4Turned.mono : ∀ a0 a1 k, LeO (spec_l4Turned.f k a0 a1) (spec_l4Turned.f (k + 1) a0 a1) := by
 intro a0 a1 k
 have ih0 := spec_l4Turned.mono_l k
 unfold spec_l4Turned.f
 repeat' first | (with_reducible first | apply ih0 | exact LeO.refl _ | exact LeO.none _ | refine LeO.ite ?_ ?_ | refine LeO.bind ?_ (fun _ => ?_)) | (first | apply ih0 | exact LeO.none _ | refine LeO.ite ?_ ?_ | refine LeO.bind ?_ (fun _ => ?_))
set_option maxHeartbeats 8000000 in
set_option maxRecDepth 100000 in
theorem spec_l4Turned.calls (k : Nat) (a0 : Int) (a1 : Int) (r : Int) (w : World) (h : spec_l4Turned.f k a0 a1 = some r) :
  Calls Try.prog 125 #[.int .i64 a0, .int .i64 a1] w fun e w' => e = .returned (.int .i64 r) ∧ Drawn0 w w' := by
 have H : (spec_l4Turned.l0 k a0 a1 1) = some r := h
 clear h; have H' := am H; clear H
 go_enter Try.func125, Try.ntmps125
 go_wp2
 go_loopg [5] k (fun kq v5 w' => ∃ (x5_1 : Int), v5 = .int .i64 x5_1 ∧ Aside0 (spec_l4Turned.l0 kq a0 a1 x5_1 = some r) ∧ Aside0 (kq ≤ k) ∧ Drawn0 w w')
 case atStart => exact ⟨(1), fr, H', ⟨Nat.le_refl _⟩, df⟩
 case round =>
  clear H'; try clear c1; try clear p2
  obtain ⟨x5_1, rfl, HA, HK1, ⟨m1, rfl⟩⟩ := hrel
  cases gk with
  | zero => exact absurd HA.out (by simp [spec_l4Turned.l0])
  | succ k1 =>
   have H := HA.out; clear HA
   simp only [spec_l4Turned.l0] at H
   by_cases c3 : x5_1 < a0
   ·rw [if_pos c3] at H
    have c3b0 := decide_eq_true c3; clear c3; replace H := ifm H; obtain ⟨c4, H⟩ := H; have c4b0 := beq_eq_false_iff_ne.mpr c4; have c4b1 := bne_iff_ne.mpr c4
    by_cases c5 : (Int.tmod (wrap64 (x5_1 * a1)) a0) = 1
    ·rw [if_pos c5] at H
     have c5b0 := beq_iff_eq.mpr c5; have c5b1 := bne_eq_false_iff_eq.mpr c5; clear c5; obtain rfl := Option.some.inj H; go_wp2; go_ret
     exact ⟨fr, df⟩
    ·rw [if_neg c5] at H
     have c5b0 := beq_eq_false_iff_ne.mpr c5; have c5b1 := bne_iff_ne.mpr c5; have H' := am H; clear H; go_wp2
     go_roundg k1
     case measure => have := HK1.out; omega
     case rel => exact ⟨(wrap64 (x5_1 + 1)), fr, H', ⟨by have := HK1.out; omega⟩, df⟩
   ·rw [if_neg c3] at H
    have c3b0 := decide_eq_false c3; clear c3; obtain rfl := Option.some.inj H; go_wp2; go_ret
    exact ⟨fr, df⟩/-! ### spec_l4Row: function 80 -/
def spec_l4Row.l0 : Nat → Int → List Int → List Int → Int → Int → Option (List Int)
 | 0, _, _, _, _, _ => none
 | k + 1, x0, x1, x5, x6, x7 => if x7 < (x1.length : Int) then (if x6 = 0 then (if 0 ≤ x7 then ((spec_l4Turned.f k x0 (rd x1 x7)).bind fun t252 => (if x0 = 0 then (none) else (if x5.length < 17592186044416 then (spec_l4Row.l0 k x0 x1 (x5 ++ [Int.tmod (wrap64 ((rd x1 x7) * t252)) x0]) t252 (wrap64 (x7 + 1))) else (none)))) else (none)) else (if 0 ≤ x7 then (if x0 = 0 then (none) else (if x5.length < 17592186044416 then (spec_l4Row.l0 k x0 x1 (x5 ++ [Int.tmod (wrap64 ((rd x1 x7) * x6)) x0]) x6 (wrap64 (x7 + 1))) else (none))) else (none))) else (some x5)
def spec_l4Row.f (k : Nat) (a0 : Int) (l1 : List Int) : Option (List Int) := spec_l4Row.l0 k a0 l1 (([] : List Int)) 0 0
theorem spec_l4Row.mono_l : ∀ k, (∀ y0 y1 y2 y3 y4, LeO (spec_l4Row.l0 k y0 y1 y2 y3 y4) (spec_l4Row.l0 (k + 1) y0 y1 y2 y3 y4))
 | 0 => fun _ _ _ _ _ r h => by simp [spec_l4Row.l0] at h
 | k + 1 => by
  have ih0 := spec_l4Row.mono_l k
  ·intro y0 y1 y2 y3 y4
   unfold spec_l4Row.l0
   repeat' first | (with_reducible first | apply ih0 | apply spec_l4Turned.mono | exact LeO.refl _ | exact LeO.none _ | refine LeO.ite ?_ ?_ | refine LeO.bind ?_ (fun _ => ?_)) | (first | apply ih0 | apply spec_l4Turned.mono | exact LeO.none _ | refine LeO.ite ?_ ?_ | refine LeO.bind ?_ (fun _ => ?_))
theorem spec_l4Row.mono : ∀ a0 a1 k, LeO (spec_l4Row.f k a0 a1) (spec_l4Row.f (k + 1) a0 a1) := by
 intro a0 a1 k
 have ih0 := spec_l4Row.mono_l k
 unfold spec_l4Row.f
 repeat' first | (with_reducible first | apply ih0 | apply spec_l4Turned.mono | exact LeO.refl _ | exact LeO.none _ | refine LeO.ite ?_ ?_ | refine LeO.bind ?_ (fun _ => ?_)) | (first | apply ih0 | apply spec_l4Turned.mono | exact LeO.none _ | refine LeO.ite ?_ ?_ | refine LeO.bind ?_ (fun _ => ?_))
set_option maxHeartbeats 8000000 in
set_option maxRecDepth 100000 in
theorem spec_l4Row.calls (k : Nat) (a0 : Int) (A1 : Option Addr) (c1 : Nat) (l1 : List Int) (r : List Int) (w : World) (hr1 : Kd.C (Kd.int .i64) w A1 l1.length l1) (hc1 : l1.length ≤ c1) (h : spec_l4Row.f k a0 l1 = some r) :
  Calls Try.prog 80 #[.int .i64 a0, .slice A1 l1.length c1] w fun e w' => ∃ v0_ : Value, e = .returned (v0_) ∧ Kd.R (Kd.int .i64) 3 w' w.heap.size (fun _ => True) v0_ r ∧ Below w.heap.size w w' := by
 have HR1 := am hr1
 have HC1 := am hc1
 clear hr1 hc1
 have HB := am (Below.refl w.heap.size w)
 have H : (spec_l4Row.l0 k a0 l1 (([] : List Int)) 0 0) = some r := h
 clear h
 generalize hy248 : (([] : List Int)) = y248 at H
 have Ny248 := am hy248.symm; clear hy248; have H' := am H; clear H
 go_enter Try.func80, Try.ntmps80
 go_wp2_with (first | ((with_reducible refine gate_dst (N := 8) rfl ?_); refine li 3 ([] : List Int) ?_; intro v249 w3 ho4 hb; (first | rw [← Ny248.out] at ho4 | (simp only [Int.reduceToNat] at ho4; rw [← Ny248.out] at ho4)); have HO250 := am (Kd.R_lower ho4 (bz HB)); replace HB := bq HB hb; clear hb ho4))
 go_loopg [5, 6, 7] k (fun kq v5 v6 v7 w' => ∃ (x5_1 : List Int) (x6_1 : Int) (x7_1 : Int), v6 = .int .i64 x6_1 ∧ v7 = .int .i64 x7_1 ∧ Aside0 (spec_l4Row.l0 kq a0 l1 x5_1 x6_1 x7_1 = some r) ∧ Aside0 (kq ≤ k) ∧ Aside0 (Kd.R (Kd.int .i64) 3 w' w.heap.size (fun _ => True) v5 x5_1) ∧ Aside0 (Below w.heap.size w w'))
 case atStart => exact ⟨(y248), (0), (0), fr, fr, H', ⟨Nat.le_refl _⟩, ⟨wR HO250⟩, ⟨bw HB⟩⟩
 case round =>
  clear H'; try clear c1; try clear p2
  obtain ⟨x5_1, x6_1, x7_1, rfl, rfl, HA, HK1, HO_5, HB⟩ := hrel
  cases gk with
  | zero => exact absurd HA.out (by simp [spec_l4Row.l0])
  | succ k1 =>
   have H := HA.out; clear HA
   simp only [spec_l4Row.l0] at H
   by_cases c5 : x7_1 < (l1.length : Int)
   ·rw [if_pos c5] at H
    have c5b0 := decide_eq_true c5; clear c5
    by_cases c6 : x6_1 = 0
    ·rw [if_pos c6] at H
     have c6b0 := beq_iff_eq.mpr c6; have c6b1 := bne_eq_false_iff_eq.mpr c6; clear c6; replace H := ifn H; obtain ⟨c7, H⟩ := H; have c7b0 := decide_eq_true c7; clear c7; replace H := bs H; obtain ⟨t252, A8, H⟩ := H; replace H := ifm H; obtain ⟨c9, H⟩ := H
     have c9b0 := beq_eq_false_iff_ne.mpr c9; have c9b1 := bne_iff_ne.mpr c9; replace H := ifn H; obtain ⟨c10, H⟩ := H; have LMc10 := am c10; clear c10
     generalize hy254 : (x5_1 ++ [Int.tmod (wrap64 ((rd l1 x7_1) * t252)) a0] : List Int) = y254 at H
     have Ny254 := am hy254.symm; clear hy254; have H' := am H; clear H
     have p251 : 0 ≤ (x7_1 : Int) := od
     have q251 : x7_1 < (l1.length : Int) := od
     obtain ⟨ad251, e251, hx251_0⟩ := Kd.at_int HR1.out x7_1 p251 q251
     cases e251
     replace hx251_0 := wcl HB hx251_0
     replace p251 := eq_true p251; replace q251 := eq_true q251
     go_wp2_with (first | ((with_reducible refine gate_callee (f := 125) rfl ?_); refine gl 22 Try.func125 #[.int .i64 a0, .int .i64 (rd l1 x7_1)] ?_; (with_reducible refine (spec_l4Turned.calls k1 a0 (rd l1 x7_1) t252 _ A8.out).mono ?_); rintro e w' ⟨rfl, ⟨nd, rfl⟩⟩; refine ⟨_, rfl, ?_⟩; have p253 : 0 ≤ (x7_1 : Int) := od; have q253 : x7_1 < (l1.length : Int) := od; obtain ⟨ad253, e253, hx253_0⟩ := Kd.at_int HR1.out x7_1 p253 q253; obtain rfl : ad251 = ad253 := (by injection e253); replace hx253_0 := wcl HB hx253_0; replace p253 := eq_true p253; replace q253 := eq_true q253) | ((with_reducible refine gate_builtin (b := .append) (xs := #[.tmp 23, .tmp 32]) rfl ?_); at_builtin; refine Kd.R_append (Kd.int .i64) (w0 := w) w.heap.size rfl (.tmp 23) (.tmp 32) 23 3 (.int .i64 0) 8 rfl Try.underlying23 info3 rfl (by decide) (by omega) u5 x5_1 (Int.tmod (wrap64 ((rd l1 x7_1) * t252)) a0) [.int .i64 (Int.tmod (wrap64 ((rd l1 x7_1) * t252)) a0)] (fun _ => True) (fun _ => False) rfl rfl ?aP (fun _ hk => hk.elim) ?aF ?aO ?aB ?aS ?aL ?_; (case aP => exact rfl); (case aB => exact (bw HB)); (case aF => exact (fun _ _ => trivial)); (case aO => exact (wR HO_5)); (case aS => exact (bz HB)); (case aL => have := LMc10.out; omega); intro v255 w11 ho hb hg hat; rw [← Ny254.out] at ho; replace HB := am (hb); have HO256 := am (ho); clear HO_5; clear ho hb hg hat))
     go_roundg k1
     case measure => have := HK1.out; omega
     case rel => exact ⟨(y254), (t252), (wrap64 (x7_1 + 1)), fr, fr, H', ⟨by have := HK1.out; omega⟩, ⟨wR HO256⟩, ⟨bw HB⟩⟩
    ·rw [if_neg c6] at H
     have c6b0 := beq_eq_false_iff_ne.mpr c6; have c6b1 := bne_iff_ne.mpr c6; replace H := ifn H; obtain ⟨c12, H⟩ := H; have c12b0 := decide_eq_true c12; clear c12; replace H := ifm H; obtain ⟨c13, H⟩ := H; have c13b0 := beq_eq_false_iff_ne.mpr c13
     have c13b1 := bne_iff_ne.mpr c13; replace H := ifn H; obtain ⟨c14, H⟩ := H; have LMc14 := am c14; clear c14
     generalize hy258 : (x5_1 ++ [Int.tmod (wrap64 ((rd l1 x7_1) * x6_1)) a0] : List Int) = y258 at H
     have Ny258 := am hy258.symm; clear hy258; have H' := am H; clear H
     have p257 : 0 ≤ (x7_1 : Int) := od
     have q257 : x7_1 < (l1.length : Int) := od
     obtain ⟨ad257, e257, hx257_0⟩ := Kd.at_int HR1.out x7_1 p257 q257
     cases e257
     replace hx257_0 := wcl HB hx257_0
     replace p257 := eq_true p257; replace q257 := eq_true q257
     go_wp2_with (first | ((with_reducible refine gate_builtin (b := .append) (xs := #[.tmp 23, .tmp 32]) rfl ?_); at_builtin; refine Kd.R_append (Kd.int .i64) (w0 := w) w.heap.size rfl (.tmp 23) (.tmp 32) 23 3 (.int .i64 0) 8 rfl Try.underlying23 info3 rfl (by decide) (by omega) u5 x5_1 (Int.tmod (wrap64 ((rd l1 x7_1) * x6_1)) a0) [.int .i64 (Int.tmod (wrap64 ((rd l1 x7_1) * x6_1)) a0)] (fun _ => True) (fun _ => False) rfl rfl ?aP (fun _ hk => hk.elim) ?aF ?aO ?aB ?aS ?aL ?_; (case aP => exact rfl); (case aB => exact (bw HB)); (case aF => exact (fun _ _ => trivial)); (case aO => exact (wR HO_5)); (case aS => exact (bz HB)); (case aL => have := LMc14.out; omega); intro v259 w15 ho hb hg hat; rw [← Ny258.out] at ho; replace HB := am (hb); have HO260 := am (ho); clear HO_5; clear ho hb hg hat))
     go_roundg k1
     case measure => have := HK1.out; omega
     case rel => exact ⟨(y258), (x6_1), (wrap64 (x7_1 + 1)), fr, fr, H', ⟨by have := HK1.out; omega⟩, ⟨wR HO260⟩, ⟨bw HB⟩⟩
   ·rw [if_neg c5] at H
    have c5b0 := decide_eq_false c5; clear c5; obtain rfl := Option.some.inj H; go_wp2; go_ret
    exact ⟨_, fq, wR HO_5, bw HB⟩/-! ### spec_l6In: function 87 -/
def spec_l6In.f (a0 : Int) (a1 : Int) (a2 : Int) : Option (Bool) := if a0 ≥ a1 then (some (decide (a0 ≤ a2))) else (some false)
set_option maxHeartbeats 8000000 in
set_option maxRecDepth 100000 in
theorem spec_l6In.calls (a0 : Int) (a1 : Int) (a2 : Int) (r : Bool) (w : World) (h : spec_l6In.f a0 a1 a2 = some r) :
  Calls Try.prog 87 #[.int .i64 a0, .int .i64 a1, .int .i64 a2] w fun e w' => e = .returned (.bool r) ∧ Drawn0 w w' := by
 have H : (if a0 ≥ a1 then (some (decide (a0 ≤ a2))) else (some false)) = some r := h
 clear h
 by_cases c4 : a0 ≥ a1
 ·rw [if_pos c4] at H
  have c4b0 := decide_eq_true c4; clear c4; obtain rfl := Option.some.inj H
  go_enter Try.func87, Try.ntmps87
  go_wp2; go_ret
  exact ⟨fr, df⟩
 ·rw [if_neg c4] at H
  have c4b0 := decide_eq_false c4; clear c4; obtain rfl := Option.some.inj H
  go_enter Try.func87, Try.ntmps87
  go_wp2; go_ret
  exact ⟨fr, df⟩
end Go.Proofs.Ytmgbpmihbljngaa.PA

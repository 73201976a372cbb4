-- Written by xprint.py, a program of this claim's own (over the kit's print.py)
import Derived.Test.YtmgbpmihbljngaaPAx0
import Derived.BigQuiet
import Derived.Deep.QuietTactic
namespace Go.Proofs.Ytmgbpmihbljngaa.PA
open Go.RowKit Go.Proofs.YtmgbpmihbljngaaW.PrintWords Go.Proofs.YtmgbpmihbljngaaW.PrintLast Go.Proofs.YtmgbpmihbljngaaW.PrintMore
attribute [local go_sem] max2_int min2_int max_two min_two max_three min_three max_four min_four   -- for this text's walks alone
set_option linter.unusedVariables false
set_option linter.unusedSimpArgs false

/-! ### spec_l6sValue: function 57 -/
mutual
def spec_l6sValue.l0 : Nat → Int → List Int → List Int → Int → Int → Int → Option (Int)
 | 0, _, _, _, _, _, _ => none
 | k + 1, x0, x1, x2, x7, x8, x9 => if x9 < 4 then (spec_l6sValue.l1 k x0 x1 x2 x7 x8 x9 x9) else (some x7)
def spec_l6sValue.l1 : Nat → Int → List Int → List Int → Int → Int → Int → Int → Option (Int)
 | 0, _, _, _, _, _, _, _ => none
 | k + 1, x0, x1, x2, x7, x8, x9, x10 => if x10 < 4 then (spec_l6sValue.l2 k x0 x1 x2 x7 x8 x9 x10 x10) else (spec_l6sValue.l0 k x0 x1 x2 x7 x8 (wrap64 (x9 + 1)))
def spec_l6sValue.l2 : Nat → Int → List Int → List Int → Int → Int → Int → Int → Int → Option (Int)
 | 0, _, _, _, _, _, _, _, _ => none
 | k + 1, x0, x1, x2, x7, x8, x9, x10, x11 => if x11 < 4 then (if 0 ≤ x8 then (if x8 < (x1.length : Int) then (if 0 ≤ x9 then (if x9 < (x2.length : Int) then (if x0 = 0 then (none) else (if 0 ≤ x10 then (if x10 < (x2.length : Int) then (if 0 ≤ x11 then (if x11 < (x2.length : Int) then (spec_l6sValue.l2 k x0 x1 x2 (Int.tmod (wrap64 (x7 + (wrap64 ((Int.tmod (wrap64 ((Int.tmod (wrap64 ((rd x1 x8) * (rd x2 x9))) x0) * (rd x2 x10))) x0) * (rd x2 x11))))) x0) (wrap64 (x8 + 1)) x9 x10 (wrap64 (x11 + 1))) else (none)) else (none)) else (none)) else (none))) else (none)) else (none)) else (none)) else (none)) else (spec_l6sValue.l1 k x0 x1 x2 x7 x8 x9 (wrap64 (x10 + 1)))
end
def spec_l6sValue.f (k : Nat) (a0 : Int) (l1 : List Int) (l2 : List Int) : Option (Int) := spec_l6sValue.l0 k a0 l1 l2 0 0 0
theorem spec_l6sValue.mono_l : ∀ k, (∀ y0 y1 y2 y3 y4 y5, LeO (spec_l6sValue.l0 k y0 y1 y2 y3 y4 y5) (spec_l6sValue.l0 (k + 1) y0 y1 y2 y3 y4 y5)) ∧ (∀ y0 y1 y2 y3 y4 y5 y6, LeO (spec_l6sValue.l1 k y0 y1 y2 y3 y4 y5 y6) (spec_l6sValue.l1 (k + 1) y0 y1 y2 y3 y4 y5 y6)) ∧ (∀ y0 y1 y2 y3 y4 y5 y6 y7, LeO (spec_l6sValue.l2 k y0 y1 y2 y3 y4 y5 y6 y7) (spec_l6sValue.l2 (k + 1) y0 y1 y2 y3 y4 y5 y6 y7))
 | 0 => ⟨fun _ _ _ _ _ _ r h => by simp [spec_l6sValue.l0] at h, fun _ _ _ _ _ _ _ r h => by simp [spec_l6sValue.l1] at h, fun _ _ _ _ _ _ _ _ r h => by simp [spec_l6sValue.l2] at h⟩
 | k + 1 => by
  obtain ⟨ih0, ih1, ih2⟩ := spec_l6sValue.mono_l k
  refine ⟨?_, ?_, ?_⟩
  ·intro y0 y1 y2 y3 y4 y5
   unfold spec_l6sValue.l0
   repeat' first | (with_reducible first | apply ih0 | apply ih1 | apply ih2 | exact LeO.refl _ | exact LeO.none _ | refine LeO.ite ?_ ?_ | refine LeO.bind ?_ (fun _ => ?_)) | (first | apply ih0 | apply ih1 | apply ih2 | exact LeO.none _ | refine LeO.ite ?_ ?_ | refine LeO.bind ?_ (fun _ => ?_))
  ·intro y0 y1 y2 y3 y4 y5 y6
   unfold spec_l6sValue.l1
   repeat' first | (with_reducible first | apply ih0 | apply ih1 | apply ih2 | exact LeO.refl _ | exact LeO.none _ | refine LeO.ite ?_ ?_ | refine LeO.bind ?_ (fun _ => ?_)) | (first | apply ih0 | apply ih1 | apply ih2 | exact LeO.none _ | refine LeO.ite ?_ ?_ | refine LeO.bind ?_ (fun _ => ?_))
  ·intro y0 y1 y2 y3 y4 y5 y6 y7
   unfold spec_l6sValue.l2
   repeat' first | (with_reducible first | apply ih0 | apply ih1 | apply ih2 | exact LeO.refl _ | exact LeO.none _ | refine LeO.ite ?_ ?_ | refine LeO.bind ?_ (fun _ => ?_)) | (first | apply ih0 | apply ih1 | apply ih2 | exact LeO.none _ | refine LeO.ite ?_ ?_ | refine LeO.bind ?_ (fun _ => ?_))
theorem spec_l6sValue.mono : ∀ a0 a1 a2 k, LeO (spec_l6sValue.f k a0 a1 a2) (spec_l6sValue.f (k + 1) a0 a1 a2) := by
 intro a0 a1 a2 k
 obtain ⟨ih0, ih1, ih2⟩ := spec_l6sValue.mono_l k
 unfold spec_l6sValue.f
 repeat' first | (with_reducible first | apply ih0 | apply ih1 | apply ih2 | exact LeO.refl _ | exact LeO.none _ | refine LeO.ite ?_ ?_ | refine LeO.bind ?_ (fun _ => ?_)) | (first | apply ih0 | apply ih1 | apply ih2 | exact LeO.none _ | refine LeO.ite ?_ ?_ | refine LeO.bind ?_ (fun _ => ?_))
set_option maxHeartbeats 8000000 in
set_option maxRecDepth 100000 in
theorem spec_l6sValue.calls (k : Nat) (a0 : Int) (A1 : Option Addr) (c1 : Nat) (l1 : List Int) (A2 : Option Addr) (c2 : Nat) (l2 : List Int) (r : Int) (w : World) (hr1 : Kd.C (Kd.int .i64) w A1 l1.length l1) (hc1 : l1.length ≤ c1) (hr2 : Kd.C (Kd.int .i64) w A2 l2.length l2) (hc2 : l2.length ≤ c2) (h : spec_l6sValue.f k a0 l1 l2 = some r) :
  Calls Try.prog 57 #[.int .i64 a0, .slice A1 l1.length c1, .slice A2 l2.length c2] w fun e w' => e = .returned (.int .i64 r) ∧ Drawn0 w w' := by
 have HR1 := am hr1
 have HC1 := am hc1
 clear hr1 hc1
 have HR2 := am hr2
 have HC2 := am hc2
 clear hr2 hc2
 have H : (spec_l6sValue.l0 k a0 l1 l2 0 0 0) = some r := h
 clear h; have H' := am H; clear H
 go_enter Try.func57, Try.ntmps57
 go_wp2
 repeat (go_quiet (fail); try go_wp2)
 go_loopg [7, 8, 9] k (fun kq v7 v8 v9 w' => ∃ (x7_1 : Int) (x8_1 : Int) (x9_1 : Int), v7 = .int .i64 x7_1 ∧ v8 = .int .i64 x8_1 ∧ v9 = .int .i64 x9_1 ∧ Aside0 (spec_l6sValue.l0 kq a0 l1 l2 x7_1 x8_1 x9_1 = some r) ∧ Aside0 (kq ≤ k) ∧ Drawn0 w w')
 case atStart => exact ⟨(0), (0), (0), fr, fr, fr, H', ⟨Nat.le_refl _⟩, df⟩
 case round =>
  clear H'; try clear c1; try clear c2; try clear p2
  obtain ⟨x7_1, x8_1, x9_1, rfl, rfl, rfl, HA, HK1, ⟨m1, rfl⟩⟩ := hrel
  cases gk with
  | zero => exact absurd HA.out (by simp [spec_l6sValue.l0])
  | succ k1 =>
   have H := HA.out; clear HA
   simp only [spec_l6sValue.l0] at H
   by_cases c4 : x9_1 < 4
   ·rw [if_pos c4] at H
    have c4b0 := decide_eq_true c4; clear c4; have H' := am H; clear H; go_wp2
    repeat (go_quiet (fail); try go_wp2)
    go_loopg [7, 8, 10] k1 (fun kq v7 v8 v10 w' => ∃ (x7_2 : Int) (x8_2 : Int) (x10_2 : Int), v7 = .int .i64 x7_2 ∧ v8 = .int .i64 x8_2 ∧ v10 = .int .i64 x10_2 ∧ Aside0 (spec_l6sValue.l1 kq a0 l1 l2 x7_2 x8_2 x9_1 x10_2 = some r) ∧ Aside0 (kq ≤ k1) ∧ Drawn0 w w')
    case atStart => exact ⟨(x7_1), (x8_1), (x9_1), fr, fr, fr, H', ⟨Nat.le_refl _⟩, df⟩
    case round =>
     clear H'; try clear c1; try clear c2; try clear p2; try clear c4; try clear c4b0; try clear p2
     obtain ⟨x7_2, x8_2, x10_2, rfl, rfl, rfl, HA, HK2, ⟨m2, rfl⟩⟩ := hrel
     cases gk with
     | zero => exact absurd HA.out (by simp [spec_l6sValue.l1])
     | succ k2 =>
      have H := HA.out; clear HA
      simp only [spec_l6sValue.l1] at H
      by_cases c5 : x10_2 < 4
      ·rw [if_pos c5] at H
       have c5b0 := decide_eq_true c5; clear c5; have H' := am H; clear H; go_wp2
       repeat (go_quiet (fail); try go_wp2)
       go_loopg [7, 8, 11] k2 (fun kq v7 v8 v11 w' => ∃ (x7_3 : Int) (x8_3 : Int) (x11_3 : Int), v7 = .int .i64 x7_3 ∧ v8 = .int .i64 x8_3 ∧ v11 = .int .i64 x11_3 ∧ Aside0 (spec_l6sValue.l2 kq a0 l1 l2 x7_3 x8_3 x9_1 x10_2 x11_3 = some r) ∧ Aside0 (kq ≤ k2) ∧ Drawn0 w w')
       case atStart => exact ⟨(x7_2), (x8_2), (x10_2), fr, fr, fr, H', ⟨Nat.le_refl _⟩, df⟩
       case round =>
        clear H'; try clear c1; try clear c2; try clear p2; try clear c4; try clear c4b0; try clear c5; try clear c5b0; try clear p2
        obtain ⟨x7_3, x8_3, x11_3, rfl, rfl, rfl, HA, HK3, ⟨m3, rfl⟩⟩ := hrel
        cases gk with
        | zero => exact absurd HA.out (by simp [spec_l6sValue.l2])
        | succ k3 =>
         have H := HA.out; clear HA
         simp only [spec_l6sValue.l2] at H
         by_cases c6 : x11_3 < 4
         ·rw [if_pos c6] at H
          have c6b0 := decide_eq_true c6; clear c6; replace H := ifn H; obtain ⟨c7, H⟩ := H; have c7b0 := decide_eq_true c7; clear c7; replace H := ifn H; obtain ⟨c8, H⟩ := H; have c8b0 := decide_eq_true c8; clear c8; replace H := ifn H; obtain ⟨c9, H⟩ := H
          have c9b0 := decide_eq_true c9; clear c9; replace H := ifn H; obtain ⟨c10, H⟩ := H; have c10b0 := decide_eq_true c10; clear c10; replace H := ifm H; obtain ⟨c11, H⟩ := H; have c11b0 := beq_eq_false_iff_ne.mpr c11; have c11b1 := bne_iff_ne.mpr c11
          replace H := ifn H; obtain ⟨c12, H⟩ := H; have c12b0 := decide_eq_true c12; clear c12; replace H := ifn H; obtain ⟨c13, H⟩ := H; have c13b0 := decide_eq_true c13; clear c13; replace H := ifn H; obtain ⟨c14, H⟩ := H; have c14b0 := decide_eq_true c14
          clear c14; replace H := ifn H; obtain ⟨c15, H⟩ := H; have c15b0 := decide_eq_true c15; clear c15; have H' := am H; clear H
          have p508 : 0 ≤ (x8_3 : Int) := od
          have q508 : x8_3 < (l1.length : Int) := od
          obtain ⟨ad508, e508, hx508_0⟩ := Kd.at_int HR1.out x8_3 p508 q508
          cases e508; replace p508 := eq_true p508; replace q508 := eq_true q508
          have p509 : 0 ≤ (x9_1 : Int) := od
          have q509 : x9_1 < (l2.length : Int) := od
          obtain ⟨ad509, e509, hx509_0⟩ := Kd.at_int HR2.out x9_1 p509 q509
          cases e509; replace p509 := eq_true p509; replace q509 := eq_true q509
          have p510 : 0 ≤ (x10_2 : Int) := od
          have q510 : x10_2 < (l2.length : Int) := od
          obtain ⟨ad510, e510, hx510_0⟩ := Kd.at_int HR2.out x10_2 p510 q510
          obtain rfl : ad509 = ad510 := (by injection e510)
          replace p510 := eq_true p510; replace q510 := eq_true q510
          have p511 : 0 ≤ (x11_3 : Int) := od
          have q511 : x11_3 < (l2.length : Int) := od
          obtain ⟨ad511, e511, hx511_0⟩ := Kd.at_int HR2.out x11_3 p511 q511
          obtain rfl : ad509 = ad511 := (by injection e511)
          replace p511 := eq_true p511; replace q511 := eq_true q511; go_wp2
          repeat (go_quiet (fail); try go_wp2)
          go_roundg k3
          case measure => have := HK1.out; have := HK2.out; have := HK3.out; omega
          case rel => exact ⟨(Int.tmod (wrap64 (x7_3 + (wrap64 ((Int.tmod (wrap64 ((Int.tmod (wrap64 ((rd l1 x8_3) * (rd l2 x9_1))) a0) * (rd l2 x10_2))) a0) * (rd l2 x11_3))))) a0), (wrap64 (x8_3 + 1)), (wrap64 (x11_3 + 1)), fr, fr, fr, H', ⟨by have := HK1.out; have := HK2.out; have := HK3.out; omega⟩, df⟩
         ·rw [if_neg c6] at H
          have c6b0 := decide_eq_false c6; clear c6; have H' := am H; clear H; go_wp2
          repeat (go_quiet (fail); try go_wp2)
          go_roundg k3
          case measure => have := HK1.out; have := HK2.out; have := HK3.out; omega
          case rel => exact ⟨(x7_3), (x8_3), (wrap64 (x10_2 + 1)), fr, fr, fr, H', ⟨by have := HK1.out; have := HK2.out; have := HK3.out; omega⟩, df⟩
      ·rw [if_neg c5] at H
       have c5b0 := decide_eq_false c5; clear c5; have H' := am H; clear H; go_wp2
       repeat (go_quiet (fail); try go_wp2)
       go_roundg k2
       case measure => have := HK1.out; have := HK2.out; omega
       case rel => exact ⟨(x7_2), (x8_2), (wrap64 (x9_1 + 1)), fr, fr, fr, H', ⟨by have := HK1.out; have := HK2.out; omega⟩, df⟩
   ·rw [if_neg c4] at H
    have c4b0 := decide_eq_false c4; clear c4; obtain rfl := Option.some.inj H; go_wp2
    repeat (go_quiet (fail); try go_wp2)
    go_ret
    exact ⟨fr, df⟩/-! ### spec_l6sPlace: function 58 -/
def spec_l6sPlace.f (a0 : Int) (a1 : Int) : Option (List Int) := if a1 = 0 then (some (([0, 0, 0, 1] : List Int))) else (if (wrap64 (a1 - 1)) < a0 then (some (([0, 0, 1, wrap64 (a1 - 1)] : List Int))) else (if (wrap64 ((wrap64 (a1 - 1)) - a0)) < (wrap64 (a0 * a0)) then (if a0 = 0 then (none) else (some (([0, 1, wrap64 (Int.tdiv (wrap64 ((wrap64 (a1 - 1)) - a0)) a0), Int.tmod (wrap64 ((wrap64 (a1 - 1)) - a0)) a0] : List Int)))) else (if (wrap64 (a0 * a0)) = 0 then (none) else (if a0 = 0 then (none) else (some (([1, wrap64 (Int.tdiv (wrap64 ((wrap64 ((wrap64 (a1 - 1)) - a0)) - (wrap64 (a0 * a0)))) (wrap64 (a0 * a0))), Int.tmod (wrap64 (Int.tdiv (wrap64 ((wrap64 ((wrap64 (a1 - 1)) - a0)) - (wrap64 (a0 * a0)))) a0)) a0, Int.tmod (wrap64 ((wrap64 ((wrap64 (a1 - 1)) - a0)) - (wrap64 (a0 * a0)))) a0] : List Int)))))))
def spec_l6sPlace.T8 : Bool × List (List Nat × List Nat) := (true, [([], []), ([], []), ([0, 1], [0, 1]), ([], []), ([], []), ([3, 4], [3, 4]), ([2, 5], [2, 5]), ([6, 0, 1, 2, 3, 4, 5, 6], [6])])
def spec_l6sPlace.B8 : List Nat := [0, 0, 3, 0, 0, 24, 63, 127]
theorem spec_l6sPlace.tab8 : rtab .any (opsOf Try.f58 8) = spec_l6sPlace.T8 := by kernel_rfl
theorem spec_l6sPlace.bits8 : waitsOk spec_l6sPlace.T8.2 spec_l6sPlace.B8 = true := by kernel_rfl
def spec_l6sPlace.T10 : Bool × List (List Nat × List Nat) := (true, [([], []), ([], []), ([], []), ([1, 2], [1, 2]), ([0, 3], [0, 3]), ([], []), ([], []), ([5, 6], [5, 6]), ([], []), ([7, 8], [7, 8]), ([], []), ([], []), ([10, 11], [10, 11]), ([4, 9, 12], [4, 9, 12]), ([13, 0, 1, 2, 3, 4, 5, 6, 7, 8, 9, 10, 11, 12, 13], [13])])
def spec_l6sPlace.B10 : List Nat := [0, 0, 0, 6, 15, 0, 0, 96, 0, 480, 0, 0, 3072, 8191, 16383]
theorem spec_l6sPlace.tab10 : rtab .any (opsOf Try.f58 10) = spec_l6sPlace.T10 := by kernel_rfl
theorem spec_l6sPlace.bits10 : waitsOk spec_l6sPlace.T10.2 spec_l6sPlace.B10 = true := by kernel_rfl
set_option maxHeartbeats 8000000 in
set_option maxRecDepth 100000 in
theorem spec_l6sPlace.calls (a0 : Int) (a1 : Int) (r : List Int) (w : World) (h : spec_l6sPlace.f a0 a1 = some r) :
  Calls Try.prog 58 #[.int .i64 a0, .int .i64 a1] w fun e w' => ∃ v0_ : Value, e = .returned (v0_) ∧ Kd.R (Kd.int .i64) 3 w' w.heap.size (fun _ => True) v0_ r ∧ Below w.heap.size w w' := by
 have HB := am (Below.refl w.heap.size w)
 have H : (if a1 = 0 then (some (([0, 0, 0, 1] : List Int))) else (if (wrap64 (a1 - 1)) < a0 then (some (([0, 0, 1, wrap64 (a1 - 1)] : List Int))) else (if (wrap64 ((wrap64 (a1 - 1)) - a0)) < (wrap64 (a0 * a0)) then (if a0 = 0 then (none) else (some (([0, 1, wrap64 (Int.tdiv (wrap64 ((wrap64 (a1 - 1)) - a0)) a0), Int.tmod (wrap64 ((wrap64 (a1 - 1)) - a0)) a0] : List Int)))) else (if (wrap64 (a0 * a0)) = 0 then (none) else (if a0 = 0 then (none) else (some (([1, wrap64 (Int.tdiv (wrap64 ((wrap64 ((wrap64 (a1 - 1)) - a0)) - (wrap64 (a0 * a0)))) (wrap64 (a0 * a0))), Int.tmod (wrap64 (Int.tdiv (wrap64 ((wrap64 ((wrap64 (a1 - 1)) - a0)) - (wrap64 (a0 * a0)))) a0)) a0, Int.tmod (wrap64 ((wrap64 ((wrap64 (a1 - 1)) - a0)) - (wrap64 (a0 * a0)))) a0] : List Int)))))))) = some r := h
 clear h
 by_cases c3 : a1 = 0
 ·rw [if_pos c3] at H
  have c3b0 := beq_iff_eq.mpr c3; have c3b1 := bne_eq_false_iff_eq.mpr c3; clear c3
  generalize hy512 : (([0, 0, 0, 1] : List Int)) = y512 at H
  have Ny512 := am hy512.symm; clear hy512; obtain rfl := Option.some.inj H
  go_enter Try.func58, Try.ntmps58
  go_wp2_with (first | ((with_reducible refine gate_dst (N := 7) rfl ?_); refine li 3 [0, 0, 0, 1] ?_; intro v513 w4 ho5 hb; (first | rw [← Ny512.out] at ho5 | (simp only [Int.reduceToNat] at ho5; rw [← Ny512.out] at ho5)); have HO514 := am (Kd.R_lower ho5 (bz HB)); replace HB := bq HB hb; clear hb ho5))
  go_ret
  exact ⟨_, fq, wR HO514, bw HB⟩
 ·rw [if_neg c3] at H
  have c3b0 := beq_eq_false_iff_ne.mpr c3; have c3b1 := bne_iff_ne.mpr c3
  by_cases c6 : (wrap64 (a1 - 1)) < a0
  ·rw [if_pos c6] at H
   have c6b0 := decide_eq_true c6; clear c6
   generalize hy515 : (([0, 0, 1, wrap64 (a1 - 1)] : List Int)) = y515 at H
   have Ny515 := am hy515.symm; clear hy515; obtain rfl := Option.some.inj H
   go_enter Try.func58, Try.ntmps58
   go_wp2_with (first | ((with_reducible refine gate_dst (N := 14) rfl ?_); refine li 3 [0, 0, 1, wrap64 (a1 - 1)] ?_; intro v516 w7 ho8 hb; (first | rw [← Ny515.out] at ho8 | (simp only [Int.reduceToNat] at ho8; rw [← Ny515.out] at ho8)); have HO517 := am (Kd.R_lower ho8 (bz HB)); replace HB := bq HB hb; clear hb ho8))
   go_ret
   exact ⟨_, fq, wR HO517, bw HB⟩
  ·rw [if_neg c6] at H
   have c6b0 := decide_eq_false c6; clear c6
   by_cases c9 : (wrap64 ((wrap64 (a1 - 1)) - a0)) < (wrap64 (a0 * a0))
   ·rw [if_pos c9] at H
    have c9b0 := decide_eq_true c9; clear c9; replace H := ifm H; obtain ⟨c10, H⟩ := H; have c10b0 := beq_eq_false_iff_ne.mpr c10; have c10b1 := bne_iff_ne.mpr c10
    generalize hy518 : (([0, 1, wrap64 (Int.tdiv (wrap64 ((wrap64 (a1 - 1)) - a0)) a0), Int.tmod (wrap64 ((wrap64 (a1 - 1)) - a0)) a0] : List Int)) = y518 at H
    have Ny518 := am hy518.symm; clear hy518; obtain rfl := Option.some.inj H
    go_enter Try.func58, Try.ntmps58
    try go_wp2
    replace HB := am (below_drew1 HB.out)
    refine st 8 (fun w' => True) [] spec_l6sPlace.tab8 spec_l6sPlace.bits8 (trivial) fun hHeld HT_ HW_ => ?_
    generalize w.drew = w11 at HB hHeld ⊢
    refine pz 0 23 HT_ ?_; refine pz 1 24 HT_ ?_; refine pz 2 25 HT_ ?_; refine pz 3 26 HT_ ?_; refine pz 4 27 HT_ ?_; refine pz 5 28 HT_ ?_
    refine on 6 (some 29) HT_ fun K hK => ?_
    refine Kd.R_lit_step (Kd.int .i64) _ 3 ?hg (N := 29) ?hd (xs := ([0, 1, wrap64 (Int.tdiv (wrap64 ((wrap64 (a1 - 1)) - a0)) a0), Int.tmod (wrap64 ((wrap64 (a1 - 1)) - a0)) a0] : List Int)) (inner := [.int .i64 0, .int .i64 1, .int .i64 (wrap64 (Int.tdiv (wrap64 ((wrap64 (a1 - 1)) - a0)) a0)), .int .i64 (Int.tmod (wrap64 ((wrap64 (a1 - 1)) - a0)) a0)]) (ok := fun _ => True) (okp := fun _ => True) ?hr ?hp (fun _ hk => hk) trivial (Below.refl _ _) (Nat.le_refl _) (by simp) ?_; (case hd => rfl); (case hg => rfl); (case hr => first | (go_simp; done) | (go_simp; rfl)); (case hp => exact (Reps.one (show Kd.M (Kd.int .i64) _ _ _ 0 [.int .i64 0] from rfl) (Reps.one (show Kd.M (Kd.int .i64) _ _ _ 1 [.int .i64 1] from rfl) (Reps.one (show Kd.M (Kd.int .i64) _ _ _ (wrap64 (Int.tdiv (wrap64 ((wrap64 (a1 - 1)) - a0)) a0)) [.int .i64 (wrap64 (Int.tdiv (wrap64 ((wrap64 (a1 - 1)) - a0)) a0))] from rfl) (Reps.one (show Kd.M (Kd.int .i64) _ _ _ (Int.tmod (wrap64 ((wrap64 (a1 - 1)) - a0)) a0) [.int .i64 (Int.tmod (wrap64 ((wrap64 (a1 - 1)) - a0)) a0)] from rfl) (Reps.none _ _))))))
    intro v519 w12 ho13 hb hg_ hnew_
    clear hg_ hnew_
    (first | rw [← Ny518.out] at ho13 | (simp only [Int.reduceToNat] at ho13; rw [← Ny518.out] at ho13))
    have HO520 := am (Kd.R_lower ho13 (bz HB))
    replace HB := bq HB hb
    clear hb ho13
    refine hK.out _ _ trivial fun hHeld => nz ?_
    clear hK K; refine pz 7 4 HT_ ?_
    refine done_ (done_of HT_.out (by kernel_rfl)) ?_
    try go_wp2
    go_ret
    exact ⟨_, fq, wR HO520, bw HB⟩
   ·rw [if_neg c9] at H
    have c9b0 := decide_eq_false c9; clear c9; replace H := ifm H; obtain ⟨c14, H⟩ := H; have c14b0 := beq_eq_false_iff_ne.mpr c14; have c14b1 := bne_iff_ne.mpr c14; replace H := ifm H; obtain ⟨c15, H⟩ := H; have c15b0 := beq_eq_false_iff_ne.mpr c15
    have c15b1 := bne_iff_ne.mpr c15
    generalize hy521 : (([1, wrap64 (Int.tdiv (wrap64 ((wrap64 ((wrap64 (a1 - 1)) - a0)) - (wrap64 (a0 * a0)))) (wrap64 (a0 * a0))), Int.tmod (wrap64 (Int.tdiv (wrap64 ((wrap64 ((wrap64 (a1 - 1)) - a0)) - (wrap64 (a0 * a0)))) a0)) a0, Int.tmod (wrap64 ((wrap64 ((wrap64 (a1 - 1)) - a0)) - (wrap64 (a0 * a0)))) a0] : List Int)) = y521 at H
    have Ny521 := am hy521.symm; clear hy521; obtain rfl := Option.some.inj H
    go_enter Try.func58, Try.ntmps58
    try go_wp2
    replace HB := am (below_drew1 HB.out)
    refine st 15 (fun w' => True) [] spec_l6sPlace.tab10 spec_l6sPlace.bits10 (trivial) fun hHeld HT_ HW_ => ?_
    generalize w.drew = w16 at HB hHeld ⊢
    refine pz 0 35 HT_ ?_; refine pz 1 36 HT_ ?_; refine pz 2 37 HT_ ?_; refine pz 3 38 HT_ ?_; refine pz 4 39 HT_ ?_; refine pz 5 40 HT_ ?_; refine pz 6 41 HT_ ?_; refine pz 7 42 HT_ ?_; refine pz 8 43 HT_ ?_; refine pz 9 44 HT_ ?_; refine pz 10 45 HT_ ?_
    refine pz 11 46 HT_ ?_; refine pz 12 47 HT_ ?_
    refine on 13 (some 48) HT_ fun K hK => ?_
    refine Kd.R_lit_step (Kd.int .i64) _ 3 ?hg (N := 48) ?hd (xs := ([1, wrap64 (Int.tdiv (wrap64 ((wrap64 ((wrap64 (a1 - 1)) - a0)) - (wrap64 (a0 * a0)))) (wrap64 (a0 * a0))), Int.tmod (wrap64 (Int.tdiv (wrap64 ((wrap64 ((wrap64 (a1 - 1)) - a0)) - (wrap64 (a0 * a0)))) a0)) a0, Int.tmod (wrap64 ((wrap64 ((wrap64 (a1 - 1)) - a0)) - (wrap64 (a0 * a0)))) a0] : List Int)) (inner := [.int .i64 1, .int .i64 (wrap64 (Int.tdiv (wrap64 ((wrap64 ((wrap64 (a1 - 1)) - a0)) - (wrap64 (a0 * a0)))) (wrap64 (a0 * a0)))), .int .i64 (Int.tmod (wrap64 (Int.tdiv (wrap64 ((wrap64 ((wrap64 (a1 - 1)) - a0)) - (wrap64 (a0 * a0)))) a0)) a0), .int .i64 (Int.tmod (wrap64 ((wrap64 ((wrap64 (a1 - 1)) - a0)) - (wrap64 (a0 * a0)))) a0)]) (ok := fun _ => True) (okp := fun _ => True) ?hr ?hp (fun _ hk => hk) trivial (Below.refl _ _) (Nat.le_refl _) (by simp) ?_; (case hd => rfl); (case hg => rfl); (case hr => first | (go_simp; done) | (go_simp; rfl)); (case hp => exact (Reps.one (show Kd.M (Kd.int .i64) _ _ _ 1 [.int .i64 1] from rfl) (Reps.one (show Kd.M (Kd.int .i64) _ _ _ (wrap64 (Int.tdiv (wrap64 ((wrap64 ((wrap64 (a1 - 1)) - a0)) - (wrap64 (a0 * a0)))) (wrap64 (a0 * a0)))) [.int .i64 (wrap64 (Int.tdiv (wrap64 ((wrap64 ((wrap64 (a1 - 1)) - a0)) - (wrap64 (a0 * a0)))) (wrap64 (a0 * a0))))] from rfl) (Reps.one (show Kd.M (Kd.int .i64) _ _ _ (Int.tmod (wrap64 (Int.tdiv (wrap64 ((wrap64 ((wrap64 (a1 - 1)) - a0)) - (wrap64 (a0 * a0)))) a0)) a0) [.int .i64 (Int.tmod (wrap64 (Int.tdiv (wrap64 ((wrap64 ((wrap64 (a1 - 1)) - a0)) - (wrap64 (a0 * a0)))) a0)) a0)] from rfl) (Reps.one (show Kd.M (Kd.int .i64) _ _ _ (Int.tmod (wrap64 ((wrap64 ((wrap64 (a1 - 1)) - a0)) - (wrap64 (a0 * a0)))) a0) [.int .i64 (Int.tmod (wrap64 ((wrap64 ((wrap64 (a1 - 1)) - a0)) - (wrap64 (a0 * a0)))) a0)] from rfl) (Reps.none _ _))))))
    intro v522 w17 ho18 hb hg_ hnew_
    clear hg_ hnew_
    (first | rw [← Ny521.out] at ho18 | (simp only [Int.reduceToNat] at ho18; rw [← Ny521.out] at ho18))
    have HO523 := am (Kd.R_lower ho18 (bz HB))
    replace HB := bq HB hb
    clear hb ho18
    refine hK.out _ _ trivial fun hHeld => nz ?_
    clear hK K; refine pz 14 4 HT_ ?_
    refine done_ (done_of HT_.out (by kernel_rfl)) ?_
    try go_wp2
    go_ret
    exact ⟨_, fq, wR HO523, bw HB⟩
end Go.Proofs.Ytmgbpmihbljngaa.PA

-- Written by xprint.py, a program of this claim's own (over the kit's print.py)
import Derived.Test.YtmenehnfgenlpaaPAx0
import Derived.Test.YtmenehnfgenlpaaPAx1
import Derived.Test.YtmenehnfgenlpaaPAx4
import Derived.Test.YtmenehnfgenlpaaPAx5
import Derived.Test.YtmenehnfgenlpaaPAx6
import Derived.Test.YtmenehnfgenlpaaPAx16
import Derived.Deep.Cut
namespace Go.Proofs.Ytmenehnfgenlpaa.PA
open Go.RowKit Go.Proofs.YtmenehnfgenlpaaW.PrintWords Go.Proofs.YtmenehnfgenlpaaW.PrintLast Go.Proofs.YtmenehnfgenlpaaW.PrintMore
attribute [local go_sem] max2_int min2_int max_two min_two max_three min_three max_four min_four   -- for this text's walks alone
set_option linter.unusedVariables false
set_option linter.unusedSimpArgs false

/-! ### spec_CubeStars: function 38 -/
mutual
def spec_CubeStars.l0 : Nat → Int → List (List Int) → List (List Bool) → Int → Int → Option (Int × Bool)
 | 0, _, _, _, _, _ => none
 | k + 1, x0, x6, x7, x8, x9 => if x9 < 27 then (spec_CubeStars.l1 k x0 x6 x7 x8 x9 (wrap64 (x9 + 1))) else (some (x8, true))
def spec_CubeStars.l1 : Nat → Int → List (List Int) → List (List Bool) → Int → Int → Int → Option (Int × Bool)
 | 0, _, _, _, _, _, _ => none
 | k + 1, x0, x6, x7, x8, x9, x10 => if x10 < 27 then (spec_CubeStars.l2 k x0 x6 x7 x8 x9 x10 (wrap64 (x10 + 1))) else (spec_CubeStars.l0 k x0 x6 x7 x8 (wrap64 (x9 + 1)))
def spec_CubeStars.l2 : Nat → Int → List (List Int) → List (List Bool) → Int → Int → Int → Int → Option (Int × Bool)
 | 0, _, _, _, _, _, _, _ => none
 | k + 1, x0, x6, x7, x8, x9, x10, x11 => if x11 < 27 then (if 0 ≤ x9 then (if x9 < (x7.length : Int) then (if 0 ≤ x10 then (if x10 < ((rd_L4 x7 x9).length : Int) then (if (rdOf false (rd_L4 x7 x9) x10 = true) then (if 0 ≤ x11 then (if x11 < ((rd_L4 x7 x9).length : Int) then (if (rdOf false (rd_L4 x7 x9) x11 = true) then (if x10 < (x7.length : Int) then (if x11 < ((rd_L4 x7 x10).length : Int) then (spec_CubeStars.j3 k x0 x6 x7 x8 x9 x10 x11 (!(rdOf false (rd_L4 x7 x10) x11))) else (none)) else (none)) else (spec_CubeStars.j3 k x0 x6 x7 x8 x9 x10 x11 true)) else (none)) else (none)) else (spec_CubeStars.j3 k x0 x6 x7 x8 x9 x10 x11 true)) else (none)) else (none)) else (none)) else (none)) else (spec_CubeStars.l1 k x0 x6 x7 x8 x9 (wrap64 (x10 + 1)))
def spec_CubeStars.j3 : Nat → Int → List (List Int) → List (List Bool) → Int → Int → Int → Int → Bool → Option (Int × Bool)
 | 0, _, _, _, _, _, _, _, _ => none
 | k + 1, x0, x6, x7, x8, x9, x10, x11, x72 => if x72 = true then (spec_CubeStars.l2 k x0 x6 x7 x8 x9 x10 (wrap64 (x11 + 1))) else (if 0 ≤ x9 then (if x9 < (x6.length : Int) then (if 0 ≤ x10 then (if x10 < (x6.length : Int) then ((spec_SpacePlace.f k x0 (rd_L1 x6 x9) (rd_L1 x6 x10)).bind fun bt533 => (if 0 ≤ x11 then (if x11 < (x6.length : Int) then ((spec_SpacePlace.f k x0 (rd_L1 x6 x9) (rd_L1 x6 x11)).bind fun bt539 => ((spec_l7Same.f k bt533.1 bt539.1).bind fun t543 => (if t543 = true then (spec_CubeStars.l2 k x0 x6 x7 (wrap64 (x8 + 1)) x9 x10 (wrap64 (x11 + 1))) else (spec_CubeStars.l2 k x0 x6 x7 x8 x9 x10 (wrap64 (x11 + 1)))))) else (none)) else (none))) else (none)) else (none)) else (none)) else (none))
end
def spec_CubeStars.f (k : Nat) (a0 : Int) : Option (Int × Bool) := (spec_CubeRoots.f k a0).bind fun bt515 => (if bt515.2 = true then ((spec_l8Lines.f k a0 bt515.1).bind fun t519 => ((spec_l8Table.f k a0 bt515.1).bind fun t522 => (spec_CubeStars.l0 k a0 t519 t522 0 0))) else (some (0, false)))
theorem spec_CubeStars.mono_l : ∀ k, (∀ y0 y1 y2 y3 y4, LeO (spec_CubeStars.l0 k y0 y1 y2 y3 y4) (spec_CubeStars.l0 (k + 1) y0 y1 y2 y3 y4)) ∧ (∀ y0 y1 y2 y3 y4 y5, LeO (spec_CubeStars.l1 k y0 y1 y2 y3 y4 y5) (spec_CubeStars.l1 (k + 1) y0 y1 y2 y3 y4 y5)) ∧ (∀ y0 y1 y2 y3 y4 y5 y6, LeO (spec_CubeStars.l2 k y0 y1 y2 y3 y4 y5 y6) (spec_CubeStars.l2 (k + 1) y0 y1 y2 y3 y4 y5 y6)) ∧ (∀ y0 y1 y2 y3 y4 y5 y6 y7, LeO (spec_CubeStars.j3 k y0 y1 y2 y3 y4 y5 y6 y7) (spec_CubeStars.j3 (k + 1) y0 y1 y2 y3 y4 y5 y6 y7))
 | 0 => ⟨fun _ _ _ _ _ r h => by simp [spec_CubeStars.l0] at h, fun _ _ _ _ _ _ r h => by simp [spec_CubeStars.l1] at h, fun _ _ _ _ _ _ _ r h => by simp [spec_CubeStars.l2] at h, fun _ _ _ _ _ _ _ _ r h => by simp [spec_CubeStars.j3] at h⟩
 | k + 1 => by
  obtain ⟨ih0, ih1, ih2, ih3⟩ := spec_CubeStars.mono_l k
  refine ⟨?_, ?_, ?_, ?_⟩
  ·intro y0 y1 y2 y3 y4
   unfold spec_CubeStars.l0
   repeat' first | (with_reducible first | apply ih0 | apply ih1 | apply ih2 | apply ih3 | apply spec_CubeRoots.mono | apply spec_SpacePlace.mono | apply spec_l7Same.mono | apply spec_l8Lines.mono | apply spec_l8Table.mono | exact LeO.refl _ | exact LeO.none _ | refine LeO.ite ?_ ?_ | refine LeO.bind ?_ (fun _ => ?_)) | (first | apply ih0 | apply ih1 | apply ih2 | apply ih3 | apply spec_CubeRoots.mono | apply spec_SpacePlace.mono | apply spec_l7Same.mono | apply spec_l8Lines.mono | apply spec_l8Table.mono | exact LeO.none _ | refine LeO.ite ?_ ?_ | refine LeO.bind ?_ (fun _ => ?_))
  ·intro y0 y1 y2 y3 y4 y5
   unfold spec_CubeStars.l1
   repeat' first | (with_reducible first | apply ih0 | apply ih1 | apply ih2 | apply ih3 | apply spec_CubeRoots.mono | apply spec_SpacePlace.mono | apply spec_l7Same.mono | apply spec_l8Lines.mono | apply spec_l8Table.mono | exact LeO.refl _ | exact LeO.none _ | refine LeO.ite ?_ ?_ | refine LeO.bind ?_ (fun _ => ?_)) | (first | apply ih0 | apply ih1 | apply ih2 | apply ih3 | apply spec_CubeRoots.mono | apply spec_SpacePlace.mono | apply spec_l7Same.mono | apply spec_l8Lines.mono | apply spec_l8Table.mono | exact LeO.none _ | refine LeO.ite ?_ ?_ | refine LeO.bind ?_ (fun _ => ?_))
  ·intro y0 y1 y2 y3 y4 y5 y6
   unfold spec_CubeStars.l2
   repeat' first | (with_reducible first | apply ih0 | apply ih1 | apply ih2 | apply ih3 | apply spec_CubeRoots.mono | apply spec_SpacePlace.mono | apply spec_l7Same.mono | apply spec_l8Lines.mono | apply spec_l8Table.mono | exact LeO.refl _ | exact LeO.none _ | refine LeO.ite ?_ ?_ | refine LeO.bind ?_ (fun _ => ?_)) | (first | apply ih0 | apply ih1 | apply ih2 | apply ih3 | apply spec_CubeRoots.mono | apply spec_SpacePlace.mono | apply spec_l7Same.mono | apply spec_l8Lines.mono | apply spec_l8Table.mono | exact LeO.none _ | refine LeO.ite ?_ ?_ | refine LeO.bind ?_ (fun _ => ?_))
  ·intro y0 y1 y2 y3 y4 y5 y6 y7
   unfold spec_CubeStars.j3
   repeat' first | (with_reducible first | apply ih0 | apply ih1 | apply ih2 | apply ih3 | apply spec_CubeRoots.mono | apply spec_SpacePlace.mono | apply spec_l7Same.mono | apply spec_l8Lines.mono | apply spec_l8Table.mono | exact LeO.refl _ | exact LeO.none _ | refine LeO.ite ?_ ?_ | refine LeO.bind ?_ (fun _ => ?_)) | (first | apply ih0 | apply ih1 | apply ih2 | apply ih3 | apply spec_CubeRoots.mono | apply spec_SpacePlace.mono | apply spec_l7Same.mono | apply spec_l8Lines.mono | apply spec_l8Table.mono | exact LeO.none _ | refine LeO.ite ?_ ?_ | refine LeO.bind ?_ (fun _ => ?_))
theorem spec_CubeStars.mono : ∀ a0 k, LeO (spec_CubeStars.f k a0) (spec_CubeStars.f (k + 1) a0) := by
 intro a0 k
 obtain ⟨ih0, ih1, ih2, ih3⟩ := spec_CubeStars.mono_l k
 unfold spec_CubeStars.f
 repeat' first | (with_reducible first | apply ih0 | apply ih1 | apply ih2 | apply ih3 | apply spec_CubeRoots.mono | apply spec_SpacePlace.mono | apply spec_l7Same.mono | apply spec_l8Lines.mono | apply spec_l8Table.mono | exact LeO.refl _ | exact LeO.none _ | refine LeO.ite ?_ ?_ | refine LeO.bind ?_ (fun _ => ?_)) | (first | apply ih0 | apply ih1 | apply ih2 | apply ih3 | apply spec_CubeRoots.mono | apply spec_SpacePlace.mono | apply spec_l7Same.mono | apply spec_l8Lines.mono | apply spec_l8Table.mono | exact LeO.none _ | refine LeO.ite ?_ ?_ | refine LeO.bind ?_ (fun _ => ?_))
def spec_CubeStars.T17 : Bool × List (List Nat × List Nat) := (true, [([], []), ([], []), ([], []), ([1, 2], [1, 2]), ([3], [3]), ([], []), ([], []), ([5, 6], [5, 6]), ([7], [7]), ([0, 4, 8], [0, 4, 8]), ([9], [9]), ([10], [10]), ([10], [10]), ([11, 9, 0, 1, 2, 3, 4, 5, 6, 7, 8, 9, 10, 11], [11]), ([12, 13, 0, 1, 2, 3, 4, 5, 6, 7, 8, 9, 10, 11, 12, 13], [12])])
def spec_CubeStars.B17 : List Nat := [0, 0, 0, 6, 14, 0, 0, 96, 224, 511, 1023, 2047, 2047, 4095, 16383]
theorem spec_CubeStars.tab17 : rtab .any (opsOf Try.f38 17) = spec_CubeStars.T17 := by kernel_rfl
theorem spec_CubeStars.bits17 : waitsOk spec_CubeStars.T17.2 spec_CubeStars.B17 = true := by kernel_rfl
def spec_CubeStars.T18 : Bool × List (List Nat × List Nat) := (true, [([], []), ([], []), ([], []), ([1, 2], [1, 2]), ([3], [3]), ([], []), ([], []), ([5, 6], [5, 6]), ([7], [7]), ([0, 4, 8], [0, 4, 8]), ([9], [9]), ([10], [10]), ([10], [10]), ([11, 9, 0, 1, 2, 3, 4, 5, 6, 7, 8, 9, 10, 11], [11]), ([12, 13, 0, 1, 2, 3, 4, 5, 6, 7, 8, 9, 10, 11, 12, 13], [12])])
def spec_CubeStars.B18 : List Nat := [0, 0, 0, 6, 14, 0, 0, 96, 224, 511, 1023, 2047, 2047, 4095, 16383]
theorem spec_CubeStars.tab18 : rtab .any (opsOf Try.f38 18) = spec_CubeStars.T18 := by kernel_rfl
theorem spec_CubeStars.bits18 : waitsOk spec_CubeStars.T18.2 spec_CubeStars.B18 = true := by kernel_rfl
set_option maxHeartbeats 8000000 in
set_option maxRecDepth 100000 in
theorem spec_CubeStars.calls (k : Nat) (a0 : Int) (r1 : Int) (r2 : Bool) (w : World) (h : spec_CubeStars.f k a0 = some (r1, r2)) :
  Calls Try.prog 38 #[.int .i64 a0] w fun e w' => e = .returned (.tuple #[.int .i64 r1, .bool r2]) ∧ Below w.heap.size w w' := by
 have HB := am (Below.refl w.heap.size w)
 have H : ((spec_CubeRoots.f k a0).bind fun bt515 => (if bt515.2 = true then ((spec_l8Lines.f k a0 bt515.1).bind fun t519 => ((spec_l8Table.f k a0 bt515.1).bind fun t522 => (spec_CubeStars.l0 k a0 t519 t522 0 0))) else (some (0, false)))) = some (r1, r2) := h
 clear h; replace H := bs H
 obtain ⟨⟨t515, t516⟩, A2, H⟩ := H
 dsimp only at H
 by_cases c3 : t516 = true
 ·subst c3
  rw [if_pos rfl] at H
  replace H := bs H; obtain ⟨t519, A4, H⟩ := H; replace H := bs H; obtain ⟨t522, A5, H⟩ := H; have H' := am H; clear H
  go_enter Try.func38, Try.ntmps38
  go_wp2_with (first | ((with_reducible refine gate_callee (f := 48) rfl ?_); refine gl 18 Try.func48 #[.int .i64 a0] ?_; (with_reducible refine (spec_CubeRoots.calls k a0 t515 true _ A2.out).mono ?_); rintro e w6 ⟨v517, rfl, ho0, hb⟩; refine ⟨_, rfl, ?_⟩; have HO518 := am (Kd.R_lower ho0 (bz HB)); replace HB := bq HB hb; (try clear hb); (try clear ho0); obtain ⟨Ao7, co7, eo7⟩ := Kd.R_slice HO518.out; subst eo7) | ((with_reducible refine gate_callee (f := 79) rfl ?_); refine gl 25 Try.func79 #[.int .i64 a0, .slice Ao7 t515.length co7] ?_; (with_reducible refine (spec_l8Lines.calls k a0 _ _ t515 t519 _ ?_ ?_ A4.out).mono ?_); exact Kd.C_below (Kd.R_reads' HO518.out).2.2 gs; exact (Kd.R_reads' HO518.out).2.1; rintro e w8 ⟨v520, rfl, ho0, hb⟩; refine ⟨_, rfl, ?_⟩; have HO521 := am (Kd.S_lower (Kd.S_new' ho0 (Kd.R_lt (wR HO518))) (bz HB)); replace HO518 := am (Kd.R_below (wR HO518) hb); replace HB := bq HB hb; (try clear hb); (try clear ho0)) | ((with_reducible refine gate_callee (f := 50) rfl ?_); refine gl 28 Try.func50 #[.int .i64 a0, .slice Ao7 t515.length co7] ?_; (with_reducible refine (spec_l8Table.calls k a0 _ _ t515 t522 _ ?_ ?_ A5.out).mono ?_); exact Kd.C_below (Kd.R_reads' HO518.out).2.2 gs; exact (Kd.R_reads' HO518.out).2.1; rintro e w9 ⟨v523, rfl, ho0, hb⟩; refine ⟨_, rfl, ?_⟩; replace HO518 := am (Kd.R_below (wR HO518) hb); replace HO521 := am (Kd.S_below (wS HO521) hb); have HO524 := am (Kd.S_lower ho0 (bz HB)); replace HB := bq HB hb; (try clear hb); (try clear ho0)))
  go_loopg [8, 9] k (fun kq v8 v9 w' => ∃ (x8_1 : Int) (x9_1 : Int), v8 = .int .i64 x8_1 ∧ v9 = .int .i64 x9_1 ∧ Aside0 (spec_CubeStars.l0 kq a0 t519 t522 x8_1 x9_1 = some (r1, r2)) ∧ Aside0 (kq ≤ k) ∧ Aside0 (Kd.S (Kd.slice 3 (Kd.int .i64)) 22 w' w.heap.size (fun _ => True) v520 t519) ∧ Aside0 (Kd.S (Kd.slice 4 Kd.bool) 51 w' w.heap.size (fun _ => True) v523 t522) ∧ Aside0 (Below w.heap.size w w'))
  case atStart => exact ⟨(0), (0), fr, fr, H', ⟨Nat.le_refl _⟩, ⟨Kd.S_below (Kd.S_mono HO521.out (fun _ hk => trivial)) gs⟩, ⟨wS HO524⟩, ⟨bw HB⟩⟩
  case round =>
   clear H'; try clear p2; try clear c3; try clear c4; try clear c5; try clear c7
   obtain ⟨x8_1, x9_1, rfl, rfl, HA, HK1, HO_6, HO_7, HB⟩ := hrel
   cases gk with
   | zero => exact absurd HA.out (by simp [spec_CubeStars.l0])
   | succ k1 =>
    have H := HA.out; clear HA
    simp only [spec_CubeStars.l0] at H
    by_cases c10 : x9_1 < 27
    ·rw [if_pos c10] at H
     have c10b0 := decide_eq_true c10; clear c10; have H' := am H; clear H; go_wp2
     go_loopg [8, 10] k1 (fun kq v8 v10 w' => ∃ (x8_2 : Int) (x10_2 : Int), v8 = .int .i64 x8_2 ∧ v10 = .int .i64 x10_2 ∧ Aside0 (spec_CubeStars.l1 kq a0 t519 t522 x8_2 x9_1 x10_2 = some (r1, r2)) ∧ Aside0 (kq ≤ k1) ∧ Aside0 (Kd.S (Kd.slice 3 (Kd.int .i64)) 22 w' w.heap.size (fun _ => True) v520 t519) ∧ Aside0 (Kd.S (Kd.slice 4 Kd.bool) 51 w' w.heap.size (fun _ => True) v523 t522) ∧ Aside0 (Below w.heap.size w w'))
     case atStart => exact ⟨(x8_1), (wrap64 (x9_1 + 1)), fr, fr, H', ⟨Nat.le_refl _⟩, ⟨wS HO_6⟩, ⟨wS HO_7⟩, ⟨bw HB⟩⟩
     case round =>
      clear H'; try clear c1; try clear p2; try clear c3; try clear c4; try clear c5; try clear p6; try clear c7; try clear c10; try clear c10b0; try clear p2
      obtain ⟨x8_2, x10_2, rfl, rfl, HA, HK2, HO_6, HO_7, HB⟩ := hrel
      cases gk with
      | zero => exact absurd HA.out (by simp [spec_CubeStars.l1])
      | succ k2 =>
       have H := HA.out; clear HA
       simp only [spec_CubeStars.l1] at H
       by_cases c11 : x10_2 < 27
       ·rw [if_pos c11] at H
        have c11b0 := decide_eq_true c11; clear c11; have H' := am H; clear H; go_wp2
        go_loopg [8, 11] k2 (fun kq v8 v11 w' => ∃ (x8_3 : Int) (x11_3 : Int), v8 = .int .i64 x8_3 ∧ v11 = .int .i64 x11_3 ∧ Aside0 (spec_CubeStars.l2 kq a0 t519 t522 x8_3 x9_1 x10_2 x11_3 = some (r1, r2)) ∧ Aside0 (kq ≤ k2) ∧ Aside0 (Kd.S (Kd.slice 3 (Kd.int .i64)) 22 w' w.heap.size (fun _ => True) v520 t519) ∧ Aside0 (Kd.S (Kd.slice 4 Kd.bool) 51 w' w.heap.size (fun _ => True) v523 t522) ∧ Aside0 (Below w.heap.size w w'))
        case atStart => exact ⟨(x8_2), (wrap64 (x10_2 + 1)), fr, fr, H', ⟨Nat.le_refl _⟩, ⟨wS HO_6⟩, ⟨wS HO_7⟩, ⟨bw HB⟩⟩
        case round =>
         clear H'; try clear c1; try clear p2; try clear c3; try clear c4; try clear c5; try clear p6; try clear c7; try clear c10; try clear c10b0; try clear c11; try clear c11b0; try clear p2; try clear p6
         obtain ⟨x8_3, x11_3, rfl, rfl, HA, HK3, HO_6, HO_7, HB⟩ := hrel
         cases gk with
         | zero => exact absurd HA.out (by simp [spec_CubeStars.l2])
         | succ k3 =>
          have H := HA.out; clear HA
          simp only [spec_CubeStars.l2] at H
          by_cases c12 : x11_3 < 27
          ·rw [if_pos c12] at H
           have c12b0 := decide_eq_true c12; clear c12
           have HC13 := am H
           clear H
           go_upto_region 16 with (fail)
           go_cut [72] (fun v72 wc => ∃ (kq : Nat) (x72_12 : Bool), v72 = .bool x72_12 ∧ Aside0 (spec_CubeStars.j3 kq a0 t519 t522 x8_3 x9_1 x10_2 x11_3 x72_12 = some (r1, r2)) ∧ Aside0 (kq ≤ k3) ∧ Aside0 (Kd.S (Kd.slice 3 (Kd.int .i64)) 22 wc w.heap.size (fun _ => True) v520 t519) ∧ Aside0 (Kd.S (Kd.slice 4 Kd.bool) 51 wc w.heap.size (fun _ => True) v523 t522) ∧ Aside0 (Below w.heap.size w wc))
           case first =>
            have H := HC13.out
            clear HC13; replace H := ifn H; obtain ⟨c14, H⟩ := H; have c14b0 := decide_eq_true c14; clear c14
            (first | rw [c14b0] | (simp only [i64_w, i32_w]; rw [c14b0]) | skip)
            replace H := ifn H; obtain ⟨c15, H⟩ := H; have c15b0 := decide_eq_true c15; clear c15; replace H := ifn H; obtain ⟨c16, H⟩ := H; have c16b0 := decide_eq_true c16; clear c16; replace H := ifn H; obtain ⟨c17, H⟩ := H; have c17b0 := decide_eq_true c17
            clear c17
            obtain ⟨bq18, hbq18⟩ : ∃ b_ : Bool, b_ = (rdOf false (rd_L4 t522 x9_1) x10_2) := ⟨_, rfl⟩
            replace H : (if (bq18 = true) then (if 0 ≤ x11_3 then (if x11_3 < ((rd_L4 t522 x9_1).length : Int) then (if (rdOf false (rd_L4 t522 x9_1) x11_3 = true) then (if x10_2 < (t522.length : Int) then (if x11_3 < ((rd_L4 t522 x10_2).length : Int) then (spec_CubeStars.j3 k3 a0 t519 t522 x8_3 x9_1 x10_2 x11_3 (!(rdOf false (rd_L4 t522 x10_2) x11_3))) else (none)) else (none)) else (spec_CubeStars.j3 k3 a0 t519 t522 x8_3 x9_1 x10_2 x11_3 true)) else (none)) else (none)) else (spec_CubeStars.j3 k3 a0 t519 t522 x8_3 x9_1 x10_2 x11_3 true)) = some (r1, r2) := by rw [← hbq18] at H; exact H
            have Nbq18 := am hbq18; clear hbq18
            by_cases c19 : (bq18 = true)
            ·subst c19
             rw [if_pos rfl] at H
             replace H := ifn H; obtain ⟨c20, H⟩ := H; have c20b0 := decide_eq_true c20; clear c20; replace H := ifn H; obtain ⟨c21, H⟩ := H; have c21b0 := decide_eq_true c21; clear c21
             obtain ⟨bq22, hbq22⟩ : ∃ b_ : Bool, b_ = (rdOf false (rd_L4 t522 x9_1) x11_3) := ⟨_, rfl⟩
             replace H : (if (bq22 = true) then (if x10_2 < (t522.length : Int) then (if x11_3 < ((rd_L4 t522 x10_2).length : Int) then (spec_CubeStars.j3 k3 a0 t519 t522 x8_3 x9_1 x10_2 x11_3 (!(rdOf false (rd_L4 t522 x10_2) x11_3))) else (none)) else (none)) else (spec_CubeStars.j3 k3 a0 t519 t522 x8_3 x9_1 x10_2 x11_3 true)) = some (r1, r2) := by rw [← hbq22] at H; exact H
             have Nbq22 := am hbq22; clear hbq22
             by_cases c23 : (bq22 = true)
             ·subst c23
              rw [if_pos rfl] at H
              replace H := ifn H; obtain ⟨c24, H⟩ := H; have c24b0 := decide_eq_true c24; clear c24; replace H := ifn H; obtain ⟨c25, H⟩ := H; have c25b0 := decide_eq_true c25; clear c25; have H' := am H; clear H
              obtain ⟨Ao26, co26, eo26⟩ := Kd.S_slice HO_7.out
              subst eo26
              have p525 : 0 ≤ (x9_1 : Int) := od
              have q525 : x9_1 < (t522.length : Int) := od
              obtain ⟨ad525, A525_0, c525_0, e525, hx525_0, hl525_0, hi525_0⟩ := at_L4 (Kd.S_reads' HO_7.out).2.2 x9_1 p525 q525
              cases e525
              obtain ⟨ce525, hce525, hMe525, hcc525⟩ := Kd.S_get HO_7.out [] x9_1 p525 (by first | exact q525 | exact od | (have e_ := (Kd.S_reads' HO_7.out).1; omega))
              obtain ⟨ve525_0, rfl, ge525_0⟩ := hMe525
              have hv525_0 := hcc525 0 _ rfl
              rw [Nat.add_zero, show ((Kd.slice 4 Kd.bool)).sz = 1 from rfl, Nat.mul_one] at hv525_0
              replace hv525_0 := Option.some.inj (hv525_0.symm.trans hx525_0)
              rw [hv525_0] at ge525_0
              have HL525_0 := am (show Kd.R Kd.bool 4 _ _ _ _ (rd_L4 t522 x9_1) from ge525_0)
              clear hv525_0 ge525_0; clear hcc525 hce525
              have HR525_0 := am hi525_0
              have HC525_0 := am hl525_0
              clear hi525_0 hl525_0; replace p525 := eq_true p525; replace q525 := eq_true q525
              have p526 : 0 ≤ (x10_2 : Int) := od
              have q526 : x10_2 < ((rd_L4 t522 x9_1).length : Int) := od
              obtain ⟨ad526, e526, hx526_0⟩ := Kd.at_bool HR525_0.out x10_2 p526 q526
              (try rw [← Nbq18.out] at hx526_0)
              (try rw [← Nbq22.out] at hx526_0)
              cases e526; replace p526 := eq_true p526; replace q526 := eq_true q526
              have p527 : 0 ≤ (x9_1 : Int) := od
              have q527 : x9_1 < (t522.length : Int) := od
              obtain ⟨ad527, A527_0, c527_0, e527, hx527_0, hl527_0, hi527_0⟩ := at_L4 (Kd.S_reads' HO_7.out).2.2 x9_1 p527 q527
              obtain rfl : ad525 = ad527 := (by injection e527)
              obtain ⟨ce527, hce527, hMe527, hcc527⟩ := Kd.S_get HO_7.out [] x9_1 p527 (by first | exact q527 | exact od | (have e_ := (Kd.S_reads' HO_7.out).1; omega))
              obtain ⟨ve527_0, rfl, ge527_0⟩ := hMe527
              have hv527_0 := hcc527 0 _ rfl
              rw [Nat.add_zero, show ((Kd.slice 4 Kd.bool)).sz = 1 from rfl, Nat.mul_one] at hv527_0
              replace hv527_0 := Option.some.inj (hv527_0.symm.trans hx527_0)
              rw [hv527_0] at ge527_0
              have HL527_0 := am (show Kd.R Kd.bool 4 _ _ _ _ (rd_L4 t522 x9_1) from ge527_0)
              clear hv527_0 ge527_0; clear hcc527 hce527
              have HR527_0 := am hi527_0
              have HC527_0 := am hl527_0
              clear hi527_0 hl527_0; replace p527 := eq_true p527; replace q527 := eq_true q527
              have ea_ := Option.some.inj (hx525_0.symm.trans hx527_0)
              injection ea_ with ea_ en_ ec_
              subst ea_; subst ec_; clear en_
              have p528 : 0 ≤ (x11_3 : Int) := od
              have q528 : x11_3 < ((rd_L4 t522 x9_1).length : Int) := od
              obtain ⟨ad528, e528, hx528_0⟩ := Kd.at_bool HR527_0.out x11_3 p528 q528
              (try rw [← Nbq18.out] at hx528_0)
              (try rw [← Nbq22.out] at hx528_0)
              cases e528; replace p528 := eq_true p528; replace q528 := eq_true q528
              have p529 : 0 ≤ (x10_2 : Int) := od
              have q529 : x10_2 < (t522.length : Int) := od
              obtain ⟨ad529, A529_0, c529_0, e529, hx529_0, hl529_0, hi529_0⟩ := at_L4 (Kd.S_reads' HO_7.out).2.2 x10_2 p529 q529
              obtain rfl : ad525 = ad529 := (by injection e529)
              obtain ⟨ce529, hce529, hMe529, hcc529⟩ := Kd.S_get HO_7.out [] x10_2 p529 (by first | exact q529 | exact od | (have e_ := (Kd.S_reads' HO_7.out).1; omega))
              obtain ⟨ve529_0, rfl, ge529_0⟩ := hMe529
              have hv529_0 := hcc529 0 _ rfl
              rw [Nat.add_zero, show ((Kd.slice 4 Kd.bool)).sz = 1 from rfl, Nat.mul_one] at hv529_0
              replace hv529_0 := Option.some.inj (hv529_0.symm.trans hx529_0)
              rw [hv529_0] at ge529_0
              have HL529_0 := am (show Kd.R Kd.bool 4 _ _ _ _ (rd_L4 t522 x10_2) from ge529_0)
              clear hv529_0 ge529_0; clear hcc529 hce529
              have HR529_0 := am hi529_0
              have HC529_0 := am hl529_0
              clear hi529_0 hl529_0; replace p529 := eq_true p529; replace q529 := eq_true q529
              have p530 : 0 ≤ (x11_3 : Int) := od
              have q530 : x11_3 < ((rd_L4 t522 x10_2).length : Int) := od
              obtain ⟨ad530, e530, hx530_0⟩ := Kd.at_bool HR529_0.out x11_3 p530 q530
              (try rw [← Nbq18.out] at hx530_0)
              (try rw [← Nbq22.out] at hx530_0)
              cases e530; replace p530 := eq_true p530; replace q530 := eq_true q530; go_wp2
              go_meet
              case rel => exact ⟨_, (!(rdOf false (rd_L4 t522 x10_2) x11_3)), fr, H', ⟨by have := HK1.out; have := HK2.out; have := HK3.out; first | omega | exact Nat.le_refl _⟩, ⟨wS HO_6⟩, ⟨wS HO_7⟩, ⟨bw HB⟩⟩
             ·replace c23 := Bool.eq_false_iff.mpr c23
              subst c23
              rw [if_neg (show ¬ (false = true) by decide)] at H
              have H' := am H; clear H
              obtain ⟨Ao27, co27, eo27⟩ := Kd.S_slice HO_7.out
              subst eo27
              have p525 : 0 ≤ (x9_1 : Int) := od
              have q525 : x9_1 < (t522.length : Int) := od
              obtain ⟨ad525, A525_0, c525_0, e525, hx525_0, hl525_0, hi525_0⟩ := at_L4 (Kd.S_reads' HO_7.out).2.2 x9_1 p525 q525
              cases e525
              obtain ⟨ce525, hce525, hMe525, hcc525⟩ := Kd.S_get HO_7.out [] x9_1 p525 (by first | exact q525 | exact od | (have e_ := (Kd.S_reads' HO_7.out).1; omega))
              obtain ⟨ve525_0, rfl, ge525_0⟩ := hMe525
              have hv525_0 := hcc525 0 _ rfl
              rw [Nat.add_zero, show ((Kd.slice 4 Kd.bool)).sz = 1 from rfl, Nat.mul_one] at hv525_0
              replace hv525_0 := Option.some.inj (hv525_0.symm.trans hx525_0)
              rw [hv525_0] at ge525_0
              have HL525_0 := am (show Kd.R Kd.bool 4 _ _ _ _ (rd_L4 t522 x9_1) from ge525_0)
              clear hv525_0 ge525_0; clear hcc525 hce525
              have HR525_0 := am hi525_0
              have HC525_0 := am hl525_0
              clear hi525_0 hl525_0; replace p525 := eq_true p525; replace q525 := eq_true q525
              have p526 : 0 ≤ (x10_2 : Int) := od
              have q526 : x10_2 < ((rd_L4 t522 x9_1).length : Int) := od
              obtain ⟨ad526, e526, hx526_0⟩ := Kd.at_bool HR525_0.out x10_2 p526 q526
              (try rw [← Nbq18.out] at hx526_0)
              (try rw [← Nbq22.out] at hx526_0)
              cases e526; replace p526 := eq_true p526; replace q526 := eq_true q526
              have p527 : 0 ≤ (x9_1 : Int) := od
              have q527 : x9_1 < (t522.length : Int) := od
              obtain ⟨ad527, A527_0, c527_0, e527, hx527_0, hl527_0, hi527_0⟩ := at_L4 (Kd.S_reads' HO_7.out).2.2 x9_1 p527 q527
              obtain rfl : ad525 = ad527 := (by injection e527)
              obtain ⟨ce527, hce527, hMe527, hcc527⟩ := Kd.S_get HO_7.out [] x9_1 p527 (by first | exact q527 | exact od | (have e_ := (Kd.S_reads' HO_7.out).1; omega))
              obtain ⟨ve527_0, rfl, ge527_0⟩ := hMe527
              have hv527_0 := hcc527 0 _ rfl
              rw [Nat.add_zero, show ((Kd.slice 4 Kd.bool)).sz = 1 from rfl, Nat.mul_one] at hv527_0
              replace hv527_0 := Option.some.inj (hv527_0.symm.trans hx527_0)
              rw [hv527_0] at ge527_0
              have HL527_0 := am (show Kd.R Kd.bool 4 _ _ _ _ (rd_L4 t522 x9_1) from ge527_0)
              clear hv527_0 ge527_0; clear hcc527 hce527
              have HR527_0 := am hi527_0
              have HC527_0 := am hl527_0
              clear hi527_0 hl527_0; replace p527 := eq_true p527; replace q527 := eq_true q527
              have ea_ := Option.some.inj (hx525_0.symm.trans hx527_0)
              injection ea_ with ea_ en_ ec_
              subst ea_; subst ec_; clear en_
              have p528 : 0 ≤ (x11_3 : Int) := od
              have q528 : x11_3 < ((rd_L4 t522 x9_1).length : Int) := od
              obtain ⟨ad528, e528, hx528_0⟩ := Kd.at_bool HR527_0.out x11_3 p528 q528
              (try rw [← Nbq18.out] at hx528_0)
              (try rw [← Nbq22.out] at hx528_0)
              cases e528; replace p528 := eq_true p528; replace q528 := eq_true q528; go_wp2
              go_meet
              case rel => exact ⟨_, (true), fr, H', ⟨by have := HK1.out; have := HK2.out; have := HK3.out; first | omega | exact Nat.le_refl _⟩, ⟨wS HO_6⟩, ⟨wS HO_7⟩, ⟨bw HB⟩⟩
            ·replace c19 := Bool.eq_false_iff.mpr c19
             subst c19
             rw [if_neg (show ¬ (false = true) by decide)] at H
             have H' := am H; clear H
             obtain ⟨Ao28, co28, eo28⟩ := Kd.S_slice HO_7.out
             subst eo28
             have p525 : 0 ≤ (x9_1 : Int) := od
             have q525 : x9_1 < (t522.length : Int) := od
             obtain ⟨ad525, A525_0, c525_0, e525, hx525_0, hl525_0, hi525_0⟩ := at_L4 (Kd.S_reads' HO_7.out).2.2 x9_1 p525 q525
             cases e525
             obtain ⟨ce525, hce525, hMe525, hcc525⟩ := Kd.S_get HO_7.out [] x9_1 p525 (by first | exact q525 | exact od | (have e_ := (Kd.S_reads' HO_7.out).1; omega))
             obtain ⟨ve525_0, rfl, ge525_0⟩ := hMe525
             have hv525_0 := hcc525 0 _ rfl
             rw [Nat.add_zero, show ((Kd.slice 4 Kd.bool)).sz = 1 from rfl, Nat.mul_one] at hv525_0
             replace hv525_0 := Option.some.inj (hv525_0.symm.trans hx525_0)
             rw [hv525_0] at ge525_0
             have HL525_0 := am (show Kd.R Kd.bool 4 _ _ _ _ (rd_L4 t522 x9_1) from ge525_0)
             clear hv525_0 ge525_0; clear hcc525 hce525
             have HR525_0 := am hi525_0
             have HC525_0 := am hl525_0
             clear hi525_0 hl525_0; replace p525 := eq_true p525; replace q525 := eq_true q525
             have p526 : 0 ≤ (x10_2 : Int) := od
             have q526 : x10_2 < ((rd_L4 t522 x9_1).length : Int) := od
             obtain ⟨ad526, e526, hx526_0⟩ := Kd.at_bool HR525_0.out x10_2 p526 q526
             (try rw [← Nbq18.out] at hx526_0)
             cases e526; replace p526 := eq_true p526; replace q526 := eq_true q526; go_wp2
             go_meet
             case rel => exact ⟨_, (true), fr, H', ⟨by have := HK1.out; have := HK2.out; have := HK3.out; first | omega | exact Nat.le_refl _⟩, ⟨wS HO_6⟩, ⟨wS HO_7⟩, ⟨bw HB⟩⟩
           case rest =>
            clear HC13; try clear c1; try clear q1; try clear c2; try clear p2; try clear q2; try clear c3; try clear c4; try clear c5; try clear p5; try clear q5; try clear hx5; try clear p6; try clear c7; try clear c10; try clear c10b0; try clear c11
            try clear c11b0; try clear c12; try clear c12b0; try clear c14; try clear c14b0; try clear c15; try clear c15b0; try clear c16; try clear c16b0; try clear c17; try clear c17b0; try clear q18; try clear c19; try clear c20; try clear c20b0; try clear c21
            try clear c21b0; try clear q22; try clear c23; try clear c24; try clear c24b0; try clear c25; try clear c25b0; try clear hx525_0; try clear hx526_0; try clear hx527_0; try clear hx528_0; try clear hx529_0; try clear hx530_0; try clear p2; try clear p525
            try clear p526; try clear p527; try clear p528; try clear p529; try clear p530; try clear p6; try clear q525; try clear q526; try clear q527; try clear q528; try clear q529; try clear q530
            obtain ⟨kq, x72_12, rfl, HA, HJ12, HO_6, HO_7, HB⟩ := hcut
            cases kq with
            | zero => exact absurd HA.out (by simp [spec_CubeStars.j3])
            | succ kj12 =>
             have H := HA.out; clear HA
             simp only [spec_CubeStars.j3] at H
             by_cases c29 : x72_12 = true
             ·subst c29
              rw [if_pos rfl] at H
              have H' := am H; clear H; go_wp2
              go_roundg kj12
              case measure => have := HK1.out; have := HK2.out; have := HK3.out; have := HJ12.out; omega
              case rel => exact ⟨(x8_3), (wrap64 (x11_3 + 1)), fr, fr, H', ⟨by have := HK1.out; have := HK2.out; have := HK3.out; have := HJ12.out; omega⟩, ⟨wS HO_6⟩, ⟨wS HO_7⟩, ⟨bw HB⟩⟩
             ·replace c29 := Bool.eq_false_iff.mpr c29
              subst c29
              rw [if_neg (show ¬ (false = true) by decide)] at H
              replace H := ifn H; obtain ⟨c30, H⟩ := H; have c30b0 := decide_eq_true c30; clear c30; replace H := ifn H; obtain ⟨c31, H⟩ := H; have c31b0 := decide_eq_true c31; clear c31; replace H := ifn H; obtain ⟨c32, H⟩ := H; have c32b0 := decide_eq_true c32
              clear c32; replace H := ifn H; obtain ⟨c33, H⟩ := H; have c33b0 := decide_eq_true c33; clear c33; replace H := bs H
              obtain ⟨⟨t533, t534⟩, A34, H⟩ := H
              dsimp only at H
              replace H := ifn H; obtain ⟨c35, H⟩ := H; have c35b0 := decide_eq_true c35; clear c35; replace H := ifn H; obtain ⟨c36, H⟩ := H; have c36b0 := decide_eq_true c36; clear c36; replace H := bs H
              obtain ⟨⟨t539, t540⟩, A37, H⟩ := H
              dsimp only at H
              replace H := bs H; obtain ⟨t543, A38, H⟩ := H
              by_cases c39 : t543 = true
              ·subst c39
               rw [if_pos rfl] at H
               have H' := am H; clear H
               try go_wp2
               replace HO_6 := am (Kd.S_drew HO_6.out)
               replace HO_7 := am (Kd.S_drew HO_7.out)
               replace HB := am (below_drew1 HB.out)
               obtain ⟨Ao41, co41, eo41⟩ := Kd.S_slice HO_6.out
               (first | subst eo41 | (injection eo41 with f1_ f2_ f3_; have f4_ := f1_.symm; have f5_ := f3_.symm; clear f1_ f2_ f3_; subst f4_; subst f5_))
               have p531 : 0 ≤ (x9_1 : Int) := od
               have q531 : x9_1 < (t519.length : Int) := od
               obtain ⟨ad531, A531_0, c531_0, e531, hx531_0, hl531_0, hi531_0⟩ := at_L1 (Kd.S_reads' HO_6.out).2.2 x9_1 p531 q531
               cases e531
               obtain ⟨ce531, hce531, hMe531, hcc531⟩ := Kd.S_get HO_6.out [] x9_1 p531 (by first | exact q531 | exact od | (have e_ := (Kd.S_reads' HO_6.out).1; omega))
               obtain ⟨ve531_0, rfl, ge531_0⟩ := hMe531
               have hv531_0 := hcc531 0 _ rfl
               rw [Nat.add_zero, show ((Kd.slice 3 (Kd.int .i64))).sz = 1 from rfl, Nat.mul_one] at hv531_0
               replace hv531_0 := Option.some.inj (hv531_0.symm.trans hx531_0)
               rw [hv531_0] at ge531_0
               have HL531_0 := am (show Kd.R (Kd.int .i64) 3 _ _ _ _ (rd_L1 t519 x9_1) from ge531_0)
               clear hv531_0 ge531_0; clear hcc531 hce531
               have HR531_0 := am hi531_0
               have HC531_0 := am hl531_0
               clear hi531_0 hl531_0; replace p531 := eq_true p531; replace q531 := eq_true q531
               have p532 : 0 ≤ (x10_2 : Int) := od
               have q532 : x10_2 < (t519.length : Int) := od
               obtain ⟨ad532, A532_0, c532_0, e532, hx532_0, hl532_0, hi532_0⟩ := at_L1 (Kd.S_reads' HO_6.out).2.2 x10_2 p532 q532
               obtain rfl : ad531 = ad532 := (by injection e532)
               obtain ⟨ce532, hce532, hMe532, hcc532⟩ := Kd.S_get HO_6.out [] x10_2 p532 (by first | exact q532 | exact od | (have e_ := (Kd.S_reads' HO_6.out).1; omega))
               obtain ⟨ve532_0, rfl, ge532_0⟩ := hMe532
               have hv532_0 := hcc532 0 _ rfl
               rw [Nat.add_zero, show ((Kd.slice 3 (Kd.int .i64))).sz = 1 from rfl, Nat.mul_one] at hv532_0
               replace hv532_0 := Option.some.inj (hv532_0.symm.trans hx532_0)
               rw [hv532_0] at ge532_0
               have HL532_0 := am (show Kd.R (Kd.int .i64) 3 _ _ _ _ (rd_L1 t519 x10_2) from ge532_0)
               clear hv532_0 ge532_0; clear hcc532 hce532
               have HR532_0 := am hi532_0
               have HC532_0 := am hl532_0
               clear hi532_0 hl532_0; replace p532 := eq_true p532; replace q532 := eq_true q532
               refine st 15 (fun w' => w'.cell? (ad531.add (x9_1).toNat) = some (.slice A531_0 (rd_L1 t519 x9_1).length c531_0) ∧ w'.cell? (ad531.add (x10_2).toNat) = some (.slice A532_0 (rd_L1 t519 x10_2).length c532_0)) [] spec_CubeStars.tab17 spec_CubeStars.bits17 (⟨hx531_0, hx532_0⟩) fun hHeld HT_ HW_ => ?_
               generalize wc.drew = w40 at HO_6 HO_7 HB HL531_0 HL532_0 HR531_0 HR532_0 hx531_0 hx532_0 hHeld ⊢
               refine pz 0 74 HT_ ?_; refine pz 1 75 HT_ ?_; refine pz 2 76 HT_ ?_; refine pz 3 77 HT_ ?_; refine pz 5 79 HT_ ?_; refine pz 6 80 HT_ ?_; refine pz 7 81 HT_ ?_; refine tk 4 78 HT_ HW_ hHeld ?_; refine tk 8 82 HT_ HW_ hHeld ?_
               refine on 9 (some 83) HT_ fun K hK => ?_
               refine gs_ Try.func13 #[.int .i64 a0, .slice A531_0 (rd_L1 t519 x9_1).length c531_0, .slice A532_0 (rd_L1 t519 x10_2).length c532_0] ?_
               with_reducible refine (spec_SpacePlace.calls kj12 a0 _ _ (rd_L1 t519 x9_1) _ _ (rd_L1 t519 x10_2) t533 t534 _ ?side1 ?side2 ?side3 ?side4 A34.out).mono ?_
               (case side1 => exact wC HR531_0)
               (case side2 => exact HC531_0.out)
               (case side3 => exact wC HR532_0)
               (case side4 => exact HC532_0.out)
               rintro e w42 ⟨v535, rfl, ho0, hb⟩
               have HS0_ := (hb.cell (World.block_lt_of_cell? _ _ (hHeld.1))).trans (hHeld.1)
               have HS1_ := (hb.cell (World.block_lt_of_cell? _ _ (hHeld.2))).trans (hHeld.2)
               refine ⟨_, rfl, ?_⟩
               replace HO_6 := eS HO_6 (Kd.R_base ho0) hb
               replace HO_7 := am (Kd.S_below (wS HO_7) hb)
               have HO536 := am (Kd.R_lower (Kd.R_new' (Kd.R_new' ho0 (Kd.R_lt (wR HL531_0))) (Kd.R_lt (wR HL532_0))) (bz HB))
               replace HL531_0 := eR HL531_0 (Kd.R_base ho0) hb
               replace HL532_0 := eR HL532_0 (Kd.R_base ho0) hb
               replace HR531_0 := am (Kd.C_below (wC HR531_0) hb)
               replace HR532_0 := am (Kd.C_below (wC HR532_0) hb)
               replace HB := bq HB hb
               (try clear hb)
               (try clear hb2)
               (try clear hk)
               (try clear hi)
               (try clear ho0)
               refine hK.out _ _ ⟨HS0_, HS1_⟩ fun hHeld => nz ?_
               clear hK K; refine pz 10 73 HT_ ?_; refine pz 11 84 HT_ ?_; refine pz 12 85 HT_ ?_; refine pz 13 12 HT_ ?_; refine pz 14 13 HT_ ?_
               refine done_ (done_of HT_.out (by kernel_rfl)) ?_
               try go_wp2
               replace HO_6 := am (Kd.S_drew HO_6.out)
               replace HO_7 := am (Kd.S_drew HO_7.out)
               replace HL531_0 := am (Kd.R_drew HL531_0.out)
               replace HL532_0 := am (Kd.R_drew HL532_0.out)
               replace HO536 := am (Kd.R_drew HO536.out)
               replace HR531_0 := am (Kd.C_drew HR531_0.out)
               replace HR532_0 := am (Kd.C_drew HR532_0.out)
               replace HB := am (below_drew1 HB.out)
               have p537 : 0 ≤ (x9_1 : Int) := od
               have q537 : x9_1 < (t519.length : Int) := od
               obtain ⟨ad537, A537_0, c537_0, e537, hx537_0, hl537_0, hi537_0⟩ := at_L1 (Kd.S_reads' HO_6.out).2.2 x9_1 p537 q537
               obtain rfl : ad531 = ad537 := (by injection e537)
               obtain ⟨ce537, hce537, hMe537, hcc537⟩ := Kd.S_get HO_6.out [] x9_1 p537 (by first | exact q537 | exact od | (have e_ := (Kd.S_reads' HO_6.out).1; omega))
               obtain ⟨ve537_0, rfl, ge537_0⟩ := hMe537
               have hv537_0 := hcc537 0 _ rfl
               rw [Nat.add_zero, show ((Kd.slice 3 (Kd.int .i64))).sz = 1 from rfl, Nat.mul_one] at hv537_0
               replace hv537_0 := Option.some.inj (hv537_0.symm.trans hx537_0)
               rw [hv537_0] at ge537_0
               have HL537_0 := am (show Kd.R (Kd.int .i64) 3 _ _ _ _ (rd_L1 t519 x9_1) from ge537_0)
               clear hv537_0 ge537_0; clear hcc537 hce537
               have HR537_0 := am hi537_0
               have HC537_0 := am hl537_0
               clear hi537_0 hl537_0; replace p537 := eq_true p537; replace q537 := eq_true q537
               have p538 : 0 ≤ (x11_3 : Int) := od
               have q538 : x11_3 < (t519.length : Int) := od
               obtain ⟨ad538, A538_0, c538_0, e538, hx538_0, hl538_0, hi538_0⟩ := at_L1 (Kd.S_reads' HO_6.out).2.2 x11_3 p538 q538
               obtain rfl : ad531 = ad538 := (by injection e538)
               obtain ⟨ce538, hce538, hMe538, hcc538⟩ := Kd.S_get HO_6.out [] x11_3 p538 (by first | exact q538 | exact od | (have e_ := (Kd.S_reads' HO_6.out).1; omega))
               obtain ⟨ve538_0, rfl, ge538_0⟩ := hMe538
               have hv538_0 := hcc538 0 _ rfl
               rw [Nat.add_zero, show ((Kd.slice 3 (Kd.int .i64))).sz = 1 from rfl, Nat.mul_one] at hv538_0
               replace hv538_0 := Option.some.inj (hv538_0.symm.trans hx538_0)
               rw [hv538_0] at ge538_0
               have HL538_0 := am (show Kd.R (Kd.int .i64) 3 _ _ _ _ (rd_L1 t519 x11_3) from ge538_0)
               clear hv538_0 ge538_0; clear hcc538 hce538
               have HR538_0 := am hi538_0
               have HC538_0 := am hl538_0
               clear hi538_0 hl538_0; replace p538 := eq_true p538; replace q538 := eq_true q538
               refine st 15 (fun w' => w'.cell? (ad531.add (x9_1).toNat) = some (.slice A537_0 (rd_L1 t519 x9_1).length c537_0) ∧ w'.cell? (ad531.add (x11_3).toNat) = some (.slice A538_0 (rd_L1 t519 x11_3).length c538_0)) [] spec_CubeStars.tab18 spec_CubeStars.bits18 (⟨hx537_0, hx538_0⟩) fun hHeld HT_ HW_ => ?_
               generalize w42.drew = w43 at HO_6 HO_7 HL531_0 HL532_0 HO536 HR531_0 HR532_0 HB HL537_0 HL538_0 HR537_0 HR538_0 hx537_0 hx538_0 hHeld ⊢
               refine pz 0 87 HT_ ?_; refine pz 1 88 HT_ ?_; refine pz 2 89 HT_ ?_; refine pz 3 90 HT_ ?_; refine pz 5 92 HT_ ?_; refine pz 6 93 HT_ ?_; refine pz 7 94 HT_ ?_; refine tk 4 91 HT_ HW_ hHeld ?_; refine tk 8 95 HT_ HW_ hHeld ?_
               refine on 9 (some 96) HT_ fun K hK => ?_
               refine gs_ Try.func13 #[.int .i64 a0, .slice A537_0 (rd_L1 t519 x9_1).length c537_0, .slice A538_0 (rd_L1 t519 x11_3).length c538_0] ?_
               with_reducible refine (spec_SpacePlace.calls kj12 a0 _ _ (rd_L1 t519 x9_1) _ _ (rd_L1 t519 x11_3) t539 t540 _ ?side1 ?side2 ?side3 ?side4 A37.out).mono ?_
               (case side1 => exact wC HR537_0)
               (case side2 => exact HC537_0.out)
               (case side3 => exact wC HR538_0)
               (case side4 => exact HC538_0.out)
               rintro e w44 ⟨v541, rfl, ho0, hb⟩
               have HS0_ := (hb.cell (World.block_lt_of_cell? _ _ (hHeld.1))).trans (hHeld.1)
               have HS1_ := (hb.cell (World.block_lt_of_cell? _ _ (hHeld.2))).trans (hHeld.2)
               refine ⟨_, rfl, ?_⟩
               replace HO_6 := eS HO_6 (Kd.R_base ho0) hb
               replace HO_7 := am (Kd.S_below (wS HO_7) hb)
               have HO542 := am (Kd.R_lower (Kd.R_new' (Kd.R_new' (Kd.R_new' (Kd.R_new' (Kd.R_new' ho0 (Kd.R_lt (wR HL531_0))) (Kd.R_lt (wR HL532_0))) (Kd.R_lt (wR HO536))) (Kd.R_lt (wR HL537_0))) (Kd.R_lt (wR HL538_0))) (bz HB))
               replace HL531_0 := eR HL531_0 (Kd.R_base ho0) hb
               replace HL532_0 := eR HL532_0 (Kd.R_base ho0) hb
               replace HO536 := eR HO536 (Kd.R_base ho0) hb
               replace HL537_0 := eR HL537_0 (Kd.R_base ho0) hb
               replace HL538_0 := eR HL538_0 (Kd.R_base ho0) hb
               replace HR531_0 := am (Kd.C_below (wC HR531_0) hb)
               replace HR532_0 := am (Kd.C_below (wC HR532_0) hb)
               replace HR537_0 := am (Kd.C_below (wC HR537_0) hb)
               replace HR538_0 := am (Kd.C_below (wC HR538_0) hb)
               replace HB := bq HB hb
               (try clear hb)
               (try clear hb2)
               (try clear hk)
               (try clear hi)
               (try clear ho0)
               refine hK.out _ _ ⟨HS0_, HS1_⟩ fun hHeld => nz ?_
               clear hK K; refine pz 10 86 HT_ ?_; refine pz 11 97 HT_ ?_; refine pz 12 98 HT_ ?_; refine pz 13 14 HT_ ?_; refine pz 14 15 HT_ ?_
               refine done_ (done_of HT_.out (by kernel_rfl)) ?_
               obtain ⟨Ao45, co45, eo45⟩ := Kd.R_slice HO536.out
               subst eo45
               obtain ⟨Ao46, co46, eo46⟩ := Kd.R_slice HO542.out
               subst eo46
               try go_wp2_with (first | ((with_reducible refine gate_callee (f := 61) rfl ?_); refine gl 101 Try.func61 #[.slice Ao45 t533.length co45, .slice Ao46 t539.length co46] ?_; (with_reducible refine (spec_l7Same.calls kj12 _ _ t533 _ _ t539 true _ ?side1 ?side2 ?side3 ?side4 A38.out).mono ?_); (case side1 => exact Kd.C_below (Kd.R_reads' HO536.out).2.2 gs); (case side2 => exact (Kd.R_reads' HO536.out).2.1); (case side3 => exact Kd.C_below (Kd.R_reads' HO542.out).2.2 gs); (case side4 => exact (Kd.R_reads' HO542.out).2.1); rintro e w' ⟨rfl, ⟨nd, rfl⟩⟩; refine ⟨_, rfl, ?_⟩))
               go_roundg kj12
               case measure => have := HK1.out; have := HK2.out; have := HK3.out; have := HJ12.out; omega
               case rel => exact ⟨(wrap64 (x8_3 + 1)), (wrap64 (x11_3 + 1)), fr, fr, H', ⟨by have := HK1.out; have := HK2.out; have := HK3.out; have := HJ12.out; omega⟩, ⟨Kd.S_below (Kd.S_mono HO_6.out (fun _ hk => trivial)) gs⟩, ⟨wS HO_7⟩, ⟨bw HB⟩⟩
              ·replace c39 := Bool.eq_false_iff.mpr c39
               subst c39
               rw [if_neg (show ¬ (false = true) by decide)] at H
               have H' := am H; clear H
               try go_wp2
               replace HO_6 := am (Kd.S_drew HO_6.out)
               replace HO_7 := am (Kd.S_drew HO_7.out)
               replace HB := am (below_drew1 HB.out)
               obtain ⟨Ao48, co48, eo48⟩ := Kd.S_slice HO_6.out
               (first | subst eo48 | (injection eo48 with f1_ f2_ f3_; have f4_ := f1_.symm; have f5_ := f3_.symm; clear f1_ f2_ f3_; subst f4_; subst f5_))
               have p531 : 0 ≤ (x9_1 : Int) := od
               have q531 : x9_1 < (t519.length : Int) := od
               obtain ⟨ad531, A531_0, c531_0, e531, hx531_0, hl531_0, hi531_0⟩ := at_L1 (Kd.S_reads' HO_6.out).2.2 x9_1 p531 q531
               cases e531
               obtain ⟨ce531, hce531, hMe531, hcc531⟩ := Kd.S_get HO_6.out [] x9_1 p531 (by first | exact q531 | exact od | (have e_ := (Kd.S_reads' HO_6.out).1; omega))
               obtain ⟨ve531_0, rfl, ge531_0⟩ := hMe531
               have hv531_0 := hcc531 0 _ rfl
               rw [Nat.add_zero, show ((Kd.slice 3 (Kd.int .i64))).sz = 1 from rfl, Nat.mul_one] at hv531_0
               replace hv531_0 := Option.some.inj (hv531_0.symm.trans hx531_0)
               rw [hv531_0] at ge531_0
               have HL531_0 := am (show Kd.R (Kd.int .i64) 3 _ _ _ _ (rd_L1 t519 x9_1) from ge531_0)
               clear hv531_0 ge531_0; clear hcc531 hce531
               have HR531_0 := am hi531_0
               have HC531_0 := am hl531_0
               clear hi531_0 hl531_0; replace p531 := eq_true p531; replace q531 := eq_true q531
               have p532 : 0 ≤ (x10_2 : Int) := od
               have q532 : x10_2 < (t519.length : Int) := od
               obtain ⟨ad532, A532_0, c532_0, e532, hx532_0, hl532_0, hi532_0⟩ := at_L1 (Kd.S_reads' HO_6.out).2.2 x10_2 p532 q532
               obtain rfl : ad531 = ad532 := (by injection e532)
               obtain ⟨ce532, hce532, hMe532, hcc532⟩ := Kd.S_get HO_6.out [] x10_2 p532 (by first | exact q532 | exact od | (have e_ := (Kd.S_reads' HO_6.out).1; omega))
               obtain ⟨ve532_0, rfl, ge532_0⟩ := hMe532
               have hv532_0 := hcc532 0 _ rfl
               rw [Nat.add_zero, show ((Kd.slice 3 (Kd.int .i64))).sz = 1 from rfl, Nat.mul_one] at hv532_0
               replace hv532_0 := Option.some.inj (hv532_0.symm.trans hx532_0)
               rw [hv532_0] at ge532_0
               have HL532_0 := am (show Kd.R (Kd.int .i64) 3 _ _ _ _ (rd_L1 t519 x10_2) from ge532_0)
               clear hv532_0 ge532_0; clear hcc532 hce532
               have HR532_0 := am hi532_0
               have HC532_0 := am hl532_0
               clear hi532_0 hl532_0; replace p532 := eq_true p532; replace q532 := eq_true q532
               refine st 15 (fun w' => w'.cell? (ad531.add (x9_1).toNat) = some (.slice A531_0 (rd_L1 t519 x9_1).length c531_0) ∧ w'.cell? (ad531.add (x10_2).toNat) = some (.slice A532_0 (rd_L1 t519 x10_2).length c532_0)) [] spec_CubeStars.tab17 spec_CubeStars.bits17 (⟨hx531_0, hx532_0⟩) fun hHeld HT_ HW_ => ?_
               generalize wc.drew = w47 at HO_6 HO_7 HB HL531_0 HL532_0 HR531_0 HR532_0 hx531_0 hx532_0 hHeld ⊢
               refine pz 0 74 HT_ ?_; refine pz 1 75 HT_ ?_; refine pz 2 76 HT_ ?_; refine pz 3 77 HT_ ?_; refine pz 5 79 HT_ ?_; refine pz 6 80 HT_ ?_; refine pz 7 81 HT_ ?_; refine tk 4 78 HT_ HW_ hHeld ?_; refine tk 8 82 HT_ HW_ hHeld ?_
               refine on 9 (some 83) HT_ fun K hK => ?_
               refine gs_ Try.func13 #[.int .i64 a0, .slice A531_0 (rd_L1 t519 x9_1).length c531_0, .slice A532_0 (rd_L1 t519 x10_2).length c532_0] ?_
               with_reducible refine (spec_SpacePlace.calls kj12 a0 _ _ (rd_L1 t519 x9_1) _ _ (rd_L1 t519 x10_2) t533 t534 _ ?side1 ?side2 ?side3 ?side4 A34.out).mono ?_
               (case side1 => exact wC HR531_0)
               (case side2 => exact HC531_0.out)
               (case side3 => exact wC HR532_0)
               (case side4 => exact HC532_0.out)
               rintro e w49 ⟨v535, rfl, ho0, hb⟩
               have HS0_ := (hb.cell (World.block_lt_of_cell? _ _ (hHeld.1))).trans (hHeld.1)
               have HS1_ := (hb.cell (World.block_lt_of_cell? _ _ (hHeld.2))).trans (hHeld.2)
               refine ⟨_, rfl, ?_⟩
               replace HO_6 := eS HO_6 (Kd.R_base ho0) hb
               replace HO_7 := am (Kd.S_below (wS HO_7) hb)
               have HO536 := am (Kd.R_lower (Kd.R_new' (Kd.R_new' ho0 (Kd.R_lt (wR HL531_0))) (Kd.R_lt (wR HL532_0))) (bz HB))
               replace HL531_0 := eR HL531_0 (Kd.R_base ho0) hb
               replace HL532_0 := eR HL532_0 (Kd.R_base ho0) hb
               replace HR531_0 := am (Kd.C_below (wC HR531_0) hb)
               replace HR532_0 := am (Kd.C_below (wC HR532_0) hb)
               replace HB := bq HB hb
               (try clear hb)
               (try clear hb2)
               (try clear hk)
               (try clear hi)
               (try clear ho0)
               refine hK.out _ _ ⟨HS0_, HS1_⟩ fun hHeld => nz ?_
               clear hK K; refine pz 10 73 HT_ ?_; refine pz 11 84 HT_ ?_; refine pz 12 85 HT_ ?_; refine pz 13 12 HT_ ?_; refine pz 14 13 HT_ ?_
               refine done_ (done_of HT_.out (by kernel_rfl)) ?_
               try go_wp2
               replace HO_6 := am (Kd.S_drew HO_6.out)
               replace HO_7 := am (Kd.S_drew HO_7.out)
               replace HL531_0 := am (Kd.R_drew HL531_0.out)
               replace HL532_0 := am (Kd.R_drew HL532_0.out)
               replace HO536 := am (Kd.R_drew HO536.out)
               replace HR531_0 := am (Kd.C_drew HR531_0.out)
               replace HR532_0 := am (Kd.C_drew HR532_0.out)
               replace HB := am (below_drew1 HB.out)
               have p537 : 0 ≤ (x9_1 : Int) := od
               have q537 : x9_1 < (t519.length : Int) := od
               obtain ⟨ad537, A537_0, c537_0, e537, hx537_0, hl537_0, hi537_0⟩ := at_L1 (Kd.S_reads' HO_6.out).2.2 x9_1 p537 q537
               obtain rfl : ad531 = ad537 := (by injection e537)
               obtain ⟨ce537, hce537, hMe537, hcc537⟩ := Kd.S_get HO_6.out [] x9_1 p537 (by first | exact q537 | exact od | (have e_ := (Kd.S_reads' HO_6.out).1; omega))
               obtain ⟨ve537_0, rfl, ge537_0⟩ := hMe537
               have hv537_0 := hcc537 0 _ rfl
               rw [Nat.add_zero, show ((Kd.slice 3 (Kd.int .i64))).sz = 1 from rfl, Nat.mul_one] at hv537_0
               replace hv537_0 := Option.some.inj (hv537_0.symm.trans hx537_0)
               rw [hv537_0] at ge537_0
               have HL537_0 := am (show Kd.R (Kd.int .i64) 3 _ _ _ _ (rd_L1 t519 x9_1) from ge537_0)
               clear hv537_0 ge537_0; clear hcc537 hce537
               have HR537_0 := am hi537_0
               have HC537_0 := am hl537_0
               clear hi537_0 hl537_0; replace p537 := eq_true p537; replace q537 := eq_true q537
               have p538 : 0 ≤ (x11_3 : Int) := od
               have q538 : x11_3 < (t519.length : Int) := od
               obtain ⟨ad538, A538_0, c538_0, e538, hx538_0, hl538_0, hi538_0⟩ := at_L1 (Kd.S_reads' HO_6.out).2.2 x11_3 p538 q538
               obtain rfl : ad531 = ad538 := (by injection e538)
               obtain ⟨ce538, hce538, hMe538, hcc538⟩ := Kd.S_get HO_6.out [] x11_3 p538 (by first | exact q538 | exact od | (have e_ := (Kd.S_reads' HO_6.out).1; omega))
               obtain ⟨ve538_0, rfl, ge538_0⟩ := hMe538
               have hv538_0 := hcc538 0 _ rfl
               rw [Nat.add_zero, show ((Kd.slice 3 (Kd.int .i64))).sz = 1 from rfl, Nat.mul_one] at hv538_0
               replace hv538_0 := Option.some.inj (hv538_0.symm.trans hx538_0)
               rw [hv538_0] at ge538_0
               have HL538_0 := am (show Kd.R (Kd.int .i64) 3 _ _ _ _ (rd_L1 t519 x11_3) from ge538_0)
               clear hv538_0 ge538_0; clear hcc538 hce538
               have HR538_0 := am hi538_0
               have HC538_0 := am hl538_0
               clear hi538_0 hl538_0; replace p538 := eq_true p538; replace q538 := eq_true q538
               refine st 15 (fun w' => w'.cell? (ad531.add (x9_1).toNat) = some (.slice A537_0 (rd_L1 t519 x9_1).length c537_0) ∧ w'.cell? (ad531.add (x11_3).toNat) = some (.slice A538_0 (rd_L1 t519 x11_3).length c538_0)) [] spec_CubeStars.tab18 spec_CubeStars.bits18 (⟨hx537_0, hx538_0⟩) fun hHeld HT_ HW_ => ?_
               generalize w49.drew = w50 at HO_6 HO_7 HL531_0 HL532_0 HO536 HR531_0 HR532_0 HB HL537_0 HL538_0 HR537_0 HR538_0 hx537_0 hx538_0 hHeld ⊢
               refine pz 0 87 HT_ ?_; refine pz 1 88 HT_ ?_; refine pz 2 89 HT_ ?_; refine pz 3 90 HT_ ?_; refine pz 5 92 HT_ ?_; refine pz 6 93 HT_ ?_; refine pz 7 94 HT_ ?_; refine tk 4 91 HT_ HW_ hHeld ?_; refine tk 8 95 HT_ HW_ hHeld ?_
               refine on 9 (some 96) HT_ fun K hK => ?_
               refine gs_ Try.func13 #[.int .i64 a0, .slice A537_0 (rd_L1 t519 x9_1).length c537_0, .slice A538_0 (rd_L1 t519 x11_3).length c538_0] ?_
               with_reducible refine (spec_SpacePlace.calls kj12 a0 _ _ (rd_L1 t519 x9_1) _ _ (rd_L1 t519 x11_3) t539 t540 _ ?side1 ?side2 ?side3 ?side4 A37.out).mono ?_
               (case side1 => exact wC HR537_0)
               (case side2 => exact HC537_0.out)
               (case side3 => exact wC HR538_0)
               (case side4 => exact HC538_0.out)
               rintro e w51 ⟨v541, rfl, ho0, hb⟩
               have HS0_ := (hb.cell (World.block_lt_of_cell? _ _ (hHeld.1))).trans (hHeld.1)
               have HS1_ := (hb.cell (World.block_lt_of_cell? _ _ (hHeld.2))).trans (hHeld.2)
               refine ⟨_, rfl, ?_⟩
               replace HO_6 := eS HO_6 (Kd.R_base ho0) hb
               replace HO_7 := am (Kd.S_below (wS HO_7) hb)
               have HO542 := am (Kd.R_lower (Kd.R_new' (Kd.R_new' (Kd.R_new' (Kd.R_new' (Kd.R_new' ho0 (Kd.R_lt (wR HL531_0))) (Kd.R_lt (wR HL532_0))) (Kd.R_lt (wR HO536))) (Kd.R_lt (wR HL537_0))) (Kd.R_lt (wR HL538_0))) (bz HB))
               replace HL531_0 := eR HL531_0 (Kd.R_base ho0) hb
               replace HL532_0 := eR HL532_0 (Kd.R_base ho0) hb
               replace HO536 := eR HO536 (Kd.R_base ho0) hb
               replace HL537_0 := eR HL537_0 (Kd.R_base ho0) hb
               replace HL538_0 := eR HL538_0 (Kd.R_base ho0) hb
               replace HR531_0 := am (Kd.C_below (wC HR531_0) hb)
               replace HR532_0 := am (Kd.C_below (wC HR532_0) hb)
               replace HR537_0 := am (Kd.C_below (wC HR537_0) hb)
               replace HR538_0 := am (Kd.C_below (wC HR538_0) hb)
               replace HB := bq HB hb
               (try clear hb)
               (try clear hb2)
               (try clear hk)
               (try clear hi)
               (try clear ho0)
               refine hK.out _ _ ⟨HS0_, HS1_⟩ fun hHeld => nz ?_
               clear hK K; refine pz 10 86 HT_ ?_; refine pz 11 97 HT_ ?_; refine pz 12 98 HT_ ?_; refine pz 13 14 HT_ ?_; refine pz 14 15 HT_ ?_
               refine done_ (done_of HT_.out (by kernel_rfl)) ?_
               obtain ⟨Ao52, co52, eo52⟩ := Kd.R_slice HO536.out
               subst eo52
               obtain ⟨Ao53, co53, eo53⟩ := Kd.R_slice HO542.out
               subst eo53
               try go_wp2_with (first | ((with_reducible refine gate_callee (f := 61) rfl ?_); refine gl 101 Try.func61 #[.slice Ao52 t533.length co52, .slice Ao53 t539.length co53] ?_; (with_reducible refine (spec_l7Same.calls kj12 _ _ t533 _ _ t539 false _ ?side1 ?side2 ?side3 ?side4 A38.out).mono ?_); (case side1 => exact Kd.C_below (Kd.R_reads' HO536.out).2.2 gs); (case side2 => exact (Kd.R_reads' HO536.out).2.1); (case side3 => exact Kd.C_below (Kd.R_reads' HO542.out).2.2 gs); (case side4 => exact (Kd.R_reads' HO542.out).2.1); rintro e w' ⟨rfl, ⟨nd, rfl⟩⟩; refine ⟨_, rfl, ?_⟩))
               go_roundg kj12
               case measure => have := HK1.out; have := HK2.out; have := HK3.out; have := HJ12.out; omega
               case rel => exact ⟨(x8_3), (wrap64 (x11_3 + 1)), fr, fr, H', ⟨by have := HK1.out; have := HK2.out; have := HK3.out; have := HJ12.out; omega⟩, ⟨Kd.S_below (Kd.S_mono HO_6.out (fun _ hk => trivial)) gs⟩, ⟨wS HO_7⟩, ⟨bw HB⟩⟩
          ·rw [if_neg c12] at H
           have c12b0 := decide_eq_false c12; clear c12; have H' := am H; clear H; go_wp2
           go_roundg k3
           case measure => have := HK1.out; have := HK2.out; have := HK3.out; omega
           case rel => exact ⟨(x8_3), (wrap64 (x10_2 + 1)), fr, fr, H', ⟨by have := HK1.out; have := HK2.out; have := HK3.out; omega⟩, ⟨wS HO_6⟩, ⟨wS HO_7⟩, ⟨bw HB⟩⟩
       ·rw [if_neg c11] at H
        have c11b0 := decide_eq_false c11; clear c11; have H' := am H; clear H; go_wp2
        go_roundg k2
        case measure => have := HK1.out; have := HK2.out; omega
        case rel => exact ⟨(x8_2), (wrap64 (x9_1 + 1)), fr, fr, H', ⟨by have := HK1.out; have := HK2.out; omega⟩, ⟨wS HO_6⟩, ⟨wS HO_7⟩, ⟨bw HB⟩⟩
    ·rw [if_neg c10] at H
     have c10b0 := decide_eq_false c10; clear c10
     simp only [Option.some.injEq, Prod.mk.injEq] at H
     obtain ⟨rfl, rfl⟩ := H; go_wp2
     go_ret2
     exact ⟨fq, bw HB⟩
 ·replace c3 := Bool.eq_false_iff.mpr c3
  subst c3
  rw [if_neg (show ¬ (false = true) by decide)] at H
  simp only [Option.some.injEq, Prod.mk.injEq] at H
  obtain ⟨rfl, rfl⟩ := H
  go_enter Try.func38, Try.ntmps38
  go_wp2_with (first | ((with_reducible refine gate_callee (f := 48) rfl ?_); refine gl 18 Try.func48 #[.int .i64 a0] ?_; (with_reducible refine (spec_CubeRoots.calls k a0 t515 false _ A2.out).mono ?_); rintro e w54 ⟨v517, rfl, ho0, hb⟩; refine ⟨_, rfl, ?_⟩; have HO518 := am (Kd.R_lower ho0 (bz HB)); replace HB := bq HB hb; (try clear hb); (try clear ho0)))
  go_ret2
  exact ⟨fq, bw HB⟩
end Go.Proofs.Ytmenehnfgenlpaa.PA

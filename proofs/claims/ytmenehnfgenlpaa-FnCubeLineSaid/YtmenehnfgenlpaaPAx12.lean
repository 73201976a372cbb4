-- Written by xprint.py, a program of this claim's own (over the kit's print.py)
import Derived.Test.YtmenehnfgenlpaaPAx0
import Derived.Test.YtmenehnfgenlpaaPAx3
import Derived.Test.YtmenehnfgenlpaaPAx4
import Derived.Test.YtmenehnfgenlpaaPAx5
import Derived.Test.YtmenehnfgenlpaaPAx9
import Derived.Test.YtmenehnfgenlpaaPAx10
import Derived.Test.YtmenehnfgenlpaaPAx11
import Derived.Deep.Cut
namespace Go.Proofs.Ytmenehnfgenlpaa.PA
open Go.RowKit Go.Proofs.YtmenehnfgenlpaaW.PrintWords Go.Proofs.YtmenehnfgenlpaaW.PrintLast Go.Proofs.YtmenehnfgenlpaaW.PrintMore
attribute [local go_sem] max2_int min2_int max_two min_two max_three min_three max_four min_four   -- for this text's walks alone
set_option linter.unusedVariables false
set_option linter.unusedSimpArgs false

/-! ### laws_FnCubeLine: function 7 -/
mutual
def laws_FnCubeLine.j0 : Nat → Int → Int → List Int → Bool → List Int → Bool → Bool → Option (Bool)
 | 0, _, _, _, _, _, _, _ => none
 | k + 1, x3, x4, x5, x6, x7, x8, x46 => if x46 = true then (if (x6 == x8) = true then ((laws_sameInts.f k x5 x7).bind fun t418 => (some t418)) else (some false)) else ((impl_CubeForm.f k x3).bind fun bt419 => (laws_FnCubeLine.l0 k x3 x4 x5 bt419.1 bt419.2 0))
def laws_FnCubeLine.l0 : Nat → Int → Int → List Int → List Int → Bool → Int → Option (Bool)
 | 0, _, _, _, _, _, _ => none
 | k + 1, x3, x4, x5, x9, x10, x11 => if x11 < 27 then ((impl_CubeLine.f k x3 x11).bind fun bt425 => (if bt425.2 = true then (if x11 = x4 then (laws_FnCubeLine.l0 k x3 x4 x5 x9 x10 (wrap64 (x11 + 1))) else ((laws_sameInts.f k bt425.1 x5).bind fun t429 => (if t429 = true then (some false) else (laws_FnCubeLine.l0 k x3 x4 x5 x9 x10 (wrap64 (x11 + 1)))))) else (some false))) else (if x10 = true then ((impl_SpaceIn.f k x3 x5).bind fun t423 => (if t423 = true then ((impl_SurfaceWhole.f k x3 x9 x5).bind fun t424 => (some t424)) else (some false))) else (some false))
end
def laws_FnCubeLine.f (k : Nat) (l0 : List Int) : Option (Bool) := if (l0.length : Int) > 1048576 then (some true) else ((spec_DrawCubeLine.f k l0).bind fun bt407 => ((impl_CubeLine.f k bt407.1 bt407.2).bind fun bt409 => ((spec_CubeLine.f k bt407.1 bt407.2).bind fun bt413 => (if (bt409.2 != bt413.2) = true then (laws_FnCubeLine.j0 k bt407.1 bt407.2 bt409.1 bt409.2 bt413.1 bt413.2 true) else ((laws_sameInts.f k bt409.1 bt413.1).bind fun t417 => (if t417 = true then (laws_FnCubeLine.j0 k bt407.1 bt407.2 bt409.1 bt409.2 bt413.1 bt413.2 (!bt409.2)) else (laws_FnCubeLine.j0 k bt407.1 bt407.2 bt409.1 bt409.2 bt413.1 bt413.2 true)))))))
theorem laws_FnCubeLine.mono_l : ∀ k, (∀ y0 y1 y2 y3 y4 y5 y6, LeO (laws_FnCubeLine.j0 k y0 y1 y2 y3 y4 y5 y6) (laws_FnCubeLine.j0 (k + 1) y0 y1 y2 y3 y4 y5 y6)) ∧ (∀ y0 y1 y2 y3 y4 y5, LeO (laws_FnCubeLine.l0 k y0 y1 y2 y3 y4 y5) (laws_FnCubeLine.l0 (k + 1) y0 y1 y2 y3 y4 y5))
 | 0 => ⟨fun _ _ _ _ _ _ _ r h => by simp [laws_FnCubeLine.j0] at h, fun _ _ _ _ _ _ r h => by simp [laws_FnCubeLine.l0] at h⟩
 | k + 1 => by
  obtain ⟨ih0, ih1⟩ := laws_FnCubeLine.mono_l k
  refine ⟨?_, ?_⟩
  ·intro y0 y1 y2 y3 y4 y5 y6
   unfold laws_FnCubeLine.j0
   repeat' first | (with_reducible first | apply ih0 | apply ih1 | apply impl_CubeForm.mono | apply impl_CubeLine.mono | apply impl_SpaceIn.mono | apply impl_SurfaceWhole.mono | apply laws_sameInts.mono | apply spec_CubeLine.mono | apply spec_DrawCubeLine.mono | exact LeO.refl _ | exact LeO.none _ | refine LeO.ite ?_ ?_ | refine LeO.bind ?_ (fun _ => ?_)) | (first | apply ih0 | apply ih1 | apply impl_CubeForm.mono | apply impl_CubeLine.mono | apply impl_SpaceIn.mono | apply impl_SurfaceWhole.mono | apply laws_sameInts.mono | apply spec_CubeLine.mono | apply spec_DrawCubeLine.mono | exact LeO.none _ | refine LeO.ite ?_ ?_ | refine LeO.bind ?_ (fun _ => ?_))
  ·intro y0 y1 y2 y3 y4 y5
   unfold laws_FnCubeLine.l0
   repeat' first | (with_reducible first | apply ih0 | apply ih1 | apply impl_CubeForm.mono | apply impl_CubeLine.mono | apply impl_SpaceIn.mono | apply impl_SurfaceWhole.mono | apply laws_sameInts.mono | apply spec_CubeLine.mono | apply spec_DrawCubeLine.mono | exact LeO.refl _ | exact LeO.none _ | refine LeO.ite ?_ ?_ | refine LeO.bind ?_ (fun _ => ?_)) | (first | apply ih0 | apply ih1 | apply impl_CubeForm.mono | apply impl_CubeLine.mono | apply impl_SpaceIn.mono | apply impl_SurfaceWhole.mono | apply laws_sameInts.mono | apply spec_CubeLine.mono | apply spec_DrawCubeLine.mono | exact LeO.none _ | refine LeO.ite ?_ ?_ | refine LeO.bind ?_ (fun _ => ?_))
theorem laws_FnCubeLine.mono : ∀ a0 k, LeO (laws_FnCubeLine.f k a0) (laws_FnCubeLine.f (k + 1) a0) := by
 intro a0 k
 obtain ⟨ih0, ih1⟩ := laws_FnCubeLine.mono_l k
 unfold laws_FnCubeLine.f
 repeat' first | (with_reducible first | apply ih0 | apply ih1 | apply impl_CubeForm.mono | apply impl_CubeLine.mono | apply impl_SpaceIn.mono | apply impl_SurfaceWhole.mono | apply laws_sameInts.mono | apply spec_CubeLine.mono | apply spec_DrawCubeLine.mono | exact LeO.refl _ | exact LeO.none _ | refine LeO.ite ?_ ?_ | refine LeO.bind ?_ (fun _ => ?_)) | (first | apply ih0 | apply ih1 | apply impl_CubeForm.mono | apply impl_CubeLine.mono | apply impl_SpaceIn.mono | apply impl_SurfaceWhole.mono | apply laws_sameInts.mono | apply spec_CubeLine.mono | apply spec_DrawCubeLine.mono | exact LeO.none _ | refine LeO.ite ?_ ?_ | refine LeO.bind ?_ (fun _ => ?_))
set_option maxHeartbeats 8000000 in
set_option maxRecDepth 100000 in
theorem laws_FnCubeLine.calls (k : Nat) (A0 : Option Addr) (c0 : Nat) (l0 : List Int) (r : Bool) (w : World) (hr0 : Kd.C (Kd.int .u8) w A0 l0.length l0) (hc0 : l0.length ≤ c0) (hT : r = true) (h : laws_FnCubeLine.f k l0 = some r) :
  Calls Try.prog 7 #[.slice A0 l0.length c0] w fun e w' => e = .returned (.bool r) ∧ Below w.heap.size w w' := by
 have HT := am hT
 clear hT
 have HR0 := am hr0
 have HC0 := am hc0
 clear hr0 hc0
 have HB := am (Below.refl w.heap.size w)
 have H : (if (l0.length : Int) > 1048576 then (some true) else ((spec_DrawCubeLine.f k l0).bind fun bt407 => ((impl_CubeLine.f k bt407.1 bt407.2).bind fun bt409 => ((spec_CubeLine.f k bt407.1 bt407.2).bind fun bt413 => (if (bt409.2 != bt413.2) = true then (laws_FnCubeLine.j0 k bt407.1 bt407.2 bt409.1 bt409.2 bt413.1 bt413.2 true) else ((laws_sameInts.f k bt409.1 bt413.1).bind fun t417 => (if t417 = true then (laws_FnCubeLine.j0 k bt407.1 bt407.2 bt409.1 bt409.2 bt413.1 bt413.2 (!bt409.2)) else (laws_FnCubeLine.j0 k bt407.1 bt407.2 bt409.1 bt409.2 bt413.1 bt413.2 true)))))))) = some r := h
 clear h
 by_cases c2 : (l0.length : Int) > 1048576
 ·rw [if_pos c2] at H
  have c2b0 := decide_eq_true c2
  have c2b1 : decide (1048576 < l0.length) = true := decide_eq_true (by omega)
  clear c2; obtain rfl := Option.some.inj H
  go_enter Try.func7, Try.ntmps7
  go_wp2; go_ret
  exact ⟨fq, bw HB⟩
 ·rw [if_neg c2] at H
  have c2b0 := decide_eq_false c2
  have c2b1 : decide (1048576 < l0.length) = false := decide_eq_false (by omega)
  clear c2; replace H := bs H
  obtain ⟨⟨t407, t408⟩, A3, H⟩ := H
  dsimp only at H
  replace H := bs H
  obtain ⟨⟨t409, t410⟩, A4, H⟩ := H
  dsimp only at H
  replace H := bs H
  obtain ⟨⟨t413, t414⟩, A5, H⟩ := H
  dsimp only at H
  have HC6 := am H
  clear H
  go_enter Try.func7, Try.ntmps7
  go_upto_region 6 with (first | ((with_reducible refine gate_callee (f := 30) rfl ?_); refine gl 19 Try.func30 #[.slice A0 l0.length c0] ?_; (with_reducible refine (spec_DrawCubeLine.calls k _ _ l0 t407 t408 _ ?_ ?_ A3.out).mono ?_); exact wC HR0; exact HC0.out; rintro e w7 ⟨rfl, hb⟩; refine ⟨_, rfl, ?_⟩; replace HB := bq HB hb; (try clear hb)) | ((with_reducible refine gate_callee (f := 31) rfl ?_); refine gl 25 Try.func31 #[.int .i64 t407, .int .i64 t408] ?_; (with_reducible refine (impl_CubeLine.calls k t407 t408 t409 t410 _ A4.out).mono ?_); rintro e w8 ⟨v411, rfl, ho0, hb⟩; refine ⟨_, rfl, ?_⟩; have HO412 := am (Kd.R_lower ho0 (bz HB)); replace HB := bq HB hb; (try clear hb); (try clear ho0)) | ((with_reducible refine gate_callee (f := 32) rfl ?_); refine gl 31 Try.func32 #[.int .i64 t407, .int .i64 t408] ?_; (with_reducible refine (spec_CubeLine.calls k t407 t408 t413 t414 _ A5.out).mono ?_); rintro e w9 ⟨v415, rfl, ho0, hb⟩; refine ⟨_, rfl, ?_⟩; have HO416 := am (Kd.R_lower (Kd.R_new' ho0 (Kd.R_lt (wR HO412))) (bz HB)); replace HO412 := eR HO412 (Kd.R_base ho0) hb; replace HB := bq HB hb; (try clear hb); (try clear ho0)))
  (try simp only [Act.put, List.setIfInBounds_toArray, List.set_cons_zero, List.set_cons_succ])
  go_cut [46] (fun v46 wc => ∃ (kq : Nat) (x46_5 : Bool), v46 = .bool x46_5 ∧ Aside0 (laws_FnCubeLine.j0 kq t407 t408 t409 t410 t413 t414 x46_5 = some r) ∧ Aside0 (kq ≤ k) ∧ Aside0 (Kd.R (Kd.int .i64) 3 wc w.heap.size (fun k_ => some k_ ≠ (v415 : Value).ownBlock) v411 t409) ∧ Aside0 (Kd.R (Kd.int .i64) 3 wc w.heap.size (fun k_ => some k_ ≠ (v411 : Value).ownBlock) v415 t413) ∧ Aside0 (Below w.heap.size w wc))
  case first =>
   have H := HC6.out
   clear HC6
   by_cases c10 : (t410 != t414) = true
   ·rw [if_pos c10] at H
    have c10b0 : (t410 != t414) = true := c10
    (try (have c10b1 : decide (t410 = t414) = false := by simpa using c10))
    (try (have c10b2 : (t410 == t414) = false := by simpa using c10))
    (try (have c10b3 : ¬ (t410 = t414) := by simpa using c10))
    clear c10
    (first | rw [c10b0] | (simp only [i64_w, i32_w]; rw [c10b0]) | skip)
    have H' := am H; clear H; go_wp2
    go_meet
    case rel => exact ⟨_, (true), fr, H', ⟨by first | omega | exact Nat.le_refl _⟩, ⟨Kd.R_below (Kd.R_mono HO412.out (fun _ hk => hk.2)) gs⟩, ⟨Kd.R_below (Kd.R_mono HO416.out (fun _ hk => hk.2)) gs⟩, ⟨bw HB⟩⟩
   ·rw [if_neg c10] at H
    have c10b0 : (t410 != t414) = false := by simpa using c10
    (try (have c10b1 : decide (t410 = t414) = true := by simpa using c10))
    (try (have c10b2 : (t410 == t414) = true := by simpa using c10))
    clear c10
    (first | rw [c10b0] | (simp only [i64_w, i32_w]; rw [c10b0]) | skip)
    replace H := bs H; obtain ⟨t417, A11, H⟩ := H
    by_cases c12 : t417 = true
    ·subst c12
     rw [if_pos rfl] at H
     have H' := am H; clear H
     obtain ⟨Ao13, co13, eo13⟩ := Kd.R_slice HO412.out
     subst eo13
     obtain ⟨Ao14, co14, eo14⟩ := Kd.R_slice HO416.out
     subst eo14
     go_wp2_with (first | (go_at_call 28; (with_reducible refine (laws_sameInts.calls k _ _ t409 _ _ t413 true _ ?_ ?_ ?_ ?_ A11.out).mono ?_); exact Kd.C_below (Kd.R_reads' HO412.out).2.2 gs; exact (Kd.R_reads' HO412.out).2.1; exact Kd.C_below (Kd.R_reads' HO416.out).2.2 gs; exact (Kd.R_reads' HO416.out).2.1; rintro e w' ⟨rfl, ⟨nd, rfl⟩⟩))
     go_meet
     case rel => exact ⟨_, (!t410), fr, H', ⟨by first | omega | exact Nat.le_refl _⟩, ⟨Kd.R_below (Kd.R_mono HO412.out (fun _ hk => hk.2)) gs⟩, ⟨Kd.R_below (Kd.R_mono HO416.out (fun _ hk => hk.2)) gs⟩, ⟨bw HB⟩⟩
    ·replace c12 := Bool.eq_false_iff.mpr c12
     subst c12
     rw [if_neg (show ¬ (false = true) by decide)] at H
     have H' := am H; clear H
     obtain ⟨Ao15, co15, eo15⟩ := Kd.R_slice HO412.out
     subst eo15
     obtain ⟨Ao16, co16, eo16⟩ := Kd.R_slice HO416.out
     subst eo16
     go_wp2_with (first | (go_at_call 28; (with_reducible refine (laws_sameInts.calls k _ _ t409 _ _ t413 false _ ?_ ?_ ?_ ?_ A11.out).mono ?_); exact Kd.C_below (Kd.R_reads' HO412.out).2.2 gs; exact (Kd.R_reads' HO412.out).2.1; exact Kd.C_below (Kd.R_reads' HO416.out).2.2 gs; exact (Kd.R_reads' HO416.out).2.1; rintro e w' ⟨rfl, ⟨nd, rfl⟩⟩))
     go_meet
     case rel => exact ⟨_, (true), fr, H', ⟨by first | omega | exact Nat.le_refl _⟩, ⟨Kd.R_below (Kd.R_mono HO412.out (fun _ hk => hk.2)) gs⟩, ⟨Kd.R_below (Kd.R_mono HO416.out (fun _ hk => hk.2)) gs⟩, ⟨bw HB⟩⟩
  case rest =>
   clear HC6; try clear c1; try clear c2; try clear c2b0; try clear c2b1; try clear p2; try clear c3; try clear c7; try clear c10; try clear c10b0; try clear c10b1; try clear c10b2; try clear c12
   obtain ⟨kq, x46_5, rfl, HA, HJ5, HO_5, HO_7, HB⟩ := hcut
   cases kq with
   | zero => exact absurd HA.out (by simp [laws_FnCubeLine.j0])
   | succ kj5 =>
    have H := HA.out; clear HA
    simp only [laws_FnCubeLine.j0] at H
    by_cases c17 : x46_5 = true
    ·subst c17
     rw [if_pos rfl] at H
     by_cases c18 : (t410 == t414) = true
     ·rw [if_pos c18] at H
      have c18b0 : (t410 == t414) = true := c18
      (try (have c18b1 : decide (t410 = t414) = true := by simpa using c18))
      (try (have c18b2 : (t410 == t414) = true := by simpa using c18))
      clear c18; replace H := bs H; obtain ⟨t418, A19, H⟩ := H; obtain rfl := Option.some.inj H
      obtain ⟨Ao20, co20, eo20⟩ := Kd.R_slice HO_5.out
      subst eo20
      obtain ⟨Ao21, co21, eo21⟩ := Kd.R_slice HO_7.out
      subst eo21
      go_wp2_with (first | (go_at_call 28; (with_reducible refine (laws_sameInts.calls kj5 _ _ t409 _ _ t413 t418 _ ?_ ?_ ?_ ?_ A19.out).mono ?_); exact Kd.C_below (Kd.R_reads' HO_5.out).2.2 gs; exact (Kd.R_reads' HO_5.out).2.1; exact Kd.C_below (Kd.R_reads' HO_7.out).2.2 gs; exact (Kd.R_reads' HO_7.out).2.1; rintro e w' ⟨rfl, ⟨nd, rfl⟩⟩))
      go_ret
      exact ⟨fq, bw HB⟩
     ·rw [if_neg c18] at H
      have c18b0 : (t410 == t414) = false := by simpa using c18
      (try (have c18b1 : decide (t410 = t414) = false := by simpa using c18))
      (try (have c18b2 : (t410 == t414) = false := by simpa using c18))
      (try (have c18b3 : ¬ (t410 = t414) := by simpa using c18))
      clear c18
      exact absurd (H.trans (congrArg some HT.out)) (by simp)
    ·replace c17 := Bool.eq_false_iff.mpr c17
     subst c17
     rw [if_neg (show ¬ (false = true) by decide)] at H
     replace H := bs H
     obtain ⟨⟨t419, t420⟩, A22, H⟩ := H
     dsimp only at H
     have H' := am H; clear H
     go_wp2_with (first | ((with_reducible refine gate_callee (f := 33) rfl ?_); refine gl 57 Try.func33 #[.int .i64 t407] ?_; (with_reducible refine (impl_CubeForm.calls kj5 t407 t419 t420 _ A22.out).mono ?_); rintro e w23 ⟨v421, rfl, ho0, hb⟩; refine ⟨_, rfl, ?_⟩; have HO422 := am (Kd.R_lower (Kd.R_new' (Kd.R_new' ho0 (Kd.R_lt (wR HO_5))) (Kd.R_lt (wR HO_7))) (bz HB)); replace HO_5 := eR HO_5 (Kd.R_base ho0) hb; replace HO_7 := eR HO_7 (Kd.R_base ho0) hb; replace HB := bq HB hb; (try clear hb); (try clear ho0)))
     go_loopg [11] kj5 (fun kq v11 w' => ∃ (x11_2 : Int), v11 = .int .i64 x11_2 ∧ Aside0 (laws_FnCubeLine.l0 kq t407 t408 t409 t419 t420 x11_2 = some r) ∧ Aside0 (kq ≤ kj5) ∧ Aside0 (Kd.R (Kd.int .i64) 3 w' w.heap.size (fun k_ => some k_ ≠ (v421 : Value).ownBlock) v411 t409) ∧ Aside0 (Kd.R (Kd.int .i64) 3 w' w.heap.size (fun k_ => some k_ ≠ (v411 : Value).ownBlock) v421 t419) ∧ Aside0 (Below w.heap.size w w'))
     case atStart => exact ⟨(0), fr, H', ⟨Nat.le_refl _⟩, ⟨Kd.R_below (Kd.R_mono HO_5.out (fun _ hk => hk.2)) gs⟩, ⟨Kd.R_below (Kd.R_mono HO422.out (fun _ hk => hk.1.2)) gs⟩, ⟨bw HB⟩⟩
     case round =>
      clear H'; try clear c1; try clear c2; try clear c2b0; try clear c2b1; try clear p2; try clear c3; try clear c7; try clear c10; try clear c10b0; try clear c10b1; try clear c10b2; try clear c12; try clear c17; try clear c18; try clear c18b0; try clear c18b1
      try clear c18b2; try clear p2
      obtain ⟨x11_2, rfl, HA, HK2, HO_5, HO_9, HB⟩ := hrel
      cases gk with
      | zero => exact absurd HA.out (by simp [laws_FnCubeLine.l0])
      | succ k2 =>
       have H := HA.out; clear HA
       simp only [laws_FnCubeLine.l0] at H
       by_cases c24 : x11_2 < 27
       ·rw [if_pos c24] at H
        have c24b0 := decide_eq_true c24; clear c24; replace H := bs H
        obtain ⟨⟨t425, t426⟩, A25, H⟩ := H
        dsimp only at H
        by_cases c26 : t426 = true
        ·subst c26
         rw [if_pos rfl] at H
         by_cases c27 : x11_2 = t408
         ·rw [if_pos c27] at H
          have c27b0 := beq_iff_eq.mpr c27; have c27b1 := bne_eq_false_iff_eq.mpr c27; clear c27; have H' := am H; clear H
          go_wp2_with (first | ((with_reducible refine gate_callee (f := 31) rfl ?_); refine gl 67 Try.func31 #[.int .i64 t407, .int .i64 x11_2] ?_; (with_reducible refine (impl_CubeLine.calls k2 t407 x11_2 t425 true _ A25.out).mono ?_); rintro e w28 ⟨v427, rfl, ho0, hb⟩; refine ⟨_, rfl, ?_⟩; have HO428 := am (Kd.R_lower (Kd.R_new' (Kd.R_new' ho0 (Kd.R_lt (wR HO_5))) (Kd.R_lt (wR HO_9))) (bz HB)); replace HO_5 := eR HO_5 (Kd.R_base ho0) hb; replace HO_9 := eR HO_9 (Kd.R_base ho0) hb; replace HB := bq HB hb; (try clear hb); (try clear ho0)))
          go_roundg k2
          case measure => have := HJ5.out; have := HK2.out; omega
          case rel => exact ⟨(wrap64 (x11_2 + 1)), fr, H', ⟨by have := HJ5.out; have := HK2.out; omega⟩, ⟨Kd.R_below (Kd.R_mono HO_5.out (fun _ hk => hk.1)) gs⟩, ⟨Kd.R_below (Kd.R_mono HO_9.out (fun _ hk => hk.1)) gs⟩, ⟨bw HB⟩⟩
         ·rw [if_neg c27] at H
          have c27b0 := beq_eq_false_iff_ne.mpr c27; have c27b1 := bne_iff_ne.mpr c27; replace H := bs H; obtain ⟨t429, A29, H⟩ := H
          by_cases c30 : t429 = true
          ·subst c30
           rw [if_pos rfl] at H
           exact absurd (H.trans (congrArg some HT.out)) (by simp)
          ·replace c30 := Bool.eq_false_iff.mpr c30
           subst c30
           rw [if_neg (show ¬ (false = true) by decide)] at H
           have H' := am H; clear H
           go_wp2_with (first | ((with_reducible refine gate_callee (f := 31) rfl ?_); refine gl 67 Try.func31 #[.int .i64 t407, .int .i64 x11_2] ?_; (with_reducible refine (impl_CubeLine.calls k2 t407 x11_2 t425 true _ A25.out).mono ?_); rintro e w31 ⟨v427, rfl, ho0, hb⟩; refine ⟨_, rfl, ?_⟩; have HO428 := am (Kd.R_lower (Kd.R_new' (Kd.R_new' ho0 (Kd.R_lt (wR HO_5))) (Kd.R_lt (wR HO_9))) (bz HB)); replace HO_5 := eR HO_5 (Kd.R_base ho0) hb; replace HO_9 := eR HO_9 (Kd.R_base ho0) hb; replace HB := bq HB hb; (try clear hb); (try clear ho0); obtain ⟨Ao32, co32, eo32⟩ := Kd.R_slice HO428.out; subst eo32; obtain ⟨Ao33, co33, eo33⟩ := Kd.R_slice HO_5.out; subst eo33) | (go_at_call 28; (with_reducible refine (laws_sameInts.calls k2 _ _ t425 _ _ t409 false _ ?_ ?_ ?_ ?_ A29.out).mono ?_); exact Kd.C_below (Kd.R_reads' HO428.out).2.2 gs; exact (Kd.R_reads' HO428.out).2.1; exact Kd.C_below (Kd.R_reads' HO_5.out).2.2 gs; exact (Kd.R_reads' HO_5.out).2.1; rintro e w' ⟨rfl, ⟨nd, rfl⟩⟩))
           go_roundg k2
           case measure => have := HJ5.out; have := HK2.out; omega
           case rel => exact ⟨(wrap64 (x11_2 + 1)), fr, H', ⟨by have := HJ5.out; have := HK2.out; omega⟩, ⟨Kd.R_below (Kd.R_mono HO_5.out (fun _ hk => hk.1)) gs⟩, ⟨Kd.R_below (Kd.R_mono HO_9.out (fun _ hk => hk.1)) gs⟩, ⟨bw HB⟩⟩
        ·replace c26 := Bool.eq_false_iff.mpr c26
         subst c26
         rw [if_neg (show ¬ (false = true) by decide)] at H
         exact absurd (H.trans (congrArg some HT.out)) (by simp)
       ·rw [if_neg c24] at H
        have c24b0 := decide_eq_false c24; clear c24
        by_cases c34 : t420 = true
        ·subst c34
         rw [if_pos rfl] at H
         replace H := bs H; obtain ⟨t423, A35, H⟩ := H
         by_cases c36 : t423 = true
         ·subst c36
          rw [if_pos rfl] at H
          replace H := bs H; obtain ⟨t424, A37, H⟩ := H; obtain rfl := Option.some.inj H
          obtain ⟨Ao38, co38, eo38⟩ := Kd.R_slice HO_5.out
          subst eo38
          go_wp2_with (first | (go_at_call 22; (with_reducible refine (impl_SpaceIn.calls k2 t407 _ _ t409 true _ ?_ ?_ A35.out).mono ?_); exact Kd.C_below (Kd.R_reads' HO_5.out).2.2 gs; exact (Kd.R_reads' HO_5.out).2.1; rintro e w39 ⟨rfl, hb⟩; replace HO_5 := am (Kd.R_below (wR HO_5) hb); replace HO_9 := am (Kd.R_below (wR HO_9) hb); replace HB := bq HB hb; (try clear hb); obtain ⟨Ao40, co40, eo40⟩ := Kd.R_slice HO_9.out; subst eo40) | (go_at_call 34; (with_reducible refine (impl_SurfaceWhole.calls k2 t407 _ _ t419 _ _ t409 t424 _ ?_ ?_ ?_ ?_ A37.out).mono ?_); exact Kd.C_below (Kd.R_reads' HO_9.out).2.2 gs; exact (Kd.R_reads' HO_9.out).2.1; exact Kd.C_below (Kd.R_reads' HO_5.out).2.2 gs; exact (Kd.R_reads' HO_5.out).2.1; rintro e w41 ⟨rfl, hb⟩; replace HO_5 := am (Kd.R_below (wR HO_5) hb); replace HO_9 := am (Kd.R_below (wR HO_9) hb); replace HB := bq HB hb; (try clear hb)))
          go_ret
          exact ⟨fq, bw HB⟩
         ·replace c36 := Bool.eq_false_iff.mpr c36
          subst c36
          rw [if_neg (show ¬ (false = true) by decide)] at H
          exact absurd (H.trans (congrArg some HT.out)) (by simp)
        ·replace c34 := Bool.eq_false_iff.mpr c34
         subst c34
         rw [if_neg (show ¬ (false = true) by decide)] at H
         exact absurd (H.trans (congrArg some HT.out)) (by simp)
/-- THE ONE PURE STATEMENT of laws_FnCubeLine: yours. -/
def laws_FnCubeLine.Pure : Prop := ∀ (l0 : List Int), l0.length ≤ maxLen → l0.length * 1 ≤ 140737488351232 → (∀ x ∈ l0, (Lit.int .u8 x).wf = true) → ∃ k, laws_FnCubeLine.f k l0 = some true
theorem laws_FnCubeLine.walk (P : laws_FnCubeLine.Pure) (a0 : Option Addr) (len0 cap0 : Nat) (z0 : List Int) (w : World) (w0 : (a0 = none ∧ len0 = 0 ∧ cap0 = 0 ∧ z0 = []) ∨ ∃ x, a0 = some x ∧ len0 ≤ cap0 ∧ cap0 ≤ maxLen ∧ z0.length = cap0 ∧ (∀ i, i < z0.length → w.cell? (x.add i) = some (.int .u8 (z0.getD i 0))) ∧ ∀ n ∈ z0, (Lit.int .u8 n).wf = true) (y0 : len0 * 1 ≤ 140737488351232) :
  Calls Try.prog 7 #[.slice a0 len0 cap0] w fun e w' => e = .returned (.bool true) ∧ Below w.heap.size w w' := by
 obtain ⟨l0, rfl, hr0, hm0, hw0, hc0⟩ := ReadsInt.ofRowC w0
 obtain ⟨k, h⟩ := P l0 hm0 y0 hw0
 refine (laws_FnCubeLine.calls k _ _ l0 true w (Kd.C_of_reads (d := (0 : Int)) (h1 := fun _ => rfl) hr0) hc0 rfl h).mono ?_
 rintro e w' ⟨rfl, hd⟩
 exact ⟨rfl, hd⟩
end Go.Proofs.Ytmenehnfgenlpaa.PA

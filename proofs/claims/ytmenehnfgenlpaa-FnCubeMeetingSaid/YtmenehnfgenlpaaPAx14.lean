-- Written by xprint.py, a program of this claim's own (over the kit's print.py)
import Derived.Test.YtmenehnfgenlpaaPAx0
import Derived.Test.YtmenehnfgenlpaaPAx6
import Derived.Test.YtmenehnfgenlpaaPAx11
import Derived.Test.YtmenehnfgenlpaaPAx12
import Derived.Test.YtmenehnfgenlpaaPAx13
import Derived.Deep.Cut
namespace Go.Proofs.Ytmenehnfgenlpaa.PA
open Go.RowKit Go.Proofs.YtmenehnfgenlpaaW.PrintWords Go.Proofs.YtmenehnfgenlpaaW.PrintLast Go.Proofs.YtmenehnfgenlpaaW.PrintMore
attribute [local go_sem] max2_int min2_int max_two min_two max_three min_three max_four min_four   -- for this text's walks alone
set_option linter.unusedVariables false
set_option linter.unusedSimpArgs false

/-! ### laws_FnCubeMeeting: function 8 -/
mutual
def laws_FnCubeMeeting.j0 : Nat → Int → Int → List Int → Bool → List Int → Bool → Bool → Option (Bool)
 | 0, _, _, _, _, _, _, _ => none
 | k + 1, x3, x4, x5, x6, x7, x8, x46 => if x46 = true then (if (x6 == x8) = true then ((laws_sameInts.f k x5 x7).bind fun t438 => (some t438)) else (some false)) else ((impl_CubeLine.f k x3 x4).bind fun bt439 => (laws_FnCubeMeeting.l0 k x3 x5 bt439.1 bt439.2 0))
def laws_FnCubeMeeting.l0 : Nat → Int → List Int → List Int → Bool → Int → Option (Bool)
 | 0, _, _, _, _, _ => none
 | k + 1, x3, x5, x9, x10, x11 => if x11 < (x5.length : Int) then (if 0 ≤ x11 then ((impl_CubeLine.f k x3 (rd x5 x11)).bind fun bt444 => (if bt444.2 = true then ((impl_SpaceCross.f k x3 x9 bt444.1).bind fun t448 => (if t448 = true then (if x11 > 0 then (if 0 ≤ (wrap64 (x11 - 1)) then (if (wrap64 (x11 - 1)) < (x5.length : Int) then (if (rd x5 x11) ≤ (rd x5 (wrap64 (x11 - 1))) then (some false) else (laws_FnCubeMeeting.l0 k x3 x5 x9 x10 (wrap64 (x11 + 1)))) else (none)) else (none)) else (laws_FnCubeMeeting.l0 k x3 x5 x9 x10 (wrap64 (x11 + 1)))) else (some false))) else (some false))) else (none)) else (if x10 = true then (some ((x5.length : Int) == 10)) else (some false))
end
def laws_FnCubeMeeting.f (k : Nat) (l0 : List Int) : Option (Bool) := if (l0.length : Int) > 1048576 then (some true) else ((spec_DrawCubeMeeting.f k l0).bind fun bt427 => ((impl_CubeMeeting.f k bt427.1 bt427.2).bind fun bt429 => ((spec_CubeMeeting.f k bt427.1 bt427.2).bind fun bt433 => (if (bt429.2 != bt433.2) = true then (laws_FnCubeMeeting.j0 k bt427.1 bt427.2 bt429.1 bt429.2 bt433.1 bt433.2 true) else ((laws_sameInts.f k bt429.1 bt433.1).bind fun t437 => (if t437 = true then (laws_FnCubeMeeting.j0 k bt427.1 bt427.2 bt429.1 bt429.2 bt433.1 bt433.2 (!bt429.2)) else (laws_FnCubeMeeting.j0 k bt427.1 bt427.2 bt429.1 bt429.2 bt433.1 bt433.2 true)))))))
theorem laws_FnCubeMeeting.mono_l : ∀ k, (∀ y0 y1 y2 y3 y4 y5 y6, LeO (laws_FnCubeMeeting.j0 k y0 y1 y2 y3 y4 y5 y6) (laws_FnCubeMeeting.j0 (k + 1) y0 y1 y2 y3 y4 y5 y6)) ∧ (∀ y0 y1 y2 y3 y4, LeO (laws_FnCubeMeeting.l0 k y0 y1 y2 y3 y4) (laws_FnCubeMeeting.l0 (k + 1) y0 y1 y2 y3 y4))
 | 0 => ⟨fun _ _ _ _ _ _ _ r h => by simp [laws_FnCubeMeeting.j0] at h, fun _ _ _ _ _ r h => by simp [laws_FnCubeMeeting.l0] at h⟩
 | k + 1 => by
  obtain ⟨ih0, ih1⟩ := laws_FnCubeMeeting.mono_l k
  refine ⟨?_, ?_⟩
  ·intro y0 y1 y2 y3 y4 y5 y6
   unfold laws_FnCubeMeeting.j0
   repeat' first | (with_reducible first | apply ih0 | apply ih1 | apply impl_CubeLine.mono | apply impl_CubeMeeting.mono | apply impl_SpaceCross.mono | apply laws_sameInts.mono | apply spec_CubeMeeting.mono | apply spec_DrawCubeMeeting.mono | exact LeO.refl _ | exact LeO.none _ | refine LeO.ite ?_ ?_ | refine LeO.bind ?_ (fun _ => ?_)) | (first | apply ih0 | apply ih1 | apply impl_CubeLine.mono | apply impl_CubeMeeting.mono | apply impl_SpaceCross.mono | apply laws_sameInts.mono | apply spec_CubeMeeting.mono | apply spec_DrawCubeMeeting.mono | exact LeO.none _ | refine LeO.ite ?_ ?_ | refine LeO.bind ?_ (fun _ => ?_))
  ·intro y0 y1 y2 y3 y4
   unfold laws_FnCubeMeeting.l0
   repeat' first | (with_reducible first | apply ih0 | apply ih1 | apply impl_CubeLine.mono | apply impl_CubeMeeting.mono | apply impl_SpaceCross.mono | apply laws_sameInts.mono | apply spec_CubeMeeting.mono | apply spec_DrawCubeMeeting.mono | exact LeO.refl _ | exact LeO.none _ | refine LeO.ite ?_ ?_ | refine LeO.bind ?_ (fun _ => ?_)) | (first | apply ih0 | apply ih1 | apply impl_CubeLine.mono | apply impl_CubeMeeting.mono | apply impl_SpaceCross.mono | apply laws_sameInts.mono | apply spec_CubeMeeting.mono | apply spec_DrawCubeMeeting.mono | exact LeO.none _ | refine LeO.ite ?_ ?_ | refine LeO.bind ?_ (fun _ => ?_))
theorem laws_FnCubeMeeting.mono : ∀ a0 k, LeO (laws_FnCubeMeeting.f k a0) (laws_FnCubeMeeting.f (k + 1) a0) := by
 intro a0 k
 obtain ⟨ih0, ih1⟩ := laws_FnCubeMeeting.mono_l k
 unfold laws_FnCubeMeeting.f
 repeat' first | (with_reducible first | apply ih0 | apply ih1 | apply impl_CubeLine.mono | apply impl_CubeMeeting.mono | apply impl_SpaceCross.mono | apply laws_sameInts.mono | apply spec_CubeMeeting.mono | apply spec_DrawCubeMeeting.mono | exact LeO.refl _ | exact LeO.none _ | refine LeO.ite ?_ ?_ | refine LeO.bind ?_ (fun _ => ?_)) | (first | apply ih0 | apply ih1 | apply impl_CubeLine.mono | apply impl_CubeMeeting.mono | apply impl_SpaceCross.mono | apply laws_sameInts.mono | apply spec_CubeMeeting.mono | apply spec_DrawCubeMeeting.mono | exact LeO.none _ | refine LeO.ite ?_ ?_ | refine LeO.bind ?_ (fun _ => ?_))
def laws_FnCubeMeeting.T13 : Bool × List (List Nat × List Nat) := (true, [([], []), ([0], [0]), ([1], [1]), ([2], [2]), ([2], [2]), ([2], [2]), ([3, 4, 5, 2, 2], [2, 3, 4, 5]), ([6, 2], [2, 6]), ([2, 7], [2, 7]), ([8, 6], [8]), ([9], [9]), ([10, 9], [9, 10]), ([11, 9, 9], [9, 11]), ([12], [12]), ([12], [12]), ([13, 14, 12], [12, 13, 14]), ([15, 12], [12, 15]), ([12], [12]), ([12], [12]), ([18, 12], [12, 18]), ([17, 19, 12], [12, 17, 19]), ([20, 12], [12, 20]), ([16, 21, 12], [12, 16, 21]), ([12, 22, 9], [9, 12, 22]), ([9, 23], [9, 23])])
def laws_FnCubeMeeting.B13 : List Nat := [0, 1, 3, 7, 7, 7, 63, 127, 255, 511, 1023, 2047, 4095, 8191, 8191, 32767, 65535, 8191, 8191, 270335, 925695, 1974271, 4194303, 8388607, 16777215]
theorem laws_FnCubeMeeting.tab13 : rtab .any (opsOf Try.f8 13) = laws_FnCubeMeeting.T13 := by kernel_rfl
theorem laws_FnCubeMeeting.bits13 : waitsOk laws_FnCubeMeeting.T13.2 laws_FnCubeMeeting.B13 = true := by kernel_rfl
set_option maxHeartbeats 8000000 in
set_option maxRecDepth 100000 in
theorem laws_FnCubeMeeting.calls (k : Nat) (A0 : Option Addr) (c0 : Nat) (l0 : List Int) (r : Bool) (w : World) (hr0 : Kd.C (Kd.int .u8) w A0 l0.length l0) (hc0 : l0.length ≤ c0) (hT : r = true) (h : laws_FnCubeMeeting.f k l0 = some r) :
  Calls Try.prog 8 #[.slice A0 l0.length c0] w fun e w' => e = .returned (.bool r) ∧ Below w.heap.size w w' := by
 have HT := am hT
 clear hT
 have HR0 := am hr0
 have HC0 := am hc0
 clear hr0 hc0
 have HB := am (Below.refl w.heap.size w)
 have H : (if (l0.length : Int) > 1048576 then (some true) else ((spec_DrawCubeMeeting.f k l0).bind fun bt427 => ((impl_CubeMeeting.f k bt427.1 bt427.2).bind fun bt429 => ((spec_CubeMeeting.f k bt427.1 bt427.2).bind fun bt433 => (if (bt429.2 != bt433.2) = true then (laws_FnCubeMeeting.j0 k bt427.1 bt427.2 bt429.1 bt429.2 bt433.1 bt433.2 true) else ((laws_sameInts.f k bt429.1 bt433.1).bind fun t437 => (if t437 = true then (laws_FnCubeMeeting.j0 k bt427.1 bt427.2 bt429.1 bt429.2 bt433.1 bt433.2 (!bt429.2)) else (laws_FnCubeMeeting.j0 k bt427.1 bt427.2 bt429.1 bt429.2 bt433.1 bt433.2 true)))))))) = some r := h
 clear h
 by_cases c2 : (l0.length : Int) > 1048576
 ·rw [if_pos c2] at H
  have c2b0 := decide_eq_true c2
  have c2b1 : decide (1048576 < l0.length) = true := decide_eq_true (by omega)
  clear c2; obtain rfl := Option.some.inj H
  go_enter Try.func8, Try.ntmps8
  go_wp2; go_ret
  exact ⟨fq, bw HB⟩
 ·rw [if_neg c2] at H
  have c2b0 := decide_eq_false c2
  have c2b1 : decide (1048576 < l0.length) = false := decide_eq_false (by omega)
  clear c2; replace H := bs H
  obtain ⟨⟨t427, t428⟩, A3, H⟩ := H
  dsimp only at H
  replace H := bs H
  obtain ⟨⟨t429, t430⟩, A4, H⟩ := H
  dsimp only at H
  replace H := bs H
  obtain ⟨⟨t433, t434⟩, A5, H⟩ := H
  dsimp only at H
  have HC6 := am H
  clear H
  go_enter Try.func8, Try.ntmps8
  go_upto_region 6 with (first | ((with_reducible refine gate_callee (f := 35) rfl ?_); refine gl 19 Try.func35 #[.slice A0 l0.length c0] ?_; (with_reducible refine (spec_DrawCubeMeeting.calls k _ _ l0 t427 t428 _ ?_ ?_ A3.out).mono ?_); exact wC HR0; exact HC0.out; rintro e w7 ⟨rfl, hb⟩; refine ⟨_, rfl, ?_⟩; replace HB := bq HB hb; (try clear hb)) | ((with_reducible refine gate_callee (f := 20) rfl ?_); refine gl 25 Try.func20 #[.int .i64 t427, .int .i64 t428] ?_; (with_reducible refine (impl_CubeMeeting.calls k t427 t428 t429 t430 _ A4.out).mono ?_); rintro e w8 ⟨v431, rfl, ho0, hb⟩; refine ⟨_, rfl, ?_⟩; have HO432 := am (Kd.R_lower ho0 (bz HB)); replace HB := bq HB hb; (try clear hb); (try clear ho0)) | ((with_reducible refine gate_callee (f := 19) rfl ?_); refine gl 31 Try.func19 #[.int .i64 t427, .int .i64 t428] ?_; (with_reducible refine (spec_CubeMeeting.calls k t427 t428 t433 t434 _ A5.out).mono ?_); rintro e w9 ⟨v435, rfl, ho0, hb⟩; refine ⟨_, rfl, ?_⟩; have HO436 := am (Kd.R_lower (Kd.R_new' ho0 (Kd.R_lt (wR HO432))) (bz HB)); replace HO432 := eR HO432 (Kd.R_base ho0) hb; replace HB := bq HB hb; (try clear hb); (try clear ho0)))
  (try simp only [Act.put, List.setIfInBounds_toArray, List.set_cons_zero, List.set_cons_succ])
  go_cut [46] (fun v46 wc => ∃ (kq : Nat) (x46_5 : Bool), v46 = .bool x46_5 ∧ Aside0 (laws_FnCubeMeeting.j0 kq t427 t428 t429 t430 t433 t434 x46_5 = some r) ∧ Aside0 (kq ≤ k) ∧ Aside0 (Kd.R (Kd.int .i64) 3 wc w.heap.size (fun k_ => some k_ ≠ (v435 : Value).ownBlock) v431 t429) ∧ Aside0 (Kd.R (Kd.int .i64) 3 wc w.heap.size (fun k_ => some k_ ≠ (v431 : Value).ownBlock) v435 t433) ∧ Aside0 (Below w.heap.size w wc))
  case first =>
   have H := HC6.out
   clear HC6
   by_cases c10 : (t430 != t434) = true
   ·rw [if_pos c10] at H
    have c10b0 : (t430 != t434) = true := c10
    (try (have c10b1 : decide (t430 = t434) = false := by simpa using c10))
    (try (have c10b2 : (t430 == t434) = false := by simpa using c10))
    (try (have c10b3 : ¬ (t430 = t434) := by simpa using c10))
    clear c10
    (first | rw [c10b0] | (simp only [i64_w, i32_w]; rw [c10b0]) | skip)
    have H' := am H; clear H; go_wp2
    go_meet
    case rel => exact ⟨_, (true), fr, H', ⟨by first | omega | exact Nat.le_refl _⟩, ⟨Kd.R_below (Kd.R_mono HO432.out (fun _ hk => hk.2)) gs⟩, ⟨Kd.R_below (Kd.R_mono HO436.out (fun _ hk => hk.2)) gs⟩, ⟨bw HB⟩⟩
   ·rw [if_neg c10] at H
    have c10b0 : (t430 != t434) = false := by simpa using c10
    (try (have c10b1 : decide (t430 = t434) = true := by simpa using c10))
    (try (have c10b2 : (t430 == t434) = true := by simpa using c10))
    clear c10
    (first | rw [c10b0] | (simp only [i64_w, i32_w]; rw [c10b0]) | skip)
    replace H := bs H; obtain ⟨t437, A11, H⟩ := H
    by_cases c12 : t437 = true
    ·subst c12
     rw [if_pos rfl] at H
     have H' := am H; clear H
     obtain ⟨Ao13, co13, eo13⟩ := Kd.R_slice HO432.out
     subst eo13
     obtain ⟨Ao14, co14, eo14⟩ := Kd.R_slice HO436.out
     subst eo14
     go_wp2_with (first | (go_at_call 28; (with_reducible refine (laws_sameInts.calls k _ _ t429 _ _ t433 true _ ?_ ?_ ?_ ?_ A11.out).mono ?_); exact Kd.C_below (Kd.R_reads' HO432.out).2.2 gs; exact (Kd.R_reads' HO432.out).2.1; exact Kd.C_below (Kd.R_reads' HO436.out).2.2 gs; exact (Kd.R_reads' HO436.out).2.1; rintro e w' ⟨rfl, ⟨nd, rfl⟩⟩))
     go_meet
     case rel => exact ⟨_, (!t430), fr, H', ⟨by first | omega | exact Nat.le_refl _⟩, ⟨Kd.R_below (Kd.R_mono HO432.out (fun _ hk => hk.2)) gs⟩, ⟨Kd.R_below (Kd.R_mono HO436.out (fun _ hk => hk.2)) gs⟩, ⟨bw HB⟩⟩
    ·replace c12 := Bool.eq_false_iff.mpr c12
     subst c12
     rw [if_neg (show ¬ (false = true) by decide)] at H
     have H' := am H; clear H
     obtain ⟨Ao15, co15, eo15⟩ := Kd.R_slice HO432.out
     subst eo15
     obtain ⟨Ao16, co16, eo16⟩ := Kd.R_slice HO436.out
     subst eo16
     go_wp2_with (first | (go_at_call 28; (with_reducible refine (laws_sameInts.calls k _ _ t429 _ _ t433 false _ ?_ ?_ ?_ ?_ A11.out).mono ?_); exact Kd.C_below (Kd.R_reads' HO432.out).2.2 gs; exact (Kd.R_reads' HO432.out).2.1; exact Kd.C_below (Kd.R_reads' HO436.out).2.2 gs; exact (Kd.R_reads' HO436.out).2.1; rintro e w' ⟨rfl, ⟨nd, rfl⟩⟩))
     go_meet
     case rel => exact ⟨_, (true), fr, H', ⟨by first | omega | exact Nat.le_refl _⟩, ⟨Kd.R_below (Kd.R_mono HO432.out (fun _ hk => hk.2)) gs⟩, ⟨Kd.R_below (Kd.R_mono HO436.out (fun _ hk => hk.2)) gs⟩, ⟨bw HB⟩⟩
  case rest =>
   clear HC6; try clear c1; try clear c2; try clear c2b0; try clear c2b1; try clear p2; try clear c3; try clear c8; try clear c10; try clear c10b0; try clear c10b1; try clear c10b2; try clear c12
   obtain ⟨kq, x46_5, rfl, HA, HJ5, HO_5, HO_7, HB⟩ := hcut
   cases kq with
   | zero => exact absurd HA.out (by simp [laws_FnCubeMeeting.j0])
   | succ kj5 =>
    have H := HA.out; clear HA
    simp only [laws_FnCubeMeeting.j0] at H
    by_cases c17 : x46_5 = true
    ·subst c17
     rw [if_pos rfl] at H
     by_cases c18 : (t430 == t434) = true
     ·rw [if_pos c18] at H
      have c18b0 : (t430 == t434) = true := c18
      (try (have c18b1 : decide (t430 = t434) = true := by simpa using c18))
      (try (have c18b2 : (t430 == t434) = true := by simpa using c18))
      clear c18; replace H := bs H; obtain ⟨t438, A19, H⟩ := H; obtain rfl := Option.some.inj H
      obtain ⟨Ao20, co20, eo20⟩ := Kd.R_slice HO_5.out
      subst eo20
      obtain ⟨Ao21, co21, eo21⟩ := Kd.R_slice HO_7.out
      subst eo21
      go_wp2_with (first | (go_at_call 28; (with_reducible refine (laws_sameInts.calls kj5 _ _ t429 _ _ t433 t438 _ ?_ ?_ ?_ ?_ A19.out).mono ?_); exact Kd.C_below (Kd.R_reads' HO_5.out).2.2 gs; exact (Kd.R_reads' HO_5.out).2.1; exact Kd.C_below (Kd.R_reads' HO_7.out).2.2 gs; exact (Kd.R_reads' HO_7.out).2.1; rintro e w' ⟨rfl, ⟨nd, rfl⟩⟩))
      go_ret
      exact ⟨fq, bw HB⟩
     ·rw [if_neg c18] at H
      have c18b0 : (t430 == t434) = false := by simpa using c18
      (try (have c18b1 : decide (t430 = t434) = false := by simpa using c18))
      (try (have c18b2 : (t430 == t434) = false := by simpa using c18))
      (try (have c18b3 : ¬ (t430 = t434) := by simpa using c18))
      clear c18
      exact absurd (H.trans (congrArg some HT.out)) (by simp)
    ·replace c17 := Bool.eq_false_iff.mpr c17
     subst c17
     rw [if_neg (show ¬ (false = true) by decide)] at H
     replace H := bs H
     obtain ⟨⟨t439, t440⟩, A22, H⟩ := H
     dsimp only at H
     have H' := am H; clear H
     go_wp2_with (first | ((with_reducible refine gate_callee (f := 31) rfl ?_); refine gl 58 Try.func31 #[.int .i64 t427, .int .i64 t428] ?_; (with_reducible refine (impl_CubeLine.calls kj5 t427 t428 t439 t440 _ A22.out).mono ?_); rintro e w23 ⟨v441, rfl, ho0, hb⟩; refine ⟨_, rfl, ?_⟩; have HO442 := am (Kd.R_lower (Kd.R_new' (Kd.R_new' ho0 (Kd.R_lt (wR HO_5))) (Kd.R_lt (wR HO_7))) (bz HB)); replace HO_5 := eR HO_5 (Kd.R_base ho0) hb; replace HO_7 := eR HO_7 (Kd.R_base ho0) hb; replace HB := bq HB hb; (try clear hb); (try clear ho0)))
     go_loopg [11] kj5 (fun kq v11 w' => ∃ (x11_2 : Int), v11 = .int .i64 x11_2 ∧ Aside0 (laws_FnCubeMeeting.l0 kq t427 t429 t439 t440 x11_2 = some r) ∧ Aside0 (kq ≤ kj5) ∧ Aside0 (Kd.R (Kd.int .i64) 3 w' w.heap.size (fun k_ => some k_ ≠ (v441 : Value).ownBlock) v431 t429) ∧ Aside0 (Kd.R (Kd.int .i64) 3 w' w.heap.size (fun k_ => some k_ ≠ (v431 : Value).ownBlock) v441 t439) ∧ Aside0 (Below w.heap.size w w'))
     case atStart => exact ⟨(0), fr, H', ⟨Nat.le_refl _⟩, ⟨Kd.R_below (Kd.R_mono HO_5.out (fun _ hk => hk.2)) gs⟩, ⟨Kd.R_below (Kd.R_mono HO442.out (fun _ hk => hk.1.2)) gs⟩, ⟨bw HB⟩⟩
     case round =>
      clear H'; try clear c1; try clear c2; try clear c2b0; try clear c2b1; try clear p2; try clear c3; try clear c8; try clear c10; try clear c10b0; try clear c10b1; try clear c10b2; try clear c12; try clear c17; try clear c18; try clear c18b0; try clear c18b1
      try clear c18b2; try clear c19; try clear c20; try clear p2
      obtain ⟨x11_2, rfl, HA, HK2, HO_5, HO_9, HB⟩ := hrel
      cases gk with
      | zero => exact absurd HA.out (by simp [laws_FnCubeMeeting.l0])
      | succ k2 =>
       have H := HA.out; clear HA
       simp only [laws_FnCubeMeeting.l0] at H
       by_cases c24 : x11_2 < (t429.length : Int)
       ·rw [if_pos c24] at H
        have c24b0 := decide_eq_true c24; clear c24; replace H := ifn H; obtain ⟨c25, H⟩ := H; have c25b0 := decide_eq_true c25; clear c25; replace H := bs H
        obtain ⟨⟨t444, t445⟩, A26, H⟩ := H
        dsimp only at H
        by_cases c27 : t445 = true
        ·subst c27
         rw [if_pos rfl] at H
         replace H := bs H; obtain ⟨t448, A28, H⟩ := H
         by_cases c29 : t448 = true
         ·subst c29
          rw [if_pos rfl] at H
          by_cases c30 : x11_2 > 0
          ·rw [if_pos c30] at H
           have c30b0 := decide_eq_true c30; clear c30
           obtain ⟨ji31, hji31⟩ : ∃ j_ : Int, (wrap64 (x11_2 - 1)) = j_ := ⟨_, rfl⟩
           (first | rw [hji31] at H | simp only [hji31] at H)
           (try rw [hji31] at A26)
           (try rw [hji31] at A28)
           have hji31w : (IntKind.i64.wrap (x11_2 - 1)) = ji31 := (i64_w _).trans hji31
           replace H := ifn H; obtain ⟨c32, H⟩ := H; have c32b0 := decide_eq_true c32; clear c32; replace H := ifn H; obtain ⟨c33, H⟩ := H; have c33b0 := decide_eq_true c33; clear c33
           by_cases c34 : (rd t429 x11_2) ≤ (rd t429 (ji31))
           ·rw [if_pos c34] at H
            have c34b0 := decide_eq_true c34; clear c34
            exact absurd (H.trans (congrArg some HT.out)) (by simp)
           ·rw [if_neg c34] at H
            have c34b0 := decide_eq_false c34; clear c34; have H' := am H; clear H
            obtain ⟨Ao35, co35, eo35⟩ := Kd.R_slice HO_5.out
            subst eo35
            have p443 : 0 ≤ (x11_2 : Int) := od
            have q443 : x11_2 < (t429.length : Int) := od
            obtain ⟨ad443, e443, hx443_0⟩ := Kd.at_int (Kd.R_reads' HO_5.out).2.2 x11_2 p443 q443
            cases e443; replace p443 := eq_true p443; replace q443 := eq_true q443
            try go_wp2_with (first | ((with_reducible refine gate_callee (f := 31) rfl ?_); refine gl 73 Try.func31 #[.int .i64 t427, .int .i64 (rd t429 x11_2)] ?_; (with_reducible refine (impl_CubeLine.calls k2 t427 (rd t429 x11_2) t444 true _ A26.out).mono ?_); rintro e w36 ⟨v446, rfl, ho0, hb⟩; refine ⟨_, rfl, ?_⟩; have n0_ := eR HO_5 (Kd.R_base ho0) hb; have n1_ := eR HO_9 (Kd.R_base ho0) hb; have n2_ := am (Kd.R_lower (Kd.R_new' (Kd.R_new' ho0 (Kd.R_lt (wR HO_5))) (Kd.R_lt (wR HO_9))) (bz HB)); have n3_ := bq HB hb; clear HO_5; clear HO_9; clear HB; have HO_5 := n0_; have HO_9 := n1_; have HO447 := n2_; have HB := n3_; clear n0_ n1_ n2_ n3_; (try clear hb); (try clear hb2); (try clear hk); (try clear hi); (try clear ho0)))
            replace HO_5 := am (Kd.R_drew HO_5.out)
            replace HO_9 := am (Kd.R_drew HO_9.out)
            replace HO447 := am (Kd.R_drew HO447.out)
            replace HB := am (below_drew1 HB.out)
            obtain ⟨Ao38, co38, eo38⟩ := Kd.R_slice HO_9.out
            (first | subst eo38 | (injection eo38 with f1_ f2_ f3_; have f4_ := f1_.symm; have f5_ := f3_.symm; clear f1_ f2_ f3_; subst f4_; subst f5_))
            obtain ⟨Ao39, co39, eo39⟩ := Kd.R_slice HO447.out
            (first | subst eo39 | (injection eo39 with f1_ f2_ f3_; have f4_ := f1_.symm; have f5_ := f3_.symm; clear f1_ f2_ f3_; subst f4_; subst f5_))
            have p449 : 0 ≤ (x11_2 : Int) := od
            have q449 : x11_2 < (t429.length : Int) := od
            obtain ⟨ad449, e449, hx449_0⟩ := Kd.at_int (Kd.R_reads' HO_5.out).2.2 x11_2 p449 q449
            obtain rfl : ad443 = ad449 := (by injection e449)
            replace p449 := eq_true p449; replace q449 := eq_true q449
            have p450 : 0 ≤ ((ji31) : Int) := od
            have q450 : (ji31) < (t429.length : Int) := od
            obtain ⟨ad450, e450, hx450_0⟩ := Kd.at_int (Kd.R_reads' HO_5.out).2.2 (ji31) p450 q450
            obtain rfl : ad443 = ad450 := (by injection e450)
            replace p450 := eq_true p450; replace q450 := eq_true q450
            refine st 25 (fun w' => w'.cell? (ad443.add (x11_2).toNat) = some (.int .i64 (rd t429 x11_2)) ∧ w'.cell? (ad443.add ((ji31)).toNat) = some (.int .i64 (rd t429 (ji31)))) [] laws_FnCubeMeeting.tab13 laws_FnCubeMeeting.bits13 (⟨hx449_0, hx450_0⟩) fun hHeld HT_ HW_ => ?_
            generalize w36.drew = w37 at HO_5 HO_9 HO447 HB hx449_0 hx450_0 hHeld ⊢
            refine pz 0 76 HT_ ?_; refine pz 1 77 HT_ ?_; refine pz 2 78 HT_ ?_; refine pz 3 79 HT_ ?_; refine pz 4 80 HT_ ?_; refine pz 5 81 HT_ ?_
            refine on 6 (some 82) HT_ fun K hK => ?_
            refine gs_ Try.func24 #[.int .i64 t427, .slice Ao38 t439.length co38, .slice Ao39 t444.length co39] ?_
            with_reducible refine (impl_SpaceCross.calls k2 t427 _ _ t439 _ _ t444 true _ ?side1 ?side2 ?side3 ?side4 A28.out).mono ?_
            (case side1 => exact Kd.C_below (Kd.R_reads' HO_9.out).2.2 gs)
            (case side2 => exact (Kd.R_reads' HO_9.out).2.1)
            (case side3 => exact Kd.C_below (Kd.R_reads' HO447.out).2.2 gs)
            (case side4 => exact (Kd.R_reads' HO447.out).2.1)
            rintro e w40 ⟨rfl, hb⟩
            have HS0_ := (hb.cell (World.block_lt_of_cell? _ _ (hHeld.1))).trans (hHeld.1)
            have HS1_ := (hb.cell (World.block_lt_of_cell? _ _ (hHeld.2))).trans (hHeld.2)
            refine ⟨_, rfl, ?_⟩
            replace HO_5 := am (Kd.R_below (wR HO_5) hb)
            replace HO_9 := am (Kd.R_below (wR HO_9) hb)
            replace HO447 := am (Kd.R_below (wR HO447) hb)
            replace HB := bq HB hb
            (try clear hb)
            (try clear hb2)
            (try clear hk)
            (try clear hi)
            refine hK.out _ _ ⟨HS0_, HS1_⟩ fun hHeld => nz ?_
            clear hK K; refine pz 7 83 HT_ ?_; refine pz 8 84 HT_ ?_; refine pz 9 85 HT_ ?_; refine pz 10 86 HT_ ?_; refine pz 11 87 HT_ ?_; refine pz 12 88 HT_ ?_; refine pz 13 89 HT_ ?_; refine pz 14 90 HT_ ?_; refine pz 15 91 HT_ ?_; refine pz 17 93 HT_ ?_
            refine pz 18 94 HT_ ?_; refine pz 19 95 HT_ ?_; refine pz 20 96 HT_ ?_; refine tk 16 92 HT_ HW_ hHeld ?_; refine tk 21 97 HT_ HW_ hHeld ?_; refine pz 22 98 HT_ ?_; refine pz 23 99 HT_ ?_; refine pz 24 100 HT_ ?_
            refine done_ (done_of HT_.out (by kernel_rfl)) ?_
            try go_wp2
            go_roundg k2
            case measure => have := HJ5.out; have := HK2.out; omega
            case rel => exact ⟨(wrap64 (x11_2 + 1)), fr, H', ⟨by have := HJ5.out; have := HK2.out; omega⟩, ⟨Kd.R_below (Kd.R_mono HO_5.out (fun _ hk => hk.1)) gs⟩, ⟨Kd.R_below (Kd.R_mono HO_9.out (fun _ hk => hk.1)) gs⟩, ⟨bw HB⟩⟩
          ·rw [if_neg c30] at H
           have c30b0 := decide_eq_false c30; clear c30; have H' := am H; clear H
           obtain ⟨Ao41, co41, eo41⟩ := Kd.R_slice HO_5.out
           subst eo41
           have p443 : 0 ≤ (x11_2 : Int) := od
           have q443 : x11_2 < (t429.length : Int) := od
           obtain ⟨ad443, e443, hx443_0⟩ := Kd.at_int (Kd.R_reads' HO_5.out).2.2 x11_2 p443 q443
           cases e443; replace p443 := eq_true p443; replace q443 := eq_true q443
           try go_wp2_with (first | ((with_reducible refine gate_callee (f := 31) rfl ?_); refine gl 73 Try.func31 #[.int .i64 t427, .int .i64 (rd t429 x11_2)] ?_; (with_reducible refine (impl_CubeLine.calls k2 t427 (rd t429 x11_2) t444 true _ A26.out).mono ?_); rintro e w42 ⟨v446, rfl, ho0, hb⟩; refine ⟨_, rfl, ?_⟩; have n0_ := eR HO_5 (Kd.R_base ho0) hb; have n1_ := eR HO_9 (Kd.R_base ho0) hb; have n2_ := am (Kd.R_lower (Kd.R_new' (Kd.R_new' ho0 (Kd.R_lt (wR HO_5))) (Kd.R_lt (wR HO_9))) (bz HB)); have n3_ := bq HB hb; clear HO_5; clear HO_9; clear HB; have HO_5 := n0_; have HO_9 := n1_; have HO447 := n2_; have HB := n3_; clear n0_ n1_ n2_ n3_; (try clear hb); (try clear hb2); (try clear hk); (try clear hi); (try clear ho0)))
           replace HO_5 := am (Kd.R_drew HO_5.out)
           replace HO_9 := am (Kd.R_drew HO_9.out)
           replace HO447 := am (Kd.R_drew HO447.out)
           replace HB := am (below_drew1 HB.out)
           obtain ⟨Ao44, co44, eo44⟩ := Kd.R_slice HO_9.out
           (first | subst eo44 | (injection eo44 with f1_ f2_ f3_; have f4_ := f1_.symm; have f5_ := f3_.symm; clear f1_ f2_ f3_; subst f4_; subst f5_))
           obtain ⟨Ao45, co45, eo45⟩ := Kd.R_slice HO447.out
           (first | subst eo45 | (injection eo45 with f1_ f2_ f3_; have f4_ := f1_.symm; have f5_ := f3_.symm; clear f1_ f2_ f3_; subst f4_; subst f5_))
           refine st 25 (fun w' => True) [] laws_FnCubeMeeting.tab13 laws_FnCubeMeeting.bits13 (trivial) fun hHeld HT_ HW_ => ?_
           generalize w42.drew = w43 at HO_5 HO_9 HO447 HB hHeld ⊢
           refine pz 0 76 HT_ ?_; refine pz 1 77 HT_ ?_; refine pz 2 78 HT_ ?_; refine pz 3 79 HT_ ?_; refine pz 4 80 HT_ ?_; refine pz 5 81 HT_ ?_
           refine on 6 (some 82) HT_ fun K hK => ?_
           refine gs_ Try.func24 #[.int .i64 t427, .slice Ao44 t439.length co44, .slice Ao45 t444.length co45] ?_
           with_reducible refine (impl_SpaceCross.calls k2 t427 _ _ t439 _ _ t444 true _ ?side1 ?side2 ?side3 ?side4 A28.out).mono ?_
           (case side1 => exact Kd.C_below (Kd.R_reads' HO_9.out).2.2 gs)
           (case side2 => exact (Kd.R_reads' HO_9.out).2.1)
           (case side3 => exact Kd.C_below (Kd.R_reads' HO447.out).2.2 gs)
           (case side4 => exact (Kd.R_reads' HO447.out).2.1)
           rintro e w46 ⟨rfl, hb⟩
           refine ⟨_, rfl, ?_⟩
           replace HO_5 := am (Kd.R_below (wR HO_5) hb)
           replace HO_9 := am (Kd.R_below (wR HO_9) hb)
           replace HO447 := am (Kd.R_below (wR HO447) hb)
           replace HB := bq HB hb
           (try clear hb)
           (try clear hb2)
           (try clear hk)
           (try clear hi)
           refine hK.out _ _ trivial fun hHeld => nz ?_
           clear hK K; refine pz 7 83 HT_ ?_; refine pz 8 84 HT_ ?_; refine pz 9 85 HT_ ?_; refine pz 10 86 HT_ ?_; refine pz 11 87 HT_ ?_; refine pz 12 88 HT_ ?_; refine po 13 89 HT_ ?_; refine po 14 90 HT_ ?_; refine po 15 91 HT_ ?_; refine po 16 92 HT_ ?_
           refine po 17 93 HT_ ?_; refine po 18 94 HT_ ?_; refine po 19 95 HT_ ?_; refine po 20 96 HT_ ?_; refine po 21 97 HT_ ?_; refine po 22 98 HT_ ?_; refine pz 23 99 HT_ ?_; refine pz 24 100 HT_ ?_
           refine done_ (done_of HT_.out (by kernel_rfl)) ?_
           try go_wp2
           go_roundg k2
           case measure => have := HJ5.out; have := HK2.out; omega
           case rel => exact ⟨(wrap64 (x11_2 + 1)), fr, H', ⟨by have := HJ5.out; have := HK2.out; omega⟩, ⟨Kd.R_below (Kd.R_mono HO_5.out (fun _ hk => hk.1)) gs⟩, ⟨Kd.R_below (Kd.R_mono HO_9.out (fun _ hk => hk.1)) gs⟩, ⟨bw HB⟩⟩
         ·replace c29 := Bool.eq_false_iff.mpr c29
          subst c29
          rw [if_neg (show ¬ (false = true) by decide)] at H
          exact absurd (H.trans (congrArg some HT.out)) (by simp)
        ·replace c27 := Bool.eq_false_iff.mpr c27
         subst c27
         rw [if_neg (show ¬ (false = true) by decide)] at H
         exact absurd (H.trans (congrArg some HT.out)) (by simp)
       ·rw [if_neg c24] at H
        have c24b0 := decide_eq_false c24; clear c24
        by_cases c47 : t440 = true
        ·subst c47
         rw [if_pos rfl] at H
         obtain rfl := Option.some.inj H
         obtain ⟨Ao48, co48, eo48⟩ := Kd.R_slice HO_5.out
         subst eo48; go_wp2; go_ret
         exact ⟨fq, bw HB⟩
        ·replace c47 := Bool.eq_false_iff.mpr c47
         subst c47
         rw [if_neg (show ¬ (false = true) by decide)] at H
         exact absurd (H.trans (congrArg some HT.out)) (by simp)
/-- THE ONE PURE STATEMENT of laws_FnCubeMeeting: yours. -/
def laws_FnCubeMeeting.Pure : Prop := ∀ (l0 : List Int), l0.length ≤ maxLen → l0.length * 1 ≤ 140737488351232 → (∀ x ∈ l0, (Lit.int .u8 x).wf = true) → ∃ k, laws_FnCubeMeeting.f k l0 = some true
theorem laws_FnCubeMeeting.walk (P : laws_FnCubeMeeting.Pure) (a0 : Option Addr) (len0 cap0 : Nat) (z0 : List Int) (w : World) (w0 : (a0 = none ∧ len0 = 0 ∧ cap0 = 0 ∧ z0 = []) ∨ ∃ x, a0 = some x ∧ len0 ≤ cap0 ∧ cap0 ≤ maxLen ∧ z0.length = cap0 ∧ (∀ i, i < z0.length → w.cell? (x.add i) = some (.int .u8 (z0.getD i 0))) ∧ ∀ n ∈ z0, (Lit.int .u8 n).wf = true) (y0 : len0 * 1 ≤ 140737488351232) :
  Calls Try.prog 8 #[.slice a0 len0 cap0] w fun e w' => e = .returned (.bool true) ∧ Below w.heap.size w w' := by
 obtain ⟨l0, rfl, hr0, hm0, hw0, hc0⟩ := ReadsInt.ofRowC w0
 obtain ⟨k, h⟩ := P l0 hm0 y0 hw0
 refine (laws_FnCubeMeeting.calls k _ _ l0 true w (Kd.C_of_reads (d := (0 : Int)) (h1 := fun _ => rfl) hr0) hc0 rfl h).mono ?_
 rintro e w' ⟨rfl, hd⟩
 exact ⟨rfl, hd⟩
end Go.Proofs.Ytmenehnfgenlpaa.PA

-- Written by xprint.py, a program of this claim's own (over the kit's print.py)
import Derived.Test.YtmenehnfgenlpaaPAx0
import Derived.Test.YtmenehnfgenlpaaPAx6
import Derived.Test.YtmenehnfgenlpaaPAx12
import Derived.Test.YtmenehnfgenlpaaPAx14
import Derived.Test.YtmenehnfgenlpaaPAx18
import Derived.Deep.Cut
namespace Go.Proofs.Ytmenehnfgenlpaa.PA
open Go.RowKit Go.Proofs.YtmenehnfgenlpaaW.PrintWords Go.Proofs.YtmenehnfgenlpaaW.PrintLast Go.Proofs.YtmenehnfgenlpaaW.PrintMore
attribute [local go_sem] max2_int min2_int max_two min_two max_three min_three max_four min_four   -- for this text's walks alone
set_option linter.unusedVariables false
set_option linter.unusedSimpArgs false

/-! ### laws_FnSpacePlace: function 12 -/
def laws_FnSpacePlace.j0 : Nat → Int → List Int → List Int → List Int → Bool → List Int → Bool → Bool → Option (Bool)
 | 0, _, _, _, _, _, _, _, _ => none
 | k + 1, x3, x4, x5, x6, x7, x8, x9, x47 => if x47 = true then (if (x7 == x9) = true then ((laws_sameInts.f k x6 x8).bind fun t659 => (some t659)) else (some false)) else ((impl_SpacePlace.f k x3 x5 x4).bind fun bt660 => (if bt660.2 = true then ((laws_sameInts.f k bt660.1 x6).bind fun t664 => (if t664 = true then ((impl_SpaceOn.f k x3 x6 x4).bind fun t665 => (if t665 = true then ((impl_SpaceOn.f k x3 x6 x5).bind fun t666 => (some t666)) else (some false))) else (some false))) else (some false)))
def laws_FnSpacePlace.f (k : Nat) (l0 : List Int) : Option (Bool) := if (l0.length : Int) > 1048576 then (some true) else ((spec_DrawSpacePlace.f k l0).bind fun bt643 => ((impl_SpacePlace.f k bt643.1 bt643.2.1 bt643.2.2).bind fun bt650 => ((spec_SpacePlace.f k bt643.1 bt643.2.1 bt643.2.2).bind fun bt654 => (if (bt650.2 != bt654.2) = true then (laws_FnSpacePlace.j0 k bt643.1 bt643.2.1 bt643.2.2 bt650.1 bt650.2 bt654.1 bt654.2 true) else ((laws_sameInts.f k bt650.1 bt654.1).bind fun t658 => (if t658 = true then (laws_FnSpacePlace.j0 k bt643.1 bt643.2.1 bt643.2.2 bt650.1 bt650.2 bt654.1 bt654.2 (!bt650.2)) else (laws_FnSpacePlace.j0 k bt643.1 bt643.2.1 bt643.2.2 bt650.1 bt650.2 bt654.1 bt654.2 true)))))))
theorem laws_FnSpacePlace.mono_l : ∀ k, (∀ y0 y1 y2 y3 y4 y5 y6 y7, LeO (laws_FnSpacePlace.j0 k y0 y1 y2 y3 y4 y5 y6 y7) (laws_FnSpacePlace.j0 (k + 1) y0 y1 y2 y3 y4 y5 y6 y7))
 | 0 => fun _ _ _ _ _ _ _ _ r h => by simp [laws_FnSpacePlace.j0] at h
 | k + 1 => by
  have ih0 := laws_FnSpacePlace.mono_l k
  ·intro y0 y1 y2 y3 y4 y5 y6 y7
   unfold laws_FnSpacePlace.j0
   repeat' first | (with_reducible first | apply ih0 | apply impl_SpaceOn.mono | apply impl_SpacePlace.mono | apply laws_sameInts.mono | apply spec_DrawSpacePlace.mono | apply spec_SpacePlace.mono | exact LeO.refl _ | exact LeO.none _ | refine LeO.ite ?_ ?_ | refine LeO.bind ?_ (fun _ => ?_)) | (first | apply ih0 | apply impl_SpaceOn.mono | apply impl_SpacePlace.mono | apply laws_sameInts.mono | apply spec_DrawSpacePlace.mono | apply spec_SpacePlace.mono | exact LeO.none _ | refine LeO.ite ?_ ?_ | refine LeO.bind ?_ (fun _ => ?_))
theorem laws_FnSpacePlace.mono : ∀ a0 k, LeO (laws_FnSpacePlace.f k a0) (laws_FnSpacePlace.f (k + 1) a0) := by
 intro a0 k
 have ih0 := laws_FnSpacePlace.mono_l k
 unfold laws_FnSpacePlace.f
 repeat' first | (with_reducible first | apply ih0 | apply impl_SpaceOn.mono | apply impl_SpacePlace.mono | apply laws_sameInts.mono | apply spec_DrawSpacePlace.mono | apply spec_SpacePlace.mono | exact LeO.refl _ | exact LeO.none _ | refine LeO.ite ?_ ?_ | refine LeO.bind ?_ (fun _ => ?_)) | (first | apply ih0 | apply impl_SpaceOn.mono | apply impl_SpacePlace.mono | apply laws_sameInts.mono | apply spec_DrawSpacePlace.mono | apply spec_SpacePlace.mono | exact LeO.none _ | refine LeO.ite ?_ ?_ | refine LeO.bind ?_ (fun _ => ?_))
set_option maxHeartbeats 8000000 in
set_option maxRecDepth 100000 in
theorem laws_FnSpacePlace.calls (k : Nat) (A0 : Option Addr) (c0 : Nat) (l0 : List Int) (r : Bool) (w : World) (hr0 : Kd.C (Kd.int .u8) w A0 l0.length l0) (hc0 : l0.length ≤ c0) (hT : r = true) (h : laws_FnSpacePlace.f k l0 = some r) :
  Calls Try.prog 12 #[.slice A0 l0.length c0] w fun e w' => e = .returned (.bool r) ∧ Below w.heap.size w w' := by
 have HT := am hT
 clear hT
 have HR0 := am hr0
 have HC0 := am hc0
 clear hr0 hc0
 have HB := am (Below.refl w.heap.size w)
 have H : (if (l0.length : Int) > 1048576 then (some true) else ((spec_DrawSpacePlace.f k l0).bind fun bt643 => ((impl_SpacePlace.f k bt643.1 bt643.2.1 bt643.2.2).bind fun bt650 => ((spec_SpacePlace.f k bt643.1 bt643.2.1 bt643.2.2).bind fun bt654 => (if (bt650.2 != bt654.2) = true then (laws_FnSpacePlace.j0 k bt643.1 bt643.2.1 bt643.2.2 bt650.1 bt650.2 bt654.1 bt654.2 true) else ((laws_sameInts.f k bt650.1 bt654.1).bind fun t658 => (if t658 = true then (laws_FnSpacePlace.j0 k bt643.1 bt643.2.1 bt643.2.2 bt650.1 bt650.2 bt654.1 bt654.2 (!bt650.2)) else (laws_FnSpacePlace.j0 k bt643.1 bt643.2.1 bt643.2.2 bt650.1 bt650.2 bt654.1 bt654.2 true)))))))) = some r := h
 clear h
 by_cases c2 : (l0.length : Int) > 1048576
 ·rw [if_pos c2] at H
  have c2b0 := decide_eq_true c2
  have c2b1 : decide (1048576 < l0.length) = true := decide_eq_true (by omega)
  clear c2; obtain rfl := Option.some.inj H
  go_enter Try.func12, Try.ntmps12
  go_wp2; go_ret
  exact ⟨fq, bw HB⟩
 ·rw [if_neg c2] at H
  have c2b0 := decide_eq_false c2
  have c2b1 : decide (1048576 < l0.length) = false := decide_eq_false (by omega)
  clear c2; replace H := bs H
  obtain ⟨⟨t643, t644, t645⟩, A3, H⟩ := H
  dsimp only at H
  replace H := bs H
  obtain ⟨⟨t650, t651⟩, A4, H⟩ := H
  dsimp only at H
  replace H := bs H
  obtain ⟨⟨t654, t655⟩, A5, H⟩ := H
  dsimp only at H
  have HC6 := am H
  clear H
  go_enter Try.func12, Try.ntmps12
  go_upto_region 6 with (first | ((with_reducible refine gate_callee (f := 41) rfl ?_); refine gl 17 Try.func41 #[.slice A0 l0.length c0] ?_; (with_reducible refine (spec_DrawSpacePlace.calls k _ _ l0 t643 t644 t645 _ ?_ ?_ A3.out).mono ?_); exact wC HR0; exact HC0.out; rintro e w7 ⟨v646, v648, rfl, ho0, ho1, hb⟩; refine ⟨_, rfl, ?_⟩; have HO647 := am (Kd.R_lower ho0 (bz HB)); have HO649 := am (Kd.R_lower ho1 (bz HB)); replace HB := bq HB hb; (try clear hb); (try clear ho0); (try clear ho1); obtain ⟨Ao8, co8, eo8⟩ := Kd.R_slice HO647.out; subst eo8; obtain ⟨Ao9, co9, eo9⟩ := Kd.R_slice HO649.out; subst eo9) | ((with_reducible refine gate_callee (f := 15) rfl ?_); refine gl 25 Try.func15 #[.int .i64 t643, .slice Ao8 t644.length co8, .slice Ao9 t645.length co9] ?_; (with_reducible refine (impl_SpacePlace.calls k t643 _ _ t644 _ _ t645 t650 t651 _ ?_ ?_ ?_ ?_ A4.out).mono ?_); exact Kd.C_below (Kd.R_reads' HO647.out).2.2 gs; exact (Kd.R_reads' HO647.out).2.1; exact Kd.C_below (Kd.R_reads' HO649.out).2.2 gs; exact (Kd.R_reads' HO649.out).2.1; rintro e w10 ⟨v652, rfl, ho0, hb⟩; refine ⟨_, rfl, ?_⟩; have HO653 := am (Kd.R_lower (Kd.R_new' (Kd.R_new' ho0 (Kd.R_lt (wR HO647))) (Kd.R_lt (wR HO649))) (bz HB)); replace HO647 := eR HO647 (Kd.R_base ho0) hb; replace HO649 := eR HO649 (Kd.R_base ho0) hb; replace HB := bq HB hb; (try clear hb); (try clear ho0)) | ((with_reducible refine gate_callee (f := 13) rfl ?_); refine gl 32 Try.func13 #[.int .i64 t643, .slice Ao8 t644.length co8, .slice Ao9 t645.length co9] ?_; (with_reducible refine (spec_SpacePlace.calls k t643 _ _ t644 _ _ t645 t654 t655 _ ?_ ?_ ?_ ?_ A5.out).mono ?_); exact Kd.C_below (Kd.R_reads' HO647.out).2.2 gs; exact (Kd.R_reads' HO647.out).2.1; exact Kd.C_below (Kd.R_reads' HO649.out).2.2 gs; exact (Kd.R_reads' HO649.out).2.1; rintro e w11 ⟨v656, rfl, ho0, hb⟩; refine ⟨_, rfl, ?_⟩; have HO657 := am (Kd.R_lower (Kd.R_new' (Kd.R_new' (Kd.R_new' ho0 (Kd.R_lt (wR HO647))) (Kd.R_lt (wR HO649))) (Kd.R_lt (wR HO653))) (bz HB)); replace HO647 := eR HO647 (Kd.R_base ho0) hb; replace HO649 := eR HO649 (Kd.R_base ho0) hb; replace HO653 := eR HO653 (Kd.R_base ho0) hb; replace HB := bq HB hb; (try clear hb); (try clear ho0)))
  (try simp only [Act.put, List.setIfInBounds_toArray, List.set_cons_zero, List.set_cons_succ])
  go_cut [47] (fun v47 wc => ∃ (kq : Nat) (x47_5 : Bool), v47 = .bool x47_5 ∧ Aside0 (laws_FnSpacePlace.j0 kq t643 t644 t645 t650 t651 t654 t655 x47_5 = some r) ∧ Aside0 (kq ≤ k) ∧ Aside0 (Kd.R (Kd.int .i64) 3 wc w.heap.size (fun k_ => some k_ ≠ ((.slice Ao9 t645.length co9) : Value).ownBlock ∧ some k_ ≠ (v652 : Value).ownBlock ∧ some k_ ≠ (v656 : Value).ownBlock) (.slice Ao8 t644.length co8) t644) ∧ Aside0 (Kd.R (Kd.int .i64) 3 wc w.heap.size (fun k_ => some k_ ≠ ((.slice Ao8 t644.length co8) : Value).ownBlock ∧ some k_ ≠ (v652 : Value).ownBlock ∧ some k_ ≠ (v656 : Value).ownBlock) (.slice Ao9 t645.length co9) t645) ∧ Aside0 (Kd.R (Kd.int .i64) 3 wc w.heap.size (fun k_ => some k_ ≠ ((.slice Ao8 t644.length co8) : Value).ownBlock ∧ some k_ ≠ ((.slice Ao9 t645.length co9) : Value).ownBlock ∧ some k_ ≠ (v656 : Value).ownBlock) v652 t650) ∧ Aside0 (Kd.R (Kd.int .i64) 3 wc w.heap.size (fun k_ => some k_ ≠ ((.slice Ao8 t644.length co8) : Value).ownBlock ∧ some k_ ≠ ((.slice Ao9 t645.length co9) : Value).ownBlock ∧ some k_ ≠ (v652 : Value).ownBlock) v656 t654) ∧ Aside0 (Below w.heap.size w wc))
  case first =>
   have H := HC6.out
   clear HC6
   by_cases c12 : (t651 != t655) = true
   ·rw [if_pos c12] at H
    have c12b0 : (t651 != t655) = true := c12
    (try (have c12b1 : decide (t651 = t655) = false := by simpa using c12))
    (try (have c12b2 : (t651 == t655) = false := by simpa using c12))
    (try (have c12b3 : ¬ (t651 = t655) := by simpa using c12))
    clear c12
    (first | rw [c12b0] | (simp only [i64_w, i32_w]; rw [c12b0]) | skip)
    have H' := am H; clear H; go_wp2
    go_meet
    case rel => exact ⟨_, (true), fr, H', ⟨by first | omega | exact Nat.le_refl _⟩, ⟨Kd.R_below (Kd.R_mono HO647.out (fun _ hk => ⟨hk.1.1, ⟨hk.1.2, hk.2⟩⟩)) gs⟩, ⟨Kd.R_below (Kd.R_mono HO649.out (fun _ hk => ⟨hk.1.1, ⟨hk.1.2, hk.2⟩⟩)) gs⟩, ⟨Kd.R_below (Kd.R_mono HO653.out (fun _ hk => ⟨hk.1.1.2, ⟨hk.1.2, hk.2⟩⟩)) gs⟩, ⟨Kd.R_below (Kd.R_mono HO657.out (fun _ hk => ⟨hk.1.1.2, ⟨hk.1.2, hk.2⟩⟩)) gs⟩, ⟨bw HB⟩⟩
   ·rw [if_neg c12] at H
    have c12b0 : (t651 != t655) = false := by simpa using c12
    (try (have c12b1 : decide (t651 = t655) = true := by simpa using c12))
    (try (have c12b2 : (t651 == t655) = true := by simpa using c12))
    clear c12
    (first | rw [c12b0] | (simp only [i64_w, i32_w]; rw [c12b0]) | skip)
    replace H := bs H; obtain ⟨t658, A13, H⟩ := H
    by_cases c14 : t658 = true
    ·subst c14
     rw [if_pos rfl] at H
     have H' := am H; clear H
     obtain ⟨Ao15, co15, eo15⟩ := Kd.R_slice HO653.out
     subst eo15
     obtain ⟨Ao16, co16, eo16⟩ := Kd.R_slice HO657.out
     subst eo16
     go_wp2_with (first | (go_at_call 28; (with_reducible refine (laws_sameInts.calls k _ _ t650 _ _ t654 true _ ?_ ?_ ?_ ?_ A13.out).mono ?_); exact Kd.C_below (Kd.R_reads' HO653.out).2.2 gs; exact (Kd.R_reads' HO653.out).2.1; exact Kd.C_below (Kd.R_reads' HO657.out).2.2 gs; exact (Kd.R_reads' HO657.out).2.1; rintro e w' ⟨rfl, ⟨nd, rfl⟩⟩))
     go_meet
     case rel => exact ⟨_, (!t651), fr, H', ⟨by first | omega | exact Nat.le_refl _⟩, ⟨Kd.R_below (Kd.R_mono HO647.out (fun _ hk => ⟨hk.1.1, ⟨hk.1.2, hk.2⟩⟩)) gs⟩, ⟨Kd.R_below (Kd.R_mono HO649.out (fun _ hk => ⟨hk.1.1, ⟨hk.1.2, hk.2⟩⟩)) gs⟩, ⟨Kd.R_below (Kd.R_mono HO653.out (fun _ hk => ⟨hk.1.1.2, ⟨hk.1.2, hk.2⟩⟩)) gs⟩, ⟨Kd.R_below (Kd.R_mono HO657.out (fun _ hk => ⟨hk.1.1.2, ⟨hk.1.2, hk.2⟩⟩)) gs⟩, ⟨bw HB⟩⟩
    ·replace c14 := Bool.eq_false_iff.mpr c14
     subst c14
     rw [if_neg (show ¬ (false = true) by decide)] at H
     have H' := am H; clear H
     obtain ⟨Ao17, co17, eo17⟩ := Kd.R_slice HO653.out
     subst eo17
     obtain ⟨Ao18, co18, eo18⟩ := Kd.R_slice HO657.out
     subst eo18
     go_wp2_with (first | (go_at_call 28; (with_reducible refine (laws_sameInts.calls k _ _ t650 _ _ t654 false _ ?_ ?_ ?_ ?_ A13.out).mono ?_); exact Kd.C_below (Kd.R_reads' HO653.out).2.2 gs; exact (Kd.R_reads' HO653.out).2.1; exact Kd.C_below (Kd.R_reads' HO657.out).2.2 gs; exact (Kd.R_reads' HO657.out).2.1; rintro e w' ⟨rfl, ⟨nd, rfl⟩⟩))
     go_meet
     case rel => exact ⟨_, (true), fr, H', ⟨by first | omega | exact Nat.le_refl _⟩, ⟨Kd.R_below (Kd.R_mono HO647.out (fun _ hk => ⟨hk.1.1, ⟨hk.1.2, hk.2⟩⟩)) gs⟩, ⟨Kd.R_below (Kd.R_mono HO649.out (fun _ hk => ⟨hk.1.1, ⟨hk.1.2, hk.2⟩⟩)) gs⟩, ⟨Kd.R_below (Kd.R_mono HO653.out (fun _ hk => ⟨hk.1.1.2, ⟨hk.1.2, hk.2⟩⟩)) gs⟩, ⟨Kd.R_below (Kd.R_mono HO657.out (fun _ hk => ⟨hk.1.1.2, ⟨hk.1.2, hk.2⟩⟩)) gs⟩, ⟨bw HB⟩⟩
  case rest =>
   clear HC6; try clear c1; try clear c2; try clear c2b0; try clear c2b1; try clear p2; try clear c4; try clear c12; try clear c12b0; try clear c12b1; try clear c12b2; try clear c13; try clear c14; try clear c15
   obtain ⟨kq, x47_5, rfl, HA, HJ5, HO_4, HO_5, HO_6, HO_8, HB⟩ := hcut
   cases kq with
   | zero => exact absurd HA.out (by simp [laws_FnSpacePlace.j0])
   | succ kj5 =>
    have H := HA.out; clear HA
    simp only [laws_FnSpacePlace.j0] at H
    by_cases c19 : x47_5 = true
    ·subst c19
     rw [if_pos rfl] at H
     by_cases c20 : (t651 == t655) = true
     ·rw [if_pos c20] at H
      have c20b0 : (t651 == t655) = true := c20
      (try (have c20b1 : decide (t651 = t655) = true := by simpa using c20))
      (try (have c20b2 : (t651 == t655) = true := by simpa using c20))
      clear c20; replace H := bs H; obtain ⟨t659, A21, H⟩ := H; obtain rfl := Option.some.inj H
      obtain ⟨Ao22, co22, eo22⟩ := Kd.R_slice HO_6.out
      subst eo22
      obtain ⟨Ao23, co23, eo23⟩ := Kd.R_slice HO_8.out
      subst eo23
      go_wp2_with (first | (go_at_call 28; (with_reducible refine (laws_sameInts.calls kj5 _ _ t650 _ _ t654 t659 _ ?_ ?_ ?_ ?_ A21.out).mono ?_); exact Kd.C_below (Kd.R_reads' HO_6.out).2.2 gs; exact (Kd.R_reads' HO_6.out).2.1; exact Kd.C_below (Kd.R_reads' HO_8.out).2.2 gs; exact (Kd.R_reads' HO_8.out).2.1; rintro e w' ⟨rfl, ⟨nd, rfl⟩⟩))
      go_ret
      exact ⟨fq, bw HB⟩
     ·rw [if_neg c20] at H
      have c20b0 : (t651 == t655) = false := by simpa using c20
      (try (have c20b1 : decide (t651 = t655) = false := by simpa using c20))
      (try (have c20b2 : (t651 == t655) = false := by simpa using c20))
      (try (have c20b3 : ¬ (t651 = t655) := by simpa using c20))
      clear c20
      exact absurd (H.trans (congrArg some HT.out)) (by simp)
    ·replace c19 := Bool.eq_false_iff.mpr c19
     subst c19
     rw [if_neg (show ¬ (false = true) by decide)] at H
     replace H := bs H
     obtain ⟨⟨t660, t661⟩, A24, H⟩ := H
     dsimp only at H
     by_cases c25 : t661 = true
     ·subst c25
      rw [if_pos rfl] at H
      replace H := bs H; obtain ⟨t664, A26, H⟩ := H
      by_cases c27 : t664 = true
      ·subst c27
       rw [if_pos rfl] at H
       replace H := bs H; obtain ⟨t665, A28, H⟩ := H
       by_cases c29 : t665 = true
       ·subst c29
        rw [if_pos rfl] at H
        replace H := bs H; obtain ⟨t666, A30, H⟩ := H; obtain rfl := Option.some.inj H
        go_wp2_with (first | ((with_reducible refine gate_callee (f := 15) rfl ?_); refine gl 60 Try.func15 #[.int .i64 t643, .slice Ao9 t645.length co9, .slice Ao8 t644.length co8] ?_; (with_reducible refine (impl_SpacePlace.calls kj5 t643 _ _ t645 _ _ t644 t660 true _ ?_ ?_ ?_ ?_ A24.out).mono ?_); exact Kd.C_below (Kd.R_reads' HO_5.out).2.2 gs; exact (Kd.R_reads' HO_5.out).2.1; exact Kd.C_below (Kd.R_reads' HO_4.out).2.2 gs; exact (Kd.R_reads' HO_4.out).2.1; rintro e w31 ⟨v662, rfl, ho0, hb⟩; refine ⟨_, rfl, ?_⟩; have HO663 := am (Kd.R_lower (Kd.R_new' (Kd.R_new' (Kd.R_new' (Kd.R_new' ho0 (Kd.R_lt (wR HO_4))) (Kd.R_lt (wR HO_5))) (Kd.R_lt (wR HO_6))) (Kd.R_lt (wR HO_8))) (bz HB)); replace HO_4 := eR HO_4 (Kd.R_base ho0) hb; replace HO_5 := eR HO_5 (Kd.R_base ho0) hb; replace HO_6 := eR HO_6 (Kd.R_base ho0) hb; replace HO_8 := eR HO_8 (Kd.R_base ho0) hb; replace HB := bq HB hb; (try clear hb); (try clear ho0); obtain ⟨Ao32, co32, eo32⟩ := Kd.R_slice HO663.out; subst eo32; obtain ⟨Ao33, co33, eo33⟩ := Kd.R_slice HO_6.out; subst eo33) | (go_at_call 28; (with_reducible refine (laws_sameInts.calls kj5 _ _ t660 _ _ t650 true _ ?_ ?_ ?_ ?_ A26.out).mono ?_); exact Kd.C_below (Kd.R_reads' HO663.out).2.2 gs; exact (Kd.R_reads' HO663.out).2.1; exact Kd.C_below (Kd.R_reads' HO_6.out).2.2 gs; exact (Kd.R_reads' HO_6.out).2.1; rintro e w' ⟨rfl, ⟨nd, rfl⟩⟩) | (go_at_call 25; (with_reducible refine (impl_SpaceOn.calls kj5 t643 _ _ t650 _ _ t644 true _ ?_ ?_ ?_ ?_ A28.out).mono ?_); exact Kd.C_below (Kd.R_reads' HO_6.out).2.2 gs; exact (Kd.R_reads' HO_6.out).2.1; exact Kd.C_below (Kd.R_reads' HO_4.out).2.2 gs; exact (Kd.R_reads' HO_4.out).2.1; rintro e w34 ⟨rfl, hb⟩; replace HO_4 := am (Kd.R_below (wR HO_4) hb); replace HO_5 := am (Kd.R_below (wR HO_5) hb); replace HO_6 := am (Kd.R_below (wR HO_6) hb); replace HO_8 := am (Kd.R_below (wR HO_8) hb); replace HO663 := am (Kd.R_below (wR HO663) hb); replace HB := bq HB hb; (try clear hb)) | (go_at_call 25; (with_reducible refine (impl_SpaceOn.calls kj5 t643 _ _ t650 _ _ t645 t666 _ ?_ ?_ ?_ ?_ A30.out).mono ?_); exact Kd.C_below (Kd.R_reads' HO_6.out).2.2 gs; exact (Kd.R_reads' HO_6.out).2.1; exact Kd.C_below (Kd.R_reads' HO_5.out).2.2 gs; exact (Kd.R_reads' HO_5.out).2.1; rintro e w35 ⟨rfl, hb⟩; replace HO_4 := am (Kd.R_below (wR HO_4) hb); replace HO_5 := am (Kd.R_below (wR HO_5) hb); replace HO_6 := am (Kd.R_below (wR HO_6) hb); replace HO_8 := am (Kd.R_below (wR HO_8) hb); replace HO663 := am (Kd.R_below (wR HO663) hb); replace HB := bq HB hb; (try clear hb)))
        go_ret
        exact ⟨fq, bw HB⟩
       ·replace c29 := Bool.eq_false_iff.mpr c29
        subst c29
        rw [if_neg (show ¬ (false = true) by decide)] at H
        exact absurd (H.trans (congrArg some HT.out)) (by simp)
      ·replace c27 := Bool.eq_false_iff.mpr c27
       subst c27
       rw [if_neg (show ¬ (false = true) by decide)] at H
       exact absurd (H.trans (congrArg some HT.out)) (by simp)
     ·replace c25 := Bool.eq_false_iff.mpr c25
      subst c25
      rw [if_neg (show ¬ (false = true) by decide)] at H
      exact absurd (H.trans (congrArg some HT.out)) (by simp)
/-- THE ONE PURE STATEMENT of laws_FnSpacePlace: yours. -/
def laws_FnSpacePlace.Pure : Prop := ∀ (l0 : List Int), l0.length ≤ maxLen → l0.length * 1 ≤ 140737488351232 → (∀ x ∈ l0, (Lit.int .u8 x).wf = true) → ∃ k, laws_FnSpacePlace.f k l0 = some true
theorem laws_FnSpacePlace.walk (P : laws_FnSpacePlace.Pure) (a0 : Option Addr) (len0 cap0 : Nat) (z0 : List Int) (w : World) (w0 : (a0 = none ∧ len0 = 0 ∧ cap0 = 0 ∧ z0 = []) ∨ ∃ x, a0 = some x ∧ len0 ≤ cap0 ∧ cap0 ≤ maxLen ∧ z0.length = cap0 ∧ (∀ i, i < z0.length → w.cell? (x.add i) = some (.int .u8 (z0.getD i 0))) ∧ ∀ n ∈ z0, (Lit.int .u8 n).wf = true) (y0 : len0 * 1 ≤ 140737488351232) :
  Calls Try.prog 12 #[.slice a0 len0 cap0] w fun e w' => e = .returned (.bool true) ∧ Below w.heap.size w w' := by
 obtain ⟨l0, rfl, hr0, hm0, hw0, hc0⟩ := ReadsInt.ofRowC w0
 obtain ⟨k, h⟩ := P l0 hm0 y0 hw0
 refine (laws_FnSpacePlace.calls k _ _ l0 true w (Kd.C_of_reads (d := (0 : Int)) (h1 := fun _ => rfl) hr0) hc0 rfl h).mono ?_
 rintro e w' ⟨rfl, hd⟩
 exact ⟨rfl, hd⟩
end Go.Proofs.Ytmenehnfgenlpaa.PA

-- Written by xprint.py, a program of this claim's own (over the kit's print.py)
import Derived.Test.YtmenehnfgenlpaaPAx0
import Derived.Test.YtmenehnfgenlpaaPAx1
import Derived.Test.YtmenehnfgenlpaaPAx2
import Derived.Test.YtmenehnfgenlpaaPAx3
import Derived.Test.YtmenehnfgenlpaaPAx5
import Derived.Test.YtmenehnfgenlpaaPAx6
import Derived.Test.YtmenehnfgenlpaaPAx9
import Derived.Test.YtmenehnfgenlpaaPAx10
import Derived.Deep.Cut
namespace Go.Proofs.Ytmenehnfgenlpaa.PA
open Go.RowKit Go.Proofs.YtmenehnfgenlpaaW.PrintWords Go.Proofs.YtmenehnfgenlpaaW.PrintLast Go.Proofs.YtmenehnfgenlpaaW.PrintMore
attribute [local go_sem] max2_int min2_int max_two min_two max_three min_three max_four min_four   -- for this text's walks alone
set_option linter.unusedVariables false
set_option linter.unusedSimpArgs false

/-! ### spec_DrawSpaceOn: function 26 -/
def spec_DrawSpaceOn.j0 : Nat → Int → List Int → Bool → List Int → Int → Option (Int × List Int × List Int)
  | 0, _, _, _, _, _ => none
  | k + 1, x6, x7, x22, x413000, x413001 => if x22 = true then (if 4 ≤ (x7.length : Int) then ((spec_l4Row.f k x6 (x7.drop 4)).bind fun t426 => (some (x6, t426, x7))) else (none)) else ((spec_l92Place.f k x413000 x413001 x6).bind fun bt429 => (some (x6, bt429.1, x7)))
def spec_DrawSpaceOn.f (k : Nat) (l0 : List Int) : Option (Int × List Int × List Int) := (spec_l6Open.f l0).bind fun bt410 => ((spec_l92Prime.f k bt410.1 bt410.2).bind fun bt413 => ((spec_l92Line.f k bt410.1 bt413.2 bt413.1).bind fun bt415 => ((spec_SpaceIn.f k bt413.1 bt415.1).bind fun t419 => (if t419 = true then ((spec_l6Rd_pick.f k bt410.1 bt415.2 2).bind fun bt420 => (spec_DrawSpaceOn.j0 k bt413.1 bt415.1 (bt420.1 == 0) bt410.1 bt420.2)) else (spec_DrawSpaceOn.j0 k bt413.1 bt415.1 false bt410.1 bt415.2)))))
theorem spec_DrawSpaceOn.mono_l : ∀ k, (∀ y0 y1 y2 y3 y4, LeO (spec_DrawSpaceOn.j0 k y0 y1 y2 y3 y4) (spec_DrawSpaceOn.j0 (k + 1) y0 y1 y2 y3 y4))
  | 0 => fun _ _ _ _ _ r h => by simp [spec_DrawSpaceOn.j0] at h
  | k + 1 => by
    have ih0 := spec_DrawSpaceOn.mono_l k
    · intro y0 y1 y2 y3 y4
      unfold spec_DrawSpaceOn.j0
      repeat' first
      | (with_reducible exact ih0 _ _ _ _ _)
      | (with_reducible exact spec_SpaceIn.mono _ _ _)
      | (with_reducible exact spec_l4Row.mono _ _ _)
      | (with_reducible exact spec_l6Rd_pick.mono _ _ _ _)
      | (with_reducible exact spec_l92Line.mono _ _ _ _)
      | (with_reducible exact spec_l92Place.mono _ _ _ _)
      | (with_reducible exact spec_l92Prime.mono _ _ _)
      | (with_reducible exact LeO.refl _)
      | (with_reducible exact LeO.none _)
      | (with_reducible refine LeO.ite ?_ ?_)
      | (with_reducible refine LeO.bind ?_ (fun _ => ?_))
      | exact ih0 _ _ _ _ _
      | exact spec_SpaceIn.mono _ _ _
      | exact spec_l4Row.mono _ _ _
      | exact spec_l6Rd_pick.mono _ _ _ _
      | exact spec_l92Line.mono _ _ _ _
      | exact spec_l92Place.mono _ _ _ _
      | exact spec_l92Prime.mono _ _ _
      | exact LeO.none _
      | refine LeO.ite ?_ ?_
      | refine LeO.bind ?_ (fun _ => ?_)
theorem spec_DrawSpaceOn.mono : ∀ a0 k, LeO (spec_DrawSpaceOn.f k a0) (spec_DrawSpaceOn.f (k + 1) a0) := by
  intro a0 k
  have ih0 := spec_DrawSpaceOn.mono_l k
  unfold spec_DrawSpaceOn.f
  repeat' first
      | (with_reducible exact ih0 _ _ _ _ _)
      | (with_reducible exact spec_SpaceIn.mono _ _ _)
      | (with_reducible exact spec_l4Row.mono _ _ _)
      | (with_reducible exact spec_l6Rd_pick.mono _ _ _ _)
      | (with_reducible exact spec_l92Line.mono _ _ _ _)
      | (with_reducible exact spec_l92Place.mono _ _ _ _)
      | (with_reducible exact spec_l92Prime.mono _ _ _)
      | (with_reducible exact LeO.refl _)
      | (with_reducible exact LeO.none _)
      | (with_reducible refine LeO.ite ?_ ?_)
      | (with_reducible refine LeO.bind ?_ (fun _ => ?_))
      | exact ih0 _ _ _ _ _
      | exact spec_SpaceIn.mono _ _ _
      | exact spec_l4Row.mono _ _ _
      | exact spec_l6Rd_pick.mono _ _ _ _
      | exact spec_l92Line.mono _ _ _ _
      | exact spec_l92Place.mono _ _ _ _
      | exact spec_l92Prime.mono _ _ _
      | exact LeO.none _
      | refine LeO.ite ?_ ?_
      | refine LeO.bind ?_ (fun _ => ?_)
set_option maxHeartbeats 8000000 in
set_option maxRecDepth 100000 in
theorem spec_DrawSpaceOn.calls (k : Nat) (A0 : Option Addr) (c0 : Nat) (l0 : List Int) (r1 : Int) (r2 : List Int) (r3 : List Int) (w : World) (hr0 : Kd.C (Kd.int .u8) w A0 l0.length l0) (hc0 : l0.length ≤ c0) (h : spec_DrawSpaceOn.f k l0 = some (r1, r2, r3)) :
    Calls Try.prog 26 #[.slice A0 l0.length c0] w fun e w' => ∃ v1_ v2_ : Value, e = .returned (.tuple #[.int .i64 r1, v1_, v2_]) ∧ Kd.R (Kd.int .i64) 3 w' w.heap.size (fun k_ => some k_ ≠ (v2_ : Value).ownBlock) v1_ r2 ∧ Kd.R (Kd.int .i64) 3 w' w.heap.size (fun k_ => some k_ ≠ (v1_ : Value).ownBlock) v2_ r3 ∧ Below w.heap.size w w' := by
  have HR0 := Aside0.mk hr0
  have HC0 := Aside0.mk hc0
  clear hr0 hc0
  have HB := Aside0.mk (Below.refl w.heap.size w)
  have H : ((spec_l6Open.f l0).bind fun bt410 => ((spec_l92Prime.f k bt410.1 bt410.2).bind fun bt413 => ((spec_l92Line.f k bt410.1 bt413.2 bt413.1).bind fun bt415 => ((spec_SpaceIn.f k bt413.1 bt415.1).bind fun t419 => (if t419 = true then ((spec_l6Rd_pick.f k bt410.1 bt415.2 2).bind fun bt420 => (spec_DrawSpaceOn.j0 k bt413.1 bt415.1 (bt420.1 == 0) bt410.1 bt420.2)) else (spec_DrawSpaceOn.j0 k bt413.1 bt415.1 false bt410.1 bt415.2)))))) = some (r1, r2, r3) := h
  clear h
  replace H := Option.bind_eq_some_iff.mp H
  obtain ⟨⟨t410, t411⟩, A20, H⟩ := H
  replace H : ((spec_l92Prime.f k t410 t411).bind fun bt413 => ((spec_l92Line.f k t410 bt413.2 bt413.1).bind fun bt415 => ((spec_SpaceIn.f k bt413.1 bt415.1).bind fun t419 => (if t419 = true then ((spec_l6Rd_pick.f k t410 bt415.2 2).bind fun bt420 => (spec_DrawSpaceOn.j0 k bt413.1 bt415.1 (bt420.1 == 0) t410 bt420.2)) else (spec_DrawSpaceOn.j0 k bt413.1 bt415.1 false t410 bt415.2))))) = some (r1, r2, r3) := H
  have A2 := Aside0.mk A20
  clear A20
  replace H := Option.bind_eq_some_iff.mp H
  obtain ⟨⟨t413, t414⟩, A30, H⟩ := H
  replace H : ((spec_l92Line.f k t410 t414 t413).bind fun bt415 => ((spec_SpaceIn.f k t413 bt415.1).bind fun t419 => (if t419 = true then ((spec_l6Rd_pick.f k t410 bt415.2 2).bind fun bt420 => (spec_DrawSpaceOn.j0 k t413 bt415.1 (bt420.1 == 0) t410 bt420.2)) else (spec_DrawSpaceOn.j0 k t413 bt415.1 false t410 bt415.2)))) = some (r1, r2, r3) := H
  have A3 := Aside0.mk A30
  clear A30
  replace H := Option.bind_eq_some_iff.mp H
  obtain ⟨⟨t415, t418⟩, A40, H⟩ := H
  replace H : ((spec_SpaceIn.f k t413 t415).bind fun t419 => (if t419 = true then ((spec_l6Rd_pick.f k t410 t418 2).bind fun bt420 => (spec_DrawSpaceOn.j0 k t413 t415 (bt420.1 == 0) t410 bt420.2)) else (spec_DrawSpaceOn.j0 k t413 t415 false t410 t418))) = some (r1, r2, r3) := H
  have A4 := Aside0.mk A40
  clear A40
  have HC5 := Aside0.mk H
  clear H
  go_enter Try.func26, Try.ntmps26
  go_upto_region 4 with (first | ((with_reducible refine gate_callee (f := 56) rfl ?_); refine goesL_ (some 9) rfl rfl Try.func56 (by kernel_rfl) rfl #[.slice A0 l0.length c0] rfl (by (try simp only [List.map_toArray, List.map_cons, List.map_nil]); first | done | rfl | (simp only [List.length_drop, List.length_take]; rfl)) ?_; (with_reducible refine (spec_l6Open.calls _ _ l0 t410 t411 w _ ?side1 ?side2 ?side3 A2.out).mono ?_); (case side1 => repeat (first | (with_reducible first | exact HB.out | apply below_alloc | apply pw_below_drewN | apply below_drew1) | exact HB.out)); (case side2 => exact HR0.out); (case side3 => exact HC0.out); rintro e w6 ⟨g412, rfl, hi, hb, hb2⟩; refine ⟨_, rfl, ?_⟩; have n0_ := Aside0.mk (hb); have n1_ := Aside0.mk (hi); clear HB; have HB := n0_; have HI412 := n1_; clear n0_ n1_; (try clear hb); (try clear hb2); (try clear hk); (try clear hi)) | ((with_reducible refine gate_callee (f := 57) rfl ?_); refine goesL_ (some 11) rfl rfl Try.func57 (by kernel_rfl) rfl #[.pointer (some ⟨g412, 0, none⟩)] rfl (by (try simp only [List.map_toArray, List.map_cons, List.map_nil]); first | done | rfl | (simp only [List.length_drop, List.length_take]; rfl)) ?_; (with_reducible refine (spec_l92Prime.calls k g412 t410 t411 t413 t414 w _ ?side1 ?side2 A3.out).mono ?_); (case side1 => repeat (first | (with_reducible first | exact HI412.out | apply IsS78.alloc | apply IsS78.drewN | apply IsS78.drew | apply IsS78.set_1) | exact HI412.out)); (case side2 => repeat (first | (with_reducible first | exact HB.out | apply below_alloc | apply pw_below_drewN | apply below_drew1 | refine below_set ?_ (IsS78.ge HI412.out)) | exact HB.out)); rintro e w7 ⟨rfl, hi, hb, hk⟩; refine ⟨_, rfl, ?_⟩; have n0_ := Aside0.mk (hb); have n1_ := Aside0.mk (hi); clear HB; clear HI412; have HB := n0_; have HI412 := n1_; clear n0_ n1_; (try clear hb); (try clear hb2); (try clear hk); (try clear hi)) | ((with_reducible refine gate_callee (f := 58) rfl ?_); refine goesL_ (some 14) rfl rfl Try.func58 (by kernel_rfl) rfl #[.pointer (some ⟨g412, 0, none⟩), .int .i64 t413] rfl (by (try simp only [List.map_toArray, List.map_cons, List.map_nil]); first | done | rfl | (simp only [List.length_drop, List.length_take]; rfl)) ?_; (with_reducible refine (spec_l92Line.calls k g412 t410 t414 t413 t415 t418 w _ ?side1 ?side2 A4.out).mono ?_); (case side1 => repeat (first | (with_reducible first | exact HI412.out | apply IsS78.alloc | apply IsS78.drewN | apply IsS78.drew | apply IsS78.set_1) | exact HI412.out)); (case side2 => repeat (first | (with_reducible first | exact HB.out | apply below_alloc | apply pw_below_drewN | apply below_drew1 | refine below_set ?_ (IsS78.ge HI412.out)) | exact HB.out)); rintro e w8 ⟨v416, rfl, ho0, hi, hb, hk⟩; refine ⟨_, rfl, ?_⟩; have n0_ := Aside0.mk (Kd.R_lower ho0 (below_size (by repeat (first | (with_reducible first | exact HB.out | apply below_alloc | apply pw_below_drewN | apply below_drew1 | refine below_set ?_ (IsS78.ge HI412.out)) | exact HB.out)))); have n1_ := Aside0.mk (hb); have n2_ := Aside0.mk (hi); clear HB; clear HI412; have HO417 := n0_; have HB := n1_; have HI412 := n2_; clear n0_ n1_ n2_; (try clear hb); (try clear hb2); (try clear hk); (try clear hi); (try clear ho0)))
  (try simp only [Act.put, List.setIfInBounds_toArray, List.set_cons_zero, List.set_cons_succ])
  go_cut [22] (fun v22 wc => ∃ (kq : Nat) (x22_4 : Bool) (x413001_4 : Int), v22 = .bool x22_4 ∧ Aside0 (spec_DrawSpaceOn.j0 kq t413 t415 x22_4 t410 x413001_4 = some (r1, r2, r3)) ∧ Aside0 (kq ≤ k) ∧ Aside0 (Kd.R (Kd.int .i64) 3 wc w.heap.size (fun _ => True) v416 t415) ∧ Aside0 (IsS78 w wc g412 t410 x413001_4) ∧ Aside0 (Below w.heap.size w wc))
  case first =>
    have H := HC5.out
    clear HC5
    replace H := Option.bind_eq_some_iff.mp H
    obtain ⟨t419, A90, H⟩ := H
    replace H : (if t419 = true then ((spec_l6Rd_pick.f k t410 t418 2).bind fun bt420 => (spec_DrawSpaceOn.j0 k t413 t415 (bt420.1 == 0) t410 bt420.2)) else (spec_DrawSpaceOn.j0 k t413 t415 false t410 t418)) = some (r1, r2, r3) := H
    have A9 := Aside0.mk A90
    clear A90
    by_cases c10 : t419 = true
    · subst c10
      have H1 : ((spec_l6Rd_pick.f k t410 t418 2).bind fun bt420 => (spec_DrawSpaceOn.j0 k t413 t415 (bt420.1 == 0) t410 bt420.2)) = some (r1, r2, r3) := by rw [if_pos rfl] at H; exact H
      clear H
      have H := H1
      clear H1
      replace H := Option.bind_eq_some_iff.mp H
      obtain ⟨⟨t420, t421⟩, A110, H⟩ := H
      replace H : (spec_DrawSpaceOn.j0 k t413 t415 (t420 == 0) t410 t421) = some (r1, r2, r3) := H
      have A11 := Aside0.mk A110
      clear A110
      have H' := Aside0.mk H
      clear H
      obtain ⟨Ao12, co12, eo12⟩ := Kd.R_slice HO417.out
      subst eo12
      go_wp2_with (first | ((with_reducible refine gate_callee (f := 23) rfl ?_); refine goesL_ (some 17) rfl rfl Try.func23 (by kernel_rfl) rfl #[.int .i64 t413, .slice Ao12 t415.length co12] rfl (by (try simp only [List.map_toArray, List.map_cons, List.map_nil]); first | done | rfl | (simp only [List.length_drop, List.length_take]; rfl)) ?_; (with_reducible refine (spec_SpaceIn.calls k t413 _ _ t415 true _ ?side1 ?side2 A9.out).mono ?_); (case side1 => exact Kd.C_below (Kd.R_reads' HO417.out).2.2 gs); (case side2 => exact (Kd.R_reads' HO417.out).2.1); rintro e w13 ⟨rfl, hb⟩; refine ⟨_, rfl, ?_⟩; have n0_ := Aside0.mk (Kd.R_below (Kd.R_below HO417.out gs) hb); have n1_ := Aside0.mk (IsS78.below (by repeat (first | (with_reducible first | exact HI412.out | apply IsS78.alloc | apply IsS78.drewN | apply IsS78.drew | apply IsS78.set_1) | exact HI412.out)) hb); have n2_ := Aside0.mk (below_step (by repeat (first | (with_reducible first | exact HB.out | apply below_alloc | apply pw_below_drewN | apply below_drew1 | refine below_set ?_ (IsS78.ge HI412.out)) | exact HB.out)) hb); clear HO417; clear HI412; clear HB; have HO417 := n0_; have HI412 := n1_; have HB := n2_; clear n0_ n1_ n2_; (try clear hb); (try clear hb2); (try clear hk); (try clear hi)) | (go_at_call 64; (with_reducible refine (spec_l6Rd_pick.calls k g412 t410 t418 2 t420 t421 w _ ?side1 ?side2 A11.out).mono ?_); (case side1 => repeat (first | (with_reducible first | exact HI412.out | apply IsS78.alloc | apply IsS78.drewN | apply IsS78.drew | apply IsS78.set_1) | exact HI412.out)); (case side2 => repeat (first | (with_reducible first | exact HB.out | apply below_alloc | apply pw_below_drewN | apply below_drew1 | refine below_set ?_ (IsS78.ge HI412.out)) | exact HB.out)); rintro e w14 ⟨rfl, hi, hb, hk⟩; have n0_ := Aside0.mk (Kd.R_mono (Kd.R_keep (IsS78.apart (show IsS78 w _ g412 t410 t418 from by repeat (first | (with_reducible first | exact HI412.out | apply IsS78.alloc | apply IsS78.drewN | apply IsS78.drew | apply IsS78.set_1) | exact HI412.out)) (Kd.R_below HO417.out gs) (by decide)) hk (fun _ h => h.2)) (fun _ h => h.1)); have n1_ := Aside0.mk (hb); have n2_ := Aside0.mk (hi); clear HO417; clear HB; clear HI412; have HO417 := n0_; have HB := n1_; have HI412 := n2_; clear n0_ n1_ n2_; (try clear hb); (try clear hb2); (try clear hk); (try clear hi)))
      go_meet
      case rel => exact ⟨_, ((t420 == 0)), (t421), (by first | rfl | (simp; done) | (simp [*]; done)), H', ⟨by first | omega | exact Nat.le_refl _⟩, ⟨by (with_reducible repeat (first | apply Kd.R_alloc | apply Kd.R_drewN | apply Kd.R_drew)); exact HO417.out⟩, ⟨by repeat (first | (with_reducible first | exact HI412.out | apply IsS78.alloc | apply IsS78.drewN | apply IsS78.drew | apply IsS78.set_1) | exact HI412.out)⟩, ⟨by repeat (first | (with_reducible first | exact HB.out | apply below_alloc | apply pw_below_drewN | apply below_drew1 | refine below_set ?_ (IsS78.ge HI412.out)) | exact HB.out)⟩⟩
    · replace c10 := Bool.eq_false_iff.mpr c10
      subst c10
      have H1 : (spec_DrawSpaceOn.j0 k t413 t415 false t410 t418) = some (r1, r2, r3) := by rw [if_neg (show ¬ (false = true) by decide)] at H; exact H
      clear H
      have H := H1
      clear H1
      have H' := Aside0.mk H
      clear H
      obtain ⟨Ao15, co15, eo15⟩ := Kd.R_slice HO417.out
      subst eo15
      go_wp2_with (first | ((with_reducible refine gate_callee (f := 23) rfl ?_); refine goesL_ (some 17) rfl rfl Try.func23 (by kernel_rfl) rfl #[.int .i64 t413, .slice Ao15 t415.length co15] rfl (by (try simp only [List.map_toArray, List.map_cons, List.map_nil]); first | done | rfl | (simp only [List.length_drop, List.length_take]; rfl)) ?_; (with_reducible refine (spec_SpaceIn.calls k t413 _ _ t415 false _ ?side1 ?side2 A9.out).mono ?_); (case side1 => exact Kd.C_below (Kd.R_reads' HO417.out).2.2 gs); (case side2 => exact (Kd.R_reads' HO417.out).2.1); rintro e w16 ⟨rfl, hb⟩; refine ⟨_, rfl, ?_⟩; have n0_ := Aside0.mk (Kd.R_below (Kd.R_below HO417.out gs) hb); have n1_ := Aside0.mk (IsS78.below (by repeat (first | (with_reducible first | exact HI412.out | apply IsS78.alloc | apply IsS78.drewN | apply IsS78.drew | apply IsS78.set_1) | exact HI412.out)) hb); have n2_ := Aside0.mk (below_step (by repeat (first | (with_reducible first | exact HB.out | apply below_alloc | apply pw_below_drewN | apply below_drew1 | refine below_set ?_ (IsS78.ge HI412.out)) | exact HB.out)) hb); clear HO417; clear HI412; clear HB; have HO417 := n0_; have HI412 := n1_; have HB := n2_; clear n0_ n1_ n2_; (try clear hb); (try clear hb2); (try clear hk); (try clear hi)))
      go_meet
      case rel => exact ⟨_, (false), (t418), (by first | rfl | (simp; done) | (simp [*]; done)), H', ⟨by first | omega | exact Nat.le_refl _⟩, ⟨by (with_reducible repeat (first | apply Kd.R_alloc | apply Kd.R_drewN | apply Kd.R_drew)); exact HO417.out⟩, ⟨by repeat (first | (with_reducible first | exact HI412.out | apply IsS78.alloc | apply IsS78.drewN | apply IsS78.drew | apply IsS78.set_1) | exact HI412.out)⟩, ⟨by repeat (first | (with_reducible first | exact HB.out | apply below_alloc | apply pw_below_drewN | apply below_drew1 | refine below_set ?_ (IsS78.ge HI412.out)) | exact HB.out)⟩⟩
  case rest =>
    clear HC5
    try clear c1
    try clear c2
    try clear p2
    try clear c5
    try clear c10
    obtain ⟨kq, x22_4, x413001_4, rfl, HA, HJ4, HO_7, HI412, HB⟩ := hcut
    cases kq with
    | zero => exact absurd HA.out (by simp [spec_DrawSpaceOn.j0])
    | succ kj4 =>
      have H := HA.out
      clear HA
      simp only [spec_DrawSpaceOn.j0] at H
      by_cases c17 : x22_4 = true
      · subst c17
        have H1 : (if 4 ≤ (t415.length : Int) then ((spec_l4Row.f kj4 t413 (t415.drop 4)).bind fun t426 => (some (t413, t426, t415))) else (none)) = some (r1, r2, r3) := by rw [if_pos rfl] at H; exact H
        clear H
        have H := H1
        clear H1
        by_cases c18 : 4 ≤ (t415.length : Int)
        · rw [if_pos c18] at H
          have c18b0 := eq_true c18
          have c18b1 : decide (4 ≤ (t415.length : Int)) = true := decide_eq_true c18
          clear c18
          obtain ⟨y422, hy422⟩ : ∃ y_ : List Int, y_ = (t415.drop 4) := ⟨_, rfl⟩
          replace H : ((spec_l4Row.f kj4 t413 y422).bind fun t426 => (some (t413, t426, t415))) = some (r1, r2, r3) := by first | (rw [hy422]; with_reducible exact H) | (have H2_ := (Option.bind_some _ _).symm.trans H; rw [hy422]; with_reducible exact H2_) | (have H2_ := (Option.bind_some _ _).symm.trans H; with_reducible exact H2_) | with_reducible exact H | (rw [hy422]; exact H) | exact H
          have Ny422 := Aside0.mk hy422
          clear hy422
          replace H := Option.bind_eq_some_iff.mp H
          obtain ⟨t426, A190, H⟩ := H
          replace H : (some (t413, t426, t415)) = some (r1, r2, r3) := H
          have A19 := Aside0.mk A190
          clear A190
          simp only [Option.some.injEq, Prod.mk.injEq] at H
          obtain ⟨rfl, rfl, rfl⟩ := H
          obtain ⟨Ao21, co21, eo21⟩ := Kd.R_slice HO_7.out
          subst eo21
          have q20 : (4 : Int) ≤ ((t415.length : Int) : Int) := of_decide_eq_true (by first | (with_reducible assumption) | assumption)
          obtain ⟨i020, hi020, _, hsz20, _⟩ := info_parts info3
          have hroom20 : t415.length ≤ co21 := (Kd.R_reads' HO_7.out).2.1
          have hC20 : Kd.C (Kd.int .i64) _ Ao21 t415.length t415 := (Kd.R_reads' HO_7.out).2.2
          have hcut20 := cut_from (P := Try.prog) 22 3 .i64 Try.underlying22 hi020 1 hsz20 Ao21 t415.length co21 4 (by omega) q20
          have hr20 := Kd.C_drop (m := (4 : Int).toNat) (c := co21) hC20 (by omega) hroom20
          obtain ⟨A20, hA20⟩ : ∃ Az_, Az_ = (if co21 = (4 : Int).toNat then Ao21 else (Ao21 : Option Addr).map (·.add ((4 : Int).toNat * 1))) := ⟨_, rfl⟩
          obtain ⟨c20, hc20⟩ : ∃ cz_, cz_ = co21 - (4 : Int).toNat := ⟨_, rfl⟩
          have hy20 : y422.length = t415.length - (4 : Int).toNat := (by rw [Ny422.out, List.length_drop] <;> omega)
          rw [show (t415).drop (4 : Int).toNat = y422 from Ny422.out.symm] at hr20
          replace hr20 : Kd.C (Kd.int .i64) _ A20 y422.length y422 := (by rw [hA20]; exact hr20)
          rw [← hy20, ← hA20, ← hc20] at hcut20
          have HR425 := Aside0.mk hr20
          have HC425 := Aside0.mk (show y422.length ≤ c20 from by rw [hy20, hc20]; exact Nat.sub_le_sub_right hroom20 _)
          clear hr20 hC20 hroom20 hi020 hsz20 hc20
          have KY20 := Aside0.mk hy20
          have KA20 := Aside0.mk hA20
          clear hy20 hA20
          have KL20 := Aside0.mk (show 4 ≤ t415.length from by omega)
          replace q20 := eq_true q20
          go_wp2_with (first | ((with_reducible refine gate_callee (f := 44) rfl ?_); refine goesL_ (some 27) rfl rfl Try.func44 (by kernel_rfl) rfl #[.int .i64 t413, .slice A20 y422.length c20] rfl (by (try simp only [List.map_toArray, List.map_cons, List.map_nil]); first | done | rfl | (simp only [List.length_drop, List.length_take]; rfl)) ?_; (with_reducible refine (spec_l4Row.calls kj4 t413 _ _ y422 t426 _ ?side1 ?side2 A19.out).mono ?_); (case side1 => repeat (first | exact (by repeat (first | (with_reducible exact HR425.out) | (with_reducible refine Kd.C_alloc ?_ _) | (with_reducible refine Kd.C_drewN ?_ _) | (with_reducible refine Kd.C_drew ?_) | exact HR425.out)) | (with_reducible refine Kd.C_alloc ?_ _) | (with_reducible refine Kd.C_drewN ?_ _) | (with_reducible refine Kd.C_drew ?_))); (case side2 => exact HC425.out); rintro e w22 ⟨v427, rfl, ho0, hb⟩; refine ⟨_, rfl, ?_⟩; have n0_ := Aside0.mk (Kd.R_elder' (by (with_reducible repeat (first | apply Kd.R_alloc | apply Kd.R_drewN | apply Kd.R_drew)); exact HO_7.out) (Kd.R_base ho0) hb); have n1_ := Aside0.mk (Kd.R_lower (Kd.R_new' ho0 (Kd.R_lt (by (with_reducible repeat (first | apply Kd.R_alloc | apply Kd.R_drewN | apply Kd.R_drew)); exact HO_7.out))) (below_size (by repeat (first | (with_reducible first | exact HB.out | apply below_alloc | apply pw_below_drewN | apply below_drew1 | refine below_set ?_ (IsS78.ge HI412.out)) | exact HB.out)))); have n2_ := Aside0.mk (IsS78.below (by repeat (first | (with_reducible first | exact HI412.out | apply IsS78.alloc | apply IsS78.drewN | apply IsS78.drew | apply IsS78.set_1) | exact HI412.out)) hb); have n3_ := Aside0.mk (Kd.C_below (by repeat (first | (with_reducible exact HR425.out) | (with_reducible refine Kd.C_alloc ?_ _) | (with_reducible refine Kd.C_drewN ?_ _) | (with_reducible refine Kd.C_drew ?_) | exact HR425.out)) hb); have n4_ := Aside0.mk (below_step (by repeat (first | (with_reducible first | exact HB.out | apply below_alloc | apply pw_below_drewN | apply below_drew1 | refine below_set ?_ (IsS78.ge HI412.out)) | exact HB.out)) hb); clear HO_7; clear HI412; clear HR425; clear HB; have HO_7 := n0_; have HO428 := n1_; have HI412 := n2_; have HR425 := n3_; have HB := n4_; clear n0_ n1_ n2_ n3_ n4_; (try clear hb); (try clear hb2); (try clear hk); (try clear hi); (try clear ho0)))
          go_ret3
          exact ⟨_, _, by first | rfl | (simp [errW_none, errW_some] <;> rfl) | (simp [*, errW_none, errW_some] <;> rfl), by (with_reducible repeat (first | apply Kd.R_alloc | apply Kd.R_drewN | apply Kd.R_drew)); exact Kd.R_mono HO428.out (fun _ hk => hk.2), by (with_reducible repeat (first | apply Kd.R_alloc | apply Kd.R_drewN | apply Kd.R_drew)); exact Kd.R_mono HO_7.out (fun _ hk => hk.2), by repeat (first | (with_reducible first | exact HB.out | apply below_alloc | apply pw_below_drewN | apply below_drew1 | refine below_set ?_ (IsS78.ge HI412.out)) | exact HB.out)⟩
        · rw [if_neg c18] at H
          exact absurd H (by simp)
      · replace c17 := Bool.eq_false_iff.mpr c17
        subst c17
        have H1 : ((spec_l92Place.f kj4 t410 x413001_4 t413).bind fun bt429 => (some (t413, bt429.1, t415))) = some (r1, r2, r3) := by rw [if_neg (show ¬ (false = true) by decide)] at H; exact H
        clear H
        have H := H1
        clear H1
        replace H := Option.bind_eq_some_iff.mp H
        obtain ⟨⟨t429, t432⟩, A230, H⟩ := H
        replace H : (some (t413, t429, t415)) = some (r1, r2, r3) := H
        have A23 := Aside0.mk A230
        clear A230
        simp only [Option.some.injEq, Prod.mk.injEq] at H
        obtain ⟨rfl, rfl, rfl⟩ := H
        go_wp2_with (first | ((with_reducible refine gate_callee (f := 65) rfl ?_); refine goesL_ (some 32) rfl rfl Try.func65 (by kernel_rfl) rfl #[.pointer (some ⟨g412, 0, none⟩), .int .i64 t413] rfl (by (try simp only [List.map_toArray, List.map_cons, List.map_nil]); first | done | rfl | (simp only [List.length_drop, List.length_take]; rfl)) ?_; (with_reducible refine (spec_l92Place.calls kj4 g412 t410 x413001_4 t413 t429 t432 w _ ?side1 ?side2 A23.out).mono ?_); (case side1 => repeat (first | (with_reducible first | exact HI412.out | apply IsS78.alloc | apply IsS78.drewN | apply IsS78.drew | apply IsS78.set_1) | exact HI412.out)); (case side2 => repeat (first | (with_reducible first | exact HB.out | apply below_alloc | apply pw_below_drewN | apply below_drew1 | refine below_set ?_ (IsS78.ge HI412.out)) | exact HB.out)); rintro e w24 ⟨v430, rfl, ho0, hi, hb, hk⟩; refine ⟨_, rfl, ?_⟩; have n0_ := Aside0.mk (Kd.R_mono (Kd.R_told (Kd.R_oldK (IsS78.apart (show IsS78 w _ g412 t410 x413001_4 from by repeat (first | (with_reducible first | exact HI412.out | apply IsS78.alloc | apply IsS78.drewN | apply IsS78.drew | apply IsS78.set_1) | exact HI412.out)) (by (with_reducible repeat (first | apply Kd.R_alloc | apply Kd.R_drewN | apply Kd.R_drew)); exact HO_7.out) (by decide)) hk) (Kd.R_base ho0)) (fun _ h_ => h_.1)); have n1_ := Aside0.mk (Kd.R_lower (Kd.R_new' ho0 (Kd.R_lt (by (with_reducible repeat (first | apply Kd.R_alloc | apply Kd.R_drewN | apply Kd.R_drew)); exact HO_7.out))) (below_size (by repeat (first | (with_reducible first | exact HB.out | apply below_alloc | apply pw_below_drewN | apply below_drew1 | refine below_set ?_ (IsS78.ge HI412.out)) | exact HB.out)))); have n2_ := Aside0.mk (hb); have n3_ := Aside0.mk (hi); clear HO_7; clear HB; clear HI412; have HO_7 := n0_; have HO431 := n1_; have HB := n2_; have HI412 := n3_; clear n0_ n1_ n2_ n3_; (try clear hb); (try clear hb2); (try clear hk); (try clear hi); (try clear ho0)))
        go_ret3
        exact ⟨_, _, by first | rfl | (simp [errW_none, errW_some] <;> rfl) | (simp [*, errW_none, errW_some] <;> rfl), by (with_reducible repeat (first | apply Kd.R_alloc | apply Kd.R_drewN | apply Kd.R_drew)); exact Kd.R_mono HO431.out (fun _ hk => hk.2), by (with_reducible repeat (first | apply Kd.R_alloc | apply Kd.R_drewN | apply Kd.R_drew)); exact Kd.R_mono HO_7.out (fun _ hk => hk.2), by repeat (first | (with_reducible first | exact HB.out | apply below_alloc | apply pw_below_drewN | apply below_drew1 | refine below_set ?_ (IsS78.ge HI412.out)) | exact HB.out)⟩

/-! ### spec_l7Rank: function 67 -/
def spec_l7Rank.f (k : Nat) (a0 : Int) (l1 : List (List Int)) : Option (Int) := (spec_l4Reduce.f k a0 l1 4).bind fun bt433 => (some (bt433.1.length : Int))
theorem spec_l7Rank.mono : ∀ a0 a1 k, LeO (spec_l7Rank.f k a0 a1) (spec_l7Rank.f (k + 1) a0 a1) := by
  intro a0 a1 k
  unfold spec_l7Rank.f
  repeat' first
      | (with_reducible exact spec_l4Reduce.mono _ _ _ _)
      | (with_reducible exact LeO.refl _)
      | (with_reducible exact LeO.none _)
      | (with_reducible refine LeO.ite ?_ ?_)
      | (with_reducible refine LeO.bind ?_ (fun _ => ?_))
      | exact spec_l4Reduce.mono _ _ _ _
      | exact LeO.none _
      | refine LeO.ite ?_ ?_
      | refine LeO.bind ?_ (fun _ => ?_)
set_option maxHeartbeats 8000000 in
set_option maxRecDepth 100000 in
theorem spec_l7Rank.calls (k : Nat) (a0 : Int) (A1 : Option Addr) (c1 : Nat) (l1 : List (List Int)) (r : Int) (w : World) (hr1 : Kd.C (Kd.slice 3 (Kd.int .i64)) w A1 l1.length l1) (hc1 : l1.length ≤ c1) (h : spec_l7Rank.f k a0 l1 = some r) :
    Calls Try.prog 67 #[.int .i64 a0, .slice A1 l1.length c1] w fun e w' => e = .returned (.int .i64 r) ∧ Below w.heap.size w w' := by
  have HR1 := Aside0.mk hr1
  have HC1 := Aside0.mk hc1
  clear hr1 hc1
  have HB := Aside0.mk (Below.refl w.heap.size w)
  have H : ((spec_l4Reduce.f k a0 l1 4).bind fun bt433 => (some (bt433.1.length : Int))) = some r := h
  clear h
  replace H := Option.bind_eq_some_iff.mp H
  obtain ⟨⟨t433, t436⟩, A30, H⟩ := H
  replace H : (some (t433.length : Int)) = some r := H
  have A3 := Aside0.mk A30
  clear A30
  obtain rfl := Option.some.inj H
  go_enter Try.func67, Try.ntmps67
  go_wp2_with (first | ((with_reducible refine gate_callee (f := 60) rfl ?_); refine goesL_ (some 10) rfl rfl Try.func60 (by kernel_rfl) rfl #[.int .i64 a0, .slice A1 l1.length c1, .int .i64 4] rfl (by (try simp only [List.map_toArray, List.map_cons, List.map_nil]); first | done | rfl | (simp only [List.length_drop, List.length_take]; rfl)) ?_; (with_reducible refine (spec_l4Reduce.calls k a0 (fun k_ => k_ < w.heap.size) _ _ l1 4 t433 t436 _ ?side1 A3.out).mono ?_); (case side1 => exact Kd.V_mk HC1.out (Kd.F_below (Kd.C_F (Kd.heap_slice 3 (Kd.heap_int .i64)) HR1.out) (bb HB.out))); rintro e w4 ⟨v434, v437, rfl, ho0, ho1, hb⟩; refine ⟨_, rfl, ?_⟩; have n0_ := Aside0.mk (Kd.N_lower (Kd.N_mono (ok' := fun k_ => some k_ ≠ (v437 : Value).ownBlock) ho0 (fun k_ hk_ => hk_.2)) (below_size (bb HB.out))); have n1_ := Aside0.mk (Kd.R_lower (Kd.R_mono (ok' := fun k_ => True) ho1 (fun _ hk_ => trivial)) (below_size (bb HB.out))); have n2_ := Aside0.mk (below_step (bb HB.out) hb); clear HB; have HO435 := n0_; have HO438 := n1_; have HB := n2_; clear n0_ n1_ n2_; (try clear hb); (try clear hb2); (try clear hk); (try clear hi); (try clear ho0); (try clear ho1); obtain ⟨Ao5, co5, eo5⟩ := Kd.N_slice HO435.out; subst eo5))
  go_ret
  exact ⟨by first | rfl | (simp [errW_none, errW_some] <;> rfl) | (simp [*, errW_none, errW_some] <;> rfl), by repeat (first | (with_reducible first | exact HB.out | apply below_alloc | apply pw_below_drewN | apply below_drew1) | exact HB.out)⟩

end Go.Proofs.Ytmenehnfgenlpaa.PA

-- Written by xprint.py, a program of this claim's own (over the kit's print.py)
import Derived.Test.YtdgopdbmbaiddaaPAx0
import Derived.Test.YtdgopdbmbaiddaaPAx9
import Derived.Test.YtdgopdbmbaiddaaPAx10
import Derived.Test.YtdgopdbmbaiddaaPAx11
import Derived.Test.YtdgopdbmbaiddaaPAx12
import Derived.Deep.Cut
namespace Go.Proofs.Ytdgopdbmbaiddaa.PA
open Go.RowKit Go.Proofs.YtdgopdbmbaiddaaW.PrintWords Go.Proofs.YtdgopdbmbaiddaaW.PrintLast Go.Proofs.YtdgopdbmbaiddaaW.PrintMore
attribute [local go_sem] max2_int min2_int max_two min_two max_three min_three max_four min_four   -- for this text's walks alone
set_option linter.unusedVariables false
set_option linter.unusedSimpArgs false

/-! ### laws_FnThrough: function 13 -/
def laws_FnThrough.j0 : Nat → Int → List Int → List Int → List Int → Bool → List Int → Bool → Bool → Option (Bool)
  | 0, _, _, _, _, _, _, _, _ => none
  | k + 1, x3, x4, x5, x6, x7, x8, x9, x47 => if x47 = true then (if (x7 == x9) = true then ((laws_sameInts.f k x6 x8).bind fun t392 => (some t392)) else (some false)) else ((impl_SpaceThrough.f k x3 x5 x4).bind fun bt393 => (if bt393.2 = true then ((laws_sameInts.f k bt393.1 x6).bind fun t397 => (if t397 = true then ((impl_SpaceIn.f k x3 x6).bind fun t398 => (if t398 = true then ((impl_SpaceOn.f k x3 x4 x6).bind fun t399 => (if t399 = true then ((impl_SpaceOn.f k x3 x5 x6).bind fun t400 => (some t400)) else (some false))) else (some false))) else (some false))) else (some false)))
def laws_FnThrough.f (k : Nat) (l0 : List Int) : Option (Bool) := if (l0.length : Int) > 1048576 then (some true) else ((spec_DrawSpaceThrough.f k l0).bind fun bt376 => ((impl_SpaceThrough.f k bt376.1 bt376.2.1 bt376.2.2).bind fun bt383 => ((spec_SpaceThrough.f k bt376.1 bt376.2.1 bt376.2.2).bind fun bt387 => (if (bt383.2 != bt387.2) = true then (laws_FnThrough.j0 k bt376.1 bt376.2.1 bt376.2.2 bt383.1 bt383.2 bt387.1 bt387.2 true) else ((laws_sameInts.f k bt383.1 bt387.1).bind fun t391 => (if t391 = true then (laws_FnThrough.j0 k bt376.1 bt376.2.1 bt376.2.2 bt383.1 bt383.2 bt387.1 bt387.2 (!bt383.2)) else (laws_FnThrough.j0 k bt376.1 bt376.2.1 bt376.2.2 bt383.1 bt383.2 bt387.1 bt387.2 true)))))))
theorem laws_FnThrough.mono_l : ∀ k, (∀ y0 y1 y2 y3 y4 y5 y6 y7, LeO (laws_FnThrough.j0 k y0 y1 y2 y3 y4 y5 y6 y7) (laws_FnThrough.j0 (k + 1) y0 y1 y2 y3 y4 y5 y6 y7))
  | 0 => fun _ _ _ _ _ _ _ _ r h => by simp [laws_FnThrough.j0] at h
  | k + 1 => by
    have ih0 := laws_FnThrough.mono_l k
    · intro y0 y1 y2 y3 y4 y5 y6 y7
      unfold laws_FnThrough.j0
      repeat' first
      | (with_reducible exact ih0 _ _ _ _ _ _ _ _)
      | (with_reducible exact impl_SpaceIn.mono _ _ _)
      | (with_reducible exact impl_SpaceOn.mono _ _ _ _)
      | (with_reducible exact impl_SpaceThrough.mono _ _ _ _)
      | (with_reducible exact laws_sameInts.mono _ _ _)
      | (with_reducible exact spec_DrawSpaceThrough.mono _ _)
      | (with_reducible exact spec_SpaceThrough.mono _ _ _ _)
      | (with_reducible exact LeO.refl _)
      | (with_reducible exact LeO.none _)
      | (with_reducible refine LeO.ite ?_ ?_)
      | (with_reducible refine LeO.bind ?_ (fun _ => ?_))
      | exact ih0 _ _ _ _ _ _ _ _
      | exact impl_SpaceIn.mono _ _ _
      | exact impl_SpaceOn.mono _ _ _ _
      | exact impl_SpaceThrough.mono _ _ _ _
      | exact laws_sameInts.mono _ _ _
      | exact spec_DrawSpaceThrough.mono _ _
      | exact spec_SpaceThrough.mono _ _ _ _
      | exact LeO.none _
      | refine LeO.ite ?_ ?_
      | refine LeO.bind ?_ (fun _ => ?_)
theorem laws_FnThrough.mono : ∀ a0 k, LeO (laws_FnThrough.f k a0) (laws_FnThrough.f (k + 1) a0) := by
  intro a0 k
  have ih0 := laws_FnThrough.mono_l k
  unfold laws_FnThrough.f
  repeat' first
      | (with_reducible exact ih0 _ _ _ _ _ _ _ _)
      | (with_reducible exact impl_SpaceIn.mono _ _ _)
      | (with_reducible exact impl_SpaceOn.mono _ _ _ _)
      | (with_reducible exact impl_SpaceThrough.mono _ _ _ _)
      | (with_reducible exact laws_sameInts.mono _ _ _)
      | (with_reducible exact spec_DrawSpaceThrough.mono _ _)
      | (with_reducible exact spec_SpaceThrough.mono _ _ _ _)
      | (with_reducible exact LeO.refl _)
      | (with_reducible exact LeO.none _)
      | (with_reducible refine LeO.ite ?_ ?_)
      | (with_reducible refine LeO.bind ?_ (fun _ => ?_))
      | exact ih0 _ _ _ _ _ _ _ _
      | exact impl_SpaceIn.mono _ _ _
      | exact impl_SpaceOn.mono _ _ _ _
      | exact impl_SpaceThrough.mono _ _ _ _
      | exact laws_sameInts.mono _ _ _
      | exact spec_DrawSpaceThrough.mono _ _
      | exact spec_SpaceThrough.mono _ _ _ _
      | exact LeO.none _
      | refine LeO.ite ?_ ?_
      | refine LeO.bind ?_ (fun _ => ?_)
set_option maxHeartbeats 8000000 in
set_option maxRecDepth 100000 in
theorem laws_FnThrough.calls (k : Nat) (A0 : Option Addr) (c0 : Nat) (l0 : List Int) (r : Bool) (w : World) (hr0 : Kd.C (Kd.int .u8) w A0 l0.length l0) (hc0 : l0.length ≤ c0) (hT : r = true) (h : laws_FnThrough.f k l0 = some r) :
    Calls Try.prog 13 #[.slice A0 l0.length c0] w fun e w' => e = .returned (.bool r) ∧ Below w.heap.size w w' := by
  have HT := Aside0.mk hT
  clear hT
  have HR0 := Aside0.mk hr0
  have HC0 := Aside0.mk hc0
  clear hr0 hc0
  have HB := Aside0.mk (Below.refl w.heap.size w)
  have H : (if (l0.length : Int) > 1048576 then (some true) else ((spec_DrawSpaceThrough.f k l0).bind fun bt376 => ((impl_SpaceThrough.f k bt376.1 bt376.2.1 bt376.2.2).bind fun bt383 => ((spec_SpaceThrough.f k bt376.1 bt376.2.1 bt376.2.2).bind fun bt387 => (if (bt383.2 != bt387.2) = true then (laws_FnThrough.j0 k bt376.1 bt376.2.1 bt376.2.2 bt383.1 bt383.2 bt387.1 bt387.2 true) else ((laws_sameInts.f k bt383.1 bt387.1).bind fun t391 => (if t391 = true then (laws_FnThrough.j0 k bt376.1 bt376.2.1 bt376.2.2 bt383.1 bt383.2 bt387.1 bt387.2 (!bt383.2)) else (laws_FnThrough.j0 k bt376.1 bt376.2.1 bt376.2.2 bt383.1 bt383.2 bt387.1 bt387.2 true)))))))) = some r := h
  clear h
  by_cases c2 : (l0.length : Int) > 1048576
  · rw [if_pos c2] at H
    have c2b0 : decide (1048576 < (l0.length : Int)) = true := decide_eq_true c2
    have c2b1 : decide (1048576 < l0.length) = true := decide_eq_true (by omega)
    clear c2
    obtain rfl := Option.some.inj H
    go_enter Try.func13, Try.ntmps13
    go_wp2
    go_ret
    exact ⟨by first | rfl | (simp [errW_none, errW_some] <;> rfl) | (simp [*, errW_none, errW_some] <;> rfl), by repeat (first | (with_reducible first | exact HB.out | apply below_alloc | apply pw_below_drewN | apply below_drew1) | exact HB.out)⟩
  · rw [if_neg c2] at H
    have c2b0 : decide (1048576 < (l0.length : Int)) = false := decide_eq_false c2
    have c2b1 : decide (1048576 < l0.length) = false := decide_eq_false (by omega)
    clear c2
    replace H := Option.bind_eq_some_iff.mp H
    obtain ⟨⟨t376, t377, t378⟩, A30, H⟩ := H
    replace H : ((impl_SpaceThrough.f k t376 t377 t378).bind fun bt383 => ((spec_SpaceThrough.f k t376 t377 t378).bind fun bt387 => (if (bt383.2 != bt387.2) = true then (laws_FnThrough.j0 k t376 t377 t378 bt383.1 bt383.2 bt387.1 bt387.2 true) else ((laws_sameInts.f k bt383.1 bt387.1).bind fun t391 => (if t391 = true then (laws_FnThrough.j0 k t376 t377 t378 bt383.1 bt383.2 bt387.1 bt387.2 (!bt383.2)) else (laws_FnThrough.j0 k t376 t377 t378 bt383.1 bt383.2 bt387.1 bt387.2 true)))))) = some r := H
    have A3 := Aside0.mk A30
    clear A30
    replace H := Option.bind_eq_some_iff.mp H
    obtain ⟨⟨t383, t386⟩, A40, H⟩ := H
    replace H : ((spec_SpaceThrough.f k t376 t377 t378).bind fun bt387 => (if (t386 != bt387.2) = true then (laws_FnThrough.j0 k t376 t377 t378 t383 t386 bt387.1 bt387.2 true) else ((laws_sameInts.f k t383 bt387.1).bind fun t391 => (if t391 = true then (laws_FnThrough.j0 k t376 t377 t378 t383 t386 bt387.1 bt387.2 (!t386)) else (laws_FnThrough.j0 k t376 t377 t378 t383 t386 bt387.1 bt387.2 true))))) = some r := H
    have A4 := Aside0.mk A40
    clear A40
    replace H := Option.bind_eq_some_iff.mp H
    obtain ⟨⟨t387, t390⟩, A50, H⟩ := H
    replace H : (if (t386 != t390) = true then (laws_FnThrough.j0 k t376 t377 t378 t383 t386 t387 t390 true) else ((laws_sameInts.f k t383 t387).bind fun t391 => (if t391 = true then (laws_FnThrough.j0 k t376 t377 t378 t383 t386 t387 t390 (!t386)) else (laws_FnThrough.j0 k t376 t377 t378 t383 t386 t387 t390 true)))) = some r := H
    have A5 := Aside0.mk A50
    clear A50
    have HC6 := Aside0.mk H
    clear H
    go_enter Try.func13, Try.ntmps13
    go_upto_region 6 with (first | ((with_reducible refine gate_callee (f := 43) rfl ?_); refine goesL_ (some 17) rfl rfl Try.func43 (by kernel_rfl) rfl #[.slice A0 l0.length c0] rfl (by (try simp only [List.map_toArray, List.map_cons, List.map_nil]); first | done | rfl | (simp only [List.length_drop, List.length_take]; rfl)) ?_; (with_reducible refine (spec_DrawSpaceThrough.calls k _ _ l0 t376 t377 t378 _ ?side1 ?side2 A3.out).mono ?_); (case side1 => exact Kd.C_below HR0.out gs); (case side2 => exact HC0.out); rintro e w7 ⟨v379, v381, rfl, ho0, ho1, hb⟩; refine ⟨_, rfl, ?_⟩; have n0_ := Aside0.mk (Kd.R_lower ho0 (below_size (bb HB.out))); have n1_ := Aside0.mk (Kd.R_lower ho1 (below_size (bb HB.out))); have n2_ := Aside0.mk (below_step (bb HB.out) hb); clear HB; have HO380 := n0_; have HO382 := n1_; have HB := n2_; clear n0_ n1_ n2_; (try clear hb); (try clear hb2); (try clear hk); (try clear hi); (try clear ho0); (try clear ho1); obtain ⟨Ao8, co8, eo8⟩ := Kd.R_slice HO380.out; subst eo8; obtain ⟨Ao9, co9, eo9⟩ := Kd.R_slice HO382.out; subst eo9) | ((with_reducible refine gate_callee (f := 36) rfl ?_); refine goesL_ (some 25) rfl rfl Try.func36 (by kernel_rfl) rfl #[.int .i64 t376, .slice Ao8 t377.length co8, .slice Ao9 t378.length co9] rfl (by (try simp only [List.map_toArray, List.map_cons, List.map_nil]); first | done | rfl | (simp only [List.length_drop, List.length_take]; rfl)) ?_; (with_reducible refine (impl_SpaceThrough.calls k t376 (fun k_ => some k_ = (.slice Ao8 t377.length co8 : Value).ownBlock) _ _ t377 (fun k_ => some k_ = (.slice Ao9 t378.length co9 : Value).ownBlock) _ _ t378 t383 t386 _ ?side1 ?side2 A4.out).mono ?_); (case side1 => exact Kd.R_V (Kd.R_tight rfl (HO380.out))); (case side2 => exact Kd.R_V (Kd.R_tight rfl (HO382.out))); rintro e w10 ⟨v384, rfl, ho0, hb⟩; refine ⟨_, rfl, ?_⟩; have n0_ := Aside0.mk (Kd.R_elder' (Kd.R_below HO380.out gs) (Kd.R_base ho0) hb); have n1_ := Aside0.mk (Kd.R_elder' (Kd.R_below HO382.out gs) (Kd.R_base ho0) hb); have n2_ := Aside0.mk (Kd.R_lower (Kd.R_new' (Kd.R_new' (Kd.R_mono (ok' := fun k_ => True) ho0 (fun _ hk_ => trivial)) (Kd.R_lt (Kd.R_below HO380.out gs))) (Kd.R_lt (Kd.R_below HO382.out gs))) (below_size (bb HB.out))); have n3_ := Aside0.mk (below_step (bb HB.out) hb); clear HO380; clear HO382; clear HB; have HO380 := n0_; have HO382 := n1_; have HO385 := n2_; have HB := n3_; clear n0_ n1_ n2_ n3_; (try clear hb); (try clear hb2); (try clear hk); (try clear hi); (try clear ho0)) | ((with_reducible refine gate_callee (f := 35) rfl ?_); refine goesL_ (some 32) rfl rfl Try.func35 (by kernel_rfl) rfl #[.int .i64 t376, .slice Ao8 t377.length co8, .slice Ao9 t378.length co9] rfl (by (try simp only [List.map_toArray, List.map_cons, List.map_nil]); first | done | rfl | (simp only [List.length_drop, List.length_take]; rfl)) ?_; (with_reducible refine (spec_SpaceThrough.calls k t376 (fun k_ => some k_ = (.slice Ao8 t377.length co8 : Value).ownBlock) _ _ t377 (fun k_ => some k_ = (.slice Ao9 t378.length co9 : Value).ownBlock) _ _ t378 t387 t390 _ ?side1 ?side2 A5.out).mono ?_); (case side1 => exact Kd.R_V (Kd.R_tight rfl (HO380.out))); (case side2 => exact Kd.R_V (Kd.R_tight rfl (HO382.out))); rintro e w11 ⟨v388, rfl, ho0, hb⟩; refine ⟨_, rfl, ?_⟩; have n0_ := Aside0.mk (Kd.R_elder' (Kd.R_below HO380.out gs) (Kd.R_base ho0) hb); have n1_ := Aside0.mk (Kd.R_elder' (Kd.R_below HO382.out gs) (Kd.R_base ho0) hb); have n2_ := Aside0.mk (Kd.R_elder' (Kd.R_below HO385.out gs) (Kd.R_base ho0) hb); have n3_ := Aside0.mk (Kd.R_lower (Kd.R_new' (Kd.R_new' (Kd.R_new' (Kd.R_mono (ok' := fun k_ => True) ho0 (fun _ hk_ => trivial)) (Kd.R_lt (Kd.R_below HO380.out gs))) (Kd.R_lt (Kd.R_below HO382.out gs))) (Kd.R_lt (Kd.R_below HO385.out gs))) (below_size (bb HB.out))); have n4_ := Aside0.mk (below_step (bb HB.out) hb); clear HO380; clear HO382; clear HO385; clear HB; have HO380 := n0_; have HO382 := n1_; have HO385 := n2_; have HO389 := n3_; have HB := n4_; clear n0_ n1_ n2_ n3_ n4_; (try clear hb); (try clear hb2); (try clear hk); (try clear hi); (try clear ho0)))
    (try simp only [Act.put, List.setIfInBounds_toArray, List.set_cons_zero, List.set_cons_succ])
    go_cut [47] (fun v47 wc => ∃ (kq : Nat) (x47_5 : Bool), v47 = .bool x47_5 ∧ Aside0 (laws_FnThrough.j0 kq t376 t377 t378 t383 t386 t387 t390 x47_5 = some r) ∧ Aside0 (kq ≤ k) ∧ Aside0 (Kd.R (Kd.int .i64) 3 wc w.heap.size (fun k_ => some k_ ≠ ((.slice Ao9 t378.length co9) : Value).ownBlock ∧ some k_ ≠ (v384 : Value).ownBlock ∧ some k_ ≠ (v388 : Value).ownBlock) (.slice Ao8 t377.length co8) t377) ∧ Aside0 (Kd.R (Kd.int .i64) 3 wc w.heap.size (fun k_ => some k_ ≠ ((.slice Ao8 t377.length co8) : Value).ownBlock ∧ some k_ ≠ (v384 : Value).ownBlock ∧ some k_ ≠ (v388 : Value).ownBlock) (.slice Ao9 t378.length co9) t378) ∧ Aside0 (Kd.R (Kd.int .i64) 3 wc w.heap.size (fun k_ => some k_ ≠ ((.slice Ao8 t377.length co8) : Value).ownBlock ∧ some k_ ≠ ((.slice Ao9 t378.length co9) : Value).ownBlock ∧ some k_ ≠ (v388 : Value).ownBlock) v384 t383) ∧ Aside0 (Kd.R (Kd.int .i64) 3 wc w.heap.size (fun k_ => some k_ ≠ ((.slice Ao8 t377.length co8) : Value).ownBlock ∧ some k_ ≠ ((.slice Ao9 t378.length co9) : Value).ownBlock ∧ some k_ ≠ (v384 : Value).ownBlock) v388 t387) ∧ Aside0 (Below w.heap.size w wc))
    case first =>
      have H := HC6.out
      clear HC6
      by_cases c12 : (t386 != t390) = true
      · rw [if_pos c12] at H
        have c12b0 : (t386 != t390) = true := c12
        (try (have c12b1 : decide (t386 = t390) = false := by simpa using c12))
        (try (have c12b2 : (t386 == t390) = false := by simpa using c12))
        (try (have c12b3 : ¬ (t386 = t390) := by simpa using c12))
        clear c12
        (first | rw [c12b0] | (simp only [i64_w, i32_w]; rw [c12b0]) | skip)
        have H' := Aside0.mk H
        clear H
        go_wp2
        go_meet
        case rel => exact ⟨_, (true), (by first | rfl | (simp; done) | (simp [*]; done)), H', ⟨by first | omega | exact Nat.le_refl _⟩, ⟨by (with_reducible repeat (first | apply Kd.R_alloc | apply Kd.R_drewN | apply Kd.R_drew)); exact Kd.R_mono HO380.out (fun _ hk => ⟨hk.1.1, ⟨hk.1.2, hk.2⟩⟩)⟩, ⟨by (with_reducible repeat (first | apply Kd.R_alloc | apply Kd.R_drewN | apply Kd.R_drew)); exact Kd.R_mono HO382.out (fun _ hk => ⟨hk.1.1, ⟨hk.1.2, hk.2⟩⟩)⟩, ⟨by (with_reducible repeat (first | apply Kd.R_alloc | apply Kd.R_drewN | apply Kd.R_drew)); exact Kd.R_mono HO385.out (fun _ hk => ⟨hk.1.1.2, ⟨hk.1.2, hk.2⟩⟩)⟩, ⟨by (with_reducible repeat (first | apply Kd.R_alloc | apply Kd.R_drewN | apply Kd.R_drew)); exact Kd.R_mono HO389.out (fun _ hk => ⟨hk.1.1.2, ⟨hk.1.2, hk.2⟩⟩)⟩, ⟨by repeat (first | (with_reducible first | exact HB.out | apply below_alloc | apply pw_below_drewN | apply below_drew1) | exact HB.out)⟩⟩
      · rw [if_neg c12] at H
        have c12b0 : (t386 != t390) = false := by simpa using c12
        (try (have c12b1 : decide (t386 = t390) = true := by simpa using c12))
        (try (have c12b2 : (t386 == t390) = true := by simpa using c12))
        clear c12
        (first | rw [c12b0] | (simp only [i64_w, i32_w]; rw [c12b0]) | skip)
        replace H := Option.bind_eq_some_iff.mp H
        obtain ⟨t391, A130, H⟩ := H
        replace H : (if t391 = true then (laws_FnThrough.j0 k t376 t377 t378 t383 t386 t387 t390 (!t386)) else (laws_FnThrough.j0 k t376 t377 t378 t383 t386 t387 t390 true)) = some r := H
        have A13 := Aside0.mk A130
        clear A130
        by_cases c14 : t391 = true
        · subst c14
          have H1 : (laws_FnThrough.j0 k t376 t377 t378 t383 t386 t387 t390 (!t386)) = some r := by rw [if_pos rfl] at H; exact H
          clear H
          have H := H1
          clear H1
          have H' := Aside0.mk H
          clear H
          obtain ⟨Ao15, co15, eo15⟩ := Kd.R_slice HO385.out
          subst eo15
          obtain ⟨Ao16, co16, eo16⟩ := Kd.R_slice HO389.out
          subst eo16
          go_wp2_with (first | (go_at_call 22; (with_reducible refine (laws_sameInts.calls k _ _ t383 _ _ t387 true _ ?side1 ?side2 ?side3 ?side4 A13.out).mono ?_); (case side1 => exact Kd.C_below (Kd.R_reads' HO385.out).2.2 gs); (case side2 => exact (Kd.R_reads' HO385.out).2.1); (case side3 => exact Kd.C_below (Kd.R_reads' HO389.out).2.2 gs); (case side4 => exact (Kd.R_reads' HO389.out).2.1); rintro e w' ⟨rfl, ⟨nd, rfl⟩⟩))
          go_meet
          case rel => exact ⟨_, (!t386), (by first | rfl | (simp; done) | (simp [*]; done)), H', ⟨by first | omega | exact Nat.le_refl _⟩, ⟨by (with_reducible repeat (first | apply Kd.R_alloc | apply Kd.R_drewN | apply Kd.R_drew)); exact Kd.R_mono HO380.out (fun _ hk => ⟨hk.1.1, ⟨hk.1.2, hk.2⟩⟩)⟩, ⟨by (with_reducible repeat (first | apply Kd.R_alloc | apply Kd.R_drewN | apply Kd.R_drew)); exact Kd.R_mono HO382.out (fun _ hk => ⟨hk.1.1, ⟨hk.1.2, hk.2⟩⟩)⟩, ⟨by (with_reducible repeat (first | apply Kd.R_alloc | apply Kd.R_drewN | apply Kd.R_drew)); exact Kd.R_mono HO385.out (fun _ hk => ⟨hk.1.1.2, ⟨hk.1.2, hk.2⟩⟩)⟩, ⟨by (with_reducible repeat (first | apply Kd.R_alloc | apply Kd.R_drewN | apply Kd.R_drew)); exact Kd.R_mono HO389.out (fun _ hk => ⟨hk.1.1.2, ⟨hk.1.2, hk.2⟩⟩)⟩, ⟨by repeat (first | (with_reducible first | exact HB.out | apply below_alloc | apply pw_below_drewN | apply below_drew1) | exact HB.out)⟩⟩
        · replace c14 := Bool.eq_false_iff.mpr c14
          subst c14
          have H1 : (laws_FnThrough.j0 k t376 t377 t378 t383 t386 t387 t390 true) = some r := by rw [if_neg (show ¬ (false = true) by decide)] at H; exact H
          clear H
          have H := H1
          clear H1
          have H' := Aside0.mk H
          clear H
          obtain ⟨Ao17, co17, eo17⟩ := Kd.R_slice HO385.out
          subst eo17
          obtain ⟨Ao18, co18, eo18⟩ := Kd.R_slice HO389.out
          subst eo18
          go_wp2_with (first | (go_at_call 22; (with_reducible refine (laws_sameInts.calls k _ _ t383 _ _ t387 false _ ?side1 ?side2 ?side3 ?side4 A13.out).mono ?_); (case side1 => exact Kd.C_below (Kd.R_reads' HO385.out).2.2 gs); (case side2 => exact (Kd.R_reads' HO385.out).2.1); (case side3 => exact Kd.C_below (Kd.R_reads' HO389.out).2.2 gs); (case side4 => exact (Kd.R_reads' HO389.out).2.1); rintro e w' ⟨rfl, ⟨nd, rfl⟩⟩))
          go_meet
          case rel => exact ⟨_, (true), (by first | rfl | (simp; done) | (simp [*]; done)), H', ⟨by first | omega | exact Nat.le_refl _⟩, ⟨by (with_reducible repeat (first | apply Kd.R_alloc | apply Kd.R_drewN | apply Kd.R_drew)); exact Kd.R_mono HO380.out (fun _ hk => ⟨hk.1.1, ⟨hk.1.2, hk.2⟩⟩)⟩, ⟨by (with_reducible repeat (first | apply Kd.R_alloc | apply Kd.R_drewN | apply Kd.R_drew)); exact Kd.R_mono HO382.out (fun _ hk => ⟨hk.1.1, ⟨hk.1.2, hk.2⟩⟩)⟩, ⟨by (with_reducible repeat (first | apply Kd.R_alloc | apply Kd.R_drewN | apply Kd.R_drew)); exact Kd.R_mono HO385.out (fun _ hk => ⟨hk.1.1.2, ⟨hk.1.2, hk.2⟩⟩)⟩, ⟨by (with_reducible repeat (first | apply Kd.R_alloc | apply Kd.R_drewN | apply Kd.R_drew)); exact Kd.R_mono HO389.out (fun _ hk => ⟨hk.1.1.2, ⟨hk.1.2, hk.2⟩⟩)⟩, ⟨by repeat (first | (with_reducible first | exact HB.out | apply below_alloc | apply pw_below_drewN | apply below_drew1) | exact HB.out)⟩⟩
    case rest =>
      clear HC6
      try clear c1
      try clear c2
      try clear c2b0
      try clear c2b1
      try clear p2
      try clear c3
      try clear c4
      try clear c12
      try clear c12b0
      try clear c12b1
      try clear c12b2
      try clear c13
      try clear c14
      obtain ⟨kq, x47_5, rfl, HA, HJ5, HO_4, HO_5, HO_6, HO_8, HB⟩ := hcut
      cases kq with
      | zero => exact absurd HA.out (by simp [laws_FnThrough.j0])
      | succ kj5 =>
        have H := HA.out
        clear HA
        simp only [laws_FnThrough.j0] at H
        by_cases c19 : x47_5 = true
        · subst c19
          have H1 : (if (t386 == t390) = true then ((laws_sameInts.f kj5 t383 t387).bind fun t392 => (some t392)) else (some false)) = some r := by rw [if_pos rfl] at H; exact H
          clear H
          have H := H1
          clear H1
          by_cases c20 : (t386 == t390) = true
          · rw [if_pos c20] at H
            have c20b0 : (t386 == t390) = true := c20
            (try (have c20b1 : decide (t386 = t390) = true := by simpa using c20))
            (try (have c20b2 : (t386 == t390) = true := by simpa using c20))
            clear c20
            replace H := Option.bind_eq_some_iff.mp H
            obtain ⟨t392, A210, H⟩ := H
            replace H : (some t392) = some r := H
            have A21 := Aside0.mk A210
            clear A210
            obtain rfl := Option.some.inj H
            obtain ⟨Ao22, co22, eo22⟩ := Kd.R_slice HO_6.out
            subst eo22
            obtain ⟨Ao23, co23, eo23⟩ := Kd.R_slice HO_8.out
            subst eo23
            go_wp2_with (first | (go_at_call 22; (with_reducible refine (laws_sameInts.calls kj5 _ _ t383 _ _ t387 t392 _ ?side1 ?side2 ?side3 ?side4 A21.out).mono ?_); (case side1 => exact Kd.C_below (Kd.R_reads' HO_6.out).2.2 gs); (case side2 => exact (Kd.R_reads' HO_6.out).2.1); (case side3 => exact Kd.C_below (Kd.R_reads' HO_8.out).2.2 gs); (case side4 => exact (Kd.R_reads' HO_8.out).2.1); rintro e w' ⟨rfl, ⟨nd, rfl⟩⟩))
            go_ret
            exact ⟨by first | rfl | (simp [errW_none, errW_some] <;> rfl) | (simp [*, errW_none, errW_some] <;> rfl), by repeat (first | (with_reducible first | exact HB.out | apply below_alloc | apply pw_below_drewN | apply below_drew1) | exact HB.out)⟩
          · rw [if_neg c20] at H
            have c20b0 : (t386 == t390) = false := by simpa using c20
            (try (have c20b1 : decide (t386 = t390) = false := by simpa using c20))
            (try (have c20b2 : (t386 == t390) = false := by simpa using c20))
            (try (have c20b3 : ¬ (t386 = t390) := by simpa using c20))
            clear c20
            exact absurd (H.trans (congrArg some HT.out)) (by simp)
        · replace c19 := Bool.eq_false_iff.mpr c19
          subst c19
          have H1 : ((impl_SpaceThrough.f kj5 t376 t378 t377).bind fun bt393 => (if bt393.2 = true then ((laws_sameInts.f kj5 bt393.1 t383).bind fun t397 => (if t397 = true then ((impl_SpaceIn.f kj5 t376 t383).bind fun t398 => (if t398 = true then ((impl_SpaceOn.f kj5 t376 t377 t383).bind fun t399 => (if t399 = true then ((impl_SpaceOn.f kj5 t376 t378 t383).bind fun t400 => (some t400)) else (some false))) else (some false))) else (some false))) else (some false))) = some r := by rw [if_neg (show ¬ (false = true) by decide)] at H; exact H
          clear H
          have H := H1
          clear H1
          replace H := Option.bind_eq_some_iff.mp H
          obtain ⟨⟨t393, t396⟩, A240, H⟩ := H
          replace H : (if t396 = true then ((laws_sameInts.f kj5 t393 t383).bind fun t397 => (if t397 = true then ((impl_SpaceIn.f kj5 t376 t383).bind fun t398 => (if t398 = true then ((impl_SpaceOn.f kj5 t376 t377 t383).bind fun t399 => (if t399 = true then ((impl_SpaceOn.f kj5 t376 t378 t383).bind fun t400 => (some t400)) else (some false))) else (some false))) else (some false))) else (some false)) = some r := H
          have A24 := Aside0.mk A240
          clear A240
          by_cases c25 : t396 = true
          · subst c25
            have H1 : ((laws_sameInts.f kj5 t393 t383).bind fun t397 => (if t397 = true then ((impl_SpaceIn.f kj5 t376 t383).bind fun t398 => (if t398 = true then ((impl_SpaceOn.f kj5 t376 t377 t383).bind fun t399 => (if t399 = true then ((impl_SpaceOn.f kj5 t376 t378 t383).bind fun t400 => (some t400)) else (some false))) else (some false))) else (some false))) = some r := by rw [if_pos rfl] at H; exact H
            clear H
            have H := H1
            clear H1
            replace H := Option.bind_eq_some_iff.mp H
            obtain ⟨t397, A260, H⟩ := H
            replace H : (if t397 = true then ((impl_SpaceIn.f kj5 t376 t383).bind fun t398 => (if t398 = true then ((impl_SpaceOn.f kj5 t376 t377 t383).bind fun t399 => (if t399 = true then ((impl_SpaceOn.f kj5 t376 t378 t383).bind fun t400 => (some t400)) else (some false))) else (some false))) else (some false)) = some r := H
            have A26 := Aside0.mk A260
            clear A260
            by_cases c27 : t397 = true
            · subst c27
              have H1 : ((impl_SpaceIn.f kj5 t376 t383).bind fun t398 => (if t398 = true then ((impl_SpaceOn.f kj5 t376 t377 t383).bind fun t399 => (if t399 = true then ((impl_SpaceOn.f kj5 t376 t378 t383).bind fun t400 => (some t400)) else (some false))) else (some false))) = some r := by rw [if_pos rfl] at H; exact H
              clear H
              have H := H1
              clear H1
              replace H := Option.bind_eq_some_iff.mp H
              obtain ⟨t398, A280, H⟩ := H
              replace H : (if t398 = true then ((impl_SpaceOn.f kj5 t376 t377 t383).bind fun t399 => (if t399 = true then ((impl_SpaceOn.f kj5 t376 t378 t383).bind fun t400 => (some t400)) else (some false))) else (some false)) = some r := H
              have A28 := Aside0.mk A280
              clear A280
              by_cases c29 : t398 = true
              · subst c29
                have H1 : ((impl_SpaceOn.f kj5 t376 t377 t383).bind fun t399 => (if t399 = true then ((impl_SpaceOn.f kj5 t376 t378 t383).bind fun t400 => (some t400)) else (some false))) = some r := by rw [if_pos rfl] at H; exact H
                clear H
                have H := H1
                clear H1
                replace H := Option.bind_eq_some_iff.mp H
                obtain ⟨t399, A300, H⟩ := H
                replace H : (if t399 = true then ((impl_SpaceOn.f kj5 t376 t378 t383).bind fun t400 => (some t400)) else (some false)) = some r := H
                have A30 := Aside0.mk A300
                clear A300
                by_cases c31 : t399 = true
                · subst c31
                  have H1 : ((impl_SpaceOn.f kj5 t376 t378 t383).bind fun t400 => (some t400)) = some r := by rw [if_pos rfl] at H; exact H
                  clear H
                  have H := H1
                  clear H1
                  replace H := Option.bind_eq_some_iff.mp H
                  obtain ⟨t400, A320, H⟩ := H
                  replace H : (some t400) = some r := H
                  have A32 := Aside0.mk A320
                  clear A320
                  obtain rfl := Option.some.inj H
                  go_wp2_with (first | ((with_reducible refine gate_callee (f := 36) rfl ?_); refine goesL_ (some 60) rfl rfl Try.func36 (by kernel_rfl) rfl #[.int .i64 t376, .slice Ao9 t378.length co9, .slice Ao8 t377.length co8] rfl (by (try simp only [List.map_toArray, List.map_cons, List.map_nil]); first | done | rfl | (simp only [List.length_drop, List.length_take]; rfl)) ?_; (with_reducible refine (impl_SpaceThrough.calls kj5 t376 (fun k_ => some k_ = (.slice Ao9 t378.length co9 : Value).ownBlock) _ _ t378 (fun k_ => some k_ = (.slice Ao8 t377.length co8 : Value).ownBlock) _ _ t377 t393 true _ ?side1 ?side2 A24.out).mono ?_); (case side1 => exact Kd.R_V (Kd.R_tight rfl (HO_5.out))); (case side2 => exact Kd.R_V (Kd.R_tight rfl (HO_4.out))); rintro e w33 ⟨v394, rfl, ho0, hb⟩; refine ⟨_, rfl, ?_⟩; have n0_ := Aside0.mk (Kd.R_elder' (by (with_reducible repeat (first | apply Kd.R_alloc | apply Kd.R_drewN | apply Kd.R_drew)); exact HO_4.out) (Kd.R_base ho0) hb); have n1_ := Aside0.mk (Kd.R_elder' (by (with_reducible repeat (first | apply Kd.R_alloc | apply Kd.R_drewN | apply Kd.R_drew)); exact HO_5.out) (Kd.R_base ho0) hb); have n2_ := Aside0.mk (Kd.R_elder' (by (with_reducible repeat (first | apply Kd.R_alloc | apply Kd.R_drewN | apply Kd.R_drew)); exact HO_6.out) (Kd.R_base ho0) hb); have n3_ := Aside0.mk (Kd.R_elder' (by (with_reducible repeat (first | apply Kd.R_alloc | apply Kd.R_drewN | apply Kd.R_drew)); exact HO_8.out) (Kd.R_base ho0) hb); have n4_ := Aside0.mk (Kd.R_lower (Kd.R_new' (Kd.R_new' (Kd.R_new' (Kd.R_new' (Kd.R_mono (ok' := fun k_ => True) ho0 (fun _ hk_ => trivial)) (Kd.R_lt (by (with_reducible repeat (first | apply Kd.R_alloc | apply Kd.R_drewN | apply Kd.R_drew)); exact HO_4.out))) (Kd.R_lt (by (with_reducible repeat (first | apply Kd.R_alloc | apply Kd.R_drewN | apply Kd.R_drew)); exact HO_5.out))) (Kd.R_lt (by (with_reducible repeat (first | apply Kd.R_alloc | apply Kd.R_drewN | apply Kd.R_drew)); exact HO_6.out))) (Kd.R_lt (by (with_reducible repeat (first | apply Kd.R_alloc | apply Kd.R_drewN | apply Kd.R_drew)); exact HO_8.out))) (below_size (bb HB.out))); have n5_ := Aside0.mk (below_step (bb HB.out) hb); clear HO_4; clear HO_5; clear HO_6; clear HO_8; clear HB; have HO_4 := n0_; have HO_5 := n1_; have HO_6 := n2_; have HO_8 := n3_; have HO395 := n4_; have HB := n5_; clear n0_ n1_ n2_ n3_ n4_ n5_; (try clear hb); (try clear hb2); (try clear hk); (try clear hi); (try clear ho0); obtain ⟨Ao34, co34, eo34⟩ := Kd.R_slice HO395.out; subst eo34; obtain ⟨Ao35, co35, eo35⟩ := Kd.R_slice HO_6.out; subst eo35) | (go_at_call 22; (with_reducible refine (laws_sameInts.calls kj5 _ _ t393 _ _ t383 true _ ?side1 ?side2 ?side3 ?side4 A26.out).mono ?_); (case side1 => exact Kd.C_below (Kd.R_reads' HO395.out).2.2 gs); (case side2 => exact (Kd.R_reads' HO395.out).2.1); (case side3 => exact Kd.C_below (Kd.R_reads' HO_6.out).2.2 gs); (case side4 => exact (Kd.R_reads' HO_6.out).2.1); rintro e w' ⟨rfl, ⟨nd, rfl⟩⟩) | (go_at_call 32; (with_reducible refine (impl_SpaceIn.calls kj5 t376 _ _ t383 true _ ?side1 ?side2 A28.out).mono ?_); (case side1 => exact Kd.C_below (Kd.R_reads' HO_6.out).2.2 gs); (case side2 => exact (Kd.R_reads' HO_6.out).2.1); rintro e w36 ⟨rfl, hb⟩; have n0_ := Aside0.mk (Kd.R_below (by (with_reducible repeat (first | apply Kd.R_alloc | apply Kd.R_drewN | apply Kd.R_drew)); exact HO_4.out) hb); have n1_ := Aside0.mk (Kd.R_below (by (with_reducible repeat (first | apply Kd.R_alloc | apply Kd.R_drewN | apply Kd.R_drew)); exact HO_5.out) hb); have n2_ := Aside0.mk (Kd.R_below (by (with_reducible repeat (first | apply Kd.R_alloc | apply Kd.R_drewN | apply Kd.R_drew)); exact HO_6.out) hb); have n3_ := Aside0.mk (Kd.R_below (by (with_reducible repeat (first | apply Kd.R_alloc | apply Kd.R_drewN | apply Kd.R_drew)); exact HO_8.out) hb); have n4_ := Aside0.mk (Kd.R_below (Kd.R_below HO395.out gs) hb); have n5_ := Aside0.mk (below_step (bb HB.out) hb); clear HO_4; clear HO_5; clear HO_6; clear HO_8; clear HO395; clear HB; have HO_4 := n0_; have HO_5 := n1_; have HO_6 := n2_; have HO_8 := n3_; have HO395 := n4_; have HB := n5_; clear n0_ n1_ n2_ n3_ n4_ n5_; (try clear hb); (try clear hb2); (try clear hk); (try clear hi)) | (go_at_call 40; (with_reducible refine (impl_SpaceOn.calls kj5 t376 _ _ t377 _ _ t383 true _ ?side1 ?side2 ?side3 ?side4 A30.out).mono ?_); (case side1 => exact Kd.C_below (Kd.R_reads' HO_4.out).2.2 gs); (case side2 => exact (Kd.R_reads' HO_4.out).2.1); (case side3 => exact Kd.C_below (Kd.R_reads' HO_6.out).2.2 gs); (case side4 => exact (Kd.R_reads' HO_6.out).2.1); rintro e w37 ⟨rfl, hb⟩; have n0_ := Aside0.mk (Kd.R_below (by (with_reducible repeat (first | apply Kd.R_alloc | apply Kd.R_drewN | apply Kd.R_drew)); exact HO_4.out) hb); have n1_ := Aside0.mk (Kd.R_below (by (with_reducible repeat (first | apply Kd.R_alloc | apply Kd.R_drewN | apply Kd.R_drew)); exact HO_5.out) hb); have n2_ := Aside0.mk (Kd.R_below (by (with_reducible repeat (first | apply Kd.R_alloc | apply Kd.R_drewN | apply Kd.R_drew)); exact HO_6.out) hb); have n3_ := Aside0.mk (Kd.R_below (by (with_reducible repeat (first | apply Kd.R_alloc | apply Kd.R_drewN | apply Kd.R_drew)); exact HO_8.out) hb); have n4_ := Aside0.mk (Kd.R_below (Kd.R_below HO395.out gs) hb); have n5_ := Aside0.mk (below_step (bb HB.out) hb); clear HO_4; clear HO_5; clear HO_6; clear HO_8; clear HO395; clear HB; have HO_4 := n0_; have HO_5 := n1_; have HO_6 := n2_; have HO_8 := n3_; have HO395 := n4_; have HB := n5_; clear n0_ n1_ n2_ n3_ n4_ n5_; (try clear hb); (try clear hb2); (try clear hk); (try clear hi)) | (go_at_call 40; (with_reducible refine (impl_SpaceOn.calls kj5 t376 _ _ t378 _ _ t383 t400 _ ?side1 ?side2 ?side3 ?side4 A32.out).mono ?_); (case side1 => exact Kd.C_below (Kd.R_reads' HO_5.out).2.2 gs); (case side2 => exact (Kd.R_reads' HO_5.out).2.1); (case side3 => exact Kd.C_below (Kd.R_reads' HO_6.out).2.2 gs); (case side4 => exact (Kd.R_reads' HO_6.out).2.1); rintro e w38 ⟨rfl, hb⟩; have n0_ := Aside0.mk (Kd.R_below (by (with_reducible repeat (first | apply Kd.R_alloc | apply Kd.R_drewN | apply Kd.R_drew)); exact HO_4.out) hb); have n1_ := Aside0.mk (Kd.R_below (by (with_reducible repeat (first | apply Kd.R_alloc | apply Kd.R_drewN | apply Kd.R_drew)); exact HO_5.out) hb); have n2_ := Aside0.mk (Kd.R_below (by (with_reducible repeat (first | apply Kd.R_alloc | apply Kd.R_drewN | apply Kd.R_drew)); exact HO_6.out) hb); have n3_ := Aside0.mk (Kd.R_below (by (with_reducible repeat (first | apply Kd.R_alloc | apply Kd.R_drewN | apply Kd.R_drew)); exact HO_8.out) hb); have n4_ := Aside0.mk (Kd.R_below (Kd.R_below HO395.out gs) hb); have n5_ := Aside0.mk (below_step (bb HB.out) hb); clear HO_4; clear HO_5; clear HO_6; clear HO_8; clear HO395; clear HB; have HO_4 := n0_; have HO_5 := n1_; have HO_6 := n2_; have HO_8 := n3_; have HO395 := n4_; have HB := n5_; clear n0_ n1_ n2_ n3_ n4_ n5_; (try clear hb); (try clear hb2); (try clear hk); (try clear hi)))
                  go_ret
                  exact ⟨by first | rfl | (simp [errW_none, errW_some] <;> rfl) | (simp [*, errW_none, errW_some] <;> rfl), by repeat (first | (with_reducible first | exact HB.out | apply below_alloc | apply pw_below_drewN | apply below_drew1) | exact HB.out)⟩
                · replace c31 := Bool.eq_false_iff.mpr c31
                  subst c31
                  have H1 : (some false) = some r := by rw [if_neg (show ¬ (false = true) by decide)] at H; exact H
                  clear H
                  have H := H1
                  clear H1
                  exact absurd (H.trans (congrArg some HT.out)) (by simp)
              · replace c29 := Bool.eq_false_iff.mpr c29
                subst c29
                have H1 : (some false) = some r := by rw [if_neg (show ¬ (false = true) by decide)] at H; exact H
                clear H
                have H := H1
                clear H1
                exact absurd (H.trans (congrArg some HT.out)) (by simp)
            · replace c27 := Bool.eq_false_iff.mpr c27
              subst c27
              have H1 : (some false) = some r := by rw [if_neg (show ¬ (false = true) by decide)] at H; exact H
              clear H
              have H := H1
              clear H1
              exact absurd (H.trans (congrArg some HT.out)) (by simp)
          · replace c25 := Bool.eq_false_iff.mpr c25
            subst c25
            have H1 : (some false) = some r := by rw [if_neg (show ¬ (false = true) by decide)] at H; exact H
            clear H
            have H := H1
            clear H1
            exact absurd (H.trans (congrArg some HT.out)) (by simp)

/-- THE ONE PURE STATEMENT of laws_FnThrough: yours. -/
def laws_FnThrough.Pure : Prop := ∀ (l0 : List Int), l0.length ≤ maxLen → l0.length * 1 ≤ 140737488351232 → (∀ x ∈ l0, (Lit.int .u8 x).wf = true) → ∃ k, laws_FnThrough.f k l0 = some true
theorem laws_FnThrough.walk (P : laws_FnThrough.Pure) (a0 : Option Addr) (len0 cap0 : Nat) (z0 : List Int) (w : World) (w0 : (a0 = none ∧ len0 = 0 ∧ cap0 = 0 ∧ z0 = []) ∨ ∃ x, a0 = some x ∧ len0 ≤ cap0 ∧ cap0 ≤ maxLen ∧ z0.length = cap0 ∧ (∀ i, i < z0.length → w.cell? (x.add i) = some (.int .u8 (z0.getD i 0))) ∧ ∀ n ∈ z0, (Lit.int .u8 n).wf = true) (y0 : len0 * 1 ≤ 140737488351232) :
    Calls Try.prog 13 #[.slice a0 len0 cap0] w fun e w' => e = .returned (.bool true) ∧ Below w.heap.size w w' := by
  obtain ⟨l0, rfl, hr0, hm0, hw0, hc0⟩ := ReadsInt.ofRowC w0
  obtain ⟨k, h⟩ := P l0 hm0 y0 hw0
  refine (laws_FnThrough.calls k _ _ l0 true w (Kd.C_of_reads (d := (0 : Int)) (h1 := fun _ => rfl) hr0) hc0 rfl h).mono ?_
  rintro e w' ⟨rfl, hd⟩
  exact ⟨rfl, hd⟩

end Go.Proofs.Ytdgopdbmbaiddaa.PA

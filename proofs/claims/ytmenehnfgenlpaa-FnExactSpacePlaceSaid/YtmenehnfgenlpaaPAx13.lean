-- Written by xprint.py, a program of this claim's own (over the kit's print.py)
import Derived.Test.YtmenehnfgenlpaaPAx0
import Derived.Test.YtmenehnfgenlpaaPAx6
import Derived.Test.YtmenehnfgenlpaaPAx7
import Derived.Test.YtmenehnfgenlpaaPAx12
import Derived.Deep.Cut
namespace Go.Proofs.Ytmenehnfgenlpaa.PA
open Go.RowKit Go.Proofs.YtmenehnfgenlpaaW.PrintWords Go.Proofs.YtmenehnfgenlpaaW.PrintLast Go.Proofs.YtmenehnfgenlpaaW.PrintMore
attribute [local go_sem] max2_int min2_int max_two min_two max_three min_three max_four min_four   -- for this text's walks alone
set_option linter.unusedVariables false
set_option linter.unusedSimpArgs false

/-! ### laws_FnExactSpacePlace: function 3 -/
mutual
def laws_FnExactSpacePlace.j0 : Nat → Int → List Int → List Int → List Int → Bool → List Int → List Int → List Int → Bool → Bool → Option (Bool)
 | 0, _, _, _, _, _, _, _, _, _, _ => none
 | k + 1, x0, x1, x2, x7, x8, x9, x10, x11, x12, x52 => if x52 = true then (some false) else ((laws_toIntS.f k x1).bind fun t405 => ((laws_eqIntS.f k x9 t405).bind fun t408 => (if t408 = true then ((laws_toIntS.f k x2).bind fun t409 => ((laws_eqIntS.f k x10 t409).bind fun t412 => (if t412 = true then ((laws_markIntS.f k x9 1).bind fun bt413 => ((laws_markIntS.f k x10 bt413.1).bind fun bt415 => (if bt415.1 < 0 then (laws_FnExactSpacePlace.j1 k x0 x1 x2 x7 x8 x11 true) else ((laws_eqIntS.f k x11 x7).bind fun t417 => (if t417 = true then (laws_FnExactSpacePlace.j1 k x0 x1 x2 x7 x8 x11 (x12 != x8)) else (laws_FnExactSpacePlace.j1 k x0 x1 x2 x7 x8 x11 true)))))) else (some false)))) else (some false))))
def laws_FnExactSpacePlace.j1 : Nat → Int → List Int → List Int → List Int → Bool → List Int → Bool → Option (Bool)
 | 0, _, _, _, _, _, _, _ => none
 | k + 1, x0, x1, x2, x7, x8, x11, x81 => if x81 = true then (some false) else ((laws_markIntS.f k x11 1).bind fun bt418 => ((laws_heldIntS.f k bt418.2 1).bind fun t420 => (if t420 < 0 then (some false) else (if t420 = bt418.1 then ((laws_toIntS.f k x1).bind fun t421 => ((laws_toIntS.f k x2).bind fun t424 => ((impl_SpacePlace.f k x0 t421 t424).bind fun bt427 => ((laws_eqIntS.f k bt427.1 x7).bind fun t431 => (if t431 = true then (laws_FnExactSpacePlace.j2 k bt418.2 bt418.1 (bt427.2 != x8)) else (laws_FnExactSpacePlace.j2 k bt418.2 bt418.1 true)))))) else (some false)))))
def laws_FnExactSpacePlace.j2 : Nat → List Int → Int → Bool → Option (Bool)
 | 0, _, _, _ => none
 | k + 1, x11, x14, x110 => if x110 = true then (some false) else ((laws_heldIntS.f k x11 1).bind fun t432 => (if t432 < 0 then (some false) else (if t432 = x14 then (some true) else (some false))))
end
def laws_FnExactSpacePlace.f (k : Nat) (a0 : Int) (l1 : List Int) (l2 : List Int) : Option (Bool) := if (l1.length : Int) > 1048576 then (some true) else (if (l2.length : Int) > 1048576 then (some true) else ((laws_toIntS.f k l1).bind fun t384 => ((laws_toIntS.f k l2).bind fun t387 => ((spec_SpacePlace.f k a0 t384 t387).bind fun bt390 => ((laws_toIntS.f k l1).bind fun t394 => ((laws_toIntS.f k l2).bind fun t397 => ((impl_SpacePlace.f k a0 t394 t397).bind fun bt400 => ((laws_eqIntS.f k bt400.1 bt390.1).bind fun t404 => (if t404 = true then (laws_FnExactSpacePlace.j0 k a0 l1 l2 bt390.1 bt390.2 t394 t397 bt400.1 bt400.2 (bt400.2 != bt390.2)) else (laws_FnExactSpacePlace.j0 k a0 l1 l2 bt390.1 bt390.2 t394 t397 bt400.1 bt400.2 true))))))))))
theorem laws_FnExactSpacePlace.mono_l : ∀ k, (∀ y0 y1 y2 y3 y4 y5 y6 y7 y8 y9, LeO (laws_FnExactSpacePlace.j0 k y0 y1 y2 y3 y4 y5 y6 y7 y8 y9) (laws_FnExactSpacePlace.j0 (k + 1) y0 y1 y2 y3 y4 y5 y6 y7 y8 y9)) ∧ (∀ y0 y1 y2 y3 y4 y5 y6, LeO (laws_FnExactSpacePlace.j1 k y0 y1 y2 y3 y4 y5 y6) (laws_FnExactSpacePlace.j1 (k + 1) y0 y1 y2 y3 y4 y5 y6)) ∧ (∀ y0 y1 y2, LeO (laws_FnExactSpacePlace.j2 k y0 y1 y2) (laws_FnExactSpacePlace.j2 (k + 1) y0 y1 y2))
 | 0 => ⟨fun _ _ _ _ _ _ _ _ _ _ r h => by simp [laws_FnExactSpacePlace.j0] at h, fun _ _ _ _ _ _ _ r h => by simp [laws_FnExactSpacePlace.j1] at h, fun _ _ _ r h => by simp [laws_FnExactSpacePlace.j2] at h⟩
 | k + 1 => by
  obtain ⟨ih0, ih1, ih2⟩ := laws_FnExactSpacePlace.mono_l k
  refine ⟨?_, ?_, ?_⟩
  ·intro y0 y1 y2 y3 y4 y5 y6 y7 y8 y9
   unfold laws_FnExactSpacePlace.j0
   repeat' first | (with_reducible first | apply ih0 | apply ih1 | apply ih2 | apply impl_SpacePlace.mono | apply laws_eqIntS.mono | apply laws_heldIntS.mono | apply laws_markIntS.mono | apply laws_toIntS.mono | apply spec_SpacePlace.mono | exact LeO.refl _ | exact LeO.none _ | refine LeO.ite ?_ ?_ | refine LeO.bind ?_ (fun _ => ?_)) | (first | apply ih0 | apply ih1 | apply ih2 | apply impl_SpacePlace.mono | apply laws_eqIntS.mono | apply laws_heldIntS.mono | apply laws_markIntS.mono | apply laws_toIntS.mono | apply spec_SpacePlace.mono | exact LeO.none _ | refine LeO.ite ?_ ?_ | refine LeO.bind ?_ (fun _ => ?_))
  ·intro y0 y1 y2 y3 y4 y5 y6
   unfold laws_FnExactSpacePlace.j1
   repeat' first | (with_reducible first | apply ih0 | apply ih1 | apply ih2 | apply impl_SpacePlace.mono | apply laws_eqIntS.mono | apply laws_heldIntS.mono | apply laws_markIntS.mono | apply laws_toIntS.mono | apply spec_SpacePlace.mono | exact LeO.refl _ | exact LeO.none _ | refine LeO.ite ?_ ?_ | refine LeO.bind ?_ (fun _ => ?_)) | (first | apply ih0 | apply ih1 | apply ih2 | apply impl_SpacePlace.mono | apply laws_eqIntS.mono | apply laws_heldIntS.mono | apply laws_markIntS.mono | apply laws_toIntS.mono | apply spec_SpacePlace.mono | exact LeO.none _ | refine LeO.ite ?_ ?_ | refine LeO.bind ?_ (fun _ => ?_))
  ·intro y0 y1 y2
   unfold laws_FnExactSpacePlace.j2
   repeat' first | (with_reducible first | apply ih0 | apply ih1 | apply ih2 | apply impl_SpacePlace.mono | apply laws_eqIntS.mono | apply laws_heldIntS.mono | apply laws_markIntS.mono | apply laws_toIntS.mono | apply spec_SpacePlace.mono | exact LeO.refl _ | exact LeO.none _ | refine LeO.ite ?_ ?_ | refine LeO.bind ?_ (fun _ => ?_)) | (first | apply ih0 | apply ih1 | apply ih2 | apply impl_SpacePlace.mono | apply laws_eqIntS.mono | apply laws_heldIntS.mono | apply laws_markIntS.mono | apply laws_toIntS.mono | apply spec_SpacePlace.mono | exact LeO.none _ | refine LeO.ite ?_ ?_ | refine LeO.bind ?_ (fun _ => ?_))
theorem laws_FnExactSpacePlace.mono : ∀ a0 a1 a2 k, LeO (laws_FnExactSpacePlace.f k a0 a1 a2) (laws_FnExactSpacePlace.f (k + 1) a0 a1 a2) := by
 intro a0 a1 a2 k
 obtain ⟨ih0, ih1, ih2⟩ := laws_FnExactSpacePlace.mono_l k
 unfold laws_FnExactSpacePlace.f
 repeat' first | (with_reducible first | apply ih0 | apply ih1 | apply ih2 | apply impl_SpacePlace.mono | apply laws_eqIntS.mono | apply laws_heldIntS.mono | apply laws_markIntS.mono | apply laws_toIntS.mono | apply spec_SpacePlace.mono | exact LeO.refl _ | exact LeO.none _ | refine LeO.ite ?_ ?_ | refine LeO.bind ?_ (fun _ => ?_)) | (first | apply ih0 | apply ih1 | apply ih2 | apply impl_SpacePlace.mono | apply laws_eqIntS.mono | apply laws_heldIntS.mono | apply laws_markIntS.mono | apply laws_toIntS.mono | apply spec_SpacePlace.mono | exact LeO.none _ | refine LeO.ite ?_ ?_ | refine LeO.bind ?_ (fun _ => ?_))
set_option maxHeartbeats 8000000 in
set_option maxRecDepth 100000 in
theorem laws_FnExactSpacePlace.calls (k : Nat) (a0 : Int) (A1 : Option Addr) (c1 : Nat) (l1 : List Int) (A2 : Option Addr) (c2 : Nat) (l2 : List Int) (r : Bool) (w : World) (hr1 : Kd.C (Kd.int .i64) w A1 l1.length l1) (hc1 : l1.length ≤ c1) (hr2 : Kd.C (Kd.int .i64) w A2 l2.length l2) (hc2 : l2.length ≤ c2) (hT : r = true) (h : laws_FnExactSpacePlace.f k a0 l1 l2 = some r) :
  Calls Try.prog 3 #[.int .i64 a0, .slice A1 l1.length c1, .slice A2 l2.length c2] w fun e w' => e = .returned (.bool r) ∧ Below w.heap.size w w' := by
 have HT := am hT
 clear hT
 have HR1 := am hr1
 have HC1 := am hc1
 clear hr1 hc1
 have HR2 := am hr2
 have HC2 := am hc2
 clear hr2 hc2
 have HB := am (Below.refl w.heap.size w)
 have H : (if (l1.length : Int) > 1048576 then (some true) else (if (l2.length : Int) > 1048576 then (some true) else ((laws_toIntS.f k l1).bind fun t384 => ((laws_toIntS.f k l2).bind fun t387 => ((spec_SpacePlace.f k a0 t384 t387).bind fun bt390 => ((laws_toIntS.f k l1).bind fun t394 => ((laws_toIntS.f k l2).bind fun t397 => ((impl_SpacePlace.f k a0 t394 t397).bind fun bt400 => ((laws_eqIntS.f k bt400.1 bt390.1).bind fun t404 => (if t404 = true then (laws_FnExactSpacePlace.j0 k a0 l1 l2 bt390.1 bt390.2 t394 t397 bt400.1 bt400.2 (bt400.2 != bt390.2)) else (laws_FnExactSpacePlace.j0 k a0 l1 l2 bt390.1 bt390.2 t394 t397 bt400.1 bt400.2 true))))))))))) = some r := h
 clear h
 by_cases c4 : (l1.length : Int) > 1048576
 ·rw [if_pos c4] at H
  have c4b0 := decide_eq_true c4
  have c4b1 : decide (1048576 < l1.length) = true := decide_eq_true (by omega)
  clear c4; obtain rfl := Option.some.inj H
  go_enter Try.func3, Try.ntmps3
  go_wp2; go_ret
  exact ⟨fq, bw HB⟩
 ·rw [if_neg c4] at H
  have c4b0 := decide_eq_false c4
  have c4b1 : decide (1048576 < l1.length) = false := decide_eq_false (by omega)
  clear c4
  by_cases c5 : (l2.length : Int) > 1048576
  ·rw [if_pos c5] at H
   have c5b0 := decide_eq_true c5
   have c5b1 : decide (1048576 < l2.length) = true := decide_eq_true (by omega)
   clear c5; obtain rfl := Option.some.inj H
   go_enter Try.func3, Try.ntmps3
   go_wp2; go_ret
   exact ⟨fq, bw HB⟩
  ·rw [if_neg c5] at H
   have c5b0 := decide_eq_false c5
   have c5b1 : decide (1048576 < l2.length) = false := decide_eq_false (by omega)
   clear c5; replace H := bs H; obtain ⟨t384, A6, H⟩ := H; replace H := bs H; obtain ⟨t387, A7, H⟩ := H; replace H := bs H
   obtain ⟨⟨t390, t391⟩, A8, H⟩ := H
   dsimp only at H
   replace H := bs H; obtain ⟨t394, A9, H⟩ := H; replace H := bs H; obtain ⟨t397, A10, H⟩ := H; replace H := bs H
   obtain ⟨⟨t400, t401⟩, A11, H⟩ := H
   dsimp only at H
   have HC12 := am H
   clear H
   go_enter Try.func3, Try.ntmps3
   go_upto_region 9 with (first | ((with_reducible refine gate_callee (f := 14) rfl ?_); refine gl 27 Try.func14 #[.slice A1 l1.length c1] ?_; (with_reducible refine (laws_toIntS.calls k _ _ l1 t384 _ ?_ ?_ A6.out).mono ?_); exact wC HR1; exact HC1.out; rintro e w13 ⟨v385, rfl, ho0, hb⟩; refine ⟨_, rfl, ?_⟩; have HO386 := am (Kd.R_lower ho0 (bz HB)); replace HB := bq HB hb; (try clear hb); (try clear ho0)) | ((with_reducible refine gate_callee (f := 14) rfl ?_); refine gl 29 Try.func14 #[.slice A2 l2.length c2] ?_; (with_reducible refine (laws_toIntS.calls k _ _ l2 t387 _ ?_ ?_ A7.out).mono ?_); exact Kd.C_below HR2.out (bw HB); exact HC2.out; rintro e w14 ⟨v388, rfl, ho0, hb⟩; refine ⟨_, rfl, ?_⟩; have HO389 := am (Kd.R_lower (Kd.R_new' ho0 (Kd.R_lt (wR HO386))) (bz HB)); replace HO386 := eR HO386 (Kd.R_base ho0) hb; replace HB := bq HB hb; (try clear hb); (try clear ho0); obtain ⟨Ao15, co15, eo15⟩ := Kd.R_slice HO386.out; subst eo15; obtain ⟨Ao16, co16, eo16⟩ := Kd.R_slice HO389.out; subst eo16) | ((with_reducible refine gate_callee (f := 13) rfl ?_); refine gl 30 Try.func13 #[.int .i64 a0, .slice Ao15 t384.length co15, .slice Ao16 t387.length co16] ?_; (with_reducible refine (spec_SpacePlace.calls k a0 _ _ t384 _ _ t387 t390 t391 _ ?_ ?_ ?_ ?_ A8.out).mono ?_); exact Kd.C_below (Kd.R_reads' HO386.out).2.2 gs; exact (Kd.R_reads' HO386.out).2.1; exact Kd.C_below (Kd.R_reads' HO389.out).2.2 gs; exact (Kd.R_reads' HO389.out).2.1; rintro e w17 ⟨v392, rfl, ho0, hb⟩; refine ⟨_, rfl, ?_⟩; have HO393 := am (Kd.R_lower (Kd.R_new' (Kd.R_new' ho0 (Kd.R_lt (wR HO386))) (Kd.R_lt (wR HO389))) (bz HB)); replace HO386 := eR HO386 (Kd.R_base ho0) hb; replace HO389 := eR HO389 (Kd.R_base ho0) hb; replace HB := bq HB hb; (try clear hb); (try clear ho0)) | ((with_reducible refine gate_callee (f := 14) rfl ?_); refine gl 34 Try.func14 #[.slice A1 l1.length c1] ?_; (with_reducible refine (laws_toIntS.calls k _ _ l1 t394 _ ?_ ?_ A9.out).mono ?_); exact Kd.C_below HR1.out (bw HB); exact HC1.out; rintro e w18 ⟨v395, rfl, ho0, hb⟩; refine ⟨_, rfl, ?_⟩; have HO396 := am (Kd.R_lower (Kd.R_new' (Kd.R_new' (Kd.R_new' ho0 (Kd.R_lt (wR HO386))) (Kd.R_lt (wR HO389))) (Kd.R_lt (wR HO393))) (bz HB)); replace HO386 := eR HO386 (Kd.R_base ho0) hb; replace HO389 := eR HO389 (Kd.R_base ho0) hb; replace HO393 := eR HO393 (Kd.R_base ho0) hb; replace HB := bq HB hb; (try clear hb); (try clear ho0)) | ((with_reducible refine gate_callee (f := 14) rfl ?_); refine gl 36 Try.func14 #[.slice A2 l2.length c2] ?_; (with_reducible refine (laws_toIntS.calls k _ _ l2 t397 _ ?_ ?_ A10.out).mono ?_); exact Kd.C_below HR2.out (bw HB); exact HC2.out; rintro e w19 ⟨v398, rfl, ho0, hb⟩; refine ⟨_, rfl, ?_⟩; have HO399 := am (Kd.R_lower (Kd.R_new' (Kd.R_new' (Kd.R_new' (Kd.R_new' ho0 (Kd.R_lt (wR HO386))) (Kd.R_lt (wR HO389))) (Kd.R_lt (wR HO393))) (Kd.R_lt (wR HO396))) (bz HB)); replace HO386 := eR HO386 (Kd.R_base ho0) hb; replace HO389 := eR HO389 (Kd.R_base ho0) hb; replace HO393 := eR HO393 (Kd.R_base ho0) hb; replace HO396 := eR HO396 (Kd.R_base ho0) hb; replace HB := bq HB hb; (try clear hb); (try clear ho0); obtain ⟨Ao20, co20, eo20⟩ := Kd.R_slice HO396.out; subst eo20; obtain ⟨Ao21, co21, eo21⟩ := Kd.R_slice HO399.out; subst eo21) | ((with_reducible refine gate_callee (f := 15) rfl ?_); refine gl 41 Try.func15 #[.int .i64 a0, .slice Ao20 t394.length co20, .slice Ao21 t397.length co21] ?_; (with_reducible refine (impl_SpacePlace.calls k a0 _ _ t394 _ _ t397 t400 t401 _ ?_ ?_ ?_ ?_ A11.out).mono ?_); exact Kd.C_below (Kd.R_reads' HO396.out).2.2 gs; exact (Kd.R_reads' HO396.out).2.1; exact Kd.C_below (Kd.R_reads' HO399.out).2.2 gs; exact (Kd.R_reads' HO399.out).2.1; rintro e w22 ⟨v402, rfl, ho0, hb⟩; refine ⟨_, rfl, ?_⟩; have HO403 := am (Kd.R_lower (Kd.R_new' (Kd.R_new' (Kd.R_new' (Kd.R_new' (Kd.R_new' ho0 (Kd.R_lt (wR HO386))) (Kd.R_lt (wR HO389))) (Kd.R_lt (wR HO393))) (Kd.R_lt (wR HO396))) (Kd.R_lt (wR HO399))) (bz HB)); replace HO386 := eR HO386 (Kd.R_base ho0) hb; replace HO389 := eR HO389 (Kd.R_base ho0) hb; replace HO393 := eR HO393 (Kd.R_base ho0) hb; replace HO396 := eR HO396 (Kd.R_base ho0) hb; replace HO399 := eR HO399 (Kd.R_base ho0) hb; replace HB := bq HB hb; (try clear hb); (try clear ho0)))
   (try simp only [Act.put, List.setIfInBounds_toArray, List.set_cons_zero, List.set_cons_succ])
   go_cut [52] (fun v52 wc => ∃ (kq : Nat) (x52_11 : Bool), v52 = .bool x52_11 ∧ Aside0 (laws_FnExactSpacePlace.j0 kq a0 l1 l2 t390 t391 t394 t397 t400 t401 x52_11 = some r) ∧ Aside0 (kq ≤ k) ∧ Aside0 (Kd.R (Kd.int .i64) 3 wc w.heap.size (fun k_ => some k_ ≠ ((.slice Ao20 t394.length co20) : Value).ownBlock ∧ some k_ ≠ ((.slice Ao21 t397.length co21) : Value).ownBlock ∧ some k_ ≠ (v402 : Value).ownBlock) v392 t390) ∧ Aside0 (Kd.R (Kd.int .i64) 3 wc w.heap.size (fun k_ => some k_ ≠ (v392 : Value).ownBlock ∧ some k_ ≠ ((.slice Ao21 t397.length co21) : Value).ownBlock ∧ some k_ ≠ (v402 : Value).ownBlock) (.slice Ao20 t394.length co20) t394) ∧ Aside0 (Kd.R (Kd.int .i64) 3 wc w.heap.size (fun k_ => some k_ ≠ (v392 : Value).ownBlock ∧ some k_ ≠ ((.slice Ao20 t394.length co20) : Value).ownBlock ∧ some k_ ≠ (v402 : Value).ownBlock) (.slice Ao21 t397.length co21) t397) ∧ Aside0 (Kd.R (Kd.int .i64) 3 wc w.heap.size (fun k_ => some k_ ≠ (v392 : Value).ownBlock ∧ some k_ ≠ ((.slice Ao20 t394.length co20) : Value).ownBlock ∧ some k_ ≠ ((.slice Ao21 t397.length co21) : Value).ownBlock) v402 t400) ∧ Aside0 (Below w.heap.size w wc))
   case first =>
    have H := HC12.out
    clear HC12; replace H := bs H; obtain ⟨t404, A23, H⟩ := H
    by_cases c24 : t404 = true
    ·subst c24
     rw [if_pos rfl] at H
     have H' := am H; clear H
     obtain ⟨Ao25, co25, eo25⟩ := Kd.R_slice HO403.out
     subst eo25
     obtain ⟨Ao26, co26, eo26⟩ := Kd.R_slice HO393.out
     subst eo26
     go_wp2_with (first | ((with_reducible refine gate_callee (f := 16) rfl ?_); refine gl 46 Try.func16 #[.slice Ao25 t400.length co25, .slice Ao26 t390.length co26] ?_; (with_reducible refine (laws_eqIntS.calls k _ _ t400 _ _ t390 true _ ?_ ?_ ?_ ?_ A23.out).mono ?_); exact Kd.C_below (Kd.R_reads' HO403.out).2.2 gs; exact (Kd.R_reads' HO403.out).2.1; exact Kd.C_below (Kd.R_reads' HO393.out).2.2 gs; exact (Kd.R_reads' HO393.out).2.1; rintro e w' ⟨rfl, ⟨nd, rfl⟩⟩; refine ⟨_, rfl, ?_⟩))
     go_meet
     case rel => exact ⟨_, ((t401 != t391)), fr, H', ⟨by first | omega | exact Nat.le_refl _⟩, ⟨Kd.R_below (Kd.R_mono HO393.out (fun _ hk => ⟨hk.1.1.2, ⟨hk.1.2, hk.2⟩⟩)) gs⟩, ⟨Kd.R_below (Kd.R_mono HO396.out (fun _ hk => ⟨hk.1.1.2, ⟨hk.1.2, hk.2⟩⟩)) gs⟩, ⟨Kd.R_below (Kd.R_mono HO399.out (fun _ hk => ⟨hk.1.1.2, ⟨hk.1.2, hk.2⟩⟩)) gs⟩, ⟨Kd.R_below (Kd.R_mono HO403.out (fun _ hk => ⟨hk.1.1.2, ⟨hk.1.2, hk.2⟩⟩)) gs⟩, ⟨bw HB⟩⟩
    ·replace c24 := Bool.eq_false_iff.mpr c24
     subst c24
     rw [if_neg (show ¬ (false = true) by decide)] at H
     have H' := am H; clear H
     obtain ⟨Ao27, co27, eo27⟩ := Kd.R_slice HO403.out
     subst eo27
     obtain ⟨Ao28, co28, eo28⟩ := Kd.R_slice HO393.out
     subst eo28
     go_wp2_with (first | ((with_reducible refine gate_callee (f := 16) rfl ?_); refine gl 46 Try.func16 #[.slice Ao27 t400.length co27, .slice Ao28 t390.length co28] ?_; (with_reducible refine (laws_eqIntS.calls k _ _ t400 _ _ t390 false _ ?_ ?_ ?_ ?_ A23.out).mono ?_); exact Kd.C_below (Kd.R_reads' HO403.out).2.2 gs; exact (Kd.R_reads' HO403.out).2.1; exact Kd.C_below (Kd.R_reads' HO393.out).2.2 gs; exact (Kd.R_reads' HO393.out).2.1; rintro e w' ⟨rfl, ⟨nd, rfl⟩⟩; refine ⟨_, rfl, ?_⟩))
     go_meet
     case rel => exact ⟨_, (true), fr, H', ⟨by first | omega | exact Nat.le_refl _⟩, ⟨Kd.R_below (Kd.R_mono HO393.out (fun _ hk => ⟨hk.1.1.2, ⟨hk.1.2, hk.2⟩⟩)) gs⟩, ⟨Kd.R_below (Kd.R_mono HO396.out (fun _ hk => ⟨hk.1.1.2, ⟨hk.1.2, hk.2⟩⟩)) gs⟩, ⟨Kd.R_below (Kd.R_mono HO399.out (fun _ hk => ⟨hk.1.1.2, ⟨hk.1.2, hk.2⟩⟩)) gs⟩, ⟨Kd.R_below (Kd.R_mono HO403.out (fun _ hk => ⟨hk.1.1.2, ⟨hk.1.2, hk.2⟩⟩)) gs⟩, ⟨bw HB⟩⟩
   case rest =>
    clear HC12; try clear c1; try clear c2; try clear p2; try clear c3; try clear c4; try clear c4b0; try clear c4b1; try clear c5; try clear c5b0; try clear c5b1; try clear c13; try clear c14; try clear c15; try clear c16; try clear c24
    obtain ⟨kq, x52_11, rfl, HA, HJ11, HO_7, HO_9, HO_10, HO_11, HB⟩ := hcut
    cases kq with
    | zero => exact absurd HA.out (by simp [laws_FnExactSpacePlace.j0])
    | succ kj11 =>
     have H := HA.out; clear HA
     simp only [laws_FnExactSpacePlace.j0] at H
     by_cases c29 : x52_11 = true
     ·subst c29
      rw [if_pos rfl] at H
      exact absurd (H.trans (congrArg some HT.out)) (by simp)
     ·replace c29 := Bool.eq_false_iff.mpr c29
      subst c29
      rw [if_neg (show ¬ (false = true) by decide)] at H
      replace H := bs H; obtain ⟨t405, A30, H⟩ := H; replace H := bs H; obtain ⟨t408, A31, H⟩ := H
      by_cases c32 : t408 = true
      ·subst c32
       rw [if_pos rfl] at H
       replace H := bs H; obtain ⟨t409, A33, H⟩ := H; replace H := bs H; obtain ⟨t412, A34, H⟩ := H
       by_cases c35 : t412 = true
       ·subst c35
        rw [if_pos rfl] at H
        replace H := bs H
        obtain ⟨⟨t413, t414⟩, A36, H⟩ := H
        dsimp only at H
        replace H := bs H
        obtain ⟨⟨t415, t416⟩, A37, H⟩ := H
        dsimp only at H
        have HC38 := am H
        clear H
        go_upto_region 18 with (first | ((with_reducible refine gate_callee (f := 14) rfl ?_); refine gl 55 Try.func14 #[.slice A1 l1.length c1] ?_; (with_reducible refine (laws_toIntS.calls kj11 _ _ l1 t405 _ ?_ ?_ A30.out).mono ?_); exact Kd.C_below HR1.out (bw HB); exact HC1.out; rintro e w39 ⟨v406, rfl, ho0, hb⟩; refine ⟨_, rfl, ?_⟩; have HO407 := am (Kd.R_lower (Kd.R_new' (Kd.R_new' (Kd.R_new' (Kd.R_new' ho0 (Kd.R_lt (wR HO_7))) (Kd.R_lt (wR HO_9))) (Kd.R_lt (wR HO_10))) (Kd.R_lt (wR HO_11))) (bz HB)); replace HO_7 := eR HO_7 (Kd.R_base ho0) hb; replace HO_9 := eR HO_9 (Kd.R_base ho0) hb; replace HO_10 := eR HO_10 (Kd.R_base ho0) hb; replace HO_11 := eR HO_11 (Kd.R_base ho0) hb; replace HB := bq HB hb; (try clear hb); (try clear ho0); obtain ⟨Ao40, co40, eo40⟩ := Kd.R_slice HO407.out; subst eo40) | ((with_reducible refine gate_callee (f := 16) rfl ?_); refine gl 56 Try.func16 #[.slice Ao20 t394.length co20, .slice Ao40 t405.length co40] ?_; (with_reducible refine (laws_eqIntS.calls kj11 _ _ t394 _ _ t405 true _ ?_ ?_ ?_ ?_ A31.out).mono ?_); exact Kd.C_below (Kd.R_reads' HO_9.out).2.2 gs; exact (Kd.R_reads' HO_9.out).2.1; exact Kd.C_below (Kd.R_reads' HO407.out).2.2 gs; exact (Kd.R_reads' HO407.out).2.1; rintro e w' ⟨rfl, ⟨nd, rfl⟩⟩; refine ⟨_, rfl, ?_⟩) | ((with_reducible refine gate_callee (f := 14) rfl ?_); refine gl 60 Try.func14 #[.slice A2 l2.length c2] ?_; (with_reducible refine (laws_toIntS.calls kj11 _ _ l2 t409 _ ?_ ?_ A33.out).mono ?_); exact Kd.C_below HR2.out (bw HB); exact HC2.out; rintro e w41 ⟨v410, rfl, ho0, hb⟩; refine ⟨_, rfl, ?_⟩; have HO411 := am (Kd.R_lower (Kd.R_new' (Kd.R_new' (Kd.R_new' (Kd.R_new' (Kd.R_new' ho0 (Kd.R_lt (wR HO_7))) (Kd.R_lt (wR HO_9))) (Kd.R_lt (wR HO_10))) (Kd.R_lt (wR HO_11))) (Kd.R_lt (wR HO407))) (bz HB)); replace HO_7 := eR HO_7 (Kd.R_base ho0) hb; replace HO_9 := eR HO_9 (Kd.R_base ho0) hb; replace HO_10 := eR HO_10 (Kd.R_base ho0) hb; replace HO_11 := eR HO_11 (Kd.R_base ho0) hb; replace HO407 := eR HO407 (Kd.R_base ho0) hb; replace HB := bq HB hb; (try clear hb); (try clear ho0); obtain ⟨Ao42, co42, eo42⟩ := Kd.R_slice HO411.out; subst eo42) | ((with_reducible refine gate_callee (f := 16) rfl ?_); refine gl 61 Try.func16 #[.slice Ao21 t397.length co21, .slice Ao42 t409.length co42] ?_; (with_reducible refine (laws_eqIntS.calls kj11 _ _ t397 _ _ t409 true _ ?_ ?_ ?_ ?_ A34.out).mono ?_); exact Kd.C_below (Kd.R_reads' HO_10.out).2.2 gs; exact (Kd.R_reads' HO_10.out).2.1; exact Kd.C_below (Kd.R_reads' HO411.out).2.2 gs; exact (Kd.R_reads' HO411.out).2.1; rintro e w' ⟨rfl, ⟨nd, rfl⟩⟩; refine ⟨_, rfl, ?_⟩) | ((with_reducible refine gate_callee (f := 17) rfl ?_); refine gl 65 Try.func17 #[.slice Ao20 t394.length co20, .int .i64 1] ?_; (with_reducible refine (laws_markIntS.calls kj11 (fun k_ => some k_ = (.slice Ao20 t394.length co20 : Value).ownBlock) (.slice Ao20 t394.length co20) t394 1 t413 t414 w _ ?_ ?_ A36.out).mono ?_); (· repeat (first | (with_reducible first | exact HB.out | apply below_alloc | apply pw_below_drewN | apply below_drew1) | exact HB.out)); exact Kd.R_tight rfl HO_9.out; rintro e w43 ⟨rfl, hy0, hb, hkp⟩; refine ⟨_, rfl, ?_⟩; replace HO_7 := am (Kd.R_mono (ok' := fun k_ => some k_ ≠ (.slice Ao20 t394.length co20 : Value).ownBlock ∧ some k_ ≠ (.slice Ao21 t397.length co21 : Value).ownBlock ∧ some k_ ≠ (v402 : Value).ownBlock ∧ some k_ ≠ (.slice Ao40 t405.length co40 : Value).ownBlock ∧ some k_ ≠ (.slice Ao42 t409.length co42 : Value).ownBlock) (Kd.R_keptB (HO_7.out) hkp (fun k_ hk_ hs_ => (hk_.1.1.1) hs_)) (fun k_ hk_ => ⟨hk_.1.1.1.1, hk_.1.1.1.2.1, hk_.1.1.1.2.2, hk_.1.1.2, hk_.1.2⟩)); replace HO_9 := am (Kd.R_reok rfl hy0 (fun k_ e_ => HO_9.out.1 k_ e_)); replace HO_10 := am (Kd.R_mono (ok' := fun k_ => some k_ ≠ (v392 : Value).ownBlock ∧ some k_ ≠ (.slice Ao20 t394.length co20 : Value).ownBlock ∧ some k_ ≠ (v402 : Value).ownBlock ∧ some k_ ≠ (.slice Ao40 t405.length co40 : Value).ownBlock ∧ some k_ ≠ (.slice Ao42 t409.length co42 : Value).ownBlock) (Kd.R_keptB (HO_10.out) hkp (fun k_ hk_ hs_ => (hk_.1.1.2.1) hs_)) (fun k_ hk_ => ⟨hk_.1.1.1.1, hk_.1.1.1.2.1, hk_.1.1.1.2.2, hk_.1.1.2, hk_.1.2⟩)); replace HO_11 := am (Kd.R_mono (ok' := fun k_ => some k_ ≠ (v392 : Value).ownBlock ∧ some k_ ≠ (.slice Ao20 t394.length co20 : Value).ownBlock ∧ some k_ ≠ (.slice Ao21 t397.length co21 : Value).ownBlock ∧ some k_ ≠ (.slice Ao40 t405.length co40 : Value).ownBlock ∧ some k_ ≠ (.slice Ao42 t409.length co42 : Value).ownBlock) (Kd.R_keptB (HO_11.out) hkp (fun k_ hk_ hs_ => (hk_.1.1.2.1) hs_)) (fun k_ hk_ => ⟨hk_.1.1.1.1, hk_.1.1.1.2.1, hk_.1.1.1.2.2, hk_.1.1.2, hk_.1.2⟩)); replace HO407 := am (Kd.R_mono (ok' := fun k_ => some k_ ≠ (v392 : Value).ownBlock ∧ some k_ ≠ (.slice Ao20 t394.length co20 : Value).ownBlock ∧ some k_ ≠ (.slice Ao21 t397.length co21 : Value).ownBlock ∧ some k_ ≠ (v402 : Value).ownBlock ∧ some k_ ≠ (.slice Ao42 t409.length co42 : Value).ownBlock) (Kd.R_keptB (HO407.out) hkp (fun k_ hk_ hs_ => (hk_.1.1.1.2) hs_)) (fun k_ hk_ => ⟨hk_.1.1.1.1.1.2, hk_.1.1.1.1.2, hk_.1.1.1.2, hk_.1.1.2, hk_.1.2⟩)); replace HO411 := am (Kd.R_mono (ok' := fun k_ => some k_ ≠ (v392 : Value).ownBlock ∧ some k_ ≠ (.slice Ao20 t394.length co20 : Value).ownBlock ∧ some k_ ≠ (.slice Ao21 t397.length co21 : Value).ownBlock ∧ some k_ ≠ (v402 : Value).ownBlock ∧ some k_ ≠ (.slice Ao40 t405.length co40 : Value).ownBlock) (Kd.R_keptB (HO411.out) hkp (fun k_ hk_ hs_ => (hk_.1.1.1.2) hs_)) (fun k_ hk_ => ⟨hk_.1.1.1.1.1.2, hk_.1.1.1.1.2, hk_.1.1.1.2, hk_.1.1.2, hk_.1.2⟩)); replace HB := am (hb); (try clear hb); (try clear hkp); (try clear hy0)) | ((with_reducible refine gate_callee (f := 17) rfl ?_); refine gl 68 Try.func17 #[.slice Ao21 t397.length co21, .int .i64 t413] ?_; (with_reducible refine (laws_markIntS.calls kj11 (fun k_ => some k_ = (.slice Ao21 t397.length co21 : Value).ownBlock) (.slice Ao21 t397.length co21) t397 t413 t415 t416 w _ ?_ ?_ A37.out).mono ?_); (· repeat (first | (with_reducible first | exact HB.out | apply below_alloc | apply pw_below_drewN | apply below_drew1) | exact HB.out)); exact Kd.R_tight rfl HO_10.out; rintro e w44 ⟨rfl, hy0, hb, hkp⟩; refine ⟨_, rfl, ?_⟩; replace HO_7 := am (Kd.R_mono (ok' := fun k_ => some k_ ≠ (.slice Ao20 t394.length co20 : Value).ownBlock ∧ some k_ ≠ (.slice Ao21 t397.length co21 : Value).ownBlock ∧ some k_ ≠ (v402 : Value).ownBlock ∧ some k_ ≠ (.slice Ao40 t405.length co40 : Value).ownBlock ∧ some k_ ≠ (.slice Ao42 t409.length co42 : Value).ownBlock) (Kd.R_keptB (HO_7.out) hkp (fun k_ hk_ hs_ => (hk_.2.1) hs_)) (fun k_ hk_ => ⟨hk_.1.1, hk_.1.2.1, hk_.1.2.2.1, hk_.1.2.2.2.1, hk_.1.2.2.2.2⟩)); replace HO_9 := am (Kd.R_mono (ok' := fun k_ => some k_ ≠ (v392 : Value).ownBlock ∧ some k_ ≠ (.slice Ao21 t397.length co21 : Value).ownBlock ∧ some k_ ≠ (v402 : Value).ownBlock ∧ some k_ ≠ (.slice Ao40 t405.length co40 : Value).ownBlock ∧ some k_ ≠ (.slice Ao42 t409.length co42 : Value).ownBlock) (Kd.R_keptB (HO_9.out) hkp (fun k_ hk_ hs_ => (hk_.1.1.2.1) hs_)) (fun k_ hk_ => ⟨hk_.1.1.1.1, hk_.1.1.1.2.1, hk_.1.1.1.2.2, hk_.1.1.2, hk_.1.2⟩)); replace HO_10 := am (Kd.R_reok rfl hy0 (fun k_ e_ => HO_10.out.1 k_ e_)); replace HO_11 := am (Kd.R_mono (ok' := fun k_ => some k_ ≠ (v392 : Value).ownBlock ∧ some k_ ≠ (.slice Ao20 t394.length co20 : Value).ownBlock ∧ some k_ ≠ (.slice Ao21 t397.length co21 : Value).ownBlock ∧ some k_ ≠ (.slice Ao40 t405.length co40 : Value).ownBlock ∧ some k_ ≠ (.slice Ao42 t409.length co42 : Value).ownBlock) (Kd.R_keptB (HO_11.out) hkp (fun k_ hk_ hs_ => (hk_.2.2.1) hs_)) (fun k_ hk_ => ⟨hk_.1.1, hk_.1.2.1, hk_.1.2.2.1, hk_.1.2.2.2.1, hk_.1.2.2.2.2⟩)); replace HO407 := am (Kd.R_mono (ok' := fun k_ => some k_ ≠ (v392 : Value).ownBlock ∧ some k_ ≠ (.slice Ao20 t394.length co20 : Value).ownBlock ∧ some k_ ≠ (.slice Ao21 t397.length co21 : Value).ownBlock ∧ some k_ ≠ (v402 : Value).ownBlock ∧ some k_ ≠ (.slice Ao42 t409.length co42 : Value).ownBlock) (Kd.R_keptB (HO407.out) hkp (fun k_ hk_ hs_ => (hk_.2.2.1) hs_)) (fun k_ hk_ => ⟨hk_.1.1, hk_.1.2.1, hk_.1.2.2.1, hk_.1.2.2.2.1, hk_.1.2.2.2.2⟩)); replace HO411 := am (Kd.R_mono (ok' := fun k_ => some k_ ≠ (v392 : Value).ownBlock ∧ some k_ ≠ (.slice Ao20 t394.length co20 : Value).ownBlock ∧ some k_ ≠ (.slice Ao21 t397.length co21 : Value).ownBlock ∧ some k_ ≠ (v402 : Value).ownBlock ∧ some k_ ≠ (.slice Ao40 t405.length co40 : Value).ownBlock) (Kd.R_keptB (HO411.out) hkp (fun k_ hk_ hs_ => (hk_.2.2.1) hs_)) (fun k_ hk_ => ⟨hk_.1.1, hk_.1.2.1, hk_.1.2.2.1, hk_.1.2.2.2.1, hk_.1.2.2.2.2⟩)); replace HB := am (hb); (try clear hb); (try clear hkp); (try clear hy0)))
        (try simp only [Act.put, List.setIfInBounds_toArray, List.set_cons_zero, List.set_cons_succ])
        go_cut [81] (fun v81 wc => ∃ (kq : Nat) (x81_37 : Bool), v81 = .bool x81_37 ∧ Aside0 (laws_FnExactSpacePlace.j1 kq a0 l1 l2 t390 t391 t400 x81_37 = some r) ∧ Aside0 (kq ≤ kj11) ∧ Aside0 (Kd.R (Kd.int .i64) 3 wc w.heap.size (fun k_ => some k_ ≠ (v402 : Value).ownBlock) v392 t390) ∧ Aside0 (Kd.R (Kd.int .i64) 3 wc w.heap.size (fun k_ => some k_ ≠ (v392 : Value).ownBlock) v402 t400) ∧ Aside0 (Below w.heap.size w wc))
        case first =>
         have H := HC38.out
         clear HC38
         by_cases c45 : t415 < 0
         ·rw [if_pos c45] at H
          have c45b0 := decide_eq_true c45; clear c45
          (first | rw [c45b0] | (simp only [i64_w, i32_w]; rw [c45b0]) | skip)
          have H' := am H; clear H; go_wp2
          go_meet
          case rel => exact ⟨_, (true), fr, H', ⟨by have := HJ11.out; first | omega | exact Nat.le_refl _⟩, ⟨Kd.R_below (Kd.R_mono HO_7.out (fun _ hk => hk.2.2.1)) gs⟩, ⟨Kd.R_below (Kd.R_mono HO_11.out (fun _ hk => hk.1)) gs⟩, ⟨bw HB⟩⟩
         ·rw [if_neg c45] at H
          have c45b0 := decide_eq_false c45; clear c45
          (first | rw [c45b0] | (simp only [i64_w, i32_w]; rw [c45b0]) | skip)
          replace H := bs H; obtain ⟨t417, A46, H⟩ := H
          by_cases c47 : t417 = true
          ·subst c47
           rw [if_pos rfl] at H
           have H' := am H; clear H
           obtain ⟨Ao48, co48, eo48⟩ := Kd.R_slice HO_11.out
           subst eo48
           obtain ⟨Ao49, co49, eo49⟩ := Kd.R_slice HO_7.out
           subst eo49
           go_wp2_with (first | (go_at_call 16; (with_reducible refine (laws_eqIntS.calls kj11 _ _ t400 _ _ t390 true _ ?_ ?_ ?_ ?_ A46.out).mono ?_); exact Kd.C_below (Kd.R_reads' HO_11.out).2.2 gs; exact (Kd.R_reads' HO_11.out).2.1; exact Kd.C_below (Kd.R_reads' HO_7.out).2.2 gs; exact (Kd.R_reads' HO_7.out).2.1; rintro e w' ⟨rfl, ⟨nd, rfl⟩⟩))
           go_meet
           case rel => exact ⟨_, ((t401 != t391)), fr, H', ⟨by have := HJ11.out; first | omega | exact Nat.le_refl _⟩, ⟨Kd.R_below (Kd.R_mono HO_7.out (fun _ hk => hk.2.2.1)) gs⟩, ⟨Kd.R_below (Kd.R_mono HO_11.out (fun _ hk => hk.1)) gs⟩, ⟨bw HB⟩⟩
          ·replace c47 := Bool.eq_false_iff.mpr c47
           subst c47
           rw [if_neg (show ¬ (false = true) by decide)] at H
           have H' := am H; clear H
           obtain ⟨Ao50, co50, eo50⟩ := Kd.R_slice HO_11.out
           subst eo50
           obtain ⟨Ao51, co51, eo51⟩ := Kd.R_slice HO_7.out
           subst eo51
           go_wp2_with (first | (go_at_call 16; (with_reducible refine (laws_eqIntS.calls kj11 _ _ t400 _ _ t390 false _ ?_ ?_ ?_ ?_ A46.out).mono ?_); exact Kd.C_below (Kd.R_reads' HO_11.out).2.2 gs; exact (Kd.R_reads' HO_11.out).2.1; exact Kd.C_below (Kd.R_reads' HO_7.out).2.2 gs; exact (Kd.R_reads' HO_7.out).2.1; rintro e w' ⟨rfl, ⟨nd, rfl⟩⟩))
           go_meet
           case rel => exact ⟨_, (true), fr, H', ⟨by have := HJ11.out; first | omega | exact Nat.le_refl _⟩, ⟨Kd.R_below (Kd.R_mono HO_7.out (fun _ hk => hk.2.2.1)) gs⟩, ⟨Kd.R_below (Kd.R_mono HO_11.out (fun _ hk => hk.1)) gs⟩, ⟨bw HB⟩⟩
        case rest =>
         clear HC38; try clear c1; try clear c2; try clear p2; try clear c3; try clear c4; try clear c4b0; try clear c4b1; try clear c5; try clear c5b0; try clear c5b1; try clear c13; try clear c14; try clear c15; try clear c16; try clear c17; try clear c24
         try clear c29; try clear c32; try clear c35; try clear c45; try clear c45b0; try clear c47; try clear p2
         obtain ⟨kq, x81_37, rfl, HA, HJ37, HO_7, HO_11, HB⟩ := hcut
         cases kq with
         | zero => exact absurd HA.out (by simp [laws_FnExactSpacePlace.j1])
         | succ kj37 =>
          have H := HA.out; clear HA
          simp only [laws_FnExactSpacePlace.j1] at H
          by_cases c52 : x81_37 = true
          ·subst c52
           rw [if_pos rfl] at H
           exact absurd (H.trans (congrArg some HT.out)) (by simp)
          ·replace c52 := Bool.eq_false_iff.mpr c52
           subst c52
           rw [if_neg (show ¬ (false = true) by decide)] at H
           replace H := bs H
           obtain ⟨⟨t418, t419⟩, A53, H⟩ := H
           dsimp only at H
           replace H := bs H; obtain ⟨t420, A54, H⟩ := H
           by_cases c55 : t420 < 0
           ·rw [if_pos c55] at H
            have c55b0 := decide_eq_true c55; clear c55
            exact absurd (H.trans (congrArg some HT.out)) (by simp)
           ·rw [if_neg c55] at H
            have c55b0 := decide_eq_false c55; clear c55
            by_cases c56 : t420 = t418
            ·rw [if_pos c56] at H
             have c56b0 := beq_iff_eq.mpr c56; have c56b1 := bne_eq_false_iff_eq.mpr c56; clear c56; replace H := bs H; obtain ⟨t421, A57, H⟩ := H; replace H := bs H; obtain ⟨t424, A58, H⟩ := H; replace H := bs H
             obtain ⟨⟨t427, t428⟩, A59, H⟩ := H
             dsimp only at H
             have HC60 := am H
             clear H
             obtain ⟨Ao61, co61, eo61⟩ := Kd.R_slice HO_11.out
             subst eo61
             go_upto_region 29 with (first | ((with_reducible refine gate_callee (f := 17) rfl ?_); refine gl 84 Try.func17 #[.slice Ao61 t400.length co61, .int .i64 1] ?_; (with_reducible refine (laws_markIntS.calls kj37 (fun k_ => some k_ = (.slice Ao61 t400.length co61 : Value).ownBlock) (.slice Ao61 t400.length co61) t400 1 t418 t419 w _ ?_ ?_ A53.out).mono ?_); (· repeat (first | (with_reducible first | exact HB.out | apply below_alloc | apply pw_below_drewN | apply below_drew1) | exact HB.out)); exact Kd.R_tight rfl HO_11.out; rintro e w62 ⟨rfl, hy0, hb, hkp⟩; refine ⟨_, rfl, ?_⟩; replace HO_7 := am (Kd.R_mono (ok' := fun k_ => some k_ ≠ (.slice Ao61 t400.length co61 : Value).ownBlock) (Kd.R_keptB (HO_7.out) hkp (fun k_ hk_ hs_ => (hk_) hs_)) (fun k_ hk_ => hk_.1)); replace HO_11 := am (Kd.R_reok rfl hy0 (fun k_ e_ => HO_11.out.1 k_ e_)); replace HB := am (hb); (try clear hb); (try clear hkp); (try clear hy0)) | ((with_reducible refine gate_callee (f := 18) rfl ?_); refine gl 87 Try.func18 #[.slice Ao61 t419.length co61, .int .i64 1] ?_ (hargs := by (try simp only [List.map_toArray, List.map_cons, List.map_nil]); first | done | (rw [show t419.length = t400.length from (Kd.R_reads' HO_11.out).1.symm] <;> rfl) | rfl | (simp only [List.length_drop, List.length_take]; rfl)); (with_reducible refine (laws_heldIntS.calls kj37 _ _ t419 1 t420 _ ?_ ?_ A54.out).mono ?_); exact Kd.C_below (Kd.R_reads' HO_11.out).2.2 gs; (· rw [show t419.length = t400.length from (Kd.R_reads' HO_11.out).1.symm]; exact (Kd.R_reads' HO_11.out).2.1); rintro e w' ⟨rfl, ⟨nd, rfl⟩⟩; refine ⟨_, rfl, ?_⟩) | ((with_reducible refine gate_callee (f := 14) rfl ?_); refine gl 96 Try.func14 #[.slice A1 l1.length c1] ?_; (with_reducible refine (laws_toIntS.calls kj37 _ _ l1 t421 _ ?_ ?_ A57.out).mono ?_); exact Kd.C_below HR1.out (bw HB); exact HC1.out; rintro e w63 ⟨v422, rfl, ho0, hb⟩; refine ⟨_, rfl, ?_⟩; have HO423 := am (Kd.R_lower (Kd.R_new' (Kd.R_new' ho0 (Kd.R_lt (wR HO_7))) (Kd.R_lt (wR HO_11))) (bz HB)); replace HO_7 := eR HO_7 (Kd.R_base ho0) hb; replace HO_11 := eR HO_11 (Kd.R_base ho0) hb; replace HB := bq HB hb; (try clear hb); (try clear ho0)) | ((with_reducible refine gate_callee (f := 14) rfl ?_); refine gl 98 Try.func14 #[.slice A2 l2.length c2] ?_; (with_reducible refine (laws_toIntS.calls kj37 _ _ l2 t424 _ ?_ ?_ A58.out).mono ?_); exact Kd.C_below HR2.out (bw HB); exact HC2.out; rintro e w64 ⟨v425, rfl, ho0, hb⟩; refine ⟨_, rfl, ?_⟩; have HO426 := am (Kd.R_lower (Kd.R_new' (Kd.R_new' (Kd.R_new' ho0 (Kd.R_lt (wR HO_7))) (Kd.R_lt (wR HO_11))) (Kd.R_lt (wR HO423))) (bz HB)); replace HO_7 := eR HO_7 (Kd.R_base ho0) hb; replace HO_11 := eR HO_11 (Kd.R_base ho0) hb; replace HO423 := eR HO423 (Kd.R_base ho0) hb; replace HB := bq HB hb; (try clear hb); (try clear ho0); obtain ⟨Ao65, co65, eo65⟩ := Kd.R_slice HO423.out; subst eo65; obtain ⟨Ao66, co66, eo66⟩ := Kd.R_slice HO426.out; subst eo66) | ((with_reducible refine gate_callee (f := 15) rfl ?_); refine gl 99 Try.func15 #[.int .i64 a0, .slice Ao65 t421.length co65, .slice Ao66 t424.length co66] ?_; (with_reducible refine (impl_SpacePlace.calls kj37 a0 _ _ t421 _ _ t424 t427 t428 _ ?_ ?_ ?_ ?_ A59.out).mono ?_); exact Kd.C_below (Kd.R_reads' HO423.out).2.2 gs; exact (Kd.R_reads' HO423.out).2.1; exact Kd.C_below (Kd.R_reads' HO426.out).2.2 gs; exact (Kd.R_reads' HO426.out).2.1; rintro e w67 ⟨v429, rfl, ho0, hb⟩; refine ⟨_, rfl, ?_⟩; have HO430 := am (Kd.R_lower (Kd.R_new' (Kd.R_new' (Kd.R_new' (Kd.R_new' ho0 (Kd.R_lt (wR HO_7))) (Kd.R_lt (wR HO_11))) (Kd.R_lt (wR HO423))) (Kd.R_lt (wR HO426))) (bz HB)); replace HO_7 := eR HO_7 (Kd.R_base ho0) hb; replace HO_11 := eR HO_11 (Kd.R_base ho0) hb; replace HO423 := eR HO423 (Kd.R_base ho0) hb; replace HO426 := eR HO426 (Kd.R_base ho0) hb; replace HB := bq HB hb; (try clear hb); (try clear ho0)))
             (try simp only [Act.put, List.setIfInBounds_toArray, List.set_cons_zero, List.set_cons_succ])
             go_cut [110] (fun v110 wc => ∃ (kq : Nat) (x110_59 : Bool), v110 = .bool x110_59 ∧ Aside0 (laws_FnExactSpacePlace.j2 kq t419 t418 x110_59 = some r) ∧ Aside0 (kq ≤ kj37) ∧ Aside0 (Kd.R (Kd.int .i64) 3 wc w.heap.size (fun _ => True) (.slice Ao61 t400.length co61) t419) ∧ Aside0 (Below w.heap.size w wc))
             case first =>
              have H := HC60.out
              clear HC60; replace H := bs H; obtain ⟨t431, A68, H⟩ := H
              by_cases c69 : t431 = true
              ·subst c69
               rw [if_pos rfl] at H
               have H' := am H; clear H
               obtain ⟨Ao70, co70, eo70⟩ := Kd.R_slice HO430.out
               subst eo70
               obtain ⟨Ao71, co71, eo71⟩ := Kd.R_slice HO_7.out
               subst eo71
               go_wp2_with (first | ((with_reducible refine gate_callee (f := 16) rfl ?_); refine gl 104 Try.func16 #[.slice Ao70 t427.length co70, .slice Ao71 t390.length co71] ?_; (with_reducible refine (laws_eqIntS.calls kj37 _ _ t427 _ _ t390 true _ ?_ ?_ ?_ ?_ A68.out).mono ?_); exact Kd.C_below (Kd.R_reads' HO430.out).2.2 gs; exact (Kd.R_reads' HO430.out).2.1; exact Kd.C_below (Kd.R_reads' HO_7.out).2.2 gs; exact (Kd.R_reads' HO_7.out).2.1; rintro e w' ⟨rfl, ⟨nd, rfl⟩⟩; refine ⟨_, rfl, ?_⟩))
               go_meet
               case rel => exact ⟨_, ((t428 != t391)), fr, H', ⟨by have := HJ11.out; have := HJ37.out; first | omega | exact Nat.le_refl _⟩, ⟨Kd.R_below (Kd.R_mono HO_11.out (fun _ hk => trivial)) gs⟩, ⟨bw HB⟩⟩
              ·replace c69 := Bool.eq_false_iff.mpr c69
               subst c69
               rw [if_neg (show ¬ (false = true) by decide)] at H
               have H' := am H; clear H
               obtain ⟨Ao72, co72, eo72⟩ := Kd.R_slice HO430.out
               subst eo72
               obtain ⟨Ao73, co73, eo73⟩ := Kd.R_slice HO_7.out
               subst eo73
               go_wp2_with (first | ((with_reducible refine gate_callee (f := 16) rfl ?_); refine gl 104 Try.func16 #[.slice Ao72 t427.length co72, .slice Ao73 t390.length co73] ?_; (with_reducible refine (laws_eqIntS.calls kj37 _ _ t427 _ _ t390 false _ ?_ ?_ ?_ ?_ A68.out).mono ?_); exact Kd.C_below (Kd.R_reads' HO430.out).2.2 gs; exact (Kd.R_reads' HO430.out).2.1; exact Kd.C_below (Kd.R_reads' HO_7.out).2.2 gs; exact (Kd.R_reads' HO_7.out).2.1; rintro e w' ⟨rfl, ⟨nd, rfl⟩⟩; refine ⟨_, rfl, ?_⟩))
               go_meet
               case rel => exact ⟨_, (true), fr, H', ⟨by have := HJ11.out; have := HJ37.out; first | omega | exact Nat.le_refl _⟩, ⟨Kd.R_below (Kd.R_mono HO_11.out (fun _ hk => trivial)) gs⟩, ⟨bw HB⟩⟩
             case rest =>
              clear HC60; try clear c1; try clear c2; try clear p2; try clear c3; try clear c4; try clear c4b0; try clear c4b1; try clear c5; try clear c5b0; try clear c5b1; try clear c6; try clear c13; try clear c14; try clear c15; try clear c16; try clear c17
              try clear c18; try clear c24; try clear c29; try clear c32; try clear c35; try clear c45; try clear c45b0; try clear c47; try clear c52; try clear c55; try clear c55b0; try clear c56; try clear c56b0; try clear c56b1; try clear c69; try clear p2
              obtain ⟨kq, x110_59, rfl, HA, HJ59, HO_11, HB⟩ := hcut
              have hl11_59 := (Kd.R_reads' HO_11.out).1
              rw [hl11_59] at HO_11
              (try simp only [hl11_59])
              cases kq with
              | zero => exact absurd HA.out (by simp [laws_FnExactSpacePlace.j2])
              | succ kj59 =>
               have H := HA.out; clear HA
               simp only [laws_FnExactSpacePlace.j2] at H
               by_cases c74 : x110_59 = true
               ·subst c74
                rw [if_pos rfl] at H
                exact absurd (H.trans (congrArg some HT.out)) (by simp)
               ·replace c74 := Bool.eq_false_iff.mpr c74
                subst c74
                rw [if_neg (show ¬ (false = true) by decide)] at H
                replace H := bs H; obtain ⟨t432, A75, H⟩ := H
                by_cases c76 : t432 < 0
                ·rw [if_pos c76] at H
                 have c76b0 := decide_eq_true c76; clear c76
                 exact absurd (H.trans (congrArg some HT.out)) (by simp)
                ·rw [if_neg c76] at H
                 have c76b0 := decide_eq_false c76; clear c76
                 by_cases c77 : t432 = t418
                 ·rw [if_pos c77] at H
                  have c77b0 := beq_iff_eq.mpr c77; have c77b1 := bne_eq_false_iff_eq.mpr c77; clear c77; obtain rfl := Option.some.inj H
                  go_wp2_with (first | ((with_reducible refine gate_callee (f := 18) rfl ?_); refine gl 113 Try.func18 #[.slice Ao61 t419.length co61, .int .i64 1] ?_; (with_reducible refine (laws_heldIntS.calls kj59 _ _ t419 1 t432 _ ?_ ?_ A75.out).mono ?_); exact Kd.C_below (Kd.R_reads' HO_11.out).2.2 gs; exact (Kd.R_reads' HO_11.out).2.1; rintro e w' ⟨rfl, ⟨nd, rfl⟩⟩; refine ⟨_, rfl, ?_⟩))
                  go_ret
                  exact ⟨fq, bw HB⟩
                 ·rw [if_neg c77] at H
                  have c77b0 := beq_eq_false_iff_ne.mpr c77; have c77b1 := bne_iff_ne.mpr c77
                  exact absurd (H.trans (congrArg some HT.out)) (by simp)
            ·rw [if_neg c56] at H
             have c56b0 := beq_eq_false_iff_ne.mpr c56; have c56b1 := bne_iff_ne.mpr c56
             exact absurd (H.trans (congrArg some HT.out)) (by simp)
       ·replace c35 := Bool.eq_false_iff.mpr c35
        subst c35
        rw [if_neg (show ¬ (false = true) by decide)] at H
        exact absurd (H.trans (congrArg some HT.out)) (by simp)
      ·replace c32 := Bool.eq_false_iff.mpr c32
       subst c32
       rw [if_neg (show ¬ (false = true) by decide)] at H
       exact absurd (H.trans (congrArg some HT.out)) (by simp)
/-- THE ONE PURE STATEMENT of laws_FnExactSpacePlace: yours. -/
def laws_FnExactSpacePlace.Pure : Prop := ∀ (a0 : Int) (l1 : List Int) (l2 : List Int), (Lit.int .i64 a0).wf = true → l1.length ≤ maxLen → l1.length * 8 ≤ 140737488351232 → (∀ x ∈ l1, (Lit.int .i64 x).wf = true) → l2.length ≤ maxLen → l2.length * 8 ≤ 140737488351232 → (∀ x ∈ l2, (Lit.int .i64 x).wf = true) → ∃ k, laws_FnExactSpacePlace.f k a0 l1 l2 = some true
theorem laws_FnExactSpacePlace.walk (P : laws_FnExactSpacePlace.Pure) (a0 : Int) (a1 : Option Addr) (len1 cap1 : Nat) (z1 : List Int) (a2 : Option Addr) (len2 cap2 : Nat) (z2 : List Int) (w : World) (w0 : (Lit.int .i64 a0).wf = true) (w1 : (a1 = none ∧ len1 = 0 ∧ cap1 = 0 ∧ z1 = []) ∨ ∃ x, a1 = some x ∧ len1 ≤ cap1 ∧ cap1 ≤ maxLen ∧ z1.length = cap1 ∧ (∀ i, i < z1.length → w.cell? (x.add i) = some (.int .i64 (z1.getD i 0))) ∧ ∀ n ∈ z1, (Lit.int .i64 n).wf = true) (y1 : len1 * 8 ≤ 140737488351232) (w2 : (a2 = none ∧ len2 = 0 ∧ cap2 = 0 ∧ z2 = []) ∨ ∃ x, a2 = some x ∧ len2 ≤ cap2 ∧ cap2 ≤ maxLen ∧ z2.length = cap2 ∧ (∀ i, i < z2.length → w.cell? (x.add i) = some (.int .i64 (z2.getD i 0))) ∧ ∀ n ∈ z2, (Lit.int .i64 n).wf = true) (y2 : len2 * 8 ≤ 140737488351232) :
  Calls Try.prog 3 #[.int .i64 a0, .slice a1 len1 cap1, .slice a2 len2 cap2] w fun e w' => e = .returned (.bool true) ∧ Below w.heap.size w w' := by
 obtain ⟨l1, rfl, hr1, hm1, hw1, hc1⟩ := ReadsInt.ofRowC w1
 obtain ⟨l2, rfl, hr2, hm2, hw2, hc2⟩ := ReadsInt.ofRowC w2
 obtain ⟨k, h⟩ := P a0 l1 l2 w0 hm1 y1 hw1 hm2 y2 hw2
 refine (laws_FnExactSpacePlace.calls k a0 _ _ l1 _ _ l2 true w (Kd.C_of_reads (d := (0 : Int)) (h1 := fun _ => rfl) hr1) hc1 (Kd.C_of_reads (d := (0 : Int)) (h1 := fun _ => rfl) hr2) hc2 rfl h).mono ?_
 rintro e w' ⟨rfl, hd⟩
 exact ⟨rfl, hd⟩
end Go.Proofs.Ytmenehnfgenlpaa.PA

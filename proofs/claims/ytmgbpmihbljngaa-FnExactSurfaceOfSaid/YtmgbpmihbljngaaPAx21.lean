-- Written by xprint.py, a program of this claim's own (over the kit's print.py)
import Derived.Test.YtmgbpmihbljngaaPAx0
import Derived.Test.YtmgbpmihbljngaaPAx1
import Derived.Test.YtmgbpmihbljngaaPAx12
import Derived.Test.YtmgbpmihbljngaaPAx19
import Derived.Test.YtmgbpmihbljngaaPAx20
import Derived.Deep.Cut
namespace Go.Proofs.Ytmgbpmihbljngaa.PA
open Go.RowKit Go.Proofs.YtmgbpmihbljngaaW.PrintWords Go.Proofs.YtmgbpmihbljngaaW.PrintLast Go.Proofs.YtmgbpmihbljngaaW.PrintMore
attribute [local go_sem] max2_int min2_int max_two min_two max_three min_three max_four min_four   -- for this text's walks alone
set_option linter.unusedVariables false
set_option linter.unusedSimpArgs false

/-! ### laws_heldIntS: function 27 -/
def laws_heldIntS.l0 : Nat → List Int → Int → Int → Option (Int)
 | 0, _, _, _ => none
 | k + 1, x0, x1, x5 => if x5 < (x0.length : Int) then (if 0 ≤ x5 then (if (rd x0 x5) = x1 then (laws_heldIntS.l0 k x0 (wrap64 (x1 + 1)) (wrap64 (x5 + 1))) else (some (-1))) else (none)) else (some x1)
def laws_heldIntS.f (k : Nat) (l0 : List Int) (a1 : Int) : Option (Int) := laws_heldIntS.l0 k l0 a1 0
theorem laws_heldIntS.mono_l : ∀ k, (∀ y0 y1 y2, LeO (laws_heldIntS.l0 k y0 y1 y2) (laws_heldIntS.l0 (k + 1) y0 y1 y2))
 | 0 => fun _ _ _ r h => by simp [laws_heldIntS.l0] at h
 | k + 1 => by
  have ih0 := laws_heldIntS.mono_l k
  ·intro y0 y1 y2
   unfold laws_heldIntS.l0
   repeat' first | (with_reducible first | apply ih0 | exact LeO.refl _ | exact LeO.none _ | refine LeO.ite ?_ ?_ | refine LeO.bind ?_ (fun _ => ?_)) | (first | apply ih0 | exact LeO.none _ | refine LeO.ite ?_ ?_ | refine LeO.bind ?_ (fun _ => ?_))
theorem laws_heldIntS.mono : ∀ a0 a1 k, LeO (laws_heldIntS.f k a0 a1) (laws_heldIntS.f (k + 1) a0 a1) := by
 intro a0 a1 k
 have ih0 := laws_heldIntS.mono_l k
 unfold laws_heldIntS.f
 repeat' first | (with_reducible first | apply ih0 | exact LeO.refl _ | exact LeO.none _ | refine LeO.ite ?_ ?_ | refine LeO.bind ?_ (fun _ => ?_)) | (first | apply ih0 | exact LeO.none _ | refine LeO.ite ?_ ?_ | refine LeO.bind ?_ (fun _ => ?_))
set_option maxHeartbeats 8000000 in
set_option maxRecDepth 100000 in
theorem laws_heldIntS.calls (k : Nat) (A0 : Option Addr) (c0 : Nat) (l0 : List Int) (a1 : Int) (r : Int) (w : World) (hr0 : Kd.C (Kd.int .i64) w A0 l0.length l0) (hc0 : l0.length ≤ c0) (h : laws_heldIntS.f k l0 a1 = some r) :
  Calls Try.prog 27 #[.slice A0 l0.length c0, .int .i64 a1] w fun e w' => e = .returned (.int .i64 r) ∧ Drawn0 w w' := by
 have HR0 := am hr0
 have HC0 := am hc0
 clear hr0 hc0
 have H : (laws_heldIntS.l0 k l0 a1 0) = some r := h
 clear h; have H' := am H; clear H
 go_enter Try.func27, Try.ntmps27
 go_wp2
 go_loopg [1, 5] k (fun kq v1 v5 w' => ∃ (x1_1 : Int) (x5_1 : Int), v1 = .int .i64 x1_1 ∧ v5 = .int .i64 x5_1 ∧ Aside0 (laws_heldIntS.l0 kq l0 x1_1 x5_1 = some r) ∧ Aside0 (kq ≤ k) ∧ Drawn0 w w')
 case atStart => exact ⟨(a1), (0), fr, fr, H', ⟨Nat.le_refl _⟩, df⟩
 case round =>
  clear H'; try clear c2; try clear p2
  obtain ⟨x1_1, x5_1, rfl, rfl, HA, HK1, ⟨m1, rfl⟩⟩ := hrel
  cases gk with
  | zero => exact absurd HA.out (by simp [laws_heldIntS.l0])
  | succ k1 =>
   have H := HA.out; clear HA
   simp only [laws_heldIntS.l0] at H
   by_cases c3 : x5_1 < (l0.length : Int)
   ·rw [if_pos c3] at H
    have c3b0 := decide_eq_true c3; clear c3; replace H := ifn H; obtain ⟨c4, H⟩ := H; have c4b0 := decide_eq_true c4; clear c4
    by_cases c5 : (rd l0 x5_1) = x1_1
    ·rw [if_pos c5] at H
     have c5b0 := beq_iff_eq.mpr c5; have c5b1 := bne_eq_false_iff_eq.mpr c5; clear c5; have H' := am H; clear H
     have p472 : 0 ≤ (x5_1 : Int) := od
     have q472 : x5_1 < (l0.length : Int) := od
     obtain ⟨ad472, e472, hx472_0⟩ := Kd.at_int HR0.out x5_1 p472 q472
     cases e472; replace p472 := eq_true p472; replace q472 := eq_true q472; go_wp2
     go_roundg k1
     case measure => have := HK1.out; omega
     case rel => exact ⟨(wrap64 (x1_1 + 1)), (wrap64 (x5_1 + 1)), fr, fr, H', ⟨by have := HK1.out; omega⟩, df⟩
    ·rw [if_neg c5] at H
     have c5b0 := beq_eq_false_iff_ne.mpr c5; have c5b1 := bne_iff_ne.mpr c5; obtain rfl := Option.some.inj H
     have p472 : 0 ≤ (x5_1 : Int) := od
     have q472 : x5_1 < (l0.length : Int) := od
     obtain ⟨ad472, e472, hx472_0⟩ := Kd.at_int HR0.out x5_1 p472 q472
     cases e472; replace p472 := eq_true p472; replace q472 := eq_true q472; go_wp2; go_ret
     exact ⟨fr, df⟩
   ·rw [if_neg c3] at H
    have c3b0 := decide_eq_false c3; clear c3; obtain rfl := Option.some.inj H; go_wp2; go_ret
    exact ⟨fr, df⟩/-! ### laws_FnExactSurfaceOf: function 5 -/
mutual
def laws_FnExactSurfaceOf.j0 : Nat → Int → List (S76) → List Int → Bool → List (S43) → List Int → Bool → Bool → Option (Bool)
 | 0, _, _, _, _, _, _, _, _ => none
 | k + 1, x0, x1, x6, x7, x8, x9, x10, x44 => if x44 = true then (some false) else ((laws_toPointS.f k x1).bind fun t489 => ((laws_eqPointS.f k x8 t489).bind fun t492 => (if t492 = true then ((laws_markPointS.f x8 1).bind fun bt493 => (if bt493.1 < 0 then (laws_FnExactSurfaceOf.j1 k x0 x1 x6 x7 x9 true) else ((laws_eqIntS.f k x9 x6).bind fun t495 => (if t495 = true then (laws_FnExactSurfaceOf.j1 k x0 x1 x6 x7 x9 (x10 != x7)) else (laws_FnExactSurfaceOf.j1 k x0 x1 x6 x7 x9 true))))) else (some false))))
def laws_FnExactSurfaceOf.j1 : Nat → Int → List (S76) → List Int → Bool → List Int → Bool → Option (Bool)
 | 0, _, _, _, _, _, _ => none
 | k + 1, x0, x1, x6, x7, x9, x65 => if x65 = true then (some false) else ((laws_markIntS.f k x9 1).bind fun bt496 => ((laws_heldIntS.f k bt496.2 1).bind fun t498 => (if t498 < 0 then (some false) else (if t498 = bt496.1 then ((laws_toPointS.f k x1).bind fun t499 => ((impl_SurfaceOf.f k x0 t499).bind fun bt502 => ((laws_eqIntS.f k bt502.1 x6).bind fun t506 => (if t506 = true then (laws_FnExactSurfaceOf.j2 k bt496.2 bt496.1 (bt502.2 != x7)) else (laws_FnExactSurfaceOf.j2 k bt496.2 bt496.1 true))))) else (some false)))))
def laws_FnExactSurfaceOf.j2 : Nat → List Int → Int → Bool → Option (Bool)
 | 0, _, _, _ => none
 | k + 1, x9, x12, x92 => if x92 = true then (some false) else ((laws_heldIntS.f k x9 1).bind fun t507 => (if t507 < 0 then (some false) else (if t507 = x12 then (some true) else (some false))))
end
def laws_FnExactSurfaceOf.f (k : Nat) (a0 : Int) (l1 : List (S76)) : Option (Bool) := (laws_szPointS.f l1 1048576).bind fun t473 => (if t473 < 0 then (some true) else ((laws_toPointS.f k l1).bind fun t474 => ((spec_SurfaceOf.f k a0 t474).bind fun bt477 => ((laws_toPointS.f k l1).bind fun t481 => ((impl_SurfaceOf.f k a0 t481).bind fun bt484 => ((laws_eqIntS.f k bt484.1 bt477.1).bind fun t488 => (if t488 = true then (laws_FnExactSurfaceOf.j0 k a0 l1 bt477.1 bt477.2 t481 bt484.1 bt484.2 (bt484.2 != bt477.2)) else (laws_FnExactSurfaceOf.j0 k a0 l1 bt477.1 bt477.2 t481 bt484.1 bt484.2 true))))))))
theorem laws_FnExactSurfaceOf.mono_l : ∀ k, (∀ y0 y1 y2 y3 y4 y5 y6 y7, LeO (laws_FnExactSurfaceOf.j0 k y0 y1 y2 y3 y4 y5 y6 y7) (laws_FnExactSurfaceOf.j0 (k + 1) y0 y1 y2 y3 y4 y5 y6 y7)) ∧ (∀ y0 y1 y2 y3 y4 y5, LeO (laws_FnExactSurfaceOf.j1 k y0 y1 y2 y3 y4 y5) (laws_FnExactSurfaceOf.j1 (k + 1) y0 y1 y2 y3 y4 y5)) ∧ (∀ y0 y1 y2, LeO (laws_FnExactSurfaceOf.j2 k y0 y1 y2) (laws_FnExactSurfaceOf.j2 (k + 1) y0 y1 y2))
 | 0 => ⟨fun _ _ _ _ _ _ _ _ r h => by simp [laws_FnExactSurfaceOf.j0] at h, fun _ _ _ _ _ _ r h => by simp [laws_FnExactSurfaceOf.j1] at h, fun _ _ _ r h => by simp [laws_FnExactSurfaceOf.j2] at h⟩
 | k + 1 => by
  obtain ⟨ih0, ih1, ih2⟩ := laws_FnExactSurfaceOf.mono_l k
  refine ⟨?_, ?_, ?_⟩
  ·intro y0 y1 y2 y3 y4 y5 y6 y7
   unfold laws_FnExactSurfaceOf.j0
   repeat' first | (with_reducible first | apply ih0 | apply ih1 | apply ih2 | apply impl_SurfaceOf.mono | apply laws_eqIntS.mono | apply laws_eqPointS.mono | apply laws_heldIntS.mono | apply laws_markIntS.mono | apply laws_toPointS.mono | apply spec_SurfaceOf.mono | exact LeO.refl _ | exact LeO.none _ | refine LeO.ite ?_ ?_ | refine LeO.bind ?_ (fun _ => ?_)) | (first | apply ih0 | apply ih1 | apply ih2 | apply impl_SurfaceOf.mono | apply laws_eqIntS.mono | apply laws_eqPointS.mono | apply laws_heldIntS.mono | apply laws_markIntS.mono | apply laws_toPointS.mono | apply spec_SurfaceOf.mono | exact LeO.none _ | refine LeO.ite ?_ ?_ | refine LeO.bind ?_ (fun _ => ?_))
  ·intro y0 y1 y2 y3 y4 y5
   unfold laws_FnExactSurfaceOf.j1
   repeat' first | (with_reducible first | apply ih0 | apply ih1 | apply ih2 | apply impl_SurfaceOf.mono | apply laws_eqIntS.mono | apply laws_eqPointS.mono | apply laws_heldIntS.mono | apply laws_markIntS.mono | apply laws_toPointS.mono | apply spec_SurfaceOf.mono | exact LeO.refl _ | exact LeO.none _ | refine LeO.ite ?_ ?_ | refine LeO.bind ?_ (fun _ => ?_)) | (first | apply ih0 | apply ih1 | apply ih2 | apply impl_SurfaceOf.mono | apply laws_eqIntS.mono | apply laws_eqPointS.mono | apply laws_heldIntS.mono | apply laws_markIntS.mono | apply laws_toPointS.mono | apply spec_SurfaceOf.mono | exact LeO.none _ | refine LeO.ite ?_ ?_ | refine LeO.bind ?_ (fun _ => ?_))
  ·intro y0 y1 y2
   unfold laws_FnExactSurfaceOf.j2
   repeat' first | (with_reducible first | apply ih0 | apply ih1 | apply ih2 | apply impl_SurfaceOf.mono | apply laws_eqIntS.mono | apply laws_eqPointS.mono | apply laws_heldIntS.mono | apply laws_markIntS.mono | apply laws_toPointS.mono | apply spec_SurfaceOf.mono | exact LeO.refl _ | exact LeO.none _ | refine LeO.ite ?_ ?_ | refine LeO.bind ?_ (fun _ => ?_)) | (first | apply ih0 | apply ih1 | apply ih2 | apply impl_SurfaceOf.mono | apply laws_eqIntS.mono | apply laws_eqPointS.mono | apply laws_heldIntS.mono | apply laws_markIntS.mono | apply laws_toPointS.mono | apply spec_SurfaceOf.mono | exact LeO.none _ | refine LeO.ite ?_ ?_ | refine LeO.bind ?_ (fun _ => ?_))
theorem laws_FnExactSurfaceOf.mono : ∀ a0 a1 k, LeO (laws_FnExactSurfaceOf.f k a0 a1) (laws_FnExactSurfaceOf.f (k + 1) a0 a1) := by
 intro a0 a1 k
 obtain ⟨ih0, ih1, ih2⟩ := laws_FnExactSurfaceOf.mono_l k
 unfold laws_FnExactSurfaceOf.f
 repeat' first | (with_reducible first | apply ih0 | apply ih1 | apply ih2 | apply impl_SurfaceOf.mono | apply laws_eqIntS.mono | apply laws_eqPointS.mono | apply laws_heldIntS.mono | apply laws_markIntS.mono | apply laws_toPointS.mono | apply spec_SurfaceOf.mono | exact LeO.refl _ | exact LeO.none _ | refine LeO.ite ?_ ?_ | refine LeO.bind ?_ (fun _ => ?_)) | (first | apply ih0 | apply ih1 | apply ih2 | apply impl_SurfaceOf.mono | apply laws_eqIntS.mono | apply laws_eqPointS.mono | apply laws_heldIntS.mono | apply laws_markIntS.mono | apply laws_toPointS.mono | apply spec_SurfaceOf.mono | exact LeO.none _ | refine LeO.ite ?_ ?_ | refine LeO.bind ?_ (fun _ => ?_))
set_option maxHeartbeats 8000000 in
set_option maxRecDepth 100000 in
theorem laws_FnExactSurfaceOf.calls (k : Nat) (a0 : Int) (A1 : Option Addr) (c1 : Nat) (l1 : List (S76)) (r : Bool) (w : World) (hr1 : Kd.C k76 w A1 l1.length l1) (hc1 : l1.length ≤ c1) (hT : r = true) (h : laws_FnExactSurfaceOf.f k a0 l1 = some r) :
  Calls Try.prog 5 #[.int .i64 a0, .slice A1 l1.length c1] w fun e w' => e = .returned (.bool r) ∧ Below w.heap.size w w' := by
 have HT := am hT
 clear hT
 have HR1 := am hr1
 have HC1 := am hc1
 clear hr1 hc1
 have HB := am (Below.refl w.heap.size w)
 have H : ((laws_szPointS.f l1 1048576).bind fun t473 => (if t473 < 0 then (some true) else ((laws_toPointS.f k l1).bind fun t474 => ((spec_SurfaceOf.f k a0 t474).bind fun bt477 => ((laws_toPointS.f k l1).bind fun t481 => ((impl_SurfaceOf.f k a0 t481).bind fun bt484 => ((laws_eqIntS.f k bt484.1 bt477.1).bind fun t488 => (if t488 = true then (laws_FnExactSurfaceOf.j0 k a0 l1 bt477.1 bt477.2 t481 bt484.1 bt484.2 (bt484.2 != bt477.2)) else (laws_FnExactSurfaceOf.j0 k a0 l1 bt477.1 bt477.2 t481 bt484.1 bt484.2 true))))))))) = some r := h
 clear h; replace H := bs H; obtain ⟨t473, A3, H⟩ := H
 by_cases c4 : t473 < 0
 ·rw [if_pos c4] at H
  have c4b0 := decide_eq_true c4; clear c4; obtain rfl := Option.some.inj H
  go_enter Try.func5, Try.ntmps5
  go_wp2_with (first | ((with_reducible refine gate_callee (f := 19) rfl ?_); refine gl 18 Try.func19 #[.slice A1 l1.length c1, .int .i64 1048576] ?_; (with_reducible refine (laws_szPointS.calls _ _ l1 1048576 t473 _ ?_ ?_ A3.out).mono ?_); exact wC HR1; exact HC1.out; rintro e w' ⟨rfl, ⟨nd, rfl⟩⟩; refine ⟨_, rfl, ?_⟩))
  go_ret
  exact ⟨fq, bw HB⟩
 ·rw [if_neg c4] at H
  have c4b0 := decide_eq_false c4; clear c4; replace H := bs H; obtain ⟨t474, A5, H⟩ := H; replace H := bs H
  obtain ⟨⟨t477, t480⟩, A6, H⟩ := H
  dsimp only at H
  replace H := bs H; obtain ⟨t481, A7, H⟩ := H; replace H := bs H
  obtain ⟨⟨t484, t485⟩, A8, H⟩ := H
  dsimp only at H
  have HC9 := am H
  clear H
  go_enter Try.func5, Try.ntmps5
  go_upto_region 8 with (first | ((with_reducible refine gate_callee (f := 19) rfl ?_); refine gl 18 Try.func19 #[.slice A1 l1.length c1, .int .i64 1048576] ?_; (with_reducible refine (laws_szPointS.calls _ _ l1 1048576 t473 _ ?_ ?_ A3.out).mono ?_); exact wC HR1; exact HC1.out; rintro e w' ⟨rfl, ⟨nd, rfl⟩⟩; refine ⟨_, rfl, ?_⟩) | ((with_reducible refine gate_callee (f := 21) rfl ?_); refine gl 24 Try.func21 #[.slice A1 l1.length c1] ?_; (with_reducible refine (laws_toPointS.calls k _ _ l1 t474 _ ?_ ?_ A5.out).mono ?_); exact wC HR1; exact HC1.out; rintro e w10 ⟨v475, rfl, ho0, hb⟩; refine ⟨_, rfl, ?_⟩; have HO476 := am (Kd.R_lower ho0 (bz HB)); replace HB := bq HB hb; (try clear hb); (try clear ho0); obtain ⟨Ao11, co11, eo11⟩ := Kd.R_slice HO476.out; subst eo11) | ((with_reducible refine gate_callee (f := 20) rfl ?_); refine gl 25 Try.func20 #[.int .i64 a0, .slice Ao11 t474.length co11] ?_; (with_reducible refine (spec_SurfaceOf.calls k a0 _ _ t474 t477 t480 _ ?_ ?_ A6.out).mono ?_); exact Kd.C_below (Kd.R_reads' HO476.out).2.2 gs; exact (Kd.R_reads' HO476.out).2.1; rintro e w12 ⟨v478, rfl, ho0, hb⟩; refine ⟨_, rfl, ?_⟩; have HO479 := am (Kd.V_lower (Kd.V_mono (ok' := fun k_ => some k_ ≠ (.slice Ao11 t474.length co11 : Value).ownBlock) ho0 (fun k_ hk_ => (Kd.fresh' (Kd.R_lt (wR HO476)) k_ hk_))) (bz HB)); replace HO476 := am (Kd.R_below (wR HO476) hb); replace HB := bq HB hb; (try clear hb); (try clear ho0)) | ((with_reducible refine gate_callee (f := 21) rfl ?_); refine gl 29 Try.func21 #[.slice A1 l1.length c1] ?_; (with_reducible refine (laws_toPointS.calls k _ _ l1 t481 _ ?_ ?_ A7.out).mono ?_); exact Kd.C_below HR1.out (bw HB); exact HC1.out; rintro e w13 ⟨v482, rfl, ho0, hb⟩; refine ⟨_, rfl, ?_⟩; replace HO479 := eV HO479 (Kd.R_base ho0) hb; have HO483 := am (Kd.R_lower (Kd.R_new' ho0 (Kd.R_lt (wR HO476))) (bz HB)); replace HO476 := eR HO476 (Kd.R_base ho0) hb; replace HB := bq HB hb; (try clear hb); (try clear ho0); obtain ⟨Ao14, co14, eo14⟩ := Kd.R_slice HO483.out; subst eo14) | ((with_reducible refine gate_callee (f := 22) rfl ?_); refine gl 33 Try.func22 #[.int .i64 a0, .slice Ao14 t481.length co14] ?_; (with_reducible refine (impl_SurfaceOf.calls k a0 _ _ t481 t484 t485 _ ?_ ?_ A8.out).mono ?_); exact Kd.C_below (Kd.R_reads' HO483.out).2.2 gs; exact (Kd.R_reads' HO483.out).2.1; rintro e w15 ⟨v486, rfl, ho0, hb⟩; refine ⟨_, rfl, ?_⟩; replace HO476 := am (Kd.R_below (wR HO476) hb); replace HO479 := eV HO479 (Kd.R_base ho0) hb; replace HO483 := am (Kd.R_below (wR HO483) hb); have HO487 := am (Kd.R_lower ho0 (bz HB)); replace HB := bq HB hb; (try clear hb); (try clear ho0)))
  (try simp only [Act.put, List.setIfInBounds_toArray, List.set_cons_zero, List.set_cons_succ])
  go_cut [44] (fun v44 wc => ∃ (kq : Nat) (x44_8 : Bool), v44 = .bool x44_8 ∧ Aside0 (laws_FnExactSurfaceOf.j0 kq a0 l1 t477 t480 t481 t484 t485 x44_8 = some r) ∧ Aside0 (kq ≤ k) ∧ Aside0 (Kd.V (Kd.int .i64) 3 wc w.heap.size (fun k_ => some k_ ≠ ((.slice Ao14 t481.length co14) : Value).ownBlock ∧ some k_ ≠ (v486 : Value).ownBlock) v478 t477) ∧ Aside0 (Kd.R k43 43 wc w.heap.size (fun _ => True) (.slice Ao14 t481.length co14) t481) ∧ Aside0 (Kd.R (Kd.int .i64) 3 wc w.heap.size (fun _ => True) v486 t484) ∧ Aside0 (Below w.heap.size w wc))
  case first =>
   have H := HC9.out
   clear HC9; replace H := bs H; obtain ⟨t488, A16, H⟩ := H
   by_cases c17 : t488 = true
   ·subst c17
    rw [if_pos rfl] at H
    have H' := am H; clear H
    obtain ⟨Ao18, co18, eo18⟩ := Kd.R_slice HO487.out
    subst eo18
    obtain ⟨Ao19, co19, eo19⟩ := Kd.V_slice HO479.out
    subst eo19
    go_wp2_with (first | ((with_reducible refine gate_callee (f := 23) rfl ?_); refine gl 38 Try.func23 #[.slice Ao18 t484.length co18, .slice Ao19 t477.length co19] ?_; (with_reducible refine (laws_eqIntS.calls k _ _ t484 _ _ t477 true _ ?_ ?_ ?_ ?_ A16.out).mono ?_); exact Kd.C_below (Kd.R_reads' HO487.out).2.2 gs; exact (Kd.R_reads' HO487.out).2.1; exact Kd.C_below (Kd.V_reads' HO479.out).2.2 gs; exact (Kd.V_reads' HO479.out).2.1; rintro e w' ⟨rfl, ⟨nd, rfl⟩⟩; refine ⟨_, rfl, ?_⟩))
    go_meet
    case rel => exact ⟨_, ((t485 != t480)), fr, H', ⟨by first | omega | exact Nat.le_refl _⟩, ⟨Kd.V_below (Kd.V_mono HO479.out (fun _ hk => ⟨hk.1.2, hk.2⟩)) gs⟩, ⟨Kd.R_below (Kd.R_mono HO483.out (fun _ hk => trivial)) gs⟩, ⟨wR HO487⟩, ⟨bw HB⟩⟩
   ·replace c17 := Bool.eq_false_iff.mpr c17
    subst c17
    rw [if_neg (show ¬ (false = true) by decide)] at H
    have H' := am H; clear H
    obtain ⟨Ao20, co20, eo20⟩ := Kd.R_slice HO487.out
    subst eo20
    obtain ⟨Ao21, co21, eo21⟩ := Kd.V_slice HO479.out
    subst eo21
    go_wp2_with (first | ((with_reducible refine gate_callee (f := 23) rfl ?_); refine gl 38 Try.func23 #[.slice Ao20 t484.length co20, .slice Ao21 t477.length co21] ?_; (with_reducible refine (laws_eqIntS.calls k _ _ t484 _ _ t477 false _ ?_ ?_ ?_ ?_ A16.out).mono ?_); exact Kd.C_below (Kd.R_reads' HO487.out).2.2 gs; exact (Kd.R_reads' HO487.out).2.1; exact Kd.C_below (Kd.V_reads' HO479.out).2.2 gs; exact (Kd.V_reads' HO479.out).2.1; rintro e w' ⟨rfl, ⟨nd, rfl⟩⟩; refine ⟨_, rfl, ?_⟩))
    go_meet
    case rel => exact ⟨_, (true), fr, H', ⟨by first | omega | exact Nat.le_refl _⟩, ⟨Kd.V_below (Kd.V_mono HO479.out (fun _ hk => ⟨hk.1.2, hk.2⟩)) gs⟩, ⟨Kd.R_below (Kd.R_mono HO483.out (fun _ hk => trivial)) gs⟩, ⟨wR HO487⟩, ⟨bw HB⟩⟩
  case rest =>
   clear HC9; try clear c1; try clear c2; try clear p2; try clear c4; try clear c4b0; try clear c5; try clear c17; try clear c19; try clear c20; try clear c21
   obtain ⟨kq, x44_8, rfl, HA, HJ8, HO_6, HO_8, HO_9, HB⟩ := hcut
   cases kq with
   | zero => exact absurd HA.out (by simp [laws_FnExactSurfaceOf.j0])
   | succ kj8 =>
    have H := HA.out; clear HA
    simp only [laws_FnExactSurfaceOf.j0] at H
    by_cases c22 : x44_8 = true
    ·subst c22
     rw [if_pos rfl] at H
     exact absurd (H.trans (congrArg some HT.out)) (by simp)
    ·replace c22 := Bool.eq_false_iff.mpr c22
     subst c22
     rw [if_neg (show ¬ (false = true) by decide)] at H
     replace H := bs H; obtain ⟨t489, A23, H⟩ := H; replace H := bs H; obtain ⟨t492, A24, H⟩ := H
     by_cases c25 : t492 = true
     ·subst c25
      rw [if_pos rfl] at H
      replace H := bs H
      obtain ⟨⟨t493, t494⟩, A26, H⟩ := H
      dsimp only at H
      have HC27 := am H
      clear H
      go_upto_region 14 with (first | ((with_reducible refine gate_callee (f := 21) rfl ?_); refine gl 47 Try.func21 #[.slice A1 l1.length c1] ?_; (with_reducible refine (laws_toPointS.calls kj8 _ _ l1 t489 _ ?_ ?_ A23.out).mono ?_); exact Kd.C_below HR1.out (bw HB); exact HC1.out; rintro e w28 ⟨v490, rfl, ho0, hb⟩; refine ⟨_, rfl, ?_⟩; replace HO_6 := eV HO_6 (Kd.R_base ho0) hb; replace HO_9 := am (Kd.R_below (wR HO_9) hb); have HO491 := am (Kd.R_lower (Kd.R_new' ho0 (Kd.R_lt (wR HO_8))) (bz HB)); replace HO_8 := eR HO_8 (Kd.R_base ho0) hb; replace HB := bq HB hb; (try clear hb); (try clear ho0); obtain ⟨Ao29, co29, eo29⟩ := Kd.R_slice HO491.out; subst eo29) | ((with_reducible refine gate_callee (f := 24) rfl ?_); refine gl 48 Try.func24 #[.slice Ao14 t481.length co14, .slice Ao29 t489.length co29] ?_; (with_reducible refine (laws_eqPointS.calls kj8 _ _ t481 _ _ t489 true _ ?_ ?_ ?_ ?_ A24.out).mono ?_); exact Kd.C_below (Kd.R_reads' HO_8.out).2.2 gs; exact (Kd.R_reads' HO_8.out).2.1; exact Kd.C_below (Kd.R_reads' HO491.out).2.2 gs; exact (Kd.R_reads' HO491.out).2.1; rintro e w30 ⟨rfl, hb⟩; refine ⟨_, rfl, ?_⟩; replace HO_6 := am (Kd.V_below (wV HO_6) hb); replace HO_8 := am (Kd.R_below (wR HO_8) hb); replace HO_9 := am (Kd.R_below (wR HO_9) hb); replace HO491 := am (Kd.R_below (wR HO491) hb); replace HB := bq HB hb; (try clear hb)) | ((with_reducible refine gate_callee (f := 25) rfl ?_); refine gl 52 Try.func25 #[.slice Ao14 t481.length co14, .int .i64 1] ?_; (with_reducible refine (laws_markPointS.calls (fun k_ => some k_ = (.slice Ao14 t481.length co14 : Value).ownBlock) (.slice Ao14 t481.length co14) t481 1 t493 t494 w _ ?_ ?_ A26.out).mono ?_); (· repeat (first | (with_reducible first | exact HB.out | apply below_alloc | apply pw_below_drewN | apply below_drew1) | exact HB.out)); exact Kd.R_tight rfl HO_8.out; rintro e w31 ⟨rfl, hy0, hb, hkp⟩; refine ⟨_, rfl, ?_⟩; replace HO_6 := am (Kd.V_mono (ok' := fun k_ => some k_ ≠ (.slice Ao14 t481.length co14 : Value).ownBlock ∧ some k_ ≠ (v486 : Value).ownBlock ∧ some k_ ≠ (.slice Ao29 t489.length co29 : Value).ownBlock) (Kd.V_keptB (HO_6.out) hkp (fun k_ hk_ hs_ => (hk_.1.1) hs_)) (fun k_ hk_ => ⟨hk_.1.1.1, hk_.1.1.2, hk_.1.2⟩)); replace HO_9 := am (Kd.R_mono (ok' := fun k_ => True) (Kd.R_keptB ((Kd.R_apart' HO_9.out (Kd.R_typed HO_8.out) (by decide))) hkp (fun k_ hk_ hs_ => (hk_.2) hs_)) (fun k_ hk_ => trivial)); replace HO_8 := am (Kd.R_reok rfl hy0 (fun k_ e_ => HO_8.out.1 k_ e_)); replace HO491 := am (Kd.R_mono (ok' := fun k_ => some k_ ≠ (.slice Ao14 t481.length co14 : Value).ownBlock) (Kd.R_keptB (HO491.out) hkp (fun k_ hk_ hs_ => (hk_.2) hs_)) (fun k_ hk_ => hk_.1.2)); replace HB := am (hb); (try clear hb); (try clear hkp); (try clear hy0)))
      (try simp only [Act.put, List.setIfInBounds_toArray, List.set_cons_zero, List.set_cons_succ])
      go_cut [65] (fun v65 wc => ∃ (kq : Nat) (x65_26 : Bool), v65 = .bool x65_26 ∧ Aside0 (laws_FnExactSurfaceOf.j1 kq a0 l1 t477 t480 t484 x65_26 = some r) ∧ Aside0 (kq ≤ kj8) ∧ Aside0 (Kd.V (Kd.int .i64) 3 wc w.heap.size (fun k_ => some k_ ≠ (v486 : Value).ownBlock) v478 t477) ∧ Aside0 (Kd.R (Kd.int .i64) 3 wc w.heap.size (fun _ => True) v486 t484) ∧ Aside0 (Below w.heap.size w wc))
      case first =>
       have H := HC27.out
       clear HC27
       by_cases c32 : t493 < 0
       ·rw [if_pos c32] at H
        have c32b0 := decide_eq_true c32; clear c32
        (first | rw [c32b0] | (simp only [i64_w, i32_w]; rw [c32b0]) | skip)
        have H' := am H; clear H; go_wp2
        go_meet
        case rel => exact ⟨_, (true), fr, H', ⟨by have := HJ8.out; first | omega | exact Nat.le_refl _⟩, ⟨Kd.V_below (Kd.V_mono HO_6.out (fun _ hk => hk.2.1)) gs⟩, ⟨wR HO_9⟩, ⟨bw HB⟩⟩
       ·rw [if_neg c32] at H
        have c32b0 := decide_eq_false c32; clear c32
        (first | rw [c32b0] | (simp only [i64_w, i32_w]; rw [c32b0]) | skip)
        replace H := bs H; obtain ⟨t495, A33, H⟩ := H
        by_cases c34 : t495 = true
        ·subst c34
         rw [if_pos rfl] at H
         have H' := am H; clear H
         obtain ⟨Ao35, co35, eo35⟩ := Kd.R_slice HO_9.out
         subst eo35
         obtain ⟨Ao36, co36, eo36⟩ := Kd.V_slice HO_6.out
         subst eo36
         go_wp2_with (first | (go_at_call 23; (with_reducible refine (laws_eqIntS.calls kj8 _ _ t484 _ _ t477 true _ ?_ ?_ ?_ ?_ A33.out).mono ?_); exact Kd.C_below (Kd.R_reads' HO_9.out).2.2 gs; exact (Kd.R_reads' HO_9.out).2.1; exact Kd.C_below (Kd.V_reads' HO_6.out).2.2 gs; exact (Kd.V_reads' HO_6.out).2.1; rintro e w' ⟨rfl, ⟨nd, rfl⟩⟩))
         go_meet
         case rel => exact ⟨_, ((t485 != t480)), fr, H', ⟨by have := HJ8.out; first | omega | exact Nat.le_refl _⟩, ⟨Kd.V_below (Kd.V_mono HO_6.out (fun _ hk => hk.2.1)) gs⟩, ⟨wR HO_9⟩, ⟨bw HB⟩⟩
        ·replace c34 := Bool.eq_false_iff.mpr c34
         subst c34
         rw [if_neg (show ¬ (false = true) by decide)] at H
         have H' := am H; clear H
         obtain ⟨Ao37, co37, eo37⟩ := Kd.R_slice HO_9.out
         subst eo37
         obtain ⟨Ao38, co38, eo38⟩ := Kd.V_slice HO_6.out
         subst eo38
         go_wp2_with (first | (go_at_call 23; (with_reducible refine (laws_eqIntS.calls kj8 _ _ t484 _ _ t477 false _ ?_ ?_ ?_ ?_ A33.out).mono ?_); exact Kd.C_below (Kd.R_reads' HO_9.out).2.2 gs; exact (Kd.R_reads' HO_9.out).2.1; exact Kd.C_below (Kd.V_reads' HO_6.out).2.2 gs; exact (Kd.V_reads' HO_6.out).2.1; rintro e w' ⟨rfl, ⟨nd, rfl⟩⟩))
         go_meet
         case rel => exact ⟨_, (true), fr, H', ⟨by have := HJ8.out; first | omega | exact Nat.le_refl _⟩, ⟨Kd.V_below (Kd.V_mono HO_6.out (fun _ hk => hk.2.1)) gs⟩, ⟨wR HO_9⟩, ⟨bw HB⟩⟩
      case rest =>
       clear HC27; try clear c1; try clear c2; try clear p2; try clear c3; try clear c4; try clear c4b0; try clear c5; try clear c17; try clear c19; try clear c20; try clear c21; try clear c22; try clear c23; try clear c24; try clear c25; try clear c32
       try clear c32b0; try clear c34; try clear p2
       obtain ⟨kq, x65_26, rfl, HA, HJ26, HO_6, HO_9, HB⟩ := hcut
       cases kq with
       | zero => exact absurd HA.out (by simp [laws_FnExactSurfaceOf.j1])
       | succ kj26 =>
        have H := HA.out; clear HA
        simp only [laws_FnExactSurfaceOf.j1] at H
        by_cases c39 : x65_26 = true
        ·subst c39
         rw [if_pos rfl] at H
         exact absurd (H.trans (congrArg some HT.out)) (by simp)
        ·replace c39 := Bool.eq_false_iff.mpr c39
         subst c39
         rw [if_neg (show ¬ (false = true) by decide)] at H
         replace H := bs H
         obtain ⟨⟨t496, t497⟩, A40, H⟩ := H
         dsimp only at H
         replace H := bs H; obtain ⟨t498, A41, H⟩ := H
         by_cases c42 : t498 < 0
         ·rw [if_pos c42] at H
          have c42b0 := decide_eq_true c42; clear c42
          exact absurd (H.trans (congrArg some HT.out)) (by simp)
         ·rw [if_neg c42] at H
          have c42b0 := decide_eq_false c42; clear c42
          by_cases c43 : t498 = t496
          ·rw [if_pos c43] at H
           have c43b0 := beq_iff_eq.mpr c43; have c43b1 := bne_eq_false_iff_eq.mpr c43; clear c43; replace H := bs H; obtain ⟨t499, A44, H⟩ := H; replace H := bs H
           obtain ⟨⟨t502, t503⟩, A45, H⟩ := H
           dsimp only at H
           have HC46 := am H
           clear H
           obtain ⟨Ao47, co47, eo47⟩ := Kd.R_slice HO_9.out
           subst eo47
           go_upto_region 25 with (first | ((with_reducible refine gate_callee (f := 26) rfl ?_); refine gl 68 Try.func26 #[.slice Ao47 t484.length co47, .int .i64 1] ?_; (with_reducible refine (laws_markIntS.calls kj26 (fun k_ => some k_ = (.slice Ao47 t484.length co47 : Value).ownBlock) (.slice Ao47 t484.length co47) t484 1 t496 t497 w _ ?_ ?_ A40.out).mono ?_); (· repeat (first | (with_reducible first | exact HB.out | apply below_alloc | apply pw_below_drewN | apply below_drew1) | exact HB.out)); exact Kd.R_tight rfl HO_9.out; rintro e w48 ⟨rfl, hy0, hb, hkp⟩; refine ⟨_, rfl, ?_⟩; replace HO_6 := am (Kd.V_mono (ok' := fun k_ => some k_ ≠ (.slice Ao47 t484.length co47 : Value).ownBlock) (Kd.V_keptB (HO_6.out) hkp (fun k_ hk_ hs_ => (hk_) hs_)) (fun k_ hk_ => hk_.1)); replace HO_9 := am (Kd.R_reok rfl hy0 (fun k_ e_ => HO_9.out.1 k_ e_)); replace HB := am (hb); (try clear hb); (try clear hkp); (try clear hy0)) | ((with_reducible refine gate_callee (f := 27) rfl ?_); refine gl 71 Try.func27 #[.slice Ao47 t497.length co47, .int .i64 1] ?_ (hargs := by (try simp only [List.map_toArray, List.map_cons, List.map_nil]); first | done | (rw [show t497.length = t484.length from (Kd.R_reads' HO_9.out).1.symm] <;> rfl) | rfl | (simp only [List.length_drop, List.length_take]; rfl)); (with_reducible refine (laws_heldIntS.calls kj26 _ _ t497 1 t498 _ ?_ ?_ A41.out).mono ?_); exact Kd.C_below (Kd.R_reads' HO_9.out).2.2 gs; (· rw [show t497.length = t484.length from (Kd.R_reads' HO_9.out).1.symm]; exact (Kd.R_reads' HO_9.out).2.1); rintro e w' ⟨rfl, ⟨nd, rfl⟩⟩; refine ⟨_, rfl, ?_⟩) | ((with_reducible refine gate_callee (f := 21) rfl ?_); refine gl 80 Try.func21 #[.slice A1 l1.length c1] ?_; (with_reducible refine (laws_toPointS.calls kj26 _ _ l1 t499 _ ?_ ?_ A44.out).mono ?_); exact Kd.C_below HR1.out (bw HB); exact HC1.out; rintro e w49 ⟨v500, rfl, ho0, hb⟩; refine ⟨_, rfl, ?_⟩; replace HO_6 := eV HO_6 (Kd.R_base ho0) hb; replace HO_9 := am (Kd.R_below (wR HO_9) hb); have HO501 := am (Kd.R_lower ho0 (bz HB)); replace HB := bq HB hb; (try clear hb); (try clear ho0); obtain ⟨Ao50, co50, eo50⟩ := Kd.R_slice HO501.out; subst eo50) | ((with_reducible refine gate_callee (f := 22) rfl ?_); refine gl 81 Try.func22 #[.int .i64 a0, .slice Ao50 t499.length co50] ?_; (with_reducible refine (impl_SurfaceOf.calls kj26 a0 _ _ t499 t502 t503 _ ?_ ?_ A45.out).mono ?_); exact Kd.C_below (Kd.R_reads' HO501.out).2.2 gs; exact (Kd.R_reads' HO501.out).2.1; rintro e w51 ⟨v504, rfl, ho0, hb⟩; refine ⟨_, rfl, ?_⟩; replace HO_6 := eV HO_6 (Kd.R_base ho0) hb; replace HO501 := am (Kd.R_below (wR HO501) hb); have HO505 := am (Kd.R_lower (Kd.R_new' ho0 (Kd.R_lt (wR HO_9))) (bz HB)); replace HO_9 := eR HO_9 (Kd.R_base ho0) hb; replace HB := bq HB hb; (try clear hb); (try clear ho0)))
           (try simp only [Act.put, List.setIfInBounds_toArray, List.set_cons_zero, List.set_cons_succ])
           go_cut [92] (fun v92 wc => ∃ (kq : Nat) (x92_45 : Bool), v92 = .bool x92_45 ∧ Aside0 (laws_FnExactSurfaceOf.j2 kq t497 t496 x92_45 = some r) ∧ Aside0 (kq ≤ kj26) ∧ Aside0 (Kd.R (Kd.int .i64) 3 wc w.heap.size (fun _ => True) (.slice Ao47 t484.length co47) t497) ∧ Aside0 (Below w.heap.size w wc))
           case first =>
            have H := HC46.out
            clear HC46; replace H := bs H; obtain ⟨t506, A52, H⟩ := H
            by_cases c53 : t506 = true
            ·subst c53
             rw [if_pos rfl] at H
             have H' := am H; clear H
             obtain ⟨Ao54, co54, eo54⟩ := Kd.R_slice HO505.out
             subst eo54
             obtain ⟨Ao55, co55, eo55⟩ := Kd.V_slice HO_6.out
             subst eo55
             go_wp2_with (first | ((with_reducible refine gate_callee (f := 23) rfl ?_); refine gl 86 Try.func23 #[.slice Ao54 t502.length co54, .slice Ao55 t477.length co55] ?_; (with_reducible refine (laws_eqIntS.calls kj26 _ _ t502 _ _ t477 true _ ?_ ?_ ?_ ?_ A52.out).mono ?_); exact Kd.C_below (Kd.R_reads' HO505.out).2.2 gs; exact (Kd.R_reads' HO505.out).2.1; exact Kd.C_below (Kd.V_reads' HO_6.out).2.2 gs; exact (Kd.V_reads' HO_6.out).2.1; rintro e w' ⟨rfl, ⟨nd, rfl⟩⟩; refine ⟨_, rfl, ?_⟩))
             go_meet
             case rel => exact ⟨_, ((t503 != t480)), fr, H', ⟨by have := HJ8.out; have := HJ26.out; first | omega | exact Nat.le_refl _⟩, ⟨Kd.R_below (Kd.R_mono HO_9.out (fun _ hk => trivial)) gs⟩, ⟨bw HB⟩⟩
            ·replace c53 := Bool.eq_false_iff.mpr c53
             subst c53
             rw [if_neg (show ¬ (false = true) by decide)] at H
             have H' := am H; clear H
             obtain ⟨Ao56, co56, eo56⟩ := Kd.R_slice HO505.out
             subst eo56
             obtain ⟨Ao57, co57, eo57⟩ := Kd.V_slice HO_6.out
             subst eo57
             go_wp2_with (first | ((with_reducible refine gate_callee (f := 23) rfl ?_); refine gl 86 Try.func23 #[.slice Ao56 t502.length co56, .slice Ao57 t477.length co57] ?_; (with_reducible refine (laws_eqIntS.calls kj26 _ _ t502 _ _ t477 false _ ?_ ?_ ?_ ?_ A52.out).mono ?_); exact Kd.C_below (Kd.R_reads' HO505.out).2.2 gs; exact (Kd.R_reads' HO505.out).2.1; exact Kd.C_below (Kd.V_reads' HO_6.out).2.2 gs; exact (Kd.V_reads' HO_6.out).2.1; rintro e w' ⟨rfl, ⟨nd, rfl⟩⟩; refine ⟨_, rfl, ?_⟩))
             go_meet
             case rel => exact ⟨_, (true), fr, H', ⟨by have := HJ8.out; have := HJ26.out; first | omega | exact Nat.le_refl _⟩, ⟨Kd.R_below (Kd.R_mono HO_9.out (fun _ hk => trivial)) gs⟩, ⟨bw HB⟩⟩
           case rest =>
            clear HC46; try clear c1; try clear c2; try clear p2; try clear c3; try clear c4; try clear c4b0; try clear c5; try clear c17; try clear c19; try clear c20; try clear c21; try clear c22; try clear c23; try clear c24; try clear c25; try clear c26
            try clear c27; try clear c32; try clear c32b0; try clear c34; try clear c39; try clear c42; try clear c42b0; try clear c43; try clear c43b0; try clear c43b1; try clear c53; try clear p2
            obtain ⟨kq, x92_45, rfl, HA, HJ45, HO_9, HB⟩ := hcut
            have hl9_45 := (Kd.R_reads' HO_9.out).1
            rw [hl9_45] at HO_9
            (try simp only [hl9_45])
            cases kq with
            | zero => exact absurd HA.out (by simp [laws_FnExactSurfaceOf.j2])
            | succ kj45 =>
             have H := HA.out; clear HA
             simp only [laws_FnExactSurfaceOf.j2] at H
             by_cases c58 : x92_45 = true
             ·subst c58
              rw [if_pos rfl] at H
              exact absurd (H.trans (congrArg some HT.out)) (by simp)
             ·replace c58 := Bool.eq_false_iff.mpr c58
              subst c58
              rw [if_neg (show ¬ (false = true) by decide)] at H
              replace H := bs H; obtain ⟨t507, A59, H⟩ := H
              by_cases c60 : t507 < 0
              ·rw [if_pos c60] at H
               have c60b0 := decide_eq_true c60; clear c60
               exact absurd (H.trans (congrArg some HT.out)) (by simp)
              ·rw [if_neg c60] at H
               have c60b0 := decide_eq_false c60; clear c60
               by_cases c61 : t507 = t496
               ·rw [if_pos c61] at H
                have c61b0 := beq_iff_eq.mpr c61; have c61b1 := bne_eq_false_iff_eq.mpr c61; clear c61; obtain rfl := Option.some.inj H
                go_wp2_with (first | ((with_reducible refine gate_callee (f := 27) rfl ?_); refine gl 95 Try.func27 #[.slice Ao47 t497.length co47, .int .i64 1] ?_; (with_reducible refine (laws_heldIntS.calls kj45 _ _ t497 1 t507 _ ?_ ?_ A59.out).mono ?_); exact Kd.C_below (Kd.R_reads' HO_9.out).2.2 gs; exact (Kd.R_reads' HO_9.out).2.1; rintro e w' ⟨rfl, ⟨nd, rfl⟩⟩; refine ⟨_, rfl, ?_⟩))
                go_ret
                exact ⟨fq, bw HB⟩
               ·rw [if_neg c61] at H
                have c61b0 := beq_eq_false_iff_ne.mpr c61; have c61b1 := bne_iff_ne.mpr c61
                exact absurd (H.trans (congrArg some HT.out)) (by simp)
          ·rw [if_neg c43] at H
           have c43b0 := beq_eq_false_iff_ne.mpr c43; have c43b1 := bne_iff_ne.mpr c43
           exact absurd (H.trans (congrArg some HT.out)) (by simp)
     ·replace c25 := Bool.eq_false_iff.mpr c25
      subst c25
      rw [if_neg (show ¬ (false = true) by decide)] at H
      exact absurd (H.trans (congrArg some HT.out)) (by simp)
end Go.Proofs.Ytmgbpmihbljngaa.PA

-- Written by xprint.py, a program of this claim's own (over the kit's print.py)
import Derived.Test.YtdgopdbmbaiddaaPAx0
import Derived.Test.YtdgopdbmbaiddaaPAx1
import Derived.Test.YtdgopdbmbaiddaaPAx9
import Derived.Deep.Cut
namespace Go.Proofs.Ytdgopdbmbaiddaa.PA
open Go.RowKit Go.Proofs.YtdgopdbmbaiddaaW.PrintWords Go.Proofs.YtdgopdbmbaiddaaW.PrintLast Go.Proofs.YtdgopdbmbaiddaaW.PrintMore
attribute [local go_sem] max2_int min2_int max_two min_two max_three min_three max_four min_four   -- for this text's walks alone
set_option linter.unusedVariables false
set_option linter.unusedSimpArgs false

/-! ### laws_FnExactSpaceThrough: function 10 -/
mutual
def laws_FnExactSpaceThrough.j0 : Nat → Int → List Int → List Int → List Int → Bool → List Int → List Int → List Int → Bool → Bool → Option (Bool)
  | 0, _, _, _, _, _, _, _, _, _, _ => none
  | k + 1, x0, x1, x2, x7, x8, x9, x10, x11, x12, x52 => if x52 = true then (some false) else ((laws_toIntS.f k x1).bind fun t314 => ((laws_eqIntS.f k x9 t314).bind fun t317 => (if t317 = true then ((laws_toIntS.f k x2).bind fun t318 => ((laws_eqIntS.f k x10 t318).bind fun t321 => (if t321 = true then ((laws_markIntS.f k x9 1).bind fun bt322 => ((laws_markIntS.f k x10 bt322.1).bind fun bt324 => (if bt324.1 < 0 then (laws_FnExactSpaceThrough.j1 k x0 x1 x2 x7 x8 x11 true) else ((laws_eqIntS.f k x11 x7).bind fun t326 => (if t326 = true then (laws_FnExactSpaceThrough.j1 k x0 x1 x2 x7 x8 x11 (x12 != x8)) else (laws_FnExactSpaceThrough.j1 k x0 x1 x2 x7 x8 x11 true)))))) else (some false)))) else (some false))))
def laws_FnExactSpaceThrough.j1 : Nat → Int → List Int → List Int → List Int → Bool → List Int → Bool → Option (Bool)
  | 0, _, _, _, _, _, _, _ => none
  | k + 1, x0, x1, x2, x7, x8, x11, x81 => if x81 = true then (some false) else ((laws_markIntS.f k x11 1).bind fun bt327 => ((laws_heldIntS.f k bt327.2 1).bind fun t329 => (if t329 < 0 then (some false) else (if t329 = bt327.1 then ((laws_toIntS.f k x1).bind fun t330 => ((laws_toIntS.f k x2).bind fun t333 => ((impl_SpaceThrough.f k x0 t330 t333).bind fun bt336 => ((laws_eqIntS.f k bt336.1 x7).bind fun t340 => (if t340 = true then (laws_FnExactSpaceThrough.j2 k bt327.2 bt327.1 (bt336.2 != x8)) else (laws_FnExactSpaceThrough.j2 k bt327.2 bt327.1 true)))))) else (some false)))))
def laws_FnExactSpaceThrough.j2 : Nat → List Int → Int → Bool → Option (Bool)
  | 0, _, _, _ => none
  | k + 1, x11, x14, x110 => if x110 = true then (some false) else ((laws_heldIntS.f k x11 1).bind fun t341 => (if t341 < 0 then (some false) else (if t341 = x14 then (some true) else (some false))))
end
def laws_FnExactSpaceThrough.f (k : Nat) (a0 : Int) (l1 : List Int) (l2 : List Int) : Option (Bool) := if (l1.length : Int) > 1048576 then (some true) else (if (l2.length : Int) > 1048576 then (some true) else ((laws_toIntS.f k l1).bind fun t293 => ((laws_toIntS.f k l2).bind fun t296 => ((spec_SpaceThrough.f k a0 t293 t296).bind fun bt299 => ((laws_toIntS.f k l1).bind fun t303 => ((laws_toIntS.f k l2).bind fun t306 => ((impl_SpaceThrough.f k a0 t303 t306).bind fun bt309 => ((laws_eqIntS.f k bt309.1 bt299.1).bind fun t313 => (if t313 = true then (laws_FnExactSpaceThrough.j0 k a0 l1 l2 bt299.1 bt299.2 t303 t306 bt309.1 bt309.2 (bt309.2 != bt299.2)) else (laws_FnExactSpaceThrough.j0 k a0 l1 l2 bt299.1 bt299.2 t303 t306 bt309.1 bt309.2 true))))))))))
theorem laws_FnExactSpaceThrough.mono_l : ∀ k, (∀ y0 y1 y2 y3 y4 y5 y6 y7 y8 y9, LeO (laws_FnExactSpaceThrough.j0 k y0 y1 y2 y3 y4 y5 y6 y7 y8 y9) (laws_FnExactSpaceThrough.j0 (k + 1) y0 y1 y2 y3 y4 y5 y6 y7 y8 y9)) ∧ (∀ y0 y1 y2 y3 y4 y5 y6, LeO (laws_FnExactSpaceThrough.j1 k y0 y1 y2 y3 y4 y5 y6) (laws_FnExactSpaceThrough.j1 (k + 1) y0 y1 y2 y3 y4 y5 y6)) ∧ (∀ y0 y1 y2, LeO (laws_FnExactSpaceThrough.j2 k y0 y1 y2) (laws_FnExactSpaceThrough.j2 (k + 1) y0 y1 y2))
  | 0 => ⟨fun _ _ _ _ _ _ _ _ _ _ r h => by simp [laws_FnExactSpaceThrough.j0] at h, fun _ _ _ _ _ _ _ r h => by simp [laws_FnExactSpaceThrough.j1] at h, fun _ _ _ r h => by simp [laws_FnExactSpaceThrough.j2] at h⟩
  | k + 1 => by
    obtain ⟨ih0, ih1, ih2⟩ := laws_FnExactSpaceThrough.mono_l k
    refine ⟨?_, ?_, ?_⟩
    · intro y0 y1 y2 y3 y4 y5 y6 y7 y8 y9
      unfold laws_FnExactSpaceThrough.j0
      repeat' first
      | (with_reducible exact ih0 _ _ _ _ _ _ _ _ _ _)
      | (with_reducible exact ih1 _ _ _ _ _ _ _)
      | (with_reducible exact ih2 _ _ _)
      | (with_reducible exact impl_SpaceThrough.mono _ _ _ _)
      | (with_reducible exact laws_eqIntS.mono _ _ _)
      | (with_reducible exact laws_heldIntS.mono _ _ _)
      | (with_reducible exact laws_markIntS.mono _ _ _)
      | (with_reducible exact laws_toIntS.mono _ _)
      | (with_reducible exact spec_SpaceThrough.mono _ _ _ _)
      | (with_reducible exact LeO.refl _)
      | (with_reducible exact LeO.none _)
      | (with_reducible refine LeO.ite ?_ ?_)
      | (with_reducible refine LeO.bind ?_ (fun _ => ?_))
      | exact ih0 _ _ _ _ _ _ _ _ _ _
      | exact ih1 _ _ _ _ _ _ _
      | exact ih2 _ _ _
      | exact impl_SpaceThrough.mono _ _ _ _
      | exact laws_eqIntS.mono _ _ _
      | exact laws_heldIntS.mono _ _ _
      | exact laws_markIntS.mono _ _ _
      | exact laws_toIntS.mono _ _
      | exact spec_SpaceThrough.mono _ _ _ _
      | exact LeO.none _
      | refine LeO.ite ?_ ?_
      | refine LeO.bind ?_ (fun _ => ?_)
    · intro y0 y1 y2 y3 y4 y5 y6
      unfold laws_FnExactSpaceThrough.j1
      repeat' first
      | (with_reducible exact ih0 _ _ _ _ _ _ _ _ _ _)
      | (with_reducible exact ih1 _ _ _ _ _ _ _)
      | (with_reducible exact ih2 _ _ _)
      | (with_reducible exact impl_SpaceThrough.mono _ _ _ _)
      | (with_reducible exact laws_eqIntS.mono _ _ _)
      | (with_reducible exact laws_heldIntS.mono _ _ _)
      | (with_reducible exact laws_markIntS.mono _ _ _)
      | (with_reducible exact laws_toIntS.mono _ _)
      | (with_reducible exact spec_SpaceThrough.mono _ _ _ _)
      | (with_reducible exact LeO.refl _)
      | (with_reducible exact LeO.none _)
      | (with_reducible refine LeO.ite ?_ ?_)
      | (with_reducible refine LeO.bind ?_ (fun _ => ?_))
      | exact ih0 _ _ _ _ _ _ _ _ _ _
      | exact ih1 _ _ _ _ _ _ _
      | exact ih2 _ _ _
      | exact impl_SpaceThrough.mono _ _ _ _
      | exact laws_eqIntS.mono _ _ _
      | exact laws_heldIntS.mono _ _ _
      | exact laws_markIntS.mono _ _ _
      | exact laws_toIntS.mono _ _
      | exact spec_SpaceThrough.mono _ _ _ _
      | exact LeO.none _
      | refine LeO.ite ?_ ?_
      | refine LeO.bind ?_ (fun _ => ?_)
    · intro y0 y1 y2
      unfold laws_FnExactSpaceThrough.j2
      repeat' first
      | (with_reducible exact ih0 _ _ _ _ _ _ _ _ _ _)
      | (with_reducible exact ih1 _ _ _ _ _ _ _)
      | (with_reducible exact ih2 _ _ _)
      | (with_reducible exact impl_SpaceThrough.mono _ _ _ _)
      | (with_reducible exact laws_eqIntS.mono _ _ _)
      | (with_reducible exact laws_heldIntS.mono _ _ _)
      | (with_reducible exact laws_markIntS.mono _ _ _)
      | (with_reducible exact laws_toIntS.mono _ _)
      | (with_reducible exact spec_SpaceThrough.mono _ _ _ _)
      | (with_reducible exact LeO.refl _)
      | (with_reducible exact LeO.none _)
      | (with_reducible refine LeO.ite ?_ ?_)
      | (with_reducible refine LeO.bind ?_ (fun _ => ?_))
      | exact ih0 _ _ _ _ _ _ _ _ _ _
      | exact ih1 _ _ _ _ _ _ _
      | exact ih2 _ _ _
      | exact impl_SpaceThrough.mono _ _ _ _
      | exact laws_eqIntS.mono _ _ _
      | exact laws_heldIntS.mono _ _ _
      | exact laws_markIntS.mono _ _ _
      | exact laws_toIntS.mono _ _
      | exact spec_SpaceThrough.mono _ _ _ _
      | exact LeO.none _
      | refine LeO.ite ?_ ?_
      | refine LeO.bind ?_ (fun _ => ?_)
theorem laws_FnExactSpaceThrough.mono : ∀ a0 a1 a2 k, LeO (laws_FnExactSpaceThrough.f k a0 a1 a2) (laws_FnExactSpaceThrough.f (k + 1) a0 a1 a2) := by
  intro a0 a1 a2 k
  obtain ⟨ih0, ih1, ih2⟩ := laws_FnExactSpaceThrough.mono_l k
  unfold laws_FnExactSpaceThrough.f
  repeat' first
      | (with_reducible exact ih0 _ _ _ _ _ _ _ _ _ _)
      | (with_reducible exact ih1 _ _ _ _ _ _ _)
      | (with_reducible exact ih2 _ _ _)
      | (with_reducible exact impl_SpaceThrough.mono _ _ _ _)
      | (with_reducible exact laws_eqIntS.mono _ _ _)
      | (with_reducible exact laws_heldIntS.mono _ _ _)
      | (with_reducible exact laws_markIntS.mono _ _ _)
      | (with_reducible exact laws_toIntS.mono _ _)
      | (with_reducible exact spec_SpaceThrough.mono _ _ _ _)
      | (with_reducible exact LeO.refl _)
      | (with_reducible exact LeO.none _)
      | (with_reducible refine LeO.ite ?_ ?_)
      | (with_reducible refine LeO.bind ?_ (fun _ => ?_))
      | exact ih0 _ _ _ _ _ _ _ _ _ _
      | exact ih1 _ _ _ _ _ _ _
      | exact ih2 _ _ _
      | exact impl_SpaceThrough.mono _ _ _ _
      | exact laws_eqIntS.mono _ _ _
      | exact laws_heldIntS.mono _ _ _
      | exact laws_markIntS.mono _ _ _
      | exact laws_toIntS.mono _ _
      | exact spec_SpaceThrough.mono _ _ _ _
      | exact LeO.none _
      | refine LeO.ite ?_ ?_
      | refine LeO.bind ?_ (fun _ => ?_)
set_option maxHeartbeats 8000000 in
set_option maxRecDepth 100000 in
theorem laws_FnExactSpaceThrough.calls (k : Nat) (a0 : Int) (A1 : Option Addr) (c1 : Nat) (l1 : List Int) (A2 : Option Addr) (c2 : Nat) (l2 : List Int) (r : Bool) (w : World) (hr1 : Kd.C (Kd.int .i64) w A1 l1.length l1) (hc1 : l1.length ≤ c1) (hr2 : Kd.C (Kd.int .i64) w A2 l2.length l2) (hc2 : l2.length ≤ c2) (hT : r = true) (h : laws_FnExactSpaceThrough.f k a0 l1 l2 = some r) :
    Calls Try.prog 10 #[.int .i64 a0, .slice A1 l1.length c1, .slice A2 l2.length c2] w fun e w' => e = .returned (.bool r) ∧ Below w.heap.size w w' := by
  have HT := Aside0.mk hT
  clear hT
  have HR1 := Aside0.mk hr1
  have HC1 := Aside0.mk hc1
  clear hr1 hc1
  have HR2 := Aside0.mk hr2
  have HC2 := Aside0.mk hc2
  clear hr2 hc2
  have HB := Aside0.mk (Below.refl w.heap.size w)
  have H : (if (l1.length : Int) > 1048576 then (some true) else (if (l2.length : Int) > 1048576 then (some true) else ((laws_toIntS.f k l1).bind fun t293 => ((laws_toIntS.f k l2).bind fun t296 => ((spec_SpaceThrough.f k a0 t293 t296).bind fun bt299 => ((laws_toIntS.f k l1).bind fun t303 => ((laws_toIntS.f k l2).bind fun t306 => ((impl_SpaceThrough.f k a0 t303 t306).bind fun bt309 => ((laws_eqIntS.f k bt309.1 bt299.1).bind fun t313 => (if t313 = true then (laws_FnExactSpaceThrough.j0 k a0 l1 l2 bt299.1 bt299.2 t303 t306 bt309.1 bt309.2 (bt309.2 != bt299.2)) else (laws_FnExactSpaceThrough.j0 k a0 l1 l2 bt299.1 bt299.2 t303 t306 bt309.1 bt309.2 true))))))))))) = some r := h
  clear h
  by_cases c4 : (l1.length : Int) > 1048576
  · rw [if_pos c4] at H
    have c4b0 : decide (1048576 < (l1.length : Int)) = true := decide_eq_true c4
    have c4b1 : decide (1048576 < l1.length) = true := decide_eq_true (by omega)
    clear c4
    obtain rfl := Option.some.inj H
    go_enter Try.func10, Try.ntmps10
    go_wp2
    go_ret
    exact ⟨by first | rfl | (simp [errW_none, errW_some] <;> rfl) | (simp [*, errW_none, errW_some] <;> rfl), by repeat (first | (with_reducible first | exact HB.out | apply below_alloc | apply pw_below_drewN | apply below_drew1) | exact HB.out)⟩
  · rw [if_neg c4] at H
    have c4b0 : decide (1048576 < (l1.length : Int)) = false := decide_eq_false c4
    have c4b1 : decide (1048576 < l1.length) = false := decide_eq_false (by omega)
    clear c4
    by_cases c5 : (l2.length : Int) > 1048576
    · rw [if_pos c5] at H
      have c5b0 : decide (1048576 < (l2.length : Int)) = true := decide_eq_true c5
      have c5b1 : decide (1048576 < l2.length) = true := decide_eq_true (by omega)
      clear c5
      obtain rfl := Option.some.inj H
      go_enter Try.func10, Try.ntmps10
      go_wp2
      go_ret
      exact ⟨by first | rfl | (simp [errW_none, errW_some] <;> rfl) | (simp [*, errW_none, errW_some] <;> rfl), by repeat (first | (with_reducible first | exact HB.out | apply below_alloc | apply pw_below_drewN | apply below_drew1) | exact HB.out)⟩
    · rw [if_neg c5] at H
      have c5b0 : decide (1048576 < (l2.length : Int)) = false := decide_eq_false c5
      have c5b1 : decide (1048576 < l2.length) = false := decide_eq_false (by omega)
      clear c5
      replace H := Option.bind_eq_some_iff.mp H
      obtain ⟨t293, A60, H⟩ := H
      replace H : ((laws_toIntS.f k l2).bind fun t296 => ((spec_SpaceThrough.f k a0 t293 t296).bind fun bt299 => ((laws_toIntS.f k l1).bind fun t303 => ((laws_toIntS.f k l2).bind fun t306 => ((impl_SpaceThrough.f k a0 t303 t306).bind fun bt309 => ((laws_eqIntS.f k bt309.1 bt299.1).bind fun t313 => (if t313 = true then (laws_FnExactSpaceThrough.j0 k a0 l1 l2 bt299.1 bt299.2 t303 t306 bt309.1 bt309.2 (bt309.2 != bt299.2)) else (laws_FnExactSpaceThrough.j0 k a0 l1 l2 bt299.1 bt299.2 t303 t306 bt309.1 bt309.2 true)))))))) = some r := H
      have A6 := Aside0.mk A60
      clear A60
      replace H := Option.bind_eq_some_iff.mp H
      obtain ⟨t296, A70, H⟩ := H
      replace H : ((spec_SpaceThrough.f k a0 t293 t296).bind fun bt299 => ((laws_toIntS.f k l1).bind fun t303 => ((laws_toIntS.f k l2).bind fun t306 => ((impl_SpaceThrough.f k a0 t303 t306).bind fun bt309 => ((laws_eqIntS.f k bt309.1 bt299.1).bind fun t313 => (if t313 = true then (laws_FnExactSpaceThrough.j0 k a0 l1 l2 bt299.1 bt299.2 t303 t306 bt309.1 bt309.2 (bt309.2 != bt299.2)) else (laws_FnExactSpaceThrough.j0 k a0 l1 l2 bt299.1 bt299.2 t303 t306 bt309.1 bt309.2 true))))))) = some r := H
      have A7 := Aside0.mk A70
      clear A70
      replace H := Option.bind_eq_some_iff.mp H
      obtain ⟨⟨t299, t302⟩, A80, H⟩ := H
      replace H : ((laws_toIntS.f k l1).bind fun t303 => ((laws_toIntS.f k l2).bind fun t306 => ((impl_SpaceThrough.f k a0 t303 t306).bind fun bt309 => ((laws_eqIntS.f k bt309.1 t299).bind fun t313 => (if t313 = true then (laws_FnExactSpaceThrough.j0 k a0 l1 l2 t299 t302 t303 t306 bt309.1 bt309.2 (bt309.2 != t302)) else (laws_FnExactSpaceThrough.j0 k a0 l1 l2 t299 t302 t303 t306 bt309.1 bt309.2 true)))))) = some r := H
      have A8 := Aside0.mk A80
      clear A80
      replace H := Option.bind_eq_some_iff.mp H
      obtain ⟨t303, A90, H⟩ := H
      replace H : ((laws_toIntS.f k l2).bind fun t306 => ((impl_SpaceThrough.f k a0 t303 t306).bind fun bt309 => ((laws_eqIntS.f k bt309.1 t299).bind fun t313 => (if t313 = true then (laws_FnExactSpaceThrough.j0 k a0 l1 l2 t299 t302 t303 t306 bt309.1 bt309.2 (bt309.2 != t302)) else (laws_FnExactSpaceThrough.j0 k a0 l1 l2 t299 t302 t303 t306 bt309.1 bt309.2 true))))) = some r := H
      have A9 := Aside0.mk A90
      clear A90
      replace H := Option.bind_eq_some_iff.mp H
      obtain ⟨t306, A100, H⟩ := H
      replace H : ((impl_SpaceThrough.f k a0 t303 t306).bind fun bt309 => ((laws_eqIntS.f k bt309.1 t299).bind fun t313 => (if t313 = true then (laws_FnExactSpaceThrough.j0 k a0 l1 l2 t299 t302 t303 t306 bt309.1 bt309.2 (bt309.2 != t302)) else (laws_FnExactSpaceThrough.j0 k a0 l1 l2 t299 t302 t303 t306 bt309.1 bt309.2 true)))) = some r := H
      have A10 := Aside0.mk A100
      clear A100
      replace H := Option.bind_eq_some_iff.mp H
      obtain ⟨⟨t309, t312⟩, A110, H⟩ := H
      replace H : ((laws_eqIntS.f k t309 t299).bind fun t313 => (if t313 = true then (laws_FnExactSpaceThrough.j0 k a0 l1 l2 t299 t302 t303 t306 t309 t312 (t312 != t302)) else (laws_FnExactSpaceThrough.j0 k a0 l1 l2 t299 t302 t303 t306 t309 t312 true))) = some r := H
      have A11 := Aside0.mk A110
      clear A110
      have HC12 := Aside0.mk H
      clear H
      go_enter Try.func10, Try.ntmps10
      go_upto_region 9 with (first | ((with_reducible refine gate_callee (f := 16) rfl ?_); refine goesL_ (some 27) rfl rfl Try.func16 (by kernel_rfl) rfl #[.slice A1 l1.length c1] rfl (by (try simp only [List.map_toArray, List.map_cons, List.map_nil]); first | done | rfl | (simp only [List.length_drop, List.length_take]; rfl)) ?_; (with_reducible refine (laws_toIntS.calls k _ _ l1 t293 _ ?side1 ?side2 A6.out).mono ?_); (case side1 => exact Kd.C_below HR1.out gs); (case side2 => exact HC1.out); rintro e w13 ⟨v294, rfl, ho0, hb⟩; refine ⟨_, rfl, ?_⟩; have n0_ := Aside0.mk (Kd.R_lower ho0 (below_size (bb HB.out))); have n1_ := Aside0.mk (below_step (bb HB.out) hb); clear HB; have HO295 := n0_; have HB := n1_; clear n0_ n1_; (try clear hb); (try clear hb2); (try clear hk); (try clear hi); (try clear ho0)) | ((with_reducible refine gate_callee (f := 16) rfl ?_); refine goesL_ (some 29) rfl rfl Try.func16 (by kernel_rfl) rfl #[.slice A2 l2.length c2] rfl (by (try simp only [List.map_toArray, List.map_cons, List.map_nil]); first | done | rfl | (simp only [List.length_drop, List.length_take]; rfl)) ?_; (with_reducible refine (laws_toIntS.calls k _ _ l2 t296 _ ?side1 ?side2 A7.out).mono ?_); (case side1 => exact Kd.C_below HR2.out (bb HB.out)); (case side2 => exact HC2.out); rintro e w14 ⟨v297, rfl, ho0, hb⟩; refine ⟨_, rfl, ?_⟩; have n0_ := Aside0.mk (Kd.R_elder' (Kd.R_below HO295.out gs) (Kd.R_base ho0) hb); have n1_ := Aside0.mk (Kd.R_lower (Kd.R_new' ho0 (Kd.R_lt (Kd.R_below HO295.out gs))) (below_size (bb HB.out))); have n2_ := Aside0.mk (below_step (bb HB.out) hb); clear HO295; clear HB; have HO295 := n0_; have HO298 := n1_; have HB := n2_; clear n0_ n1_ n2_; (try clear hb); (try clear hb2); (try clear hk); (try clear hi); (try clear ho0); obtain ⟨Ao15, co15, eo15⟩ := Kd.R_slice HO295.out; subst eo15; obtain ⟨Ao16, co16, eo16⟩ := Kd.R_slice HO298.out; subst eo16) | ((with_reducible refine gate_callee (f := 35) rfl ?_); refine goesL_ (some 30) rfl rfl Try.func35 (by kernel_rfl) rfl #[.int .i64 a0, .slice Ao15 t293.length co15, .slice Ao16 t296.length co16] rfl (by (try simp only [List.map_toArray, List.map_cons, List.map_nil]); first | done | rfl | (simp only [List.length_drop, List.length_take]; rfl)) ?_; (with_reducible refine (spec_SpaceThrough.calls k a0 (fun k_ => some k_ = (.slice Ao15 t293.length co15 : Value).ownBlock) _ _ t293 (fun k_ => some k_ = (.slice Ao16 t296.length co16 : Value).ownBlock) _ _ t296 t299 t302 _ ?side1 ?side2 A8.out).mono ?_); (case side1 => exact Kd.R_V (Kd.R_tight rfl (HO295.out))); (case side2 => exact Kd.R_V (Kd.R_tight rfl (HO298.out))); rintro e w17 ⟨v300, rfl, ho0, hb⟩; refine ⟨_, rfl, ?_⟩; have n0_ := Aside0.mk (Kd.R_elder' (Kd.R_below HO295.out gs) (Kd.R_base ho0) hb); have n1_ := Aside0.mk (Kd.R_elder' (Kd.R_below HO298.out gs) (Kd.R_base ho0) hb); have n2_ := Aside0.mk (Kd.R_lower (Kd.R_new' (Kd.R_new' (Kd.R_mono (ok' := fun k_ => True) ho0 (fun _ hk_ => trivial)) (Kd.R_lt (Kd.R_below HO295.out gs))) (Kd.R_lt (Kd.R_below HO298.out gs))) (below_size (bb HB.out))); have n3_ := Aside0.mk (below_step (bb HB.out) hb); clear HO295; clear HO298; clear HB; have HO295 := n0_; have HO298 := n1_; have HO301 := n2_; have HB := n3_; clear n0_ n1_ n2_ n3_; (try clear hb); (try clear hb2); (try clear hk); (try clear hi); (try clear ho0)) | ((with_reducible refine gate_callee (f := 16) rfl ?_); refine goesL_ (some 34) rfl rfl Try.func16 (by kernel_rfl) rfl #[.slice A1 l1.length c1] rfl (by (try simp only [List.map_toArray, List.map_cons, List.map_nil]); first | done | rfl | (simp only [List.length_drop, List.length_take]; rfl)) ?_; (with_reducible refine (laws_toIntS.calls k _ _ l1 t303 _ ?side1 ?side2 A9.out).mono ?_); (case side1 => exact Kd.C_below HR1.out (bb HB.out)); (case side2 => exact HC1.out); rintro e w18 ⟨v304, rfl, ho0, hb⟩; refine ⟨_, rfl, ?_⟩; have n0_ := Aside0.mk (Kd.R_elder' (Kd.R_below HO295.out gs) (Kd.R_base ho0) hb); have n1_ := Aside0.mk (Kd.R_elder' (Kd.R_below HO298.out gs) (Kd.R_base ho0) hb); have n2_ := Aside0.mk (Kd.R_elder' (Kd.R_below HO301.out gs) (Kd.R_base ho0) hb); have n3_ := Aside0.mk (Kd.R_lower (Kd.R_new' (Kd.R_new' (Kd.R_new' ho0 (Kd.R_lt (Kd.R_below HO295.out gs))) (Kd.R_lt (Kd.R_below HO298.out gs))) (Kd.R_lt (Kd.R_below HO301.out gs))) (below_size (bb HB.out))); have n4_ := Aside0.mk (below_step (bb HB.out) hb); clear HO295; clear HO298; clear HO301; clear HB; have HO295 := n0_; have HO298 := n1_; have HO301 := n2_; have HO305 := n3_; have HB := n4_; clear n0_ n1_ n2_ n3_ n4_; (try clear hb); (try clear hb2); (try clear hk); (try clear hi); (try clear ho0)) | ((with_reducible refine gate_callee (f := 16) rfl ?_); refine goesL_ (some 36) rfl rfl Try.func16 (by kernel_rfl) rfl #[.slice A2 l2.length c2] rfl (by (try simp only [List.map_toArray, List.map_cons, List.map_nil]); first | done | rfl | (simp only [List.length_drop, List.length_take]; rfl)) ?_; (with_reducible refine (laws_toIntS.calls k _ _ l2 t306 _ ?side1 ?side2 A10.out).mono ?_); (case side1 => exact Kd.C_below HR2.out (bb HB.out)); (case side2 => exact HC2.out); rintro e w19 ⟨v307, rfl, ho0, hb⟩; refine ⟨_, rfl, ?_⟩; have n0_ := Aside0.mk (Kd.R_elder' (Kd.R_below HO295.out gs) (Kd.R_base ho0) hb); have n1_ := Aside0.mk (Kd.R_elder' (Kd.R_below HO298.out gs) (Kd.R_base ho0) hb); have n2_ := Aside0.mk (Kd.R_elder' (Kd.R_below HO301.out gs) (Kd.R_base ho0) hb); have n3_ := Aside0.mk (Kd.R_elder' (Kd.R_below HO305.out gs) (Kd.R_base ho0) hb); have n4_ := Aside0.mk (Kd.R_lower (Kd.R_new' (Kd.R_new' (Kd.R_new' (Kd.R_new' ho0 (Kd.R_lt (Kd.R_below HO295.out gs))) (Kd.R_lt (Kd.R_below HO298.out gs))) (Kd.R_lt (Kd.R_below HO301.out gs))) (Kd.R_lt (Kd.R_below HO305.out gs))) (below_size (bb HB.out))); have n5_ := Aside0.mk (below_step (bb HB.out) hb); clear HO295; clear HO298; clear HO301; clear HO305; clear HB; have HO295 := n0_; have HO298 := n1_; have HO301 := n2_; have HO305 := n3_; have HO308 := n4_; have HB := n5_; clear n0_ n1_ n2_ n3_ n4_ n5_; (try clear hb); (try clear hb2); (try clear hk); (try clear hi); (try clear ho0); obtain ⟨Ao20, co20, eo20⟩ := Kd.R_slice HO305.out; subst eo20; obtain ⟨Ao21, co21, eo21⟩ := Kd.R_slice HO308.out; subst eo21) | ((with_reducible refine gate_callee (f := 36) rfl ?_); refine goesL_ (some 41) rfl rfl Try.func36 (by kernel_rfl) rfl #[.int .i64 a0, .slice Ao20 t303.length co20, .slice Ao21 t306.length co21] rfl (by (try simp only [List.map_toArray, List.map_cons, List.map_nil]); first | done | rfl | (simp only [List.length_drop, List.length_take]; rfl)) ?_; (with_reducible refine (impl_SpaceThrough.calls k a0 (fun k_ => some k_ = (.slice Ao20 t303.length co20 : Value).ownBlock) _ _ t303 (fun k_ => some k_ = (.slice Ao21 t306.length co21 : Value).ownBlock) _ _ t306 t309 t312 _ ?side1 ?side2 A11.out).mono ?_); (case side1 => exact Kd.R_V (Kd.R_tight rfl (HO305.out))); (case side2 => exact Kd.R_V (Kd.R_tight rfl (HO308.out))); rintro e w22 ⟨v310, rfl, ho0, hb⟩; refine ⟨_, rfl, ?_⟩; have n0_ := Aside0.mk (Kd.R_elder' (Kd.R_below HO295.out gs) (Kd.R_base ho0) hb); have n1_ := Aside0.mk (Kd.R_elder' (Kd.R_below HO298.out gs) (Kd.R_base ho0) hb); have n2_ := Aside0.mk (Kd.R_elder' (Kd.R_below HO301.out gs) (Kd.R_base ho0) hb); have n3_ := Aside0.mk (Kd.R_elder' (Kd.R_below HO305.out gs) (Kd.R_base ho0) hb); have n4_ := Aside0.mk (Kd.R_elder' (Kd.R_below HO308.out gs) (Kd.R_base ho0) hb); have n5_ := Aside0.mk (Kd.R_lower (Kd.R_new' (Kd.R_new' (Kd.R_new' (Kd.R_new' (Kd.R_new' (Kd.R_mono (ok' := fun k_ => True) ho0 (fun _ hk_ => trivial)) (Kd.R_lt (Kd.R_below HO295.out gs))) (Kd.R_lt (Kd.R_below HO298.out gs))) (Kd.R_lt (Kd.R_below HO301.out gs))) (Kd.R_lt (Kd.R_below HO305.out gs))) (Kd.R_lt (Kd.R_below HO308.out gs))) (below_size (bb HB.out))); have n6_ := Aside0.mk (below_step (bb HB.out) hb); clear HO295; clear HO298; clear HO301; clear HO305; clear HO308; clear HB; have HO295 := n0_; have HO298 := n1_; have HO301 := n2_; have HO305 := n3_; have HO308 := n4_; have HO311 := n5_; have HB := n6_; clear n0_ n1_ n2_ n3_ n4_ n5_ n6_; (try clear hb); (try clear hb2); (try clear hk); (try clear hi); (try clear ho0)))
      (try simp only [Act.put, List.setIfInBounds_toArray, List.set_cons_zero, List.set_cons_succ])
      go_cut [52] (fun v52 wc => ∃ (kq : Nat) (x52_11 : Bool), v52 = .bool x52_11 ∧ Aside0 (laws_FnExactSpaceThrough.j0 kq a0 l1 l2 t299 t302 t303 t306 t309 t312 x52_11 = some r) ∧ Aside0 (kq ≤ k) ∧ Aside0 (Kd.R (Kd.int .i64) 3 wc w.heap.size (fun k_ => some k_ ≠ ((.slice Ao20 t303.length co20) : Value).ownBlock ∧ some k_ ≠ ((.slice Ao21 t306.length co21) : Value).ownBlock ∧ some k_ ≠ (v310 : Value).ownBlock) v300 t299) ∧ Aside0 (Kd.R (Kd.int .i64) 3 wc w.heap.size (fun k_ => some k_ ≠ (v300 : Value).ownBlock ∧ some k_ ≠ ((.slice Ao21 t306.length co21) : Value).ownBlock ∧ some k_ ≠ (v310 : Value).ownBlock) (.slice Ao20 t303.length co20) t303) ∧ Aside0 (Kd.R (Kd.int .i64) 3 wc w.heap.size (fun k_ => some k_ ≠ (v300 : Value).ownBlock ∧ some k_ ≠ ((.slice Ao20 t303.length co20) : Value).ownBlock ∧ some k_ ≠ (v310 : Value).ownBlock) (.slice Ao21 t306.length co21) t306) ∧ Aside0 (Kd.R (Kd.int .i64) 3 wc w.heap.size (fun k_ => some k_ ≠ (v300 : Value).ownBlock ∧ some k_ ≠ ((.slice Ao20 t303.length co20) : Value).ownBlock ∧ some k_ ≠ ((.slice Ao21 t306.length co21) : Value).ownBlock) v310 t309) ∧ Aside0 (Below w.heap.size w wc))
      case first =>
        have H := HC12.out
        clear HC12
        replace H := Option.bind_eq_some_iff.mp H
        obtain ⟨t313, A230, H⟩ := H
        replace H : (if t313 = true then (laws_FnExactSpaceThrough.j0 k a0 l1 l2 t299 t302 t303 t306 t309 t312 (t312 != t302)) else (laws_FnExactSpaceThrough.j0 k a0 l1 l2 t299 t302 t303 t306 t309 t312 true)) = some r := H
        have A23 := Aside0.mk A230
        clear A230
        by_cases c24 : t313 = true
        · subst c24
          have H1 : (laws_FnExactSpaceThrough.j0 k a0 l1 l2 t299 t302 t303 t306 t309 t312 (t312 != t302)) = some r := by rw [if_pos rfl] at H; exact H
          clear H
          have H := H1
          clear H1
          have H' := Aside0.mk H
          clear H
          obtain ⟨Ao25, co25, eo25⟩ := Kd.R_slice HO311.out
          subst eo25
          obtain ⟨Ao26, co26, eo26⟩ := Kd.R_slice HO301.out
          subst eo26
          go_wp2_with (first | ((with_reducible refine gate_callee (f := 18) rfl ?_); refine goesL_ (some 46) rfl rfl Try.func18 (by kernel_rfl) rfl #[.slice Ao25 t309.length co25, .slice Ao26 t299.length co26] rfl (by (try simp only [List.map_toArray, List.map_cons, List.map_nil]); first | done | rfl | (simp only [List.length_drop, List.length_take]; rfl)) ?_; (with_reducible refine (laws_eqIntS.calls k _ _ t309 _ _ t299 true _ ?side1 ?side2 ?side3 ?side4 A23.out).mono ?_); (case side1 => exact Kd.C_below (Kd.R_reads' HO311.out).2.2 gs); (case side2 => exact (Kd.R_reads' HO311.out).2.1); (case side3 => exact Kd.C_below (Kd.R_reads' HO301.out).2.2 gs); (case side4 => exact (Kd.R_reads' HO301.out).2.1); rintro e w' ⟨rfl, ⟨nd, rfl⟩⟩; refine ⟨_, rfl, ?_⟩))
          go_meet
          case rel => exact ⟨_, ((t312 != t302)), (by first | rfl | (simp; done) | (simp [*]; done)), H', ⟨by first | omega | exact Nat.le_refl _⟩, ⟨by (with_reducible repeat (first | apply Kd.R_alloc | apply Kd.R_drewN | apply Kd.R_drew)); exact Kd.R_mono HO301.out (fun _ hk => ⟨hk.1.1.2, ⟨hk.1.2, hk.2⟩⟩)⟩, ⟨by (with_reducible repeat (first | apply Kd.R_alloc | apply Kd.R_drewN | apply Kd.R_drew)); exact Kd.R_mono HO305.out (fun _ hk => ⟨hk.1.1.2, ⟨hk.1.2, hk.2⟩⟩)⟩, ⟨by (with_reducible repeat (first | apply Kd.R_alloc | apply Kd.R_drewN | apply Kd.R_drew)); exact Kd.R_mono HO308.out (fun _ hk => ⟨hk.1.1.2, ⟨hk.1.2, hk.2⟩⟩)⟩, ⟨by (with_reducible repeat (first | apply Kd.R_alloc | apply Kd.R_drewN | apply Kd.R_drew)); exact Kd.R_mono HO311.out (fun _ hk => ⟨hk.1.1.2, ⟨hk.1.2, hk.2⟩⟩)⟩, ⟨by repeat (first | (with_reducible first | exact HB.out | apply below_alloc | apply pw_below_drewN | apply below_drew1) | exact HB.out)⟩⟩
        · replace c24 := Bool.eq_false_iff.mpr c24
          subst c24
          have H1 : (laws_FnExactSpaceThrough.j0 k a0 l1 l2 t299 t302 t303 t306 t309 t312 true) = some r := by rw [if_neg (show ¬ (false = true) by decide)] at H; exact H
          clear H
          have H := H1
          clear H1
          have H' := Aside0.mk H
          clear H
          obtain ⟨Ao27, co27, eo27⟩ := Kd.R_slice HO311.out
          subst eo27
          obtain ⟨Ao28, co28, eo28⟩ := Kd.R_slice HO301.out
          subst eo28
          go_wp2_with (first | ((with_reducible refine gate_callee (f := 18) rfl ?_); refine goesL_ (some 46) rfl rfl Try.func18 (by kernel_rfl) rfl #[.slice Ao27 t309.length co27, .slice Ao28 t299.length co28] rfl (by (try simp only [List.map_toArray, List.map_cons, List.map_nil]); first | done | rfl | (simp only [List.length_drop, List.length_take]; rfl)) ?_; (with_reducible refine (laws_eqIntS.calls k _ _ t309 _ _ t299 false _ ?side1 ?side2 ?side3 ?side4 A23.out).mono ?_); (case side1 => exact Kd.C_below (Kd.R_reads' HO311.out).2.2 gs); (case side2 => exact (Kd.R_reads' HO311.out).2.1); (case side3 => exact Kd.C_below (Kd.R_reads' HO301.out).2.2 gs); (case side4 => exact (Kd.R_reads' HO301.out).2.1); rintro e w' ⟨rfl, ⟨nd, rfl⟩⟩; refine ⟨_, rfl, ?_⟩))
          go_meet
          case rel => exact ⟨_, (true), (by first | rfl | (simp; done) | (simp [*]; done)), H', ⟨by first | omega | exact Nat.le_refl _⟩, ⟨by (with_reducible repeat (first | apply Kd.R_alloc | apply Kd.R_drewN | apply Kd.R_drew)); exact Kd.R_mono HO301.out (fun _ hk => ⟨hk.1.1.2, ⟨hk.1.2, hk.2⟩⟩)⟩, ⟨by (with_reducible repeat (first | apply Kd.R_alloc | apply Kd.R_drewN | apply Kd.R_drew)); exact Kd.R_mono HO305.out (fun _ hk => ⟨hk.1.1.2, ⟨hk.1.2, hk.2⟩⟩)⟩, ⟨by (with_reducible repeat (first | apply Kd.R_alloc | apply Kd.R_drewN | apply Kd.R_drew)); exact Kd.R_mono HO308.out (fun _ hk => ⟨hk.1.1.2, ⟨hk.1.2, hk.2⟩⟩)⟩, ⟨by (with_reducible repeat (first | apply Kd.R_alloc | apply Kd.R_drewN | apply Kd.R_drew)); exact Kd.R_mono HO311.out (fun _ hk => ⟨hk.1.1.2, ⟨hk.1.2, hk.2⟩⟩)⟩, ⟨by repeat (first | (with_reducible first | exact HB.out | apply below_alloc | apply pw_below_drewN | apply below_drew1) | exact HB.out)⟩⟩
      case rest =>
        clear HC12
        try clear c1
        try clear c2
        try clear p2
        try clear c3
        try clear c4
        try clear c4b0
        try clear c4b1
        try clear c5
        try clear c5b0
        try clear c5b1
        try clear c10
        try clear c16
        try clear c18
        try clear c24
        obtain ⟨kq, x52_11, rfl, HA, HJ11, HO_7, HO_9, HO_10, HO_11, HB⟩ := hcut
        cases kq with
        | zero => exact absurd HA.out (by simp [laws_FnExactSpaceThrough.j0])
        | succ kj11 =>
          have H := HA.out
          clear HA
          simp only [laws_FnExactSpaceThrough.j0] at H
          by_cases c29 : x52_11 = true
          · subst c29
            have H1 : (some false) = some r := by rw [if_pos rfl] at H; exact H
            clear H
            have H := H1
            clear H1
            exact absurd (H.trans (congrArg some HT.out)) (by simp)
          · replace c29 := Bool.eq_false_iff.mpr c29
            subst c29
            have H1 : ((laws_toIntS.f kj11 l1).bind fun t314 => ((laws_eqIntS.f kj11 t303 t314).bind fun t317 => (if t317 = true then ((laws_toIntS.f kj11 l2).bind fun t318 => ((laws_eqIntS.f kj11 t306 t318).bind fun t321 => (if t321 = true then ((laws_markIntS.f kj11 t303 1).bind fun bt322 => ((laws_markIntS.f kj11 t306 bt322.1).bind fun bt324 => (if bt324.1 < 0 then (laws_FnExactSpaceThrough.j1 kj11 a0 l1 l2 t299 t302 t309 true) else ((laws_eqIntS.f kj11 t309 t299).bind fun t326 => (if t326 = true then (laws_FnExactSpaceThrough.j1 kj11 a0 l1 l2 t299 t302 t309 (t312 != t302)) else (laws_FnExactSpaceThrough.j1 kj11 a0 l1 l2 t299 t302 t309 true)))))) else (some false)))) else (some false)))) = some r := by rw [if_neg (show ¬ (false = true) by decide)] at H; exact H
            clear H
            have H := H1
            clear H1
            replace H := Option.bind_eq_some_iff.mp H
            obtain ⟨t314, A300, H⟩ := H
            replace H : ((laws_eqIntS.f kj11 t303 t314).bind fun t317 => (if t317 = true then ((laws_toIntS.f kj11 l2).bind fun t318 => ((laws_eqIntS.f kj11 t306 t318).bind fun t321 => (if t321 = true then ((laws_markIntS.f kj11 t303 1).bind fun bt322 => ((laws_markIntS.f kj11 t306 bt322.1).bind fun bt324 => (if bt324.1 < 0 then (laws_FnExactSpaceThrough.j1 kj11 a0 l1 l2 t299 t302 t309 true) else ((laws_eqIntS.f kj11 t309 t299).bind fun t326 => (if t326 = true then (laws_FnExactSpaceThrough.j1 kj11 a0 l1 l2 t299 t302 t309 (t312 != t302)) else (laws_FnExactSpaceThrough.j1 kj11 a0 l1 l2 t299 t302 t309 true)))))) else (some false)))) else (some false))) = some r := H
            have A30 := Aside0.mk A300
            clear A300
            replace H := Option.bind_eq_some_iff.mp H
            obtain ⟨t317, A310, H⟩ := H
            replace H : (if t317 = true then ((laws_toIntS.f kj11 l2).bind fun t318 => ((laws_eqIntS.f kj11 t306 t318).bind fun t321 => (if t321 = true then ((laws_markIntS.f kj11 t303 1).bind fun bt322 => ((laws_markIntS.f kj11 t306 bt322.1).bind fun bt324 => (if bt324.1 < 0 then (laws_FnExactSpaceThrough.j1 kj11 a0 l1 l2 t299 t302 t309 true) else ((laws_eqIntS.f kj11 t309 t299).bind fun t326 => (if t326 = true then (laws_FnExactSpaceThrough.j1 kj11 a0 l1 l2 t299 t302 t309 (t312 != t302)) else (laws_FnExactSpaceThrough.j1 kj11 a0 l1 l2 t299 t302 t309 true)))))) else (some false)))) else (some false)) = some r := H
            have A31 := Aside0.mk A310
            clear A310
            by_cases c32 : t317 = true
            · subst c32
              have H1 : ((laws_toIntS.f kj11 l2).bind fun t318 => ((laws_eqIntS.f kj11 t306 t318).bind fun t321 => (if t321 = true then ((laws_markIntS.f kj11 t303 1).bind fun bt322 => ((laws_markIntS.f kj11 t306 bt322.1).bind fun bt324 => (if bt324.1 < 0 then (laws_FnExactSpaceThrough.j1 kj11 a0 l1 l2 t299 t302 t309 true) else ((laws_eqIntS.f kj11 t309 t299).bind fun t326 => (if t326 = true then (laws_FnExactSpaceThrough.j1 kj11 a0 l1 l2 t299 t302 t309 (t312 != t302)) else (laws_FnExactSpaceThrough.j1 kj11 a0 l1 l2 t299 t302 t309 true)))))) else (some false)))) = some r := by rw [if_pos rfl] at H; exact H
              clear H
              have H := H1
              clear H1
              replace H := Option.bind_eq_some_iff.mp H
              obtain ⟨t318, A330, H⟩ := H
              replace H : ((laws_eqIntS.f kj11 t306 t318).bind fun t321 => (if t321 = true then ((laws_markIntS.f kj11 t303 1).bind fun bt322 => ((laws_markIntS.f kj11 t306 bt322.1).bind fun bt324 => (if bt324.1 < 0 then (laws_FnExactSpaceThrough.j1 kj11 a0 l1 l2 t299 t302 t309 true) else ((laws_eqIntS.f kj11 t309 t299).bind fun t326 => (if t326 = true then (laws_FnExactSpaceThrough.j1 kj11 a0 l1 l2 t299 t302 t309 (t312 != t302)) else (laws_FnExactSpaceThrough.j1 kj11 a0 l1 l2 t299 t302 t309 true)))))) else (some false))) = some r := H
              have A33 := Aside0.mk A330
              clear A330
              replace H := Option.bind_eq_some_iff.mp H
              obtain ⟨t321, A340, H⟩ := H
              replace H : (if t321 = true then ((laws_markIntS.f kj11 t303 1).bind fun bt322 => ((laws_markIntS.f kj11 t306 bt322.1).bind fun bt324 => (if bt324.1 < 0 then (laws_FnExactSpaceThrough.j1 kj11 a0 l1 l2 t299 t302 t309 true) else ((laws_eqIntS.f kj11 t309 t299).bind fun t326 => (if t326 = true then (laws_FnExactSpaceThrough.j1 kj11 a0 l1 l2 t299 t302 t309 (t312 != t302)) else (laws_FnExactSpaceThrough.j1 kj11 a0 l1 l2 t299 t302 t309 true)))))) else (some false)) = some r := H
              have A34 := Aside0.mk A340
              clear A340
              by_cases c35 : t321 = true
              · subst c35
                have H1 : ((laws_markIntS.f kj11 t303 1).bind fun bt322 => ((laws_markIntS.f kj11 t306 bt322.1).bind fun bt324 => (if bt324.1 < 0 then (laws_FnExactSpaceThrough.j1 kj11 a0 l1 l2 t299 t302 t309 true) else ((laws_eqIntS.f kj11 t309 t299).bind fun t326 => (if t326 = true then (laws_FnExactSpaceThrough.j1 kj11 a0 l1 l2 t299 t302 t309 (t312 != t302)) else (laws_FnExactSpaceThrough.j1 kj11 a0 l1 l2 t299 t302 t309 true)))))) = some r := by rw [if_pos rfl] at H; exact H
                clear H
                have H := H1
                clear H1
                replace H := Option.bind_eq_some_iff.mp H
                obtain ⟨⟨t322, t323⟩, A360, H⟩ := H
                replace H : ((laws_markIntS.f kj11 t306 t322).bind fun bt324 => (if bt324.1 < 0 then (laws_FnExactSpaceThrough.j1 kj11 a0 l1 l2 t299 t302 t309 true) else ((laws_eqIntS.f kj11 t309 t299).bind fun t326 => (if t326 = true then (laws_FnExactSpaceThrough.j1 kj11 a0 l1 l2 t299 t302 t309 (t312 != t302)) else (laws_FnExactSpaceThrough.j1 kj11 a0 l1 l2 t299 t302 t309 true))))) = some r := H
                have A36 := Aside0.mk A360
                clear A360
                replace H := Option.bind_eq_some_iff.mp H
                obtain ⟨⟨t324, t325⟩, A370, H⟩ := H
                replace H : (if t324 < 0 then (laws_FnExactSpaceThrough.j1 kj11 a0 l1 l2 t299 t302 t309 true) else ((laws_eqIntS.f kj11 t309 t299).bind fun t326 => (if t326 = true then (laws_FnExactSpaceThrough.j1 kj11 a0 l1 l2 t299 t302 t309 (t312 != t302)) else (laws_FnExactSpaceThrough.j1 kj11 a0 l1 l2 t299 t302 t309 true)))) = some r := H
                have A37 := Aside0.mk A370
                clear A370
                have HC38 := Aside0.mk H
                clear H
                go_upto_region 18 with (first | ((with_reducible refine gate_callee (f := 16) rfl ?_); refine goesL_ (some 55) rfl rfl Try.func16 (by kernel_rfl) rfl #[.slice A1 l1.length c1] rfl (by (try simp only [List.map_toArray, List.map_cons, List.map_nil]); first | done | rfl | (simp only [List.length_drop, List.length_take]; rfl)) ?_; (with_reducible refine (laws_toIntS.calls kj11 _ _ l1 t314 _ ?side1 ?side2 A30.out).mono ?_); (case side1 => exact Kd.C_below HR1.out (bb HB.out)); (case side2 => exact HC1.out); rintro e w39 ⟨v315, rfl, ho0, hb⟩; refine ⟨_, rfl, ?_⟩; have n0_ := Aside0.mk (Kd.R_elder' (by (with_reducible repeat (first | apply Kd.R_alloc | apply Kd.R_drewN | apply Kd.R_drew)); exact HO_7.out) (Kd.R_base ho0) hb); have n1_ := Aside0.mk (Kd.R_elder' (by (with_reducible repeat (first | apply Kd.R_alloc | apply Kd.R_drewN | apply Kd.R_drew)); exact HO_9.out) (Kd.R_base ho0) hb); have n2_ := Aside0.mk (Kd.R_elder' (by (with_reducible repeat (first | apply Kd.R_alloc | apply Kd.R_drewN | apply Kd.R_drew)); exact HO_10.out) (Kd.R_base ho0) hb); have n3_ := Aside0.mk (Kd.R_elder' (by (with_reducible repeat (first | apply Kd.R_alloc | apply Kd.R_drewN | apply Kd.R_drew)); exact HO_11.out) (Kd.R_base ho0) hb); have n4_ := Aside0.mk (Kd.R_lower (Kd.R_new' (Kd.R_new' (Kd.R_new' (Kd.R_new' ho0 (Kd.R_lt (by (with_reducible repeat (first | apply Kd.R_alloc | apply Kd.R_drewN | apply Kd.R_drew)); exact HO_7.out))) (Kd.R_lt (by (with_reducible repeat (first | apply Kd.R_alloc | apply Kd.R_drewN | apply Kd.R_drew)); exact HO_9.out))) (Kd.R_lt (by (with_reducible repeat (first | apply Kd.R_alloc | apply Kd.R_drewN | apply Kd.R_drew)); exact HO_10.out))) (Kd.R_lt (by (with_reducible repeat (first | apply Kd.R_alloc | apply Kd.R_drewN | apply Kd.R_drew)); exact HO_11.out))) (below_size (bb HB.out))); have n5_ := Aside0.mk (below_step (bb HB.out) hb); clear HO_7; clear HO_9; clear HO_10; clear HO_11; clear HB; have HO_7 := n0_; have HO_9 := n1_; have HO_10 := n2_; have HO_11 := n3_; have HO316 := n4_; have HB := n5_; clear n0_ n1_ n2_ n3_ n4_ n5_; (try clear hb); (try clear hb2); (try clear hk); (try clear hi); (try clear ho0); obtain ⟨Ao40, co40, eo40⟩ := Kd.R_slice HO316.out; subst eo40) | ((with_reducible refine gate_callee (f := 18) rfl ?_); refine goesL_ (some 56) rfl rfl Try.func18 (by kernel_rfl) rfl #[.slice Ao20 t303.length co20, .slice Ao40 t314.length co40] rfl (by (try simp only [List.map_toArray, List.map_cons, List.map_nil]); first | done | rfl | (simp only [List.length_drop, List.length_take]; rfl)) ?_; (with_reducible refine (laws_eqIntS.calls kj11 _ _ t303 _ _ t314 true _ ?side1 ?side2 ?side3 ?side4 A31.out).mono ?_); (case side1 => exact Kd.C_below (Kd.R_reads' HO_9.out).2.2 gs); (case side2 => exact (Kd.R_reads' HO_9.out).2.1); (case side3 => exact Kd.C_below (Kd.R_reads' HO316.out).2.2 gs); (case side4 => exact (Kd.R_reads' HO316.out).2.1); rintro e w' ⟨rfl, ⟨nd, rfl⟩⟩; refine ⟨_, rfl, ?_⟩) | ((with_reducible refine gate_callee (f := 16) rfl ?_); refine goesL_ (some 60) rfl rfl Try.func16 (by kernel_rfl) rfl #[.slice A2 l2.length c2] rfl (by (try simp only [List.map_toArray, List.map_cons, List.map_nil]); first | done | rfl | (simp only [List.length_drop, List.length_take]; rfl)) ?_; (with_reducible refine (laws_toIntS.calls kj11 _ _ l2 t318 _ ?side1 ?side2 A33.out).mono ?_); (case side1 => exact Kd.C_below HR2.out (bb HB.out)); (case side2 => exact HC2.out); rintro e w41 ⟨v319, rfl, ho0, hb⟩; refine ⟨_, rfl, ?_⟩; have n0_ := Aside0.mk (Kd.R_elder' (by (with_reducible repeat (first | apply Kd.R_alloc | apply Kd.R_drewN | apply Kd.R_drew)); exact HO_7.out) (Kd.R_base ho0) hb); have n1_ := Aside0.mk (Kd.R_elder' (by (with_reducible repeat (first | apply Kd.R_alloc | apply Kd.R_drewN | apply Kd.R_drew)); exact HO_9.out) (Kd.R_base ho0) hb); have n2_ := Aside0.mk (Kd.R_elder' (by (with_reducible repeat (first | apply Kd.R_alloc | apply Kd.R_drewN | apply Kd.R_drew)); exact HO_10.out) (Kd.R_base ho0) hb); have n3_ := Aside0.mk (Kd.R_elder' (by (with_reducible repeat (first | apply Kd.R_alloc | apply Kd.R_drewN | apply Kd.R_drew)); exact HO_11.out) (Kd.R_base ho0) hb); have n4_ := Aside0.mk (Kd.R_elder' (Kd.R_below HO316.out gs) (Kd.R_base ho0) hb); have n5_ := Aside0.mk (Kd.R_lower (Kd.R_new' (Kd.R_new' (Kd.R_new' (Kd.R_new' (Kd.R_new' ho0 (Kd.R_lt (by (with_reducible repeat (first | apply Kd.R_alloc | apply Kd.R_drewN | apply Kd.R_drew)); exact HO_7.out))) (Kd.R_lt (by (with_reducible repeat (first | apply Kd.R_alloc | apply Kd.R_drewN | apply Kd.R_drew)); exact HO_9.out))) (Kd.R_lt (by (with_reducible repeat (first | apply Kd.R_alloc | apply Kd.R_drewN | apply Kd.R_drew)); exact HO_10.out))) (Kd.R_lt (by (with_reducible repeat (first | apply Kd.R_alloc | apply Kd.R_drewN | apply Kd.R_drew)); exact HO_11.out))) (Kd.R_lt (Kd.R_below HO316.out gs))) (below_size (bb HB.out))); have n6_ := Aside0.mk (below_step (bb HB.out) hb); clear HO_7; clear HO_9; clear HO_10; clear HO_11; clear HO316; clear HB; have HO_7 := n0_; have HO_9 := n1_; have HO_10 := n2_; have HO_11 := n3_; have HO316 := n4_; have HO320 := n5_; have HB := n6_; clear n0_ n1_ n2_ n3_ n4_ n5_ n6_; (try clear hb); (try clear hb2); (try clear hk); (try clear hi); (try clear ho0); obtain ⟨Ao42, co42, eo42⟩ := Kd.R_slice HO320.out; subst eo42) | ((with_reducible refine gate_callee (f := 18) rfl ?_); refine goesL_ (some 61) rfl rfl Try.func18 (by kernel_rfl) rfl #[.slice Ao21 t306.length co21, .slice Ao42 t318.length co42] rfl (by (try simp only [List.map_toArray, List.map_cons, List.map_nil]); first | done | rfl | (simp only [List.length_drop, List.length_take]; rfl)) ?_; (with_reducible refine (laws_eqIntS.calls kj11 _ _ t306 _ _ t318 true _ ?side1 ?side2 ?side3 ?side4 A34.out).mono ?_); (case side1 => exact Kd.C_below (Kd.R_reads' HO_10.out).2.2 gs); (case side2 => exact (Kd.R_reads' HO_10.out).2.1); (case side3 => exact Kd.C_below (Kd.R_reads' HO320.out).2.2 gs); (case side4 => exact (Kd.R_reads' HO320.out).2.1); rintro e w' ⟨rfl, ⟨nd, rfl⟩⟩; refine ⟨_, rfl, ?_⟩) | ((with_reducible refine gate_callee (f := 37) rfl ?_); refine goesL_ (some 65) rfl rfl Try.func37 (by kernel_rfl) rfl #[.slice Ao20 t303.length co20, .int .i64 1] rfl (by (try simp only [List.map_toArray, List.map_cons, List.map_nil]); first | done | rfl | (simp only [List.length_drop, List.length_take]; rfl)) ?_; (with_reducible refine (laws_markIntS.calls kj11 (fun k_ => some k_ = (.slice Ao20 t303.length co20 : Value).ownBlock) (.slice Ao20 t303.length co20) t303 1 t322 t323 w _ ?side1 ?side2 A36.out).mono ?_); (case side1 => repeat (first | (with_reducible first | exact HB.out | apply below_alloc | apply pw_below_drewN | apply below_drew1) | exact HB.out)); (case side2 => exact Kd.R_tight rfl HO_9.out); rintro e w43 ⟨rfl, hy0, hb, hkp⟩; refine ⟨_, rfl, ?_⟩; have n0_ := Aside0.mk (Kd.R_mono (ok' := fun k_ => some k_ ≠ (.slice Ao20 t303.length co20 : Value).ownBlock ∧ some k_ ≠ (.slice Ao21 t306.length co21 : Value).ownBlock ∧ some k_ ≠ (v310 : Value).ownBlock ∧ some k_ ≠ (.slice Ao40 t314.length co40 : Value).ownBlock ∧ some k_ ≠ (.slice Ao42 t318.length co42 : Value).ownBlock) (Kd.R_keptB (HO_7.out) hkp (fun k_ hk_ hs_ => (hk_.1.1.1) hs_)) (fun k_ hk_ => ⟨hk_.1.1.1.1, hk_.1.1.1.2.1, hk_.1.1.1.2.2, hk_.1.1.2, hk_.1.2⟩)); have n1_ := Aside0.mk (Kd.R_reok rfl hy0 (fun k_ e_ => HO_9.out.1 k_ e_)); have n2_ := Aside0.mk (Kd.R_mono (ok' := fun k_ => some k_ ≠ (v300 : Value).ownBlock ∧ some k_ ≠ (.slice Ao20 t303.length co20 : Value).ownBlock ∧ some k_ ≠ (v310 : Value).ownBlock ∧ some k_ ≠ (.slice Ao40 t314.length co40 : Value).ownBlock ∧ some k_ ≠ (.slice Ao42 t318.length co42 : Value).ownBlock) (Kd.R_keptB (HO_10.out) hkp (fun k_ hk_ hs_ => (hk_.1.1.2.1) hs_)) (fun k_ hk_ => ⟨hk_.1.1.1.1, hk_.1.1.1.2.1, hk_.1.1.1.2.2, hk_.1.1.2, hk_.1.2⟩)); have n3_ := Aside0.mk (Kd.R_mono (ok' := fun k_ => some k_ ≠ (v300 : Value).ownBlock ∧ some k_ ≠ (.slice Ao20 t303.length co20 : Value).ownBlock ∧ some k_ ≠ (.slice Ao21 t306.length co21 : Value).ownBlock ∧ some k_ ≠ (.slice Ao40 t314.length co40 : Value).ownBlock ∧ some k_ ≠ (.slice Ao42 t318.length co42 : Value).ownBlock) (Kd.R_keptB (HO_11.out) hkp (fun k_ hk_ hs_ => (hk_.1.1.2.1) hs_)) (fun k_ hk_ => ⟨hk_.1.1.1.1, hk_.1.1.1.2.1, hk_.1.1.1.2.2, hk_.1.1.2, hk_.1.2⟩)); have n4_ := Aside0.mk (Kd.R_mono (ok' := fun k_ => some k_ ≠ (v300 : Value).ownBlock ∧ some k_ ≠ (.slice Ao20 t303.length co20 : Value).ownBlock ∧ some k_ ≠ (.slice Ao21 t306.length co21 : Value).ownBlock ∧ some k_ ≠ (v310 : Value).ownBlock ∧ some k_ ≠ (.slice Ao42 t318.length co42 : Value).ownBlock) (Kd.R_keptB (HO316.out) hkp (fun k_ hk_ hs_ => (hk_.1.1.1.2) hs_)) (fun k_ hk_ => ⟨hk_.1.1.1.1.1.2, hk_.1.1.1.1.2, hk_.1.1.1.2, hk_.1.1.2, hk_.1.2⟩)); have n5_ := Aside0.mk (Kd.R_mono (ok' := fun k_ => some k_ ≠ (v300 : Value).ownBlock ∧ some k_ ≠ (.slice Ao20 t303.length co20 : Value).ownBlock ∧ some k_ ≠ (.slice Ao21 t306.length co21 : Value).ownBlock ∧ some k_ ≠ (v310 : Value).ownBlock ∧ some k_ ≠ (.slice Ao40 t314.length co40 : Value).ownBlock) (Kd.R_keptB (HO320.out) hkp (fun k_ hk_ hs_ => (hk_.1.1.1.2) hs_)) (fun k_ hk_ => ⟨hk_.1.1.1.1.1.2, hk_.1.1.1.1.2, hk_.1.1.1.2, hk_.1.1.2, hk_.1.2⟩)); have n6_ := Aside0.mk (hb); clear HO_7; clear HO_9; clear HO_10; clear HO_11; clear HO316; clear HO320; clear HB; have HO_7 := n0_; have HO_9 := n1_; have HO_10 := n2_; have HO_11 := n3_; have HO316 := n4_; have HO320 := n5_; have HB := n6_; clear n0_ n1_ n2_ n3_ n4_ n5_ n6_; (try clear hb); (try clear hkp); (try clear hy0)) | ((with_reducible refine gate_callee (f := 37) rfl ?_); refine goesL_ (some 68) rfl rfl Try.func37 (by kernel_rfl) rfl #[.slice Ao21 t306.length co21, .int .i64 t322] rfl (by (try simp only [List.map_toArray, List.map_cons, List.map_nil]); first | done | rfl | (simp only [List.length_drop, List.length_take]; rfl)) ?_; (with_reducible refine (laws_markIntS.calls kj11 (fun k_ => some k_ = (.slice Ao21 t306.length co21 : Value).ownBlock) (.slice Ao21 t306.length co21) t306 t322 t324 t325 w _ ?side1 ?side2 A37.out).mono ?_); (case side1 => repeat (first | (with_reducible first | exact HB.out | apply below_alloc | apply pw_below_drewN | apply below_drew1) | exact HB.out)); (case side2 => exact Kd.R_tight rfl HO_10.out); rintro e w44 ⟨rfl, hy0, hb, hkp⟩; refine ⟨_, rfl, ?_⟩; have n0_ := Aside0.mk (Kd.R_mono (ok' := fun k_ => some k_ ≠ (.slice Ao20 t303.length co20 : Value).ownBlock ∧ some k_ ≠ (.slice Ao21 t306.length co21 : Value).ownBlock ∧ some k_ ≠ (v310 : Value).ownBlock ∧ some k_ ≠ (.slice Ao40 t314.length co40 : Value).ownBlock ∧ some k_ ≠ (.slice Ao42 t318.length co42 : Value).ownBlock) (Kd.R_keptB (HO_7.out) hkp (fun k_ hk_ hs_ => (hk_.2.1) hs_)) (fun k_ hk_ => ⟨hk_.1.1, hk_.1.2.1, hk_.1.2.2.1, hk_.1.2.2.2.1, hk_.1.2.2.2.2⟩)); have n1_ := Aside0.mk (Kd.R_mono (ok' := fun k_ => some k_ ≠ (v300 : Value).ownBlock ∧ some k_ ≠ (.slice Ao21 t306.length co21 : Value).ownBlock ∧ some k_ ≠ (v310 : Value).ownBlock ∧ some k_ ≠ (.slice Ao40 t314.length co40 : Value).ownBlock ∧ some k_ ≠ (.slice Ao42 t318.length co42 : Value).ownBlock) (Kd.R_keptB (HO_9.out) hkp (fun k_ hk_ hs_ => (hk_.1.1.2.1) hs_)) (fun k_ hk_ => ⟨hk_.1.1.1.1, hk_.1.1.1.2.1, hk_.1.1.1.2.2, hk_.1.1.2, hk_.1.2⟩)); have n2_ := Aside0.mk (Kd.R_reok rfl hy0 (fun k_ e_ => HO_10.out.1 k_ e_)); have n3_ := Aside0.mk (Kd.R_mono (ok' := fun k_ => some k_ ≠ (v300 : Value).ownBlock ∧ some k_ ≠ (.slice Ao20 t303.length co20 : Value).ownBlock ∧ some k_ ≠ (.slice Ao21 t306.length co21 : Value).ownBlock ∧ some k_ ≠ (.slice Ao40 t314.length co40 : Value).ownBlock ∧ some k_ ≠ (.slice Ao42 t318.length co42 : Value).ownBlock) (Kd.R_keptB (HO_11.out) hkp (fun k_ hk_ hs_ => (hk_.2.2.1) hs_)) (fun k_ hk_ => ⟨hk_.1.1, hk_.1.2.1, hk_.1.2.2.1, hk_.1.2.2.2.1, hk_.1.2.2.2.2⟩)); have n4_ := Aside0.mk (Kd.R_mono (ok' := fun k_ => some k_ ≠ (v300 : Value).ownBlock ∧ some k_ ≠ (.slice Ao20 t303.length co20 : Value).ownBlock ∧ some k_ ≠ (.slice Ao21 t306.length co21 : Value).ownBlock ∧ some k_ ≠ (v310 : Value).ownBlock ∧ some k_ ≠ (.slice Ao42 t318.length co42 : Value).ownBlock) (Kd.R_keptB (HO316.out) hkp (fun k_ hk_ hs_ => (hk_.2.2.1) hs_)) (fun k_ hk_ => ⟨hk_.1.1, hk_.1.2.1, hk_.1.2.2.1, hk_.1.2.2.2.1, hk_.1.2.2.2.2⟩)); have n5_ := Aside0.mk (Kd.R_mono (ok' := fun k_ => some k_ ≠ (v300 : Value).ownBlock ∧ some k_ ≠ (.slice Ao20 t303.length co20 : Value).ownBlock ∧ some k_ ≠ (.slice Ao21 t306.length co21 : Value).ownBlock ∧ some k_ ≠ (v310 : Value).ownBlock ∧ some k_ ≠ (.slice Ao40 t314.length co40 : Value).ownBlock) (Kd.R_keptB (HO320.out) hkp (fun k_ hk_ hs_ => (hk_.2.2.1) hs_)) (fun k_ hk_ => ⟨hk_.1.1, hk_.1.2.1, hk_.1.2.2.1, hk_.1.2.2.2.1, hk_.1.2.2.2.2⟩)); have n6_ := Aside0.mk (hb); clear HO_7; clear HO_9; clear HO_10; clear HO_11; clear HO316; clear HO320; clear HB; have HO_7 := n0_; have HO_9 := n1_; have HO_10 := n2_; have HO_11 := n3_; have HO316 := n4_; have HO320 := n5_; have HB := n6_; clear n0_ n1_ n2_ n3_ n4_ n5_ n6_; (try clear hb); (try clear hkp); (try clear hy0)))
                (try simp only [Act.put, List.setIfInBounds_toArray, List.set_cons_zero, List.set_cons_succ])
                go_cut [81] (fun v81 wc => ∃ (kq : Nat) (x81_37 : Bool), v81 = .bool x81_37 ∧ Aside0 (laws_FnExactSpaceThrough.j1 kq a0 l1 l2 t299 t302 t309 x81_37 = some r) ∧ Aside0 (kq ≤ kj11) ∧ Aside0 (Kd.R (Kd.int .i64) 3 wc w.heap.size (fun k_ => some k_ ≠ (v310 : Value).ownBlock) v300 t299) ∧ Aside0 (Kd.R (Kd.int .i64) 3 wc w.heap.size (fun k_ => some k_ ≠ (v300 : Value).ownBlock) v310 t309) ∧ Aside0 (Below w.heap.size w wc))
                case first =>
                  have H := HC38.out
                  clear HC38
                  by_cases c45 : t324 < 0
                  · rw [if_pos c45] at H
                    have c45b0 : decide (t324 < 0) = true := decide_eq_true c45
                    clear c45
                    (first | rw [c45b0] | (simp only [i64_w, i32_w]; rw [c45b0]) | skip)
                    have H' := Aside0.mk H
                    clear H
                    go_wp2
                    go_meet
                    case rel => exact ⟨_, (true), (by first | rfl | (simp; done) | (simp [*]; done)), H', ⟨by have := HJ11.out; first | omega | exact Nat.le_refl _⟩, ⟨by (with_reducible repeat (first | apply Kd.R_alloc | apply Kd.R_drewN | apply Kd.R_drew)); exact Kd.R_mono HO_7.out (fun _ hk => hk.2.2.1)⟩, ⟨by (with_reducible repeat (first | apply Kd.R_alloc | apply Kd.R_drewN | apply Kd.R_drew)); exact Kd.R_mono HO_11.out (fun _ hk => hk.1)⟩, ⟨by repeat (first | (with_reducible first | exact HB.out | apply below_alloc | apply pw_below_drewN | apply below_drew1) | exact HB.out)⟩⟩
                  · rw [if_neg c45] at H
                    have c45b0 : decide (t324 < 0) = false := decide_eq_false c45
                    clear c45
                    (first | rw [c45b0] | (simp only [i64_w, i32_w]; rw [c45b0]) | skip)
                    replace H := Option.bind_eq_some_iff.mp H
                    obtain ⟨t326, A460, H⟩ := H
                    replace H : (if t326 = true then (laws_FnExactSpaceThrough.j1 kj11 a0 l1 l2 t299 t302 t309 (t312 != t302)) else (laws_FnExactSpaceThrough.j1 kj11 a0 l1 l2 t299 t302 t309 true)) = some r := H
                    have A46 := Aside0.mk A460
                    clear A460
                    by_cases c47 : t326 = true
                    · subst c47
                      have H1 : (laws_FnExactSpaceThrough.j1 kj11 a0 l1 l2 t299 t302 t309 (t312 != t302)) = some r := by rw [if_pos rfl] at H; exact H
                      clear H
                      have H := H1
                      clear H1
                      have H' := Aside0.mk H
                      clear H
                      obtain ⟨Ao48, co48, eo48⟩ := Kd.R_slice HO_11.out
                      subst eo48
                      obtain ⟨Ao49, co49, eo49⟩ := Kd.R_slice HO_7.out
                      subst eo49
                      go_wp2_with (first | (go_at_call 18; (with_reducible refine (laws_eqIntS.calls kj11 _ _ t309 _ _ t299 true _ ?side1 ?side2 ?side3 ?side4 A46.out).mono ?_); (case side1 => exact Kd.C_below (Kd.R_reads' HO_11.out).2.2 gs); (case side2 => exact (Kd.R_reads' HO_11.out).2.1); (case side3 => exact Kd.C_below (Kd.R_reads' HO_7.out).2.2 gs); (case side4 => exact (Kd.R_reads' HO_7.out).2.1); rintro e w' ⟨rfl, ⟨nd, rfl⟩⟩))
                      go_meet
                      case rel => exact ⟨_, ((t312 != t302)), (by first | rfl | (simp; done) | (simp [*]; done)), H', ⟨by have := HJ11.out; first | omega | exact Nat.le_refl _⟩, ⟨by (with_reducible repeat (first | apply Kd.R_alloc | apply Kd.R_drewN | apply Kd.R_drew)); exact Kd.R_mono HO_7.out (fun _ hk => hk.2.2.1)⟩, ⟨by (with_reducible repeat (first | apply Kd.R_alloc | apply Kd.R_drewN | apply Kd.R_drew)); exact Kd.R_mono HO_11.out (fun _ hk => hk.1)⟩, ⟨by repeat (first | (with_reducible first | exact HB.out | apply below_alloc | apply pw_below_drewN | apply below_drew1) | exact HB.out)⟩⟩
                    · replace c47 := Bool.eq_false_iff.mpr c47
                      subst c47
                      have H1 : (laws_FnExactSpaceThrough.j1 kj11 a0 l1 l2 t299 t302 t309 true) = some r := by rw [if_neg (show ¬ (false = true) by decide)] at H; exact H
                      clear H
                      have H := H1
                      clear H1
                      have H' := Aside0.mk H
                      clear H
                      obtain ⟨Ao50, co50, eo50⟩ := Kd.R_slice HO_11.out
                      subst eo50
                      obtain ⟨Ao51, co51, eo51⟩ := Kd.R_slice HO_7.out
                      subst eo51
                      go_wp2_with (first | (go_at_call 18; (with_reducible refine (laws_eqIntS.calls kj11 _ _ t309 _ _ t299 false _ ?side1 ?side2 ?side3 ?side4 A46.out).mono ?_); (case side1 => exact Kd.C_below (Kd.R_reads' HO_11.out).2.2 gs); (case side2 => exact (Kd.R_reads' HO_11.out).2.1); (case side3 => exact Kd.C_below (Kd.R_reads' HO_7.out).2.2 gs); (case side4 => exact (Kd.R_reads' HO_7.out).2.1); rintro e w' ⟨rfl, ⟨nd, rfl⟩⟩))
                      go_meet
                      case rel => exact ⟨_, (true), (by first | rfl | (simp; done) | (simp [*]; done)), H', ⟨by have := HJ11.out; first | omega | exact Nat.le_refl _⟩, ⟨by (with_reducible repeat (first | apply Kd.R_alloc | apply Kd.R_drewN | apply Kd.R_drew)); exact Kd.R_mono HO_7.out (fun _ hk => hk.2.2.1)⟩, ⟨by (with_reducible repeat (first | apply Kd.R_alloc | apply Kd.R_drewN | apply Kd.R_drew)); exact Kd.R_mono HO_11.out (fun _ hk => hk.1)⟩, ⟨by repeat (first | (with_reducible first | exact HB.out | apply below_alloc | apply pw_below_drewN | apply below_drew1) | exact HB.out)⟩⟩
                case rest =>
                  clear HC38
                  try clear c1
                  try clear c2
                  try clear p2
                  try clear c3
                  try clear c4
                  try clear c4b0
                  try clear c4b1
                  try clear c5
                  try clear c5b0
                  try clear c5b1
                  try clear c10
                  try clear c16
                  try clear c18
                  try clear c24
                  try clear c29
                  try clear c32
                  try clear c35
                  try clear c36
                  try clear c37
                  try clear c45
                  try clear c45b0
                  try clear c47
                  try clear p2
                  obtain ⟨kq, x81_37, rfl, HA, HJ37, HO_7, HO_11, HB⟩ := hcut
                  cases kq with
                  | zero => exact absurd HA.out (by simp [laws_FnExactSpaceThrough.j1])
                  | succ kj37 =>
                    have H := HA.out
                    clear HA
                    simp only [laws_FnExactSpaceThrough.j1] at H
                    by_cases c52 : x81_37 = true
                    · subst c52
                      have H1 : (some false) = some r := by rw [if_pos rfl] at H; exact H
                      clear H
                      have H := H1
                      clear H1
                      exact absurd (H.trans (congrArg some HT.out)) (by simp)
                    · replace c52 := Bool.eq_false_iff.mpr c52
                      subst c52
                      have H1 : ((laws_markIntS.f kj37 t309 1).bind fun bt327 => ((laws_heldIntS.f kj37 bt327.2 1).bind fun t329 => (if t329 < 0 then (some false) else (if t329 = bt327.1 then ((laws_toIntS.f kj37 l1).bind fun t330 => ((laws_toIntS.f kj37 l2).bind fun t333 => ((impl_SpaceThrough.f kj37 a0 t330 t333).bind fun bt336 => ((laws_eqIntS.f kj37 bt336.1 t299).bind fun t340 => (if t340 = true then (laws_FnExactSpaceThrough.j2 kj37 bt327.2 bt327.1 (bt336.2 != t302)) else (laws_FnExactSpaceThrough.j2 kj37 bt327.2 bt327.1 true)))))) else (some false))))) = some r := by rw [if_neg (show ¬ (false = true) by decide)] at H; exact H
                      clear H
                      have H := H1
                      clear H1
                      replace H := Option.bind_eq_some_iff.mp H
                      obtain ⟨⟨t327, t328⟩, A530, H⟩ := H
                      replace H : ((laws_heldIntS.f kj37 t328 1).bind fun t329 => (if t329 < 0 then (some false) else (if t329 = t327 then ((laws_toIntS.f kj37 l1).bind fun t330 => ((laws_toIntS.f kj37 l2).bind fun t333 => ((impl_SpaceThrough.f kj37 a0 t330 t333).bind fun bt336 => ((laws_eqIntS.f kj37 bt336.1 t299).bind fun t340 => (if t340 = true then (laws_FnExactSpaceThrough.j2 kj37 t328 t327 (bt336.2 != t302)) else (laws_FnExactSpaceThrough.j2 kj37 t328 t327 true)))))) else (some false)))) = some r := H
                      have A53 := Aside0.mk A530
                      clear A530
                      replace H := Option.bind_eq_some_iff.mp H
                      obtain ⟨t329, A540, H⟩ := H
                      replace H : (if t329 < 0 then (some false) else (if t329 = t327 then ((laws_toIntS.f kj37 l1).bind fun t330 => ((laws_toIntS.f kj37 l2).bind fun t333 => ((impl_SpaceThrough.f kj37 a0 t330 t333).bind fun bt336 => ((laws_eqIntS.f kj37 bt336.1 t299).bind fun t340 => (if t340 = true then (laws_FnExactSpaceThrough.j2 kj37 t328 t327 (bt336.2 != t302)) else (laws_FnExactSpaceThrough.j2 kj37 t328 t327 true)))))) else (some false))) = some r := H
                      have A54 := Aside0.mk A540
                      clear A540
                      by_cases c55 : t329 < 0
                      · rw [if_pos c55] at H
                        have c55b0 : decide (t329 < 0) = true := decide_eq_true c55
                        clear c55
                        exact absurd (H.trans (congrArg some HT.out)) (by simp)
                      · rw [if_neg c55] at H
                        have c55b0 : decide (t329 < 0) = false := decide_eq_false c55
                        clear c55
                        by_cases c56 : t329 = t327
                        · rw [if_pos c56] at H
                          have c56b0 : (t329 == t327) = true := beq_iff_eq.mpr c56
                          have c56b1 : (t329 != t327) = false := bne_eq_false_iff_eq.mpr c56
                          clear c56
                          replace H := Option.bind_eq_some_iff.mp H
                          obtain ⟨t330, A570, H⟩ := H
                          replace H : ((laws_toIntS.f kj37 l2).bind fun t333 => ((impl_SpaceThrough.f kj37 a0 t330 t333).bind fun bt336 => ((laws_eqIntS.f kj37 bt336.1 t299).bind fun t340 => (if t340 = true then (laws_FnExactSpaceThrough.j2 kj37 t328 t327 (bt336.2 != t302)) else (laws_FnExactSpaceThrough.j2 kj37 t328 t327 true))))) = some r := H
                          have A57 := Aside0.mk A570
                          clear A570
                          replace H := Option.bind_eq_some_iff.mp H
                          obtain ⟨t333, A580, H⟩ := H
                          replace H : ((impl_SpaceThrough.f kj37 a0 t330 t333).bind fun bt336 => ((laws_eqIntS.f kj37 bt336.1 t299).bind fun t340 => (if t340 = true then (laws_FnExactSpaceThrough.j2 kj37 t328 t327 (bt336.2 != t302)) else (laws_FnExactSpaceThrough.j2 kj37 t328 t327 true)))) = some r := H
                          have A58 := Aside0.mk A580
                          clear A580
                          replace H := Option.bind_eq_some_iff.mp H
                          obtain ⟨⟨t336, t339⟩, A590, H⟩ := H
                          replace H : ((laws_eqIntS.f kj37 t336 t299).bind fun t340 => (if t340 = true then (laws_FnExactSpaceThrough.j2 kj37 t328 t327 (t339 != t302)) else (laws_FnExactSpaceThrough.j2 kj37 t328 t327 true))) = some r := H
                          have A59 := Aside0.mk A590
                          clear A590
                          have HC60 := Aside0.mk H
                          clear H
                          obtain ⟨Ao61, co61, eo61⟩ := Kd.R_slice HO_11.out
                          subst eo61
                          go_upto_region 29 with (first | ((with_reducible refine gate_callee (f := 37) rfl ?_); refine goesL_ (some 84) rfl rfl Try.func37 (by kernel_rfl) rfl #[.slice Ao61 t309.length co61, .int .i64 1] rfl (by (try simp only [List.map_toArray, List.map_cons, List.map_nil]); first | done | rfl | (simp only [List.length_drop, List.length_take]; rfl)) ?_; (with_reducible refine (laws_markIntS.calls kj37 (fun k_ => some k_ = (.slice Ao61 t309.length co61 : Value).ownBlock) (.slice Ao61 t309.length co61) t309 1 t327 t328 w _ ?side1 ?side2 A53.out).mono ?_); (case side1 => repeat (first | (with_reducible first | exact HB.out | apply below_alloc | apply pw_below_drewN | apply below_drew1) | exact HB.out)); (case side2 => exact Kd.R_tight rfl HO_11.out); rintro e w62 ⟨rfl, hy0, hb, hkp⟩; refine ⟨_, rfl, ?_⟩; have n0_ := Aside0.mk (Kd.R_mono (ok' := fun k_ => some k_ ≠ (.slice Ao61 t309.length co61 : Value).ownBlock) (Kd.R_keptB (HO_7.out) hkp (fun k_ hk_ hs_ => (hk_) hs_)) (fun k_ hk_ => hk_.1)); have n1_ := Aside0.mk (Kd.R_reok rfl hy0 (fun k_ e_ => HO_11.out.1 k_ e_)); have n2_ := Aside0.mk (hb); clear HO_7; clear HO_11; clear HB; have HO_7 := n0_; have HO_11 := n1_; have HB := n2_; clear n0_ n1_ n2_; (try clear hb); (try clear hkp); (try clear hy0)) | ((with_reducible refine gate_callee (f := 38) rfl ?_); refine goesL_ (some 87) rfl rfl Try.func38 (by kernel_rfl) rfl #[.slice Ao61 t328.length co61, .int .i64 1] rfl (by (try simp only [List.map_toArray, List.map_cons, List.map_nil]); first | done | (rw [show t328.length = t309.length from (Kd.R_reads' HO_11.out).1.symm] <;> rfl) | rfl | (simp only [List.length_drop, List.length_take]; rfl)) ?_; (with_reducible refine (laws_heldIntS.calls kj37 _ _ t328 1 t329 _ ?side1 ?side2 A54.out).mono ?_); (case side1 => exact Kd.C_below (Kd.R_reads' HO_11.out).2.2 gs); (case side2 => rw [show t328.length = t309.length from (Kd.R_reads' HO_11.out).1.symm]; exact (Kd.R_reads' HO_11.out).2.1); rintro e w' ⟨rfl, ⟨nd, rfl⟩⟩; refine ⟨_, rfl, ?_⟩) | ((with_reducible refine gate_callee (f := 16) rfl ?_); refine goesL_ (some 96) rfl rfl Try.func16 (by kernel_rfl) rfl #[.slice A1 l1.length c1] rfl (by (try simp only [List.map_toArray, List.map_cons, List.map_nil]); first | done | rfl | (simp only [List.length_drop, List.length_take]; rfl)) ?_; (with_reducible refine (laws_toIntS.calls kj37 _ _ l1 t330 _ ?side1 ?side2 A57.out).mono ?_); (case side1 => exact Kd.C_below HR1.out (bb HB.out)); (case side2 => exact HC1.out); rintro e w63 ⟨v331, rfl, ho0, hb⟩; refine ⟨_, rfl, ?_⟩; have n0_ := Aside0.mk (Kd.R_elder' (by (with_reducible repeat (first | apply Kd.R_alloc | apply Kd.R_drewN | apply Kd.R_drew)); exact HO_7.out) (Kd.R_base ho0) hb); have n1_ := Aside0.mk (Kd.R_elder' (by (with_reducible repeat (first | apply Kd.R_alloc | apply Kd.R_drewN | apply Kd.R_drew)); exact HO_11.out) (Kd.R_base ho0) hb); have n2_ := Aside0.mk (Kd.R_lower (Kd.R_new' (Kd.R_new' ho0 (Kd.R_lt (by (with_reducible repeat (first | apply Kd.R_alloc | apply Kd.R_drewN | apply Kd.R_drew)); exact HO_7.out))) (Kd.R_lt (by (with_reducible repeat (first | apply Kd.R_alloc | apply Kd.R_drewN | apply Kd.R_drew)); exact HO_11.out))) (below_size (bb HB.out))); have n3_ := Aside0.mk (below_step (bb HB.out) hb); clear HO_7; clear HO_11; clear HB; have HO_7 := n0_; have HO_11 := n1_; have HO332 := n2_; have HB := n3_; clear n0_ n1_ n2_ n3_; (try clear hb); (try clear hb2); (try clear hk); (try clear hi); (try clear ho0)) | ((with_reducible refine gate_callee (f := 16) rfl ?_); refine goesL_ (some 98) rfl rfl Try.func16 (by kernel_rfl) rfl #[.slice A2 l2.length c2] rfl (by (try simp only [List.map_toArray, List.map_cons, List.map_nil]); first | done | rfl | (simp only [List.length_drop, List.length_take]; rfl)) ?_; (with_reducible refine (laws_toIntS.calls kj37 _ _ l2 t333 _ ?side1 ?side2 A58.out).mono ?_); (case side1 => exact Kd.C_below HR2.out (bb HB.out)); (case side2 => exact HC2.out); rintro e w64 ⟨v334, rfl, ho0, hb⟩; refine ⟨_, rfl, ?_⟩; have n0_ := Aside0.mk (Kd.R_elder' (by (with_reducible repeat (first | apply Kd.R_alloc | apply Kd.R_drewN | apply Kd.R_drew)); exact HO_7.out) (Kd.R_base ho0) hb); have n1_ := Aside0.mk (Kd.R_elder' (by (with_reducible repeat (first | apply Kd.R_alloc | apply Kd.R_drewN | apply Kd.R_drew)); exact HO_11.out) (Kd.R_base ho0) hb); have n2_ := Aside0.mk (Kd.R_elder' (Kd.R_below HO332.out gs) (Kd.R_base ho0) hb); have n3_ := Aside0.mk (Kd.R_lower (Kd.R_new' (Kd.R_new' (Kd.R_new' ho0 (Kd.R_lt (by (with_reducible repeat (first | apply Kd.R_alloc | apply Kd.R_drewN | apply Kd.R_drew)); exact HO_7.out))) (Kd.R_lt (by (with_reducible repeat (first | apply Kd.R_alloc | apply Kd.R_drewN | apply Kd.R_drew)); exact HO_11.out))) (Kd.R_lt (Kd.R_below HO332.out gs))) (below_size (bb HB.out))); have n4_ := Aside0.mk (below_step (bb HB.out) hb); clear HO_7; clear HO_11; clear HO332; clear HB; have HO_7 := n0_; have HO_11 := n1_; have HO332 := n2_; have HO335 := n3_; have HB := n4_; clear n0_ n1_ n2_ n3_ n4_; (try clear hb); (try clear hb2); (try clear hk); (try clear hi); (try clear ho0); obtain ⟨Ao65, co65, eo65⟩ := Kd.R_slice HO332.out; subst eo65; obtain ⟨Ao66, co66, eo66⟩ := Kd.R_slice HO335.out; subst eo66) | ((with_reducible refine gate_callee (f := 36) rfl ?_); refine goesL_ (some 99) rfl rfl Try.func36 (by kernel_rfl) rfl #[.int .i64 a0, .slice Ao65 t330.length co65, .slice Ao66 t333.length co66] rfl (by (try simp only [List.map_toArray, List.map_cons, List.map_nil]); first | done | rfl | (simp only [List.length_drop, List.length_take]; rfl)) ?_; (with_reducible refine (impl_SpaceThrough.calls kj37 a0 (fun k_ => some k_ = (.slice Ao65 t330.length co65 : Value).ownBlock) _ _ t330 (fun k_ => some k_ = (.slice Ao66 t333.length co66 : Value).ownBlock) _ _ t333 t336 t339 _ ?side1 ?side2 A59.out).mono ?_); (case side1 => exact Kd.R_V (Kd.R_tight rfl (HO332.out))); (case side2 => exact Kd.R_V (Kd.R_tight rfl (HO335.out))); rintro e w67 ⟨v337, rfl, ho0, hb⟩; refine ⟨_, rfl, ?_⟩; have n0_ := Aside0.mk (Kd.R_elder' (by (with_reducible repeat (first | apply Kd.R_alloc | apply Kd.R_drewN | apply Kd.R_drew)); exact HO_7.out) (Kd.R_base ho0) hb); have n1_ := Aside0.mk (Kd.R_elder' (by (with_reducible repeat (first | apply Kd.R_alloc | apply Kd.R_drewN | apply Kd.R_drew)); exact HO_11.out) (Kd.R_base ho0) hb); have n2_ := Aside0.mk (Kd.R_elder' (Kd.R_below HO332.out gs) (Kd.R_base ho0) hb); have n3_ := Aside0.mk (Kd.R_elder' (Kd.R_below HO335.out gs) (Kd.R_base ho0) hb); have n4_ := Aside0.mk (Kd.R_lower (Kd.R_new' (Kd.R_new' (Kd.R_new' (Kd.R_new' (Kd.R_mono (ok' := fun k_ => True) ho0 (fun _ hk_ => trivial)) (Kd.R_lt (by (with_reducible repeat (first | apply Kd.R_alloc | apply Kd.R_drewN | apply Kd.R_drew)); exact HO_7.out))) (Kd.R_lt (by (with_reducible repeat (first | apply Kd.R_alloc | apply Kd.R_drewN | apply Kd.R_drew)); exact HO_11.out))) (Kd.R_lt (Kd.R_below HO332.out gs))) (Kd.R_lt (Kd.R_below HO335.out gs))) (below_size (bb HB.out))); have n5_ := Aside0.mk (below_step (bb HB.out) hb); clear HO_7; clear HO_11; clear HO332; clear HO335; clear HB; have HO_7 := n0_; have HO_11 := n1_; have HO332 := n2_; have HO335 := n3_; have HO338 := n4_; have HB := n5_; clear n0_ n1_ n2_ n3_ n4_ n5_; (try clear hb); (try clear hb2); (try clear hk); (try clear hi); (try clear ho0)))
                          (try simp only [Act.put, List.setIfInBounds_toArray, List.set_cons_zero, List.set_cons_succ])
                          go_cut [110] (fun v110 wc => ∃ (kq : Nat) (x110_59 : Bool), v110 = .bool x110_59 ∧ Aside0 (laws_FnExactSpaceThrough.j2 kq t328 t327 x110_59 = some r) ∧ Aside0 (kq ≤ kj37) ∧ Aside0 (Kd.R (Kd.int .i64) 3 wc w.heap.size (fun _ => True) (.slice Ao61 t309.length co61) t328) ∧ Aside0 (Below w.heap.size w wc))
                          case first =>
                            have H := HC60.out
                            clear HC60
                            replace H := Option.bind_eq_some_iff.mp H
                            obtain ⟨t340, A680, H⟩ := H
                            replace H : (if t340 = true then (laws_FnExactSpaceThrough.j2 kj37 t328 t327 (t339 != t302)) else (laws_FnExactSpaceThrough.j2 kj37 t328 t327 true)) = some r := H
                            have A68 := Aside0.mk A680
                            clear A680
                            by_cases c69 : t340 = true
                            · subst c69
                              have H1 : (laws_FnExactSpaceThrough.j2 kj37 t328 t327 (t339 != t302)) = some r := by rw [if_pos rfl] at H; exact H
                              clear H
                              have H := H1
                              clear H1
                              have H' := Aside0.mk H
                              clear H
                              obtain ⟨Ao70, co70, eo70⟩ := Kd.R_slice HO338.out
                              subst eo70
                              obtain ⟨Ao71, co71, eo71⟩ := Kd.R_slice HO_7.out
                              subst eo71
                              go_wp2_with (first | ((with_reducible refine gate_callee (f := 18) rfl ?_); refine goesL_ (some 104) rfl rfl Try.func18 (by kernel_rfl) rfl #[.slice Ao70 t336.length co70, .slice Ao71 t299.length co71] rfl (by (try simp only [List.map_toArray, List.map_cons, List.map_nil]); first | done | rfl | (simp only [List.length_drop, List.length_take]; rfl)) ?_; (with_reducible refine (laws_eqIntS.calls kj37 _ _ t336 _ _ t299 true _ ?side1 ?side2 ?side3 ?side4 A68.out).mono ?_); (case side1 => exact Kd.C_below (Kd.R_reads' HO338.out).2.2 gs); (case side2 => exact (Kd.R_reads' HO338.out).2.1); (case side3 => exact Kd.C_below (Kd.R_reads' HO_7.out).2.2 gs); (case side4 => exact (Kd.R_reads' HO_7.out).2.1); rintro e w' ⟨rfl, ⟨nd, rfl⟩⟩; refine ⟨_, rfl, ?_⟩))
                              go_meet
                              case rel => exact ⟨_, ((t339 != t302)), (by first | rfl | (simp; done) | (simp [*]; done)), H', ⟨by have := HJ11.out; have := HJ37.out; first | omega | exact Nat.le_refl _⟩, ⟨by (with_reducible repeat (first | apply Kd.R_alloc | apply Kd.R_drewN | apply Kd.R_drew)); exact Kd.R_mono HO_11.out (fun _ hk => trivial)⟩, ⟨by repeat (first | (with_reducible first | exact HB.out | apply below_alloc | apply pw_below_drewN | apply below_drew1) | exact HB.out)⟩⟩
                            · replace c69 := Bool.eq_false_iff.mpr c69
                              subst c69
                              have H1 : (laws_FnExactSpaceThrough.j2 kj37 t328 t327 true) = some r := by rw [if_neg (show ¬ (false = true) by decide)] at H; exact H
                              clear H
                              have H := H1
                              clear H1
                              have H' := Aside0.mk H
                              clear H
                              obtain ⟨Ao72, co72, eo72⟩ := Kd.R_slice HO338.out
                              subst eo72
                              obtain ⟨Ao73, co73, eo73⟩ := Kd.R_slice HO_7.out
                              subst eo73
                              go_wp2_with (first | ((with_reducible refine gate_callee (f := 18) rfl ?_); refine goesL_ (some 104) rfl rfl Try.func18 (by kernel_rfl) rfl #[.slice Ao72 t336.length co72, .slice Ao73 t299.length co73] rfl (by (try simp only [List.map_toArray, List.map_cons, List.map_nil]); first | done | rfl | (simp only [List.length_drop, List.length_take]; rfl)) ?_; (with_reducible refine (laws_eqIntS.calls kj37 _ _ t336 _ _ t299 false _ ?side1 ?side2 ?side3 ?side4 A68.out).mono ?_); (case side1 => exact Kd.C_below (Kd.R_reads' HO338.out).2.2 gs); (case side2 => exact (Kd.R_reads' HO338.out).2.1); (case side3 => exact Kd.C_below (Kd.R_reads' HO_7.out).2.2 gs); (case side4 => exact (Kd.R_reads' HO_7.out).2.1); rintro e w' ⟨rfl, ⟨nd, rfl⟩⟩; refine ⟨_, rfl, ?_⟩))
                              go_meet
                              case rel => exact ⟨_, (true), (by first | rfl | (simp; done) | (simp [*]; done)), H', ⟨by have := HJ11.out; have := HJ37.out; first | omega | exact Nat.le_refl _⟩, ⟨by (with_reducible repeat (first | apply Kd.R_alloc | apply Kd.R_drewN | apply Kd.R_drew)); exact Kd.R_mono HO_11.out (fun _ hk => trivial)⟩, ⟨by repeat (first | (with_reducible first | exact HB.out | apply below_alloc | apply pw_below_drewN | apply below_drew1) | exact HB.out)⟩⟩
                          case rest =>
                            clear HC60
                            try clear c1
                            try clear c2
                            try clear p2
                            try clear c3
                            try clear c4
                            try clear c4b0
                            try clear c4b1
                            try clear c5
                            try clear c5b0
                            try clear c5b1
                            try clear c6
                            try clear c10
                            try clear c16
                            try clear c18
                            try clear c24
                            try clear c29
                            try clear c32
                            try clear c35
                            try clear c36
                            try clear c37
                            try clear c38
                            try clear c45
                            try clear c45b0
                            try clear c47
                            try clear c52
                            try clear c55
                            try clear c55b0
                            try clear c56
                            try clear c56b0
                            try clear c56b1
                            try clear c69
                            try clear p2
                            obtain ⟨kq, x110_59, rfl, HA, HJ59, HO_11, HB⟩ := hcut
                            have hl11_59 := (Kd.R_reads' HO_11.out).1
                            rw [hl11_59] at HO_11
                            (try simp only [hl11_59])
                            cases kq with
                            | zero => exact absurd HA.out (by simp [laws_FnExactSpaceThrough.j2])
                            | succ kj59 =>
                              have H := HA.out
                              clear HA
                              simp only [laws_FnExactSpaceThrough.j2] at H
                              by_cases c74 : x110_59 = true
                              · subst c74
                                have H1 : (some false) = some r := by rw [if_pos rfl] at H; exact H
                                clear H
                                have H := H1
                                clear H1
                                exact absurd (H.trans (congrArg some HT.out)) (by simp)
                              · replace c74 := Bool.eq_false_iff.mpr c74
                                subst c74
                                have H1 : ((laws_heldIntS.f kj59 t328 1).bind fun t341 => (if t341 < 0 then (some false) else (if t341 = t327 then (some true) else (some false)))) = some r := by rw [if_neg (show ¬ (false = true) by decide)] at H; exact H
                                clear H
                                have H := H1
                                clear H1
                                replace H := Option.bind_eq_some_iff.mp H
                                obtain ⟨t341, A750, H⟩ := H
                                replace H : (if t341 < 0 then (some false) else (if t341 = t327 then (some true) else (some false))) = some r := H
                                have A75 := Aside0.mk A750
                                clear A750
                                by_cases c76 : t341 < 0
                                · rw [if_pos c76] at H
                                  have c76b0 : decide (t341 < 0) = true := decide_eq_true c76
                                  clear c76
                                  exact absurd (H.trans (congrArg some HT.out)) (by simp)
                                · rw [if_neg c76] at H
                                  have c76b0 : decide (t341 < 0) = false := decide_eq_false c76
                                  clear c76
                                  by_cases c77 : t341 = t327
                                  · rw [if_pos c77] at H
                                    have c77b0 : (t341 == t327) = true := beq_iff_eq.mpr c77
                                    have c77b1 : (t341 != t327) = false := bne_eq_false_iff_eq.mpr c77
                                    clear c77
                                    obtain rfl := Option.some.inj H
                                    go_wp2_with (first | ((with_reducible refine gate_callee (f := 38) rfl ?_); refine goesL_ (some 113) rfl rfl Try.func38 (by kernel_rfl) rfl #[.slice Ao61 t328.length co61, .int .i64 1] rfl (by (try simp only [List.map_toArray, List.map_cons, List.map_nil]); first | done | rfl | (simp only [List.length_drop, List.length_take]; rfl)) ?_; (with_reducible refine (laws_heldIntS.calls kj59 _ _ t328 1 t341 _ ?side1 ?side2 A75.out).mono ?_); (case side1 => exact Kd.C_below (Kd.R_reads' HO_11.out).2.2 gs); (case side2 => exact (Kd.R_reads' HO_11.out).2.1); rintro e w' ⟨rfl, ⟨nd, rfl⟩⟩; refine ⟨_, rfl, ?_⟩))
                                    go_ret
                                    exact ⟨by first | rfl | (simp [errW_none, errW_some] <;> rfl) | (simp [*, errW_none, errW_some] <;> rfl), by repeat (first | (with_reducible first | exact HB.out | apply below_alloc | apply pw_below_drewN | apply below_drew1) | exact HB.out)⟩
                                  · rw [if_neg c77] at H
                                    have c77b0 : (t341 == t327) = false := beq_eq_false_iff_ne.mpr c77
                                    have c77b1 : (t341 != t327) = true := bne_iff_ne.mpr c77
                                    exact absurd (H.trans (congrArg some HT.out)) (by simp)
                        · rw [if_neg c56] at H
                          have c56b0 : (t329 == t327) = false := beq_eq_false_iff_ne.mpr c56
                          have c56b1 : (t329 != t327) = true := bne_iff_ne.mpr c56
                          exact absurd (H.trans (congrArg some HT.out)) (by simp)
              · replace c35 := Bool.eq_false_iff.mpr c35
                subst c35
                have H1 : (some false) = some r := by rw [if_neg (show ¬ (false = true) by decide)] at H; exact H
                clear H
                have H := H1
                clear H1
                exact absurd (H.trans (congrArg some HT.out)) (by simp)
            · replace c32 := Bool.eq_false_iff.mpr c32
              subst c32
              have H1 : (some false) = some r := by rw [if_neg (show ¬ (false = true) by decide)] at H; exact H
              clear H
              have H := H1
              clear H1
              exact absurd (H.trans (congrArg some HT.out)) (by simp)

/-- THE ONE PURE STATEMENT of laws_FnExactSpaceThrough: yours. -/
def laws_FnExactSpaceThrough.Pure : Prop := ∀ (a0 : Int) (l1 : List Int) (l2 : List Int), (Lit.int .i64 a0).wf = true → l1.length ≤ maxLen → l1.length * 8 ≤ 140737488351232 → (∀ x ∈ l1, (Lit.int .i64 x).wf = true) → l2.length ≤ maxLen → l2.length * 8 ≤ 140737488351232 → (∀ x ∈ l2, (Lit.int .i64 x).wf = true) → ∃ k, laws_FnExactSpaceThrough.f k a0 l1 l2 = some true
theorem laws_FnExactSpaceThrough.walk (P : laws_FnExactSpaceThrough.Pure) (a0 : Int) (a1 : Option Addr) (len1 cap1 : Nat) (z1 : List Int) (a2 : Option Addr) (len2 cap2 : Nat) (z2 : List Int) (w : World) (w0 : (Lit.int .i64 a0).wf = true) (w1 : (a1 = none ∧ len1 = 0 ∧ cap1 = 0 ∧ z1 = []) ∨ ∃ x, a1 = some x ∧ len1 ≤ cap1 ∧ cap1 ≤ maxLen ∧ z1.length = cap1 ∧ (∀ i, i < z1.length → w.cell? (x.add i) = some (.int .i64 (z1.getD i 0))) ∧ ∀ n ∈ z1, (Lit.int .i64 n).wf = true) (y1 : len1 * 8 ≤ 140737488351232) (w2 : (a2 = none ∧ len2 = 0 ∧ cap2 = 0 ∧ z2 = []) ∨ ∃ x, a2 = some x ∧ len2 ≤ cap2 ∧ cap2 ≤ maxLen ∧ z2.length = cap2 ∧ (∀ i, i < z2.length → w.cell? (x.add i) = some (.int .i64 (z2.getD i 0))) ∧ ∀ n ∈ z2, (Lit.int .i64 n).wf = true) (y2 : len2 * 8 ≤ 140737488351232) :
    Calls Try.prog 10 #[.int .i64 a0, .slice a1 len1 cap1, .slice a2 len2 cap2] w fun e w' => e = .returned (.bool true) ∧ Below w.heap.size w w' := by
  obtain ⟨l1, rfl, hr1, hm1, hw1, hc1⟩ := ReadsInt.ofRowC w1
  obtain ⟨l2, rfl, hr2, hm2, hw2, hc2⟩ := ReadsInt.ofRowC w2
  obtain ⟨k, h⟩ := P a0 l1 l2 w0 hm1 y1 hw1 hm2 y2 hw2
  refine (laws_FnExactSpaceThrough.calls k a0 _ _ l1 _ _ l2 true w (Kd.C_of_reads (d := (0 : Int)) (h1 := fun _ => rfl) hr1) hc1 (Kd.C_of_reads (d := (0 : Int)) (h1 := fun _ => rfl) hr2) hc2 rfl h).mono ?_
  rintro e w' ⟨rfl, hd⟩
  exact ⟨rfl, hd⟩

end Go.Proofs.Ytdgopdbmbaiddaa.PA

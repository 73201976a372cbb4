-- Written by xprint.py, a program of this claim's own (over the kit's print.py)
import Derived.Test.YtpmleelfifjcaaaPAx0
import Derived.Test.YtpmleelfifjcaaaPAx2
namespace Go.Proofs.Ytpmleelfifjcaaa.PA
open Go.RowKit Go.Proofs.YtpmleelfifjcaaaW.PrintWords Go.Proofs.YtpmleelfifjcaaaW.PrintLast Go.Proofs.YtpmleelfifjcaaaW.PrintMore
attribute [local go_sem] max2_int min2_int max_two min_two max_three min_three max_four min_four   -- for this text's walks alone
set_option linter.unusedVariables false
set_option linter.unusedSimpArgs false

/-! ### impl_isPlace: function 27 -/
def impl_isPlace.f (a0 : Int) (l1 : List Int) : Option (Bool) := (impl_areNumbers.f a0 l1 4).bind fun t166 => (if t166 = true then ((impl_isMonic.f l1).bind fun t167 => (some t167)) else (some false))
set_option maxHeartbeats 8000000 in
set_option maxRecDepth 100000 in
theorem impl_isPlace.calls (a0 : Int) (A1 : Option Addr) (c1 : Nat) (l1 : List Int) (r : Bool) (w : World) (hr1 : Kd.C (Kd.int .i64) w A1 l1.length l1) (hc1 : l1.length ≤ c1) (h : impl_isPlace.f a0 l1 = some r) :
    Calls Try.prog 27 #[.int .i64 a0, .slice A1 l1.length c1] w fun e w' => e = .returned (.bool r) ∧ Below w.heap.size w w' := by
  have HR1 := Aside0.mk hr1
  have HC1 := Aside0.mk hc1
  clear hr1 hc1
  have HB := Aside0.mk (Below.refl w.heap.size w)
  have H : ((impl_areNumbers.f a0 l1 4).bind fun t166 => (if t166 = true then ((impl_isMonic.f l1).bind fun t167 => (some t167)) else (some false))) = some r := h
  clear h
  replace H := Option.bind_eq_some_iff.mp H
  obtain ⟨t166, A30, H⟩ := H
  replace H : (if t166 = true then ((impl_isMonic.f l1).bind fun t167 => (some t167)) else (some false)) = some r := H
  have A3 := Aside0.mk A30
  clear A30
  by_cases c4 : t166 = true
  · subst c4
    have H1 : ((impl_isMonic.f l1).bind fun t167 => (some t167)) = some r := by rw [if_pos rfl] at H; exact H
    clear H
    have H := H1
    clear H1
    replace H := Option.bind_eq_some_iff.mp H
    obtain ⟨t167, A50, H⟩ := H
    replace H : (some t167) = some r := H
    have A5 := Aside0.mk A50
    clear A50
    obtain rfl := Option.some.inj H
    go_enter Try.func27, Try.ntmps27
    go_wp2_with (first | ((with_reducible refine gate_callee (f := 25) rfl ?_); refine goesL_ (some 7) rfl rfl Try.func25 (by kernel_rfl) rfl #[.int .i64 a0, .slice A1 l1.length c1, .int .i64 4] rfl (by (try simp only [List.map_toArray, List.map_cons, List.map_nil]); first | done | rfl | (simp only [List.length_drop, List.length_take]; rfl)) ?_; (with_reducible refine (impl_areNumbers.calls a0 _ _ l1 4 true _ ?side1 ?side2 A3.out).mono ?_); (case side1 => repeat (first | exact HR1.out | (with_reducible refine Kd.C_alloc ?_ _) | (with_reducible refine Kd.C_drewN ?_ _) | (with_reducible refine Kd.C_drew ?_))); (case side2 => exact HC1.out); rintro e w6 ⟨rfl, hb⟩; refine ⟨_, rfl, ?_⟩; have n0_ := Aside0.mk (below_step (by repeat (first | (with_reducible first | exact HB.out | apply below_alloc | apply pw_below_drewN | apply below_drew1) | exact HB.out)) hb); clear HB; have HB := n0_; clear n0_; (try clear hb); (try clear hb2); (try clear hk); (try clear hi)) | (go_at_call 33; (with_reducible refine (impl_isMonic.calls _ _ l1 t167 _ ?side1 ?side2 A5.out).mono ?_); (case side1 => repeat (first | exact (Kd.C_below HR1.out HB.out) | (with_reducible refine Kd.C_alloc ?_ _) | (with_reducible refine Kd.C_drewN ?_ _) | (with_reducible refine Kd.C_drew ?_))); (case side2 => exact HC1.out); rintro e w' ⟨rfl, ⟨nd, rfl⟩⟩))
    go_ret
    exact ⟨by first | rfl | (simp [errW_none, errW_some] <;> rfl) | (simp [*, errW_none, errW_some] <;> rfl), by repeat (first | (with_reducible first | exact HB.out | apply below_alloc | apply pw_below_drewN | apply below_drew1) | exact HB.out)⟩
  · replace c4 := Bool.eq_false_iff.mpr c4
    subst c4
    have H1 : (some false) = some r := by rw [if_neg (show ¬ (false = true) by decide)] at H; exact H
    clear H
    have H := H1
    clear H1
    obtain rfl := Option.some.inj H
    go_enter Try.func27, Try.ntmps27
    go_wp2_with (first | ((with_reducible refine gate_callee (f := 25) rfl ?_); refine goesL_ (some 7) rfl rfl Try.func25 (by kernel_rfl) rfl #[.int .i64 a0, .slice A1 l1.length c1, .int .i64 4] rfl (by (try simp only [List.map_toArray, List.map_cons, List.map_nil]); first | done | rfl | (simp only [List.length_drop, List.length_take]; rfl)) ?_; (with_reducible refine (impl_areNumbers.calls a0 _ _ l1 4 false _ ?side1 ?side2 A3.out).mono ?_); (case side1 => repeat (first | exact HR1.out | (with_reducible refine Kd.C_alloc ?_ _) | (with_reducible refine Kd.C_drewN ?_ _) | (with_reducible refine Kd.C_drew ?_))); (case side2 => exact HC1.out); rintro e w7 ⟨rfl, hb⟩; refine ⟨_, rfl, ?_⟩; have n0_ := Aside0.mk (below_step (by repeat (first | (with_reducible first | exact HB.out | apply below_alloc | apply pw_below_drewN | apply below_drew1) | exact HB.out)) hb); clear HB; have HB := n0_; clear n0_; (try clear hb); (try clear hb2); (try clear hk); (try clear hi)))
    go_ret
    exact ⟨by first | rfl | (simp [errW_none, errW_some] <;> rfl) | (simp [*, errW_none, errW_some] <;> rfl), by repeat (first | (with_reducible first | exact HB.out | apply below_alloc | apply pw_below_drewN | apply below_drew1) | exact HB.out)⟩

/-! ### impl_valueAt: function 28 -/
mutual
def impl_valueAt.l0 : Nat → Int → List Int → List Int → Int → Int → Int → Option (Int)
  | 0, _, _, _, _, _, _ => none
  | k + 1, x0, x1, x2, x7, x8, x13 => if x13 < 4 then (impl_valueAt.l1 k x0 x1 x2 x7 x8 x13 x13 x13) else (if x0 = 0 then (none) else (some (Int.tmod x7 x0)))
def impl_valueAt.l1 : Nat → Int → List Int → List Int → Int → Int → Int → Int → Int → Option (Int)
  | 0, _, _, _, _, _, _, _, _ => none
  | k + 1, x0, x1, x2, x7, x8, x9, x10, x13 => if x10 < 4 then (if 0 ≤ x9 then (if x9 < (x2.length : Int) then (if 0 ≤ x10 then (if x10 < (x2.length : Int) then (impl_valueAt.l2 k x0 x1 x2 x7 x8 x9 x10 (wrap64 ((rd x2 x9) * (rd x2 x10))) x10 x13) else (none)) else (none)) else (none)) else (none)) else (impl_valueAt.l0 k x0 x1 x2 x7 x8 (wrap64 (x13 + 1)))
def impl_valueAt.l2 : Nat → Int → List Int → List Int → Int → Int → Int → Int → Int → Int → Int → Option (Int)
  | 0, _, _, _, _, _, _, _, _, _, _ => none
  | k + 1, x0, x1, x2, x7, x8, x9, x10, x11, x12, x13 => if x12 < 4 then (if 0 ≤ x8 then (if x8 < (x1.length : Int) then (if 0 ≤ x12 then (if x12 < (x2.length : Int) then (impl_valueAt.l2 k x0 x1 x2 (wrap64 (x7 + (wrap64 ((wrap64 ((rd x1 x8) * x11)) * (rd x2 x12))))) (wrap64 (x8 + 1)) x9 x10 x11 (wrap64 (x12 + 1)) x13) else (none)) else (none)) else (none)) else (none)) else (impl_valueAt.l1 k x0 x1 x2 x7 x8 x9 (wrap64 (x10 + 1)) x13)
end
def impl_valueAt.f (k : Nat) (a0 : Int) (l1 : List Int) (l2 : List Int) : Option (Int) := impl_valueAt.l0 k a0 l1 l2 0 0 0
theorem impl_valueAt.mono_l : ∀ k, (∀ y0 y1 y2 y3 y4 y5, LeO (impl_valueAt.l0 k y0 y1 y2 y3 y4 y5) (impl_valueAt.l0 (k + 1) y0 y1 y2 y3 y4 y5)) ∧ (∀ y0 y1 y2 y3 y4 y5 y6 y7, LeO (impl_valueAt.l1 k y0 y1 y2 y3 y4 y5 y6 y7) (impl_valueAt.l1 (k + 1) y0 y1 y2 y3 y4 y5 y6 y7)) ∧ (∀ y0 y1 y2 y3 y4 y5 y6 y7 y8 y9, LeO (impl_valueAt.l2 k y0 y1 y2 y3 y4 y5 y6 y7 y8 y9) (impl_valueAt.l2 (k + 1) y0 y1 y2 y3 y4 y5 y6 y7 y8 y9))
  | 0 => ⟨fun _ _ _ _ _ _ r h => by simp [impl_valueAt.l0] at h, fun _ _ _ _ _ _ _ _ r h => by simp [impl_valueAt.l1] at h, fun _ _ _ _ _ _ _ _ _ _ r h => by simp [impl_valueAt.l2] at h⟩
  | k + 1 => by
    obtain ⟨ih0, ih1, ih2⟩ := impl_valueAt.mono_l k
    refine ⟨?_, ?_, ?_⟩
    · intro y0 y1 y2 y3 y4 y5
      unfold impl_valueAt.l0
      repeat' first
      | (with_reducible exact ih0 _ _ _ _ _ _)
      | (with_reducible exact ih1 _ _ _ _ _ _ _ _)
      | (with_reducible exact ih2 _ _ _ _ _ _ _ _ _ _)
      | (with_reducible exact LeO.refl _)
      | (with_reducible exact LeO.none _)
      | (with_reducible refine LeO.ite ?_ ?_)
      | (with_reducible refine LeO.bind ?_ (fun _ => ?_))
      | exact ih0 _ _ _ _ _ _
      | exact ih1 _ _ _ _ _ _ _ _
      | exact ih2 _ _ _ _ _ _ _ _ _ _
      | exact LeO.none _
      | refine LeO.ite ?_ ?_
      | refine LeO.bind ?_ (fun _ => ?_)
    · intro y0 y1 y2 y3 y4 y5 y6 y7
      unfold impl_valueAt.l1
      repeat' first
      | (with_reducible exact ih0 _ _ _ _ _ _)
      | (with_reducible exact ih1 _ _ _ _ _ _ _ _)
      | (with_reducible exact ih2 _ _ _ _ _ _ _ _ _ _)
      | (with_reducible exact LeO.refl _)
      | (with_reducible exact LeO.none _)
      | (with_reducible refine LeO.ite ?_ ?_)
      | (with_reducible refine LeO.bind ?_ (fun _ => ?_))
      | exact ih0 _ _ _ _ _ _
      | exact ih1 _ _ _ _ _ _ _ _
      | exact ih2 _ _ _ _ _ _ _ _ _ _
      | exact LeO.none _
      | refine LeO.ite ?_ ?_
      | refine LeO.bind ?_ (fun _ => ?_)
    · intro y0 y1 y2 y3 y4 y5 y6 y7 y8 y9
      unfold impl_valueAt.l2
      repeat' first
      | (with_reducible exact ih0 _ _ _ _ _ _)
      | (with_reducible exact ih1 _ _ _ _ _ _ _ _)
      | (with_reducible exact ih2 _ _ _ _ _ _ _ _ _ _)
      | (with_reducible exact LeO.refl _)
      | (with_reducible exact LeO.none _)
      | (with_reducible refine LeO.ite ?_ ?_)
      | (with_reducible refine LeO.bind ?_ (fun _ => ?_))
      | exact ih0 _ _ _ _ _ _
      | exact ih1 _ _ _ _ _ _ _ _
      | exact ih2 _ _ _ _ _ _ _ _ _ _
      | exact LeO.none _
      | refine LeO.ite ?_ ?_
      | refine LeO.bind ?_ (fun _ => ?_)
theorem impl_valueAt.mono : ∀ a0 a1 a2 k, LeO (impl_valueAt.f k a0 a1 a2) (impl_valueAt.f (k + 1) a0 a1 a2) := by
  intro a0 a1 a2 k
  obtain ⟨ih0, ih1, ih2⟩ := impl_valueAt.mono_l k
  unfold impl_valueAt.f
  repeat' first
      | (with_reducible exact ih0 _ _ _ _ _ _)
      | (with_reducible exact ih1 _ _ _ _ _ _ _ _)
      | (with_reducible exact ih2 _ _ _ _ _ _ _ _ _ _)
      | (with_reducible exact LeO.refl _)
      | (with_reducible exact LeO.none _)
      | (with_reducible refine LeO.ite ?_ ?_)
      | (with_reducible refine LeO.bind ?_ (fun _ => ?_))
      | exact ih0 _ _ _ _ _ _
      | exact ih1 _ _ _ _ _ _ _ _
      | exact ih2 _ _ _ _ _ _ _ _ _ _
      | exact LeO.none _
      | refine LeO.ite ?_ ?_
      | refine LeO.bind ?_ (fun _ => ?_)
set_option maxHeartbeats 8000000 in
set_option maxRecDepth 100000 in
theorem impl_valueAt.calls (k : Nat) (a0 : Int) (A1 : Option Addr) (c1 : Nat) (l1 : List Int) (A2 : Option Addr) (c2 : Nat) (l2 : List Int) (r : Int) (w : World) (hr1 : Kd.C (Kd.int .i64) w A1 l1.length l1) (hc1 : l1.length ≤ c1) (hr2 : Kd.C (Kd.int .i64) w A2 l2.length l2) (hc2 : l2.length ≤ c2) (h : impl_valueAt.f k a0 l1 l2 = some r) :
    Calls Try.prog 28 #[.int .i64 a0, .slice A1 l1.length c1, .slice A2 l2.length c2] w fun e w' => e = .returned (.int .i64 r) ∧ Drawn0 w w' := by
  have HR1 := Aside0.mk hr1
  have HC1 := Aside0.mk hc1
  clear hr1 hc1
  have HR2 := Aside0.mk hr2
  have HC2 := Aside0.mk hc2
  clear hr2 hc2
  have H : (impl_valueAt.l0 k a0 l1 l2 0 0 0) = some r := h
  clear h
  have H' := Aside0.mk H
  clear H
  go_enter Try.func28, Try.ntmps28
  go_wp2
  repeat (go_quiet (fail); try go_wp2)
  go_loopg [7, 8, 13] k (fun kq v7 v8 v13 w' => ∃ (x7_1 : Int) (x8_1 : Int) (x13_1 : Int), v7 = .int .i64 x7_1 ∧ v8 = .int .i64 x8_1 ∧ v13 = .int .i64 x13_1 ∧ Aside0 (impl_valueAt.l0 kq a0 l1 l2 x7_1 x8_1 x13_1 = some r) ∧ Aside0 (kq ≤ k) ∧ Drawn0 w w')
  case atStart => exact ⟨(0), (0), (0), (by first | rfl | (simp; done) | (simp [*]; done)), (by first | rfl | (simp; done) | (simp [*]; done)), (by first | rfl | (simp; done) | (simp [*]; done)), H', ⟨Nat.le_refl _⟩, by repeat (first | exact Drawn0.refl _ | apply Drawn0.step)⟩
  case round =>
    clear H'
    try clear c1
    try clear c2
    try clear p2
    obtain ⟨x7_1, x8_1, x13_1, rfl, rfl, rfl, HA, HK1, ⟨m1, rfl⟩⟩ := hrel
    cases gk with
    | zero => exact absurd HA.out (by simp [impl_valueAt.l0])
    | succ k1 =>
      have H := HA.out
      clear HA
      simp only [impl_valueAt.l0] at H
      by_cases c4 : x13_1 < 4
      · rw [if_pos c4] at H
        have c4b0 : decide (x13_1 < 4) = true := decide_eq_true c4
        clear c4
        have H' := Aside0.mk H
        clear H
        go_wp2
        repeat (go_quiet (fail); try go_wp2)
        go_loopg [7, 8, 10] k1 (fun kq v7 v8 v10 w' => ∃ (x7_2 : Int) (x8_2 : Int) (x10_2 : Int), v7 = .int .i64 x7_2 ∧ v8 = .int .i64 x8_2 ∧ v10 = .int .i64 x10_2 ∧ Aside0 (impl_valueAt.l1 kq a0 l1 l2 x7_2 x8_2 x13_1 x10_2 x13_1 = some r) ∧ Aside0 (kq ≤ k1) ∧ Drawn0 w w')
        case atStart => exact ⟨(x7_1), (x8_1), (x13_1), (by first | rfl | (simp; done) | (simp [*]; done)), (by first | rfl | (simp; done) | (simp [*]; done)), (by first | rfl | (simp; done) | (simp [*]; done)), H', ⟨Nat.le_refl _⟩, by repeat (first | exact Drawn0.refl _ | apply Drawn0.step)⟩
        case round =>
          clear H'
          try clear c1
          try clear c2
          try clear p2
          try clear c4
          try clear c4b0
          try clear p2
          obtain ⟨x7_2, x8_2, x10_2, rfl, rfl, rfl, HA, HK2, ⟨m2, rfl⟩⟩ := hrel
          cases gk with
          | zero => exact absurd HA.out (by simp [impl_valueAt.l1])
          | succ k2 =>
            have H := HA.out
            clear HA
            simp only [impl_valueAt.l1] at H
            by_cases c5 : x10_2 < 4
            · rw [if_pos c5] at H
              have c5b0 : decide (x10_2 < 4) = true := decide_eq_true c5
              clear c5
              by_cases c6 : 0 ≤ x13_1
              · rw [if_pos c6] at H
                have c6b0 : decide (0 ≤ x13_1) = true := decide_eq_true c6
                clear c6
                by_cases c7 : x13_1 < (l2.length : Int)
                · rw [if_pos c7] at H
                  have c7b0 : decide (x13_1 < (l2.length : Int)) = true := decide_eq_true c7
                  clear c7
                  by_cases c8 : 0 ≤ x10_2
                  · rw [if_pos c8] at H
                    have c8b0 : decide (0 ≤ x10_2) = true := decide_eq_true c8
                    clear c8
                    by_cases c9 : x10_2 < (l2.length : Int)
                    · rw [if_pos c9] at H
                      have c9b0 : decide (x10_2 < (l2.length : Int)) = true := decide_eq_true c9
                      clear c9
                      have H' := Aside0.mk H
                      clear H
                      have p168 : 0 ≤ (x13_1 : Int) := of_decide_eq_true (by first | (with_reducible assumption) | assumption)
                      have q168 : x13_1 < (l2.length : Int) := of_decide_eq_true (by first | (with_reducible assumption) | assumption)
                      obtain ⟨ad168, e168, hx168_0⟩ := Kd.at_int HR2.out x13_1 p168 q168
                      cases e168
                      replace p168 := eq_true p168
                      replace q168 := eq_true q168
                      have p169 : 0 ≤ (x10_2 : Int) := of_decide_eq_true (by first | (with_reducible assumption) | assumption)
                      have q169 : x10_2 < (l2.length : Int) := of_decide_eq_true (by first | (with_reducible assumption) | assumption)
                      obtain ⟨ad169, e169, hx169_0⟩ := Kd.at_int HR2.out x10_2 p169 q169
                      obtain rfl : ad168 = ad169 := (by injection e169)
                      replace p169 := eq_true p169
                      replace q169 := eq_true q169
                      go_wp2
                      repeat (go_quiet (fail); try go_wp2)
                      go_loopg [7, 8, 12] k2 (fun kq v7 v8 v12 w' => ∃ (x7_3 : Int) (x8_3 : Int) (x12_3 : Int), v7 = .int .i64 x7_3 ∧ v8 = .int .i64 x8_3 ∧ v12 = .int .i64 x12_3 ∧ Aside0 (impl_valueAt.l2 kq a0 l1 l2 x7_3 x8_3 x13_1 x10_2 (wrap64 ((rd l2 x13_1) * (rd l2 x10_2))) x12_3 x13_1 = some r) ∧ Aside0 (kq ≤ k2) ∧ Drawn0 w w')
                      case atStart => exact ⟨(x7_2), (x8_2), (x10_2), (by first | rfl | (simp; done) | (simp [*]; done)), (by first | rfl | (simp; done) | (simp [*]; done)), (by first | rfl | (simp; done) | (simp [*]; done)), H', ⟨Nat.le_refl _⟩, by repeat (first | exact Drawn0.refl _ | apply Drawn0.step)⟩
                      case round =>
                        clear H'
                        try clear c1
                        try clear p1
                        try clear q1
                        try clear hx1
                        try clear c2
                        try clear p2
                        try clear c4
                        try clear c4b0
                        try clear c5
                        try clear c5b0
                        try clear c6
                        try clear c6b0
                        try clear p6
                        try clear c7
                        try clear c7b0
                        try clear c8
                        try clear c8b0
                        try clear c9
                        try clear c9b0
                        try clear hx168_0
                        try clear hx169_0
                        try clear p168
                        try clear p169
                        try clear p2
                        try clear q168
                        try clear q169
                        obtain ⟨x7_3, x8_3, x12_3, rfl, rfl, rfl, HA, HK3, ⟨m3, rfl⟩⟩ := hrel
                        cases gk with
                        | zero => exact absurd HA.out (by simp [impl_valueAt.l2])
                        | succ k3 =>
                          have H := HA.out
                          clear HA
                          simp only [impl_valueAt.l2] at H
                          by_cases c10 : x12_3 < 4
                          · rw [if_pos c10] at H
                            have c10b0 : decide (x12_3 < 4) = true := decide_eq_true c10
                            clear c10
                            by_cases c11 : 0 ≤ x8_3
                            · rw [if_pos c11] at H
                              have c11b0 : decide (0 ≤ x8_3) = true := decide_eq_true c11
                              clear c11
                              by_cases c12 : x8_3 < (l1.length : Int)
                              · rw [if_pos c12] at H
                                have c12b0 : decide (x8_3 < (l1.length : Int)) = true := decide_eq_true c12
                                clear c12
                                by_cases c13 : 0 ≤ x12_3
                                · rw [if_pos c13] at H
                                  have c13b0 : decide (0 ≤ x12_3) = true := decide_eq_true c13
                                  clear c13
                                  by_cases c14 : x12_3 < (l2.length : Int)
                                  · rw [if_pos c14] at H
                                    have c14b0 : decide (x12_3 < (l2.length : Int)) = true := decide_eq_true c14
                                    clear c14
                                    have H' := Aside0.mk H
                                    clear H
                                    have p170 : 0 ≤ (x8_3 : Int) := of_decide_eq_true (by first | (with_reducible assumption) | assumption)
                                    have q170 : x8_3 < (l1.length : Int) := of_decide_eq_true (by first | (with_reducible assumption) | assumption)
                                    obtain ⟨ad170, e170, hx170_0⟩ := Kd.at_int HR1.out x8_3 p170 q170
                                    cases e170
                                    replace p170 := eq_true p170
                                    replace q170 := eq_true q170
                                    have p171 : 0 ≤ (x12_3 : Int) := of_decide_eq_true (by first | (with_reducible assumption) | assumption)
                                    have q171 : x12_3 < (l2.length : Int) := of_decide_eq_true (by first | (with_reducible assumption) | assumption)
                                    obtain ⟨ad171, e171, hx171_0⟩ := Kd.at_int HR2.out x12_3 p171 q171
                                    obtain rfl : ad168 = ad171 := (by injection e171)
                                    replace p171 := eq_true p171
                                    replace q171 := eq_true q171
                                    go_wp2
                                    repeat (go_quiet (fail); try go_wp2)
                                    go_roundg k3
                                    case measure => have := HK1.out; have := HK2.out; have := HK3.out; omega
                                    case rel => exact ⟨(wrap64 (x7_3 + (wrap64 ((wrap64 ((rd l1 x8_3) * (wrap64 ((rd l2 x13_1) * (rd l2 x10_2))))) * (rd l2 x12_3))))), (wrap64 (x8_3 + 1)), (wrap64 (x12_3 + 1)), (by first | rfl | (simp; done) | (simp [*]; done)), (by first | rfl | (simp; done) | (simp [*]; done)), (by first | rfl | (simp; done) | (simp [*]; done)), H', ⟨by have := HK1.out; have := HK2.out; have := HK3.out; omega⟩, by repeat (first | exact Drawn0.refl _ | apply Drawn0.step)⟩
                                  · rw [if_neg c14] at H
                                    exact absurd H (by simp)
                                · rw [if_neg c13] at H
                                  exact absurd H (by simp)
                              · rw [if_neg c12] at H
                                exact absurd H (by simp)
                            · rw [if_neg c11] at H
                              exact absurd H (by simp)
                          · rw [if_neg c10] at H
                            have c10b0 : decide (x12_3 < 4) = false := decide_eq_false c10
                            clear c10
                            have H' := Aside0.mk H
                            clear H
                            go_wp2
                            repeat (go_quiet (fail); try go_wp2)
                            go_roundg k3
                            case measure => have := HK1.out; have := HK2.out; have := HK3.out; omega
                            case rel => exact ⟨(x7_3), (x8_3), (wrap64 (x10_2 + 1)), (by first | rfl | (simp; done) | (simp [*]; done)), (by first | rfl | (simp; done) | (simp [*]; done)), (by first | rfl | (simp; done) | (simp [*]; done)), H', ⟨by have := HK1.out; have := HK2.out; have := HK3.out; omega⟩, by repeat (first | exact Drawn0.refl _ | apply Drawn0.step)⟩
                    · rw [if_neg c9] at H
                      exact absurd H (by simp)
                  · rw [if_neg c8] at H
                    exact absurd H (by simp)
                · rw [if_neg c7] at H
                  exact absurd H (by simp)
              · rw [if_neg c6] at H
                exact absurd H (by simp)
            · rw [if_neg c5] at H
              have c5b0 : decide (x10_2 < 4) = false := decide_eq_false c5
              clear c5
              have H' := Aside0.mk H
              clear H
              go_wp2
              repeat (go_quiet (fail); try go_wp2)
              go_roundg k2
              case measure => have := HK1.out; have := HK2.out; omega
              case rel => exact ⟨(x7_2), (x8_2), (wrap64 (x13_1 + 1)), (by first | rfl | (simp; done) | (simp [*]; done)), (by first | rfl | (simp; done) | (simp [*]; done)), (by first | rfl | (simp; done) | (simp [*]; done)), H', ⟨by have := HK1.out; have := HK2.out; omega⟩, by repeat (first | exact Drawn0.refl _ | apply Drawn0.step)⟩
      · rw [if_neg c4] at H
        have c4b0 : decide (x13_1 < 4) = false := decide_eq_false c4
        clear c4
        by_cases c15 : a0 = 0
        · rw [if_pos c15] at H
          exact absurd H (by simp)
        · rw [if_neg c15] at H
          have c15b0 : (a0 == 0) = false := beq_eq_false_iff_ne.mpr c15
          have c15b1 : (a0 != 0) = true := bne_iff_ne.mpr c15
          obtain rfl := Option.some.inj H
          go_wp2
          repeat (go_quiet (fail); try go_wp2)
          go_ret
          exact ⟨by first | rfl | (simp; done) | (simp [*]; done), by repeat (first | exact Drawn0.refl _ | apply Drawn0.step)⟩

theorem wrap_small {i : Int} (h0 : 0 ≤ i) (h : i ≤ 1000000000) : wrap64 (i + 1) = i + 1 := by unfold wrap64; omega

/-- the innermost sums of a form's value, as the program wraps them -/
def vs2 (f a : List Int) (two : Int) : Nat → Int → Int → Int → Int
  | 0, s, _, _ => s
  | d + 1, s, n, l => vs2 f a two d (wrap64 (s + (wrap64 ((wrap64 ((rd f n) * two)) * (rd a l))))) (n + 1) (l + 1)
def vs1 (f a : List Int) (i : Int) : Nat → Int → Int → Int → Int × Int
  | 0, s, n, _ => (s, n)
  | d + 1, s, n, j => vs1 f a i d (vs2 f a (wrap64 ((rd a i) * (rd a j))) (d + 1) s n j) (n + (d + 1 : Nat)) (j + 1)
def vs0 (f a : List Int) : Nat → Int → Int → Int → Int
  | 0, s, _, _ => s
  | d + 1, s, n, i => vs0 f a d (vs1 f a i (d + 1) s n i).1 (vs1 f a i (d + 1) s n i).2 (i + 1)
/-- the value of a form at a place, as the program reckons it -/
def valI (p : Int) (f a : List Int) : Int := Int.tmod (vs0 f a 4 0 0 0) p

theorem valueAt_l2 (p : Int) (f a : List Int) (i j two i' : Int) (hf : f.length = 20) (ha : a.length = 4) (r : Int) : ∀ (d : Nat) (s n l : Int), 0 ≤ n → n + d ≤ 20 → 0 ≤ l → l + d = 4 →
    Ev (fun k => impl_valueAt.l1 k p f a (vs2 f a two d s n l) (n + d) i (wrap64 (j + 1)) i') r → Ev (fun k => impl_valueAt.l2 k p f a s n i j two l i') r
  | 0, s, n, l, h1, h2, h3, h4, h => by
    refine Ev.step (f := fun k => impl_valueAt.l1 k p f a s n i (wrap64 (j + 1)) i') (fun k => ?_) (by simpa [vs2] using h)
    rw [impl_valueAt.l2, if_neg (by omega)]
  | d + 1, s, n, l, h1, h2, h3, h4, h => by
    refine Ev.step (f := fun k => impl_valueAt.l2 k p f a (wrap64 (s + (wrap64 ((wrap64 ((rd f n) * two)) * (rd a l))))) (n + 1) i j two (l + 1) i') (fun k => ?_) ?_
    · rw [impl_valueAt.l2, if_pos (by omega), if_pos h1, if_pos (by omega), if_pos h3, if_pos (by omega), wrap_small h1 (by omega), wrap_small h3 (by omega)]
    · refine valueAt_l2 p f a i j two i' hf ha r d _ _ _ (by omega) (by omega) (by omega) (by omega) ?_
      rw [show n + 1 + (d : Int) = n + ((d + 1 : Nat) : Int) from by omega]
      exact h

def tri : Nat → Nat
  | 0 => 0
  | d + 1 => d + 1 + tri d
theorem vs1_n (f a : List Int) (i : Int) : ∀ (d : Nat) (s n j : Int), (vs1 f a i d s n j).2 = n + tri d
  | 0, s, n, j => by simp [vs1, tri]
  | d + 1, s, n, j => by rw [vs1, vs1_n f a i d, tri]; omega

theorem valueAt_l1 (p : Int) (f a : List Int) (i i' : Int) (hf : f.length = 20) (ha : a.length = 4) (hi : 0 ≤ i ∧ i < 4) (r : Int) : ∀ (d : Nat) (s n j : Int), 0 ≤ n → n + tri d ≤ 20 → 0 ≤ j → j + d = 4 →
    Ev (fun k => impl_valueAt.l0 k p f a (vs1 f a i d s n j).1 (vs1 f a i d s n j).2 (wrap64 (i' + 1))) r → Ev (fun k => impl_valueAt.l1 k p f a s n i j i') r
  | 0, s, n, j, h1, h2, h3, h4, h => by
    refine Ev.step (f := fun k => impl_valueAt.l0 k p f a s n (wrap64 (i' + 1))) (fun k => ?_) (by simpa [vs1] using h)
    rw [impl_valueAt.l1, if_neg (by omega)]
  | d + 1, s, n, j, h1, h2, h3, h4, h => by
    rw [tri] at h2
    refine Ev.step (f := fun k => impl_valueAt.l2 k p f a s n i j (wrap64 ((rd a i) * (rd a j))) j i') (fun k => ?_) ?_
    · rw [impl_valueAt.l1, if_pos (by omega), if_pos hi.1, if_pos (by omega), if_pos h3, if_pos (by omega)]
    · refine valueAt_l2 p f a i j _ i' hf ha r (d + 1) _ _ _ (by omega) (by omega) (by omega) (by omega) ?_
      rw [wrap_small h3 (by omega)]
      exact valueAt_l1 p f a i i' hf ha hi r d _ _ _ (by omega) (by omega) (by omega) (by omega) h

theorem valueAt_ev (p : Int) (f a : List Int) (hp : p ≠ 0) (hf : f.length = 20) (ha : a.length = 4) : Ev (fun k => impl_valueAt.f k p f a) (valI p f a) := by
  have step : ∀ (i s n : Int) (d : Nat), i + (d + 1 : Nat) = 4 → 0 ≤ i → 0 ≤ n → n + tri (d + 1) ≤ 20 → Ev (fun k => impl_valueAt.l0 k p f a (vs1 f a i (d + 1) s n i).1 (vs1 f a i (d + 1) s n i).2 (i + 1)) (valI p f a) → Ev (fun k => impl_valueAt.l0 k p f a s n i) (valI p f a) := by
    intro i s n d h1 h2 h3 h4 h
    refine Ev.step (f := fun k => impl_valueAt.l1 k p f a s n i i i) (fun k => ?_) ?_
    · rw [impl_valueAt.l0, if_pos (by omega)]
    · refine valueAt_l1 p f a i i hf ha (by omega) _ (d + 1) _ _ _ h3 h4 h2 (by omega) ?_
      rw [wrap_small h2 (by omega)]
      exact h
  unfold impl_valueAt.f
  refine step 0 0 0 3 (by omega) (by omega) (by omega) (by simp [tri]) ?_
  refine step 1 _ _ 2 (by omega) (by omega) (by rw [vs1_n]; omega) (by rw [vs1_n]; simp [tri]) ?_
  refine step 2 _ _ 1 (by omega) (by omega) (by simp only [vs1_n]; omega) (by simp only [vs1_n]; simp [tri]) ?_
  refine step 3 _ _ 0 (by omega) (by omega) (by simp only [vs1_n]; omega) (by simp only [vs1_n]; simp [tri]) ?_
  refine Ev.step (f := fun _ => some (valI p f a)) (fun k => ?_) (Ev.now _)
  rw [impl_valueAt.l0, if_neg (by omega), if_neg hp]
  rfl


/-! ### impl_FormValue: function 16 -/
def impl_FormValue.f (k : Nat) (a0 : Int) (l1 : List Int) (l2 : List Int) : Option (Int × Bool) := (impl_areNumbers.f a0 l1 20).bind fun t172 => (if t172 = true then ((impl_isPlace.f a0 l2).bind fun t173 => (if t173 = true then ((impl_valueAt.f k a0 l1 l2).bind fun t174 => (some (t174, true))) else (some (0, false)))) else (some (0, false)))
theorem impl_FormValue.mono : ∀ a0 a1 a2 k, LeO (impl_FormValue.f k a0 a1 a2) (impl_FormValue.f (k + 1) a0 a1 a2) := by
  intro a0 a1 a2 k
  unfold impl_FormValue.f
  repeat' first
      | (with_reducible exact impl_valueAt.mono _ _ _ _)
      | (with_reducible exact LeO.refl _)
      | (with_reducible exact LeO.none _)
      | (with_reducible refine LeO.ite ?_ ?_)
      | (with_reducible refine LeO.bind ?_ (fun _ => ?_))
      | exact impl_valueAt.mono _ _ _ _
      | exact LeO.none _
      | refine LeO.ite ?_ ?_
      | refine LeO.bind ?_ (fun _ => ?_)
set_option maxHeartbeats 8000000 in
set_option maxRecDepth 100000 in
theorem impl_FormValue.calls (k : Nat) (a0 : Int) (A1 : Option Addr) (c1 : Nat) (l1 : List Int) (A2 : Option Addr) (c2 : Nat) (l2 : List Int) (r1 : Int) (r2 : Bool) (w : World) (hr1 : Kd.C (Kd.int .i64) w A1 l1.length l1) (hc1 : l1.length ≤ c1) (hr2 : Kd.C (Kd.int .i64) w A2 l2.length l2) (hc2 : l2.length ≤ c2) (h : impl_FormValue.f k a0 l1 l2 = some (r1, r2)) :
    Calls Try.prog 16 #[.int .i64 a0, .slice A1 l1.length c1, .slice A2 l2.length c2] w fun e w' => e = .returned (.tuple #[.int .i64 r1, .bool r2]) ∧ Below w.heap.size w w' := by
  have HR1 := Aside0.mk hr1
  have HC1 := Aside0.mk hc1
  clear hr1 hc1
  have HR2 := Aside0.mk hr2
  have HC2 := Aside0.mk hc2
  clear hr2 hc2
  have HB := Aside0.mk (Below.refl w.heap.size w)
  have H : ((impl_areNumbers.f a0 l1 20).bind fun t172 => (if t172 = true then ((impl_isPlace.f a0 l2).bind fun t173 => (if t173 = true then ((impl_valueAt.f k a0 l1 l2).bind fun t174 => (some (t174, true))) else (some (0, false)))) else (some (0, false)))) = some (r1, r2) := h
  clear h
  replace H := Option.bind_eq_some_iff.mp H
  obtain ⟨t172, A40, H⟩ := H
  replace H : (if t172 = true then ((impl_isPlace.f a0 l2).bind fun t173 => (if t173 = true then ((impl_valueAt.f k a0 l1 l2).bind fun t174 => (some (t174, true))) else (some (0, false)))) else (some (0, false))) = some (r1, r2) := H
  have A4 := Aside0.mk A40
  clear A40
  by_cases c5 : t172 = true
  · subst c5
    have H1 : ((impl_isPlace.f a0 l2).bind fun t173 => (if t173 = true then ((impl_valueAt.f k a0 l1 l2).bind fun t174 => (some (t174, true))) else (some (0, false)))) = some (r1, r2) := by rw [if_pos rfl] at H; exact H
    clear H
    have H := H1
    clear H1
    replace H := Option.bind_eq_some_iff.mp H
    obtain ⟨t173, A60, H⟩ := H
    replace H : (if t173 = true then ((impl_valueAt.f k a0 l1 l2).bind fun t174 => (some (t174, true))) else (some (0, false))) = some (r1, r2) := H
    have A6 := Aside0.mk A60
    clear A60
    by_cases c7 : t173 = true
    · subst c7
      have H1 : ((impl_valueAt.f k a0 l1 l2).bind fun t174 => (some (t174, true))) = some (r1, r2) := by rw [if_pos rfl] at H; exact H
      clear H
      have H := H1
      clear H1
      replace H := Option.bind_eq_some_iff.mp H
      obtain ⟨t174, A80, H⟩ := H
      replace H : (some (t174, true)) = some (r1, r2) := H
      have A8 := Aside0.mk A80
      clear A80
      simp only [Option.some.injEq, Prod.mk.injEq] at H
      obtain ⟨rfl, rfl⟩ := H
      go_enter Try.func16, Try.ntmps16
      go_wp2_with (first | ((with_reducible refine gate_callee (f := 25) rfl ?_); refine goesL_ (some 10) rfl rfl Try.func25 (by kernel_rfl) rfl #[.int .i64 a0, .slice A1 l1.length c1, .int .i64 20] rfl (by (try simp only [List.map_toArray, List.map_cons, List.map_nil]); first | done | rfl | (simp only [List.length_drop, List.length_take]; rfl)) ?_; (with_reducible refine (impl_areNumbers.calls a0 _ _ l1 20 true _ ?side1 ?side2 A4.out).mono ?_); (case side1 => repeat (first | exact HR1.out | (with_reducible refine Kd.C_alloc ?_ _) | (with_reducible refine Kd.C_drewN ?_ _) | (with_reducible refine Kd.C_drew ?_))); (case side2 => exact HC1.out); rintro e w9 ⟨rfl, hb⟩; refine ⟨_, rfl, ?_⟩; have n0_ := Aside0.mk (below_step (by repeat (first | (with_reducible first | exact HB.out | apply below_alloc | apply pw_below_drewN | apply below_drew1) | exact HB.out)) hb); clear HB; have HB := n0_; clear n0_; (try clear hb); (try clear hb2); (try clear hk); (try clear hi)) | (go_at_call 27; (with_reducible refine (impl_isPlace.calls a0 _ _ l2 true _ ?side1 ?side2 A6.out).mono ?_); (case side1 => repeat (first | exact (Kd.C_below HR2.out HB.out) | (with_reducible refine Kd.C_alloc ?_ _) | (with_reducible refine Kd.C_drewN ?_ _) | (with_reducible refine Kd.C_drew ?_))); (case side2 => exact HC2.out); rintro e w10 ⟨rfl, hb⟩; have n0_ := Aside0.mk (below_step (by repeat (first | (with_reducible first | exact HB.out | apply below_alloc | apply pw_below_drewN | apply below_drew1) | exact HB.out)) hb); clear HB; have HB := n0_; clear n0_; (try clear hb); (try clear hb2); (try clear hk); (try clear hi)) | ((with_reducible refine gate_callee (f := 28) rfl ?_); refine goesL_ (some 21) rfl rfl Try.func28 (by kernel_rfl) rfl #[.int .i64 a0, .slice A1 l1.length c1, .slice A2 l2.length c2] rfl (by (try simp only [List.map_toArray, List.map_cons, List.map_nil]); first | done | rfl | (simp only [List.length_drop, List.length_take]; rfl)) ?_; (with_reducible refine (impl_valueAt.calls k a0 _ _ l1 _ _ l2 t174 _ ?side1 ?side2 ?side3 ?side4 A8.out).mono ?_); (case side1 => repeat (first | exact (Kd.C_below HR1.out HB.out) | (with_reducible refine Kd.C_alloc ?_ _) | (with_reducible refine Kd.C_drewN ?_ _) | (with_reducible refine Kd.C_drew ?_))); (case side2 => exact HC1.out); (case side3 => repeat (first | exact (Kd.C_below HR2.out HB.out) | (with_reducible refine Kd.C_alloc ?_ _) | (with_reducible refine Kd.C_drewN ?_ _) | (with_reducible refine Kd.C_drew ?_))); (case side4 => exact HC2.out); rintro e w' ⟨rfl, ⟨nd, rfl⟩⟩; refine ⟨_, rfl, ?_⟩))
      go_ret2
      exact ⟨by first | rfl | (simp [errW_none, errW_some] <;> rfl) | (simp [*, errW_none, errW_some] <;> rfl), by repeat (first | (with_reducible first | exact HB.out | apply below_alloc | apply pw_below_drewN | apply below_drew1) | exact HB.out)⟩
    · replace c7 := Bool.eq_false_iff.mpr c7
      subst c7
      have H1 : (some (0, false)) = some (r1, r2) := by rw [if_neg (show ¬ (false = true) by decide)] at H; exact H
      clear H
      have H := H1
      clear H1
      simp only [Option.some.injEq, Prod.mk.injEq] at H
      obtain ⟨rfl, rfl⟩ := H
      go_enter Try.func16, Try.ntmps16
      go_wp2_with (first | ((with_reducible refine gate_callee (f := 25) rfl ?_); refine goesL_ (some 10) rfl rfl Try.func25 (by kernel_rfl) rfl #[.int .i64 a0, .slice A1 l1.length c1, .int .i64 20] rfl (by (try simp only [List.map_toArray, List.map_cons, List.map_nil]); first | done | rfl | (simp only [List.length_drop, List.length_take]; rfl)) ?_; (with_reducible refine (impl_areNumbers.calls a0 _ _ l1 20 true _ ?side1 ?side2 A4.out).mono ?_); (case side1 => repeat (first | exact HR1.out | (with_reducible refine Kd.C_alloc ?_ _) | (with_reducible refine Kd.C_drewN ?_ _) | (with_reducible refine Kd.C_drew ?_))); (case side2 => exact HC1.out); rintro e w11 ⟨rfl, hb⟩; refine ⟨_, rfl, ?_⟩; have n0_ := Aside0.mk (below_step (by repeat (first | (with_reducible first | exact HB.out | apply below_alloc | apply pw_below_drewN | apply below_drew1) | exact HB.out)) hb); clear HB; have HB := n0_; clear n0_; (try clear hb); (try clear hb2); (try clear hk); (try clear hi)) | (go_at_call 27; (with_reducible refine (impl_isPlace.calls a0 _ _ l2 false _ ?side1 ?side2 A6.out).mono ?_); (case side1 => repeat (first | exact (Kd.C_below HR2.out HB.out) | (with_reducible refine Kd.C_alloc ?_ _) | (with_reducible refine Kd.C_drewN ?_ _) | (with_reducible refine Kd.C_drew ?_))); (case side2 => exact HC2.out); rintro e w12 ⟨rfl, hb⟩; have n0_ := Aside0.mk (below_step (by repeat (first | (with_reducible first | exact HB.out | apply below_alloc | apply pw_below_drewN | apply below_drew1) | exact HB.out)) hb); clear HB; have HB := n0_; clear n0_; (try clear hb); (try clear hb2); (try clear hk); (try clear hi)))
      go_ret2
      exact ⟨by first | rfl | (simp [errW_none, errW_some] <;> rfl) | (simp [*, errW_none, errW_some] <;> rfl), by repeat (first | (with_reducible first | exact HB.out | apply below_alloc | apply pw_below_drewN | apply below_drew1) | exact HB.out)⟩
  · replace c5 := Bool.eq_false_iff.mpr c5
    subst c5
    have H1 : (some (0, false)) = some (r1, r2) := by rw [if_neg (show ¬ (false = true) by decide)] at H; exact H
    clear H
    have H := H1
    clear H1
    simp only [Option.some.injEq, Prod.mk.injEq] at H
    obtain ⟨rfl, rfl⟩ := H
    go_enter Try.func16, Try.ntmps16
    go_wp2_with (first | ((with_reducible refine gate_callee (f := 25) rfl ?_); refine goesL_ (some 10) rfl rfl Try.func25 (by kernel_rfl) rfl #[.int .i64 a0, .slice A1 l1.length c1, .int .i64 20] rfl (by (try simp only [List.map_toArray, List.map_cons, List.map_nil]); first | done | rfl | (simp only [List.length_drop, List.length_take]; rfl)) ?_; (with_reducible refine (impl_areNumbers.calls a0 _ _ l1 20 false _ ?side1 ?side2 A4.out).mono ?_); (case side1 => repeat (first | exact HR1.out | (with_reducible refine Kd.C_alloc ?_ _) | (with_reducible refine Kd.C_drewN ?_ _) | (with_reducible refine Kd.C_drew ?_))); (case side2 => exact HC1.out); rintro e w13 ⟨rfl, hb⟩; refine ⟨_, rfl, ?_⟩; have n0_ := Aside0.mk (below_step (by repeat (first | (with_reducible first | exact HB.out | apply below_alloc | apply pw_below_drewN | apply below_drew1) | exact HB.out)) hb); clear HB; have HB := n0_; clear n0_; (try clear hb); (try clear hb2); (try clear hk); (try clear hi)))
    go_ret2
    exact ⟨by first | rfl | (simp [errW_none, errW_some] <;> rfl) | (simp [*, errW_none, errW_some] <;> rfl), by repeat (first | (with_reducible first | exact HB.out | apply below_alloc | apply pw_below_drewN | apply below_drew1) | exact HB.out)⟩

end Go.Proofs.Ytpmleelfifjcaaa.PA

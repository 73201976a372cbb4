-- Written by xprint.py, a program of this claim's own (over the kit's print.py)
import Derived.Test.YtmgbpmihbljngaaPAx0
import Derived.Test.YtmgbpmihbljngaaPAx1
import Derived.Test.YtmgbpmihbljngaaPAx12
import Derived.Test.YtmgbpmihbljngaaPAx15
import Derived.Deep.Cut
namespace Go.Proofs.Ytmgbpmihbljngaa.PA
open Go.RowKit Go.Proofs.YtmgbpmihbljngaaW.PrintWords Go.Proofs.YtmgbpmihbljngaaW.PrintLast Go.Proofs.YtmgbpmihbljngaaW.PrintMore
attribute [local go_sem] max2_int min2_int max_two min_two max_three min_three max_four min_four   -- for this text's walks alone
set_option linter.unusedVariables false
set_option linter.unusedSimpArgs false

/-! ### spec_CubeForm: function 145 -/
mutual
def spec_CubeForm.l0 : Nat → List Int → Int → Option (List Int × Bool)
 | 0, _, _ => none
 | k + 1, x4, x5 => if x5 < 4 then (spec_CubeForm.l1 k x4 x5 x5) else (some (x4, true))
def spec_CubeForm.l1 : Nat → List Int → Int → Int → Option (List Int × Bool)
 | 0, _, _, _ => none
 | k + 1, x4, x5, x6 => if x6 < 4 then (spec_CubeForm.l2 k x4 x5 x6 x6) else (spec_CubeForm.l0 k x4 (wrap64 (x5 + 1)))
def spec_CubeForm.l2 : Nat → List Int → Int → Int → Int → Option (List Int × Bool)
 | 0, _, _, _, _ => none
 | k + 1, x4, x5, x6, x7 => if x7 < 4 then (if x5 = x7 then (if x4.length < 17592186044416 then (spec_CubeForm.l2 k (x4 ++ [1]) x5 x6 (wrap64 (x7 + 1))) else (none)) else (if x4.length < 17592186044416 then (spec_CubeForm.l2 k (x4 ++ [0]) x5 x6 (wrap64 (x7 + 1))) else (none))) else (spec_CubeForm.l1 k x4 x5 (wrap64 (x6 + 1)))
end
def spec_CubeForm.f (k : Nat) (a0 : Int) : Option (List Int × Bool) := (spec_PrimeIn.f a0).bind fun t427 => (if t427 = true then (spec_CubeForm.l0 k (([] : List Int)) 0) else (some ((([] : List Int)), false)))
theorem spec_CubeForm.mono_l : ∀ k, (∀ y0 y1, LeO (spec_CubeForm.l0 k y0 y1) (spec_CubeForm.l0 (k + 1) y0 y1)) ∧ (∀ y0 y1 y2, LeO (spec_CubeForm.l1 k y0 y1 y2) (spec_CubeForm.l1 (k + 1) y0 y1 y2)) ∧ (∀ y0 y1 y2 y3, LeO (spec_CubeForm.l2 k y0 y1 y2 y3) (spec_CubeForm.l2 (k + 1) y0 y1 y2 y3))
 | 0 => ⟨fun _ _ r h => by simp [spec_CubeForm.l0] at h, fun _ _ _ r h => by simp [spec_CubeForm.l1] at h, fun _ _ _ _ r h => by simp [spec_CubeForm.l2] at h⟩
 | k + 1 => by
  obtain ⟨ih0, ih1, ih2⟩ := spec_CubeForm.mono_l k
  refine ⟨?_, ?_, ?_⟩
  ·intro y0 y1
   unfold spec_CubeForm.l0
   repeat' first | (with_reducible first | apply ih0 | apply ih1 | apply ih2 | exact LeO.refl _ | exact LeO.none _ | refine LeO.ite ?_ ?_ | refine LeO.bind ?_ (fun _ => ?_)) | (first | apply ih0 | apply ih1 | apply ih2 | exact LeO.none _ | refine LeO.ite ?_ ?_ | refine LeO.bind ?_ (fun _ => ?_))
  ·intro y0 y1 y2
   unfold spec_CubeForm.l1
   repeat' first | (with_reducible first | apply ih0 | apply ih1 | apply ih2 | exact LeO.refl _ | exact LeO.none _ | refine LeO.ite ?_ ?_ | refine LeO.bind ?_ (fun _ => ?_)) | (first | apply ih0 | apply ih1 | apply ih2 | exact LeO.none _ | refine LeO.ite ?_ ?_ | refine LeO.bind ?_ (fun _ => ?_))
  ·intro y0 y1 y2 y3
   unfold spec_CubeForm.l2
   repeat' first | (with_reducible first | apply ih0 | apply ih1 | apply ih2 | exact LeO.refl _ | exact LeO.none _ | refine LeO.ite ?_ ?_ | refine LeO.bind ?_ (fun _ => ?_)) | (first | apply ih0 | apply ih1 | apply ih2 | exact LeO.none _ | refine LeO.ite ?_ ?_ | refine LeO.bind ?_ (fun _ => ?_))
theorem spec_CubeForm.mono : ∀ a0 k, LeO (spec_CubeForm.f k a0) (spec_CubeForm.f (k + 1) a0) := by
 intro a0 k
 obtain ⟨ih0, ih1, ih2⟩ := spec_CubeForm.mono_l k
 unfold spec_CubeForm.f
 repeat' first | (with_reducible first | apply ih0 | apply ih1 | apply ih2 | exact LeO.refl _ | exact LeO.none _ | refine LeO.ite ?_ ?_ | refine LeO.bind ?_ (fun _ => ?_)) | (first | apply ih0 | apply ih1 | apply ih2 | exact LeO.none _ | refine LeO.ite ?_ ?_ | refine LeO.bind ?_ (fun _ => ?_))
set_option maxHeartbeats 8000000 in
set_option maxRecDepth 100000 in
theorem spec_CubeForm.calls (k : Nat) (a0 : Int) (r1 : List Int) (r2 : Bool) (w : World) (h : spec_CubeForm.f k a0 = some (r1, r2)) :
  Calls Try.prog 145 #[.int .i64 a0] w fun e w' => ∃ v0_ : Value, e = .returned (.tuple #[v0_, .bool r2]) ∧ Kd.R (Kd.int .i64) 3 w' w.heap.size (fun _ => True) v0_ r1 ∧ Below w.heap.size w w' := by
 have HB := am (Below.refl w.heap.size w)
 have H : ((spec_PrimeIn.f a0).bind fun t427 => (if t427 = true then (spec_CubeForm.l0 k (([] : List Int)) 0) else (some ((([] : List Int)), false)))) = some (r1, r2) := h
 clear h; replace H := bs H; obtain ⟨t427, A2, H⟩ := H
 by_cases c3 : t427 = true
 ·subst c3
  rw [if_pos rfl] at H
  generalize hy431 : (([] : List Int)) = y431 at H
  have Ny431 := am hy431.symm; clear hy431; have H' := am H; clear H
  go_enter Try.func145, Try.ntmps145
  go_wp2_with (first | ((with_reducible refine gate_callee (f := 103) rfl ?_); refine gl 9 Try.func103 #[.int .i64 a0] ?_; (with_reducible refine (spec_PrimeIn.calls a0 true _ A2.out).mono ?_); rintro e w' ⟨rfl, ⟨nd, rfl⟩⟩; refine ⟨_, rfl, ?_⟩) | ((with_reducible refine gate_dst (N := 12) rfl ?_); refine li 3 ([] : List Int) ?_; intro v432 w4 ho5 hb; (first | rw [← Ny431.out] at ho5 | (simp only [Int.reduceToNat] at ho5; rw [← Ny431.out] at ho5)); have HO433 := am (Kd.R_lower ho5 (bz HB)); replace HB := bq HB hb; clear hb ho5))
  go_loopg [4, 5] k (fun kq v4 v5 w' => ∃ (x4_1 : List Int) (x5_1 : Int), v5 = .int .i64 x5_1 ∧ Aside0 (spec_CubeForm.l0 kq x4_1 x5_1 = some (r1, r2)) ∧ Aside0 (kq ≤ k) ∧ Aside0 (Kd.R (Kd.int .i64) 3 w' w.heap.size (fun _ => True) v4 x4_1) ∧ Aside0 (Below w.heap.size w w'))
  case atStart => exact ⟨(y431), (0), fr, H', ⟨Nat.le_refl _⟩, ⟨wR HO433⟩, ⟨bw HB⟩⟩
  case round =>
   clear H'; try clear c1; try clear p2; try clear c3
   obtain ⟨x4_1, x5_1, rfl, HA, HK1, HO_4, HB⟩ := hrel
   cases gk with
   | zero => exact absurd HA.out (by simp [spec_CubeForm.l0])
   | succ k1 =>
    have H := HA.out; clear HA
    simp only [spec_CubeForm.l0] at H
    by_cases c6 : x5_1 < 4
    ·rw [if_pos c6] at H
     have c6b0 := decide_eq_true c6; clear c6; have H' := am H; clear H; go_wp2
     go_loopg [4, 6] k1 (fun kq v4 v6 w' => ∃ (x4_2 : List Int) (x6_2 : Int), v6 = .int .i64 x6_2 ∧ Aside0 (spec_CubeForm.l1 kq x4_2 x5_1 x6_2 = some (r1, r2)) ∧ Aside0 (kq ≤ k1) ∧ Aside0 (Kd.R (Kd.int .i64) 3 w' w.heap.size (fun _ => True) v4 x4_2) ∧ Aside0 (Below w.heap.size w w'))
     case atStart => exact ⟨(x4_1), (x5_1), fr, H', ⟨Nat.le_refl _⟩, ⟨wR HO_4⟩, ⟨bw HB⟩⟩
     case round =>
      clear H'; try clear c1; try clear p2; try clear c3; try clear c6; try clear c6b0; try clear p2
      obtain ⟨x4_2, x6_2, rfl, HA, HK2, HO_4, HB⟩ := hrel
      cases gk with
      | zero => exact absurd HA.out (by simp [spec_CubeForm.l1])
      | succ k2 =>
       have H := HA.out; clear HA
       simp only [spec_CubeForm.l1] at H
       by_cases c7 : x6_2 < 4
       ·rw [if_pos c7] at H
        have c7b0 := decide_eq_true c7; clear c7; have H' := am H; clear H; go_wp2
        go_loopg [4, 7] k2 (fun kq v4 v7 w' => ∃ (x4_3 : List Int) (x7_3 : Int), v7 = .int .i64 x7_3 ∧ Aside0 (spec_CubeForm.l2 kq x4_3 x5_1 x6_2 x7_3 = some (r1, r2)) ∧ Aside0 (kq ≤ k2) ∧ Aside0 (Kd.R (Kd.int .i64) 3 w' w.heap.size (fun _ => True) v4 x4_3) ∧ Aside0 (Below w.heap.size w w'))
        case atStart => exact ⟨(x4_2), (x6_2), fr, H', ⟨Nat.le_refl _⟩, ⟨wR HO_4⟩, ⟨bw HB⟩⟩
        case round =>
         clear H'; try clear c1; try clear p2; try clear c3; try clear c6; try clear c6b0; try clear c7; try clear c7b0; try clear p2
         obtain ⟨x4_3, x7_3, rfl, HA, HK3, HO_4, HB⟩ := hrel
         cases gk with
         | zero => exact absurd HA.out (by simp [spec_CubeForm.l2])
         | succ k3 =>
          have H := HA.out; clear HA
          simp only [spec_CubeForm.l2] at H
          by_cases c8 : x7_3 < 4
          ·rw [if_pos c8] at H
           have c8b0 := decide_eq_true c8; clear c8
           by_cases c9 : x5_1 = x7_3
           ·rw [if_pos c9] at H
            have c9b0 := beq_iff_eq.mpr c9; have c9b1 := bne_eq_false_iff_eq.mpr c9; clear c9; replace H := ifn H; obtain ⟨c10, H⟩ := H; have LMc10 := am c10; clear c10
            generalize hy434 : (x4_3 ++ [1] : List Int) = y434 at H
            have Ny434 := am hy434.symm; clear hy434; have H' := am H; clear H
            go_wp2_with (first | ((with_reducible refine gate_builtin (b := .append) (xs := #[.tmp 30, .tmp 31]) rfl ?_); at_builtin; refine Kd.R_append (Kd.int .i64) (w0 := w) w.heap.size rfl (.tmp 30) (.tmp 31) 23 3 (.int .i64 0) 8 rfl Try.underlying23 info3 rfl (by decide) (by omega) u4 x4_3 1 [.int .i64 1] (fun _ => True) (fun _ => False) rfl rfl ?aP (fun _ hk => hk.elim) ?aF ?aO ?aB ?aS ?aL ?_; (case aP => exact rfl); (case aB => exact (bw HB)); (case aF => exact (fun _ _ => trivial)); (case aO => exact (wR HO_4)); (case aS => exact (bz HB)); (case aL => have := LMc10.out; omega); intro v435 w11 ho hb hg hat; rw [← Ny434.out] at ho; replace HB := am (hb); have HO436 := am (ho); clear HO_4; clear ho hb hg hat))
            go_roundg k3
            case measure => have := HK1.out; have := HK2.out; have := HK3.out; omega
            case rel => exact ⟨(y434), (wrap64 (x7_3 + 1)), fr, H', ⟨by have := HK1.out; have := HK2.out; have := HK3.out; omega⟩, ⟨wR HO436⟩, ⟨bw HB⟩⟩
           ·rw [if_neg c9] at H
            have c9b0 := beq_eq_false_iff_ne.mpr c9; have c9b1 := bne_iff_ne.mpr c9; replace H := ifn H; obtain ⟨c12, H⟩ := H; have LMc12 := am c12; clear c12
            generalize hy437 : (x4_3 ++ [0] : List Int) = y437 at H
            have Ny437 := am hy437.symm; clear hy437; have H' := am H; clear H
            go_wp2_with (first | ((with_reducible refine gate_builtin (b := .append) (xs := #[.tmp 33, .tmp 34]) rfl ?_); at_builtin; refine Kd.R_append (Kd.int .i64) (w0 := w) w.heap.size rfl (.tmp 33) (.tmp 34) 23 3 (.int .i64 0) 8 rfl Try.underlying23 info3 rfl (by decide) (by omega) u4 x4_3 0 [.int .i64 0] (fun _ => True) (fun _ => False) rfl rfl ?aP (fun _ hk => hk.elim) ?aF ?aO ?aB ?aS ?aL ?_; (case aP => exact rfl); (case aB => exact (bw HB)); (case aF => exact (fun _ _ => trivial)); (case aO => exact (wR HO_4)); (case aS => exact (bz HB)); (case aL => have := LMc12.out; omega); intro v438 w13 ho hb hg hat; rw [← Ny437.out] at ho; replace HB := am (hb); have HO439 := am (ho); clear HO_4; clear ho hb hg hat))
            go_roundg k3
            case measure => have := HK1.out; have := HK2.out; have := HK3.out; omega
            case rel => exact ⟨(y437), (wrap64 (x7_3 + 1)), fr, H', ⟨by have := HK1.out; have := HK2.out; have := HK3.out; omega⟩, ⟨wR HO439⟩, ⟨bw HB⟩⟩
          ·rw [if_neg c8] at H
           have c8b0 := decide_eq_false c8; clear c8; have H' := am H; clear H; go_wp2
           go_roundg k3
           case measure => have := HK1.out; have := HK2.out; have := HK3.out; omega
           case rel => exact ⟨(x4_3), (wrap64 (x6_2 + 1)), fr, H', ⟨by have := HK1.out; have := HK2.out; have := HK3.out; omega⟩, ⟨wR HO_4⟩, ⟨bw HB⟩⟩
       ·rw [if_neg c7] at H
        have c7b0 := decide_eq_false c7; clear c7; have H' := am H; clear H; go_wp2
        go_roundg k2
        case measure => have := HK1.out; have := HK2.out; omega
        case rel => exact ⟨(x4_2), (wrap64 (x5_1 + 1)), fr, H', ⟨by have := HK1.out; have := HK2.out; omega⟩, ⟨wR HO_4⟩, ⟨bw HB⟩⟩
    ·rw [if_neg c6] at H
     have c6b0 := decide_eq_false c6; clear c6
     simp only [Option.some.injEq, Prod.mk.injEq] at H
     obtain ⟨rfl, rfl⟩ := H; go_wp2
     go_ret2
     exact ⟨_, fq, wR HO_4, bw HB⟩
 ·replace c3 := Bool.eq_false_iff.mpr c3
  subst c3
  rw [if_neg (show ¬ (false = true) by decide)] at H
  generalize hy428 : (([] : List Int)) = y428 at H
  have Ny428 := am hy428.symm; clear hy428
  simp only [Option.some.injEq, Prod.mk.injEq] at H
  obtain ⟨rfl, rfl⟩ := H
  go_enter Try.func145, Try.ntmps145
  go_wp2_with (first | ((with_reducible refine gate_callee (f := 103) rfl ?_); refine gl 9 Try.func103 #[.int .i64 a0] ?_; (with_reducible refine (spec_PrimeIn.calls a0 false _ A2.out).mono ?_); rintro e w' ⟨rfl, ⟨nd, rfl⟩⟩; refine ⟨_, rfl, ?_⟩) | ((with_reducible refine gate_dst (N := 11) rfl ?_); refine li 3 ([] : List Int) ?_; intro v429 w14 ho15 hb; (first | rw [← Ny428.out] at ho15 | (simp only [Int.reduceToNat] at ho15; rw [← Ny428.out] at ho15)); have HO430 := am (Kd.R_lower ho15 (bz HB)); replace HB := bq HB hb; clear hb ho15))
  go_ret2
  exact ⟨_, fq, wR HO430, bw HB⟩/-! ### spec_l92Form: function 91 -/
mutual
def spec_l92Form.j0 : Nat → Int → List Int → Bool → List Int → Int → Option (List Int × Int)
 | 0, _, _, _, _, _ => none
 | k + 1, x1, x5, x18, x1000, x1001 => if x18 = true then (some (x5, x1001)) else (spec_l92Form.l0 k x1 (([] : List Int)) 0 x1000 x1001)
def spec_l92Form.l0 : Nat → Int → List Int → Int → List Int → Int → Option (List Int × Int)
 | 0, _, _, _, _, _ => none
 | k + 1, x1, x5, x7, x1000, x1001 => if x7 < 20 then ((spec_l6Rd_pick.f k x1000 x1001 x1).bind fun bt449 => ((spec_l6Rd_pick.f k x1000 bt449.2 2).bind fun bt451 => (if x5.length < 17592186044416 then (spec_l92Form.l0 k x1 (x5 ++ [wrap64 (bt449.1 * bt451.1)]) (wrap64 (x7 + 1)) x1000 bt451.2) else (none)))) else ((spec_l6Rd_pick.f k x1000 x1001 24).bind fun bt456 => (if bt456.1 = 0 then (if 19 ≤ (x5.length : Int) then (some ((x5.take (19 : Int).toNat), bt456.2)) else (none)) else (some (x5, bt456.2))))
end
def spec_l92Form.f (k : Nat) (s0_0 : List Int) (s0_1 : Int) (a1 : Int) : Option (List Int × Int) := (spec_CubeForm.f k a1).bind fun bt440 => (if bt440.2 = true then ((spec_l6Rd_pick.f k s0_0 s0_1 3).bind fun bt444 => (spec_l92Form.j0 k a1 bt440.1 (bt444.1 == 0) s0_0 bt444.2)) else (spec_l92Form.j0 k a1 bt440.1 false s0_0 s0_1))
theorem spec_l92Form.mono_l : ∀ k, (∀ y0 y1 y2 y3 y4, LeO (spec_l92Form.j0 k y0 y1 y2 y3 y4) (spec_l92Form.j0 (k + 1) y0 y1 y2 y3 y4)) ∧ (∀ y0 y1 y2 y3 y4, LeO (spec_l92Form.l0 k y0 y1 y2 y3 y4) (spec_l92Form.l0 (k + 1) y0 y1 y2 y3 y4))
 | 0 => ⟨fun _ _ _ _ _ r h => by simp [spec_l92Form.j0] at h, fun _ _ _ _ _ r h => by simp [spec_l92Form.l0] at h⟩
 | k + 1 => by
  obtain ⟨ih0, ih1⟩ := spec_l92Form.mono_l k
  refine ⟨?_, ?_⟩
  ·intro y0 y1 y2 y3 y4
   unfold spec_l92Form.j0
   repeat' first | (with_reducible first | apply ih0 | apply ih1 | apply spec_CubeForm.mono | apply spec_l6Rd_pick.mono | exact LeO.refl _ | exact LeO.none _ | refine LeO.ite ?_ ?_ | refine LeO.bind ?_ (fun _ => ?_)) | (first | apply ih0 | apply ih1 | apply spec_CubeForm.mono | apply spec_l6Rd_pick.mono | exact LeO.none _ | refine LeO.ite ?_ ?_ | refine LeO.bind ?_ (fun _ => ?_))
  ·intro y0 y1 y2 y3 y4
   unfold spec_l92Form.l0
   repeat' first | (with_reducible first | apply ih0 | apply ih1 | apply spec_CubeForm.mono | apply spec_l6Rd_pick.mono | exact LeO.refl _ | exact LeO.none _ | refine LeO.ite ?_ ?_ | refine LeO.bind ?_ (fun _ => ?_)) | (first | apply ih0 | apply ih1 | apply spec_CubeForm.mono | apply spec_l6Rd_pick.mono | exact LeO.none _ | refine LeO.ite ?_ ?_ | refine LeO.bind ?_ (fun _ => ?_))
theorem spec_l92Form.mono : ∀ a0 a1 a2 k, LeO (spec_l92Form.f k a0 a1 a2) (spec_l92Form.f (k + 1) a0 a1 a2) := by
 intro a0 a1 a2 k
 obtain ⟨ih0, ih1⟩ := spec_l92Form.mono_l k
 unfold spec_l92Form.f
 repeat' first | (with_reducible first | apply ih0 | apply ih1 | apply spec_CubeForm.mono | apply spec_l6Rd_pick.mono | exact LeO.refl _ | exact LeO.none _ | refine LeO.ite ?_ ?_ | refine LeO.bind ?_ (fun _ => ?_)) | (first | apply ih0 | apply ih1 | apply spec_CubeForm.mono | apply spec_l6Rd_pick.mono | exact LeO.none _ | refine LeO.ite ?_ ?_ | refine LeO.bind ?_ (fun _ => ?_))
set_option maxHeartbeats 8000000 in
set_option maxRecDepth 100000 in
theorem spec_l92Form.calls (k : Nat) (g : Nat) (s0_0 : List Int) (s0_1 : Int) (a1 : Int) (r1 : List Int) (r2 : Int) (w0 w : World) (hI : IsS112 w0 w g s0_0 s0_1) (hB : Below w0.heap.size w0 w) (h : spec_l92Form.f k s0_0 s0_1 a1 = some (r1, r2)) :
  Calls Try.prog 91 #[.pointer (some ⟨g, 0, none⟩), .int .i64 a1] w fun e w' => ∃ v0_ : Value, e = .returned (v0_) ∧ Kd.R (Kd.int .i64) 3 w' w.heap.size (fun _ => True) v0_ r1 ∧ IsS112 w0 w' g s0_0 r2 ∧ Below w0.heap.size w0 w' ∧ KeepBut w w' g none := by
 have HI0 := am hI
 have HK := am (KeepBut.refl w g none)
 have HL := am hB.size
 clear hI
 have HW0 := am hB.size
 have HB := am hB
 clear hB
 have H : ((spec_CubeForm.f k a1).bind fun bt440 => (if bt440.2 = true then ((spec_l6Rd_pick.f k s0_0 s0_1 3).bind fun bt444 => (spec_l92Form.j0 k a1 bt440.1 (bt444.1 == 0) s0_0 bt444.2)) else (spec_l92Form.j0 k a1 bt440.1 false s0_0 s0_1))) = some (r1, r2) := h
 clear h; replace H := bs H
 obtain ⟨⟨t440, t441⟩, A3, H⟩ := H
 dsimp only at H
 have HC4 := am H
 clear H
 go_enter Try.func91, Try.ntmps91
 go_upto_region 2 with (first | ((with_reducible refine gate_callee (f := 145) rfl ?_); refine gl 10 Try.func145 #[.int .i64 a1] ?_; (with_reducible refine (spec_CubeForm.calls k a1 t440 t441 _ A3.out).mono ?_); rintro e w5 ⟨v442, rfl, ho0, hb⟩; refine ⟨_, rfl, ?_⟩; have HO443 := am (Kd.R_lower ho0 (keep_size (w := w) (g := g) (row := none) (kw HK))); replace HK := am (KeepBut.trans (kw HK) (KeepBut.of_below hb g none) (.inl rfl)); replace HB := am (below_step (bi112 HB HI0) hb); replace HI0 := am (IsS112.below (iw112 HI0) hb); (try clear hb); (try clear ho0)))
 (try simp only [Act.put, List.setIfInBounds_toArray, List.set_cons_zero, List.set_cons_succ])
 go_cut [18] (fun v18 wc => ∃ (kq : Nat) (x18_3 : Bool) (x1001_3 : Int), v18 = .bool x18_3 ∧ Aside0 (spec_l92Form.j0 kq a1 t440 x18_3 s0_0 x1001_3 = some (r1, r2)) ∧ Aside0 (kq ≤ k) ∧ Aside0 (Kd.R (Kd.int .i64) 3 wc w.heap.size (fun _ => True) v442 t440) ∧ Aside0 (IsS112 w0 wc g s0_0 x1001_3) ∧ Aside0 (KeepBut w wc g none) ∧ Aside0 (Below w0.heap.size w0 wc))
 case first =>
  have H := HC4.out
  clear HC4
  by_cases c6 : t441 = true
  ·subst c6
   rw [if_pos rfl] at H
   replace H := bs H
   obtain ⟨⟨t444, t445⟩, A7, H⟩ := H
   dsimp only at H
   have H' := am H; clear H
   go_wp2_with (first | (go_at_call 71; (with_reducible refine (spec_l6Rd_pick.calls k g s0_0 s0_1 3 t444 t445 w0 _ ?_ ?_ A7.out).mono ?_); (· repeat (first | (with_reducible first | exact HI0.out | apply IsS112.alloc | apply IsS112.drewN | apply IsS112.drew | apply IsS112.set_1) | exact HI0.out)); (· repeat (first | (with_reducible first | exact HB.out | apply below_alloc | apply pw_below_drewN | apply below_drew1 | refine below_set ?_ (IsS112.ge HI0.out)) | exact HB.out)); rintro e w8 ⟨rfl, hi, hb, hk⟩; replace HO443 := am (Kd.R_mono (Kd.R_keep (IsS112.apart (show IsS112 w0 _ g s0_0 s0_1 from iw112 HI0) (wR HO443) (by decide)) hk (fun _ h => h.2)) (fun _ h => h.1)); replace HK := am (KeepBut.trans (kw HK) hk (.inl rfl)); replace HB := am (hb); replace HI0 := am (hi); (try clear hb); (try clear hk); (try clear hi)))
   go_meet
   case rel => exact ⟨_, ((t444 == 0)), (t445), fr, H', ⟨by first | omega | exact Nat.le_refl _⟩, ⟨wR HO443⟩, ⟨iw112 HI0⟩, ⟨kw HK⟩, ⟨bi112 HB HI0⟩⟩
  ·replace c6 := Bool.eq_false_iff.mpr c6
   subst c6
   rw [if_neg (show ¬ (false = true) by decide)] at H
   have H' := am H; clear H; go_wp2
   go_meet
   case rel => exact ⟨_, (false), (s0_1), fr, H', ⟨by first | omega | exact Nat.le_refl _⟩, ⟨wR HO443⟩, ⟨iw112 HI0⟩, ⟨kw HK⟩, ⟨bi112 HB HI0⟩⟩
 case rest =>
  clear HC4; try clear c1; try clear p2; try clear c6
  obtain ⟨kq, x18_3, x1001_3, rfl, HA, HJ3, HO_5, HI0, HK, HB⟩ := hcut
  cases kq with
  | zero => exact absurd HA.out (by simp [spec_l92Form.j0])
  | succ kj3 =>
   have H := HA.out; clear HA
   simp only [spec_l92Form.j0] at H
   by_cases c9 : x18_3 = true
   ·subst c9
    rw [if_pos rfl] at H
    simp only [Option.some.injEq, Prod.mk.injEq] at H
    obtain ⟨rfl, rfl⟩ := H; go_wp2; go_ret
    exact ⟨_, fq, wR HO_5, iw112 HI0, bi112 HB HI0, kw HK⟩
   ·replace c9 := Bool.eq_false_iff.mpr c9
    subst c9
    rw [if_neg (show ¬ (false = true) by decide)] at H
    generalize hy446 : (([] : List Int)) = y446 at H
    have Ny446 := am hy446.symm; clear hy446; have H' := am H; clear H
    go_wp2_with (first | ((with_reducible refine gate_dst (N := 20) rfl ?_); refine li 3 ([] : List Int) ?_; intro v447 w10 ho11 hb; (first | rw [← Ny446.out] at ho11 | (simp only [Int.reduceToNat] at ho11; rw [← Ny446.out] at ho11)); have HO448 := am (Kd.R_lower (Kd.R_new' ho11 (Kd.R_lt (wR HO_5))) (keep_size (w := w) (g := g) (row := none) (kw HK))); replace HO_5 := eR HO_5 (Kd.R_base ho11) hb; replace HK := am (KeepBut.trans (kw HK) (KeepBut.of_below hb g none) (.inl rfl)); replace HB := am (below_step (bi112 HB HI0) hb); replace HI0 := am (IsS112.below (iw112 HI0) hb); clear hb ho11))
    go_loopg [5, 7] kj3 (fun kq v5 v7 w' => ∃ (x5_2 : List Int) (x7_2 : Int) (x1001_2 : Int), v7 = .int .i64 x7_2 ∧ Aside0 (spec_l92Form.l0 kq a1 x5_2 x7_2 s0_0 x1001_2 = some (r1, r2)) ∧ Aside0 (kq ≤ kj3) ∧ Aside0 (Kd.R (Kd.int .i64) 3 w' w.heap.size (fun _ => True) v5 x5_2) ∧ Aside0 (IsS112 w0 w' g s0_0 x1001_2) ∧ Aside0 (KeepBut w w' g none) ∧ Aside0 (Below w0.heap.size w0 w'))
    case atStart => exact ⟨(y446), (0), (x1001_3), fr, H', ⟨Nat.le_refl _⟩, ⟨Kd.R_below (Kd.R_mono HO448.out (fun _ hk => trivial)) gs⟩, ⟨iw112 HI0⟩, ⟨kw HK⟩, ⟨bi112 HB HI0⟩⟩
    case round =>
     clear H'; try clear c1; try clear p2; try clear c6; try clear c9; try clear p2
     obtain ⟨x5_2, x7_2, x1001_2, rfl, HA, HK2, HO_5, HI0, HK, HB⟩ := hrel
     cases gk with
     | zero => exact absurd HA.out (by simp [spec_l92Form.l0])
     | succ k2 =>
      have H := HA.out; clear HA
      simp only [spec_l92Form.l0] at H
      by_cases c12 : x7_2 < 20
      ·rw [if_pos c12] at H
       have c12b0 := decide_eq_true c12; clear c12; replace H := bs H
       obtain ⟨⟨t449, t450⟩, A13, H⟩ := H
       dsimp only at H
       replace H := bs H
       obtain ⟨⟨t451, t452⟩, A14, H⟩ := H
       dsimp only at H
       replace H := ifn H; obtain ⟨c15, H⟩ := H; have LMc15 := am c15; clear c15
       generalize hy453 : (x5_2 ++ [wrap64 (t449 * t451)] : List Int) = y453 at H
       have Ny453 := am hy453.symm; clear hy453; have H' := am H; clear H
       go_wp2_with (first | ((with_reducible refine gate_callee (f := 71) rfl ?_); refine gl 28 Try.func71 #[.pointer (some ⟨g, 0, none⟩), .int .i64 a1] ?_; (with_reducible refine (spec_l6Rd_pick.calls k2 g s0_0 x1001_2 a1 t449 t450 w0 _ ?_ ?_ A13.out).mono ?_); (· repeat (first | (with_reducible first | exact HI0.out | apply IsS112.alloc | apply IsS112.drewN | apply IsS112.drew | apply IsS112.set_1) | exact HI0.out)); (· repeat (first | (with_reducible first | exact HB.out | apply below_alloc | apply pw_below_drewN | apply below_drew1 | refine below_set ?_ (IsS112.ge HI0.out)) | exact HB.out)); rintro e w16 ⟨rfl, hi, hb, hk⟩; refine ⟨_, rfl, ?_⟩; replace HO_5 := am (Kd.R_mono (Kd.R_keep (IsS112.apart (show IsS112 w0 _ g s0_0 x1001_2 from iw112 HI0) (wR HO_5) (by decide)) hk (fun _ h => h.2)) (fun _ h => h.1)); replace HK := am (KeepBut.trans (kw HK) hk (.inl rfl)); replace HB := am (hb); replace HI0 := am (hi); (try clear hb); (try clear hk); (try clear hi)) | ((with_reducible refine gate_callee (f := 71) rfl ?_); refine gl 30 Try.func71 #[.pointer (some ⟨g, 0, none⟩), .int .i64 2] ?_; (with_reducible refine (spec_l6Rd_pick.calls k2 g s0_0 t450 2 t451 t452 w0 _ ?_ ?_ A14.out).mono ?_); (· repeat (first | (with_reducible first | exact HI0.out | apply IsS112.alloc | apply IsS112.drewN | apply IsS112.drew | apply IsS112.set_1) | exact HI0.out)); (· repeat (first | (with_reducible first | exact HB.out | apply below_alloc | apply pw_below_drewN | apply below_drew1 | refine below_set ?_ (IsS112.ge HI0.out)) | exact HB.out)); rintro e w17 ⟨rfl, hi, hb, hk⟩; refine ⟨_, rfl, ?_⟩; replace HO_5 := am (Kd.R_mono (Kd.R_keep (IsS112.apart (show IsS112 w0 _ g s0_0 t450 from iw112 HI0) (wR HO_5) (by decide)) hk (fun _ h => h.2)) (fun _ h => h.1)); replace HK := am (KeepBut.trans (kw HK) hk (.inl rfl)); replace HB := am (hb); replace HI0 := am (hi); (try clear hb); (try clear hk); (try clear hi)) | ((with_reducible refine gate_builtin (b := .append) (xs := #[.tmp 25, .tmp 32]) rfl ?_); at_builtin; refine Kd.R_append (Kd.int .i64) w.heap.size rfl (.tmp 25) (.tmp 32) 23 3 (.int .i64 0) 8 rfl Try.underlying23 info3 rfl (by decide) (by omega) u5 x5_2 (wrap64 (t449 * t451)) [.int .i64 (wrap64 (t449 * t451))] (fun _ => True) (fun _ => False) rfl rfl ?aP (fun _ hk => hk.elim) ?aF ?aO (Below.refl _ _) ?aS ?aL ?_; (case aP => exact rfl); (case aF => exact (fun _ _ => trivial)); (case aO => exact (wR HO_5)); (case aS => exact (keep_size (w := w) (g := g) (row := none) (kw HK))); (case aL => have := LMc15.out; omega); intro v454 w18 ho hb hg hat; rw [← Ny453.out] at ho; replace HB := am (below_weaken (bi112 HB HI0) HL.out hb); replace HI0 := am (IsS112.grown (iw112 HI0) hg (IsS112.own_ne HI0.out HO_5.out (by decide))); replace HK := am (KeepBut.trans (kw HK) (KeepBut.of_grown hg g) (Kd.R_base2 HO_5.out)); have HO455 := am (ho); clear HO_5; clear ho hb hg hat))
       go_roundg k2
       case measure => have := HJ3.out; have := HK2.out; omega
       case rel => exact ⟨(y453), (wrap64 (x7_2 + 1)), (t452), fr, H', ⟨by have := HJ3.out; have := HK2.out; omega⟩, ⟨wR HO455⟩, ⟨iw112 HI0⟩, ⟨kw HK⟩, ⟨bi112 HB HI0⟩⟩
      ·rw [if_neg c12] at H
       have c12b0 := decide_eq_false c12; clear c12; replace H := bs H
       obtain ⟨⟨t456, t457⟩, A19, H⟩ := H
       dsimp only at H
       by_cases c20 : t456 = 0
       ·rw [if_pos c20] at H
        have c20b0 := beq_iff_eq.mpr c20; have c20b1 := bne_eq_false_iff_eq.mpr c20; clear c20; replace H := ifn H; obtain ⟨c21, H⟩ := H; have c21b0 := eq_true c21; have c21b1 := decide_eq_true c21; clear c21
        generalize hy458 : (x5_2.take (19 : Int).toNat : List Int) = y458 at H
        have Ny458 := am hy458.symm; clear hy458
        simp only [Option.some.injEq, Prod.mk.injEq] at H
        obtain ⟨rfl, rfl⟩ := H
        go_wp2_with (first | ((with_reducible refine gate_callee (f := 71) rfl ?_); refine gl 35 Try.func71 #[.pointer (some ⟨g, 0, none⟩), .int .i64 24] ?_; (with_reducible refine (spec_l6Rd_pick.calls k2 g s0_0 x1001_2 24 t456 t457 w0 _ ?_ ?_ A19.out).mono ?_); (· repeat (first | (with_reducible first | exact HI0.out | apply IsS112.alloc | apply IsS112.drewN | apply IsS112.drew | apply IsS112.set_1) | exact HI0.out)); (· repeat (first | (with_reducible first | exact HB.out | apply below_alloc | apply pw_below_drewN | apply below_drew1 | refine below_set ?_ (IsS112.ge HI0.out)) | exact HB.out)); rintro e w22 ⟨rfl, hi, hb, hk⟩; refine ⟨_, rfl, ?_⟩; replace HO_5 := am (Kd.R_mono (Kd.R_keep (IsS112.apart (show IsS112 w0 _ g s0_0 x1001_2 from iw112 HI0) (wR HO_5) (by decide)) hk (fun _ h => h.2)) (fun _ h => h.1)); replace HK := am (KeepBut.trans (kw HK) hk (.inl rfl)); replace HB := am (hb); replace HI0 := am (hi); (try clear hb); (try clear hk); (try clear hi); obtain ⟨Ao23, co23, eo23⟩ := Kd.R_slice HO_5.out; subst eo23; have q24 : (19 : Int) ≤ ((x5_2.length : Int) : Int) := od; obtain ⟨i024, hi024, _, hsz24, _⟩ := info_parts info3; have hcut24 := cut_to (P := Try.prog) 23 3 .i64 Try.underlying23 hi024 Ao23 x5_2.length co23 19 (by omega) q24 (Kd.R_reads' HO_5.out).2.1; have hr24 := Kd.R_take (m := (19 : Int).toNat) HO_5.out (by omega); have hy24 : y458.length = (19 : Int).toNat := (by rw [Ny458.out, List.length_take]; omega); rw [← Ny458.out] at hr24; rw [← hy24] at hr24 hcut24; clear hy24 hi024 hsz24 HO_5; have HO460 := am hr24; clear hr24; replace q24 := eq_true q24))
        go_ret
        exact ⟨_, fq, wR HO460, iw112 HI0, bi112 HB HI0, kw HK⟩
       ·rw [if_neg c20] at H
        have c20b0 := beq_eq_false_iff_ne.mpr c20; have c20b1 := bne_iff_ne.mpr c20
        simp only [Option.some.injEq, Prod.mk.injEq] at H
        obtain ⟨rfl, rfl⟩ := H
        go_wp2_with (first | ((with_reducible refine gate_callee (f := 71) rfl ?_); refine gl 35 Try.func71 #[.pointer (some ⟨g, 0, none⟩), .int .i64 24] ?_; (with_reducible refine (spec_l6Rd_pick.calls k2 g s0_0 x1001_2 24 t456 t457 w0 _ ?_ ?_ A19.out).mono ?_); (· repeat (first | (with_reducible first | exact HI0.out | apply IsS112.alloc | apply IsS112.drewN | apply IsS112.drew | apply IsS112.set_1) | exact HI0.out)); (· repeat (first | (with_reducible first | exact HB.out | apply below_alloc | apply pw_below_drewN | apply below_drew1 | refine below_set ?_ (IsS112.ge HI0.out)) | exact HB.out)); rintro e w25 ⟨rfl, hi, hb, hk⟩; refine ⟨_, rfl, ?_⟩; replace HO_5 := am (Kd.R_mono (Kd.R_keep (IsS112.apart (show IsS112 w0 _ g s0_0 x1001_2 from iw112 HI0) (wR HO_5) (by decide)) hk (fun _ h => h.2)) (fun _ h => h.1)); replace HK := am (KeepBut.trans (kw HK) hk (.inl rfl)); replace HB := am (hb); replace HI0 := am (hi); (try clear hb); (try clear hk); (try clear hi)))
        go_ret
        exact ⟨_, fq, wR HO_5, iw112 HI0, bi112 HB HI0, kw HK⟩/-! ### spec_l92Small: function 51 -/
def spec_l92Small.j0 : Nat → Int → List Int → Bool → List Int → Int → Option (Int × List Int)
 | 0, _, _, _, _, _ => none
 | k + 1, x5, x7, x27, x464000, x464001 => if x27 = true then (some (x5, x7)) else ((some (([7, 11, 13, 9] : List Int) : List Int)).bind fun y475 => ((spec_l6Rd_pick.f k x464000 x464001 4).bind fun bt478 => (if 0 ≤ bt478.1 then (if bt478.1 < (y475.length : Int) then ((spec_l92Form.f k x464000 bt478.2 (rd y475 bt478.1)).bind fun bt481 => (some (rd y475 bt478.1, bt481.1))) else (none)) else (none))))
def spec_l92Small.f (k : Nat) (l0 : List Int) : Option (Int × List Int) := (spec_l6Open.f l0).bind fun bt461 => ((spec_l92Six.f k bt461.1 bt461.2).bind fun bt464 => ((spec_SurfaceOf.f k bt464.1 bt464.2.1).bind fun bt469 => (if bt469.2 = true then ((spec_l6Rd_pick.f k bt461.1 bt464.2.2 2).bind fun bt473 => (spec_l92Small.j0 k bt464.1 bt469.1 (bt473.1 == 0) bt461.1 bt473.2)) else (spec_l92Small.j0 k bt464.1 bt469.1 false bt461.1 bt464.2.2))))
theorem spec_l92Small.mono_l : ∀ k, (∀ y0 y1 y2 y3 y4, LeO (spec_l92Small.j0 k y0 y1 y2 y3 y4) (spec_l92Small.j0 (k + 1) y0 y1 y2 y3 y4))
 | 0 => fun _ _ _ _ _ r h => by simp [spec_l92Small.j0] at h
 | k + 1 => by
  have ih0 := spec_l92Small.mono_l k
  ·intro y0 y1 y2 y3 y4
   unfold spec_l92Small.j0
   repeat' first | (with_reducible first | apply ih0 | apply spec_SurfaceOf.mono | apply spec_l6Rd_pick.mono | apply spec_l92Form.mono | apply spec_l92Six.mono | exact LeO.refl _ | exact LeO.none _ | refine LeO.ite ?_ ?_ | refine LeO.bind ?_ (fun _ => ?_)) | (first | apply ih0 | apply spec_SurfaceOf.mono | apply spec_l6Rd_pick.mono | apply spec_l92Form.mono | apply spec_l92Six.mono | exact LeO.none _ | refine LeO.ite ?_ ?_ | refine LeO.bind ?_ (fun _ => ?_))
theorem spec_l92Small.mono : ∀ a0 k, LeO (spec_l92Small.f k a0) (spec_l92Small.f (k + 1) a0) := by
 intro a0 k
 have ih0 := spec_l92Small.mono_l k
 unfold spec_l92Small.f
 repeat' first | (with_reducible first | apply ih0 | apply spec_SurfaceOf.mono | apply spec_l6Rd_pick.mono | apply spec_l92Form.mono | apply spec_l92Six.mono | exact LeO.refl _ | exact LeO.none _ | refine LeO.ite ?_ ?_ | refine LeO.bind ?_ (fun _ => ?_)) | (first | apply ih0 | apply spec_SurfaceOf.mono | apply spec_l6Rd_pick.mono | apply spec_l92Form.mono | apply spec_l92Six.mono | exact LeO.none _ | refine LeO.ite ?_ ?_ | refine LeO.bind ?_ (fun _ => ?_))
set_option maxHeartbeats 8000000 in
set_option maxRecDepth 100000 in
theorem spec_l92Small.calls (k : Nat) (A0 : Option Addr) (c0 : Nat) (l0 : List Int) (r1 : Int) (r2 : List Int) (w : World) (hr0 : Kd.C (Kd.int .u8) w A0 l0.length l0) (hc0 : l0.length ≤ c0) (h : spec_l92Small.f k l0 = some (r1, r2)) :
  Calls Try.prog 51 #[.slice A0 l0.length c0] w fun e w' => ∃ v1_ : Value, e = .returned (.tuple #[.int .i64 r1, v1_]) ∧ Kd.V (Kd.int .i64) 3 w' w.heap.size (fun k_ => (w.heap.size ≤ k_)) v1_ r2 ∧ Below w.heap.size w w' := by
 have HR0 := am hr0
 have HC0 := am hc0
 clear hr0 hc0
 have HB := am (Below.refl w.heap.size w)
 have H : ((spec_l6Open.f l0).bind fun bt461 => ((spec_l92Six.f k bt461.1 bt461.2).bind fun bt464 => ((spec_SurfaceOf.f k bt464.1 bt464.2.1).bind fun bt469 => (if bt469.2 = true then ((spec_l6Rd_pick.f k bt461.1 bt464.2.2 2).bind fun bt473 => (spec_l92Small.j0 k bt464.1 bt469.1 (bt473.1 == 0) bt461.1 bt473.2)) else (spec_l92Small.j0 k bt464.1 bt469.1 false bt461.1 bt464.2.2))))) = some (r1, r2) := h
 clear h; replace H := bs H
 obtain ⟨⟨t461, t462⟩, A2, H⟩ := H
 dsimp only at H
 replace H := bs H
 obtain ⟨⟨t464, t465, t468⟩, A3, H⟩ := H
 dsimp only at H
 replace H := bs H
 obtain ⟨⟨t469, t472⟩, A4, H⟩ := H
 dsimp only at H
 have HC5 := am H
 clear H
 go_enter Try.func51, Try.ntmps51
 go_upto_region 4 with (first | ((with_reducible refine gate_callee (f := 69) rfl ?_); refine gl 10 Try.func69 #[.slice A0 l0.length c0] ?_; (with_reducible refine (spec_l6Open.calls _ _ l0 t461 t462 w _ ?_ ?_ ?_ A2.out).mono ?_); (· repeat (first | (with_reducible first | exact HB.out | apply below_alloc | apply pw_below_drewN | apply below_drew1) | exact HB.out)); exact HR0.out; exact HC0.out; rintro e w6 ⟨g463, rfl, hi, hb, hb2⟩; refine ⟨_, rfl, ?_⟩; replace HB := am (hb); have HI463 := am (hi); (try clear hb); (try clear hb2); (try clear hi)) | ((with_reducible refine gate_callee (f := 70) rfl ?_); refine gl 13 Try.func70 #[.pointer (some ⟨g463, 0, none⟩)] ?_; (with_reducible refine (spec_l92Six.calls k g463 t461 t462 t464 t465 t468 w _ ?_ ?_ A3.out).mono ?_); (· repeat (first | (with_reducible first | exact HI463.out | apply IsS112.alloc | apply IsS112.drewN | apply IsS112.drew | apply IsS112.set_1) | exact HI463.out)); (· repeat (first | (with_reducible first | exact HB.out | apply below_alloc | apply pw_below_drewN | apply below_drew1 | refine below_set ?_ (IsS112.ge HI463.out)) | exact HB.out)); rintro e w7 ⟨v466, rfl, ho0, hi, hb, hk⟩; refine ⟨_, rfl, ?_⟩; have HO467 := am (Kd.R_lower (Kd.R_newM (M := fun k_ => (w.heap.size ≤ k_)) ho0 (below_size (bi112 HB HI463)) (fun k_ h_ => h_)) (below_size (bi112 HB HI463))); replace HB := am (hb); replace HI463 := am (hi); (try clear hb); (try clear hk); (try clear hi); (try clear ho0); obtain ⟨Ao8, co8, eo8⟩ := Kd.R_slice HO467.out; subst eo8) | ((with_reducible refine gate_callee (f := 20) rfl ?_); refine gl 19 Try.func20 #[.int .i64 t464, .slice Ao8 t465.length co8] ?_; (with_reducible refine (spec_SurfaceOf.calls k t464 _ _ t465 t469 t472 _ ?_ ?_ A4.out).mono ?_); exact Kd.C_below (Kd.R_reads' HO467.out).2.2 gs; exact (Kd.R_reads' HO467.out).2.1; rintro e w9 ⟨v470, rfl, ho0, hb⟩; refine ⟨_, rfl, ?_⟩; have HO471 := am (Kd.V_lower (Kd.V_mono (ok' := fun k_ => (w.heap.size ≤ k_) ∧ some k_ ≠ (.slice Ao8 t465.length co8 : Value).ownBlock ∧ k_ ≠ g463) ho0 (fun k_ hk_ => ⟨(Nat.le_trans (below_size (bi112 HB HI463)) hk_), (Kd.fresh' (Kd.R_lt (wR HO467)) k_ hk_), (IsS112.fresh (iw112 HI463) k_ hk_)⟩)) (below_size (bi112 HB HI463))); replace HO467 := am (Kd.R_below (wR HO467) hb); replace HB := am (below_step (bi112 HB HI463) hb); replace HI463 := am (IsS112.below (iw112 HI463) hb); (try clear hb); (try clear ho0)))
 (try simp only [Act.put, List.setIfInBounds_toArray, List.set_cons_zero, List.set_cons_succ])
 go_cut [27] (fun v27 wc => ∃ (kq : Nat) (x27_4 : Bool) (x464001_4 : Int), v27 = .bool x27_4 ∧ Aside0 (spec_l92Small.j0 kq t464 t469 x27_4 t461 x464001_4 = some (r1, r2)) ∧ Aside0 (kq ≤ k) ∧ Aside0 (Kd.V (Kd.int .i64) 3 wc w.heap.size (fun k_ => (w.heap.size ≤ k_) ∧ k_ ≠ g463) v470 t469) ∧ Aside0 (IsS112 w wc g463 t461 x464001_4) ∧ Aside0 (Below w.heap.size w wc))
 case first =>
  have H := HC5.out
  clear HC5
  by_cases c10 : t472 = true
  ·subst c10
   rw [if_pos rfl] at H
   replace H := bs H
   obtain ⟨⟨t473, t474⟩, A11, H⟩ := H
   dsimp only at H
   have H' := am H; clear H
   go_wp2_with (first | (go_at_call 71; (with_reducible refine (spec_l6Rd_pick.calls k g463 t461 t468 2 t473 t474 w _ ?_ ?_ A11.out).mono ?_); (· repeat (first | (with_reducible first | exact HI463.out | apply IsS112.alloc | apply IsS112.drewN | apply IsS112.drew | apply IsS112.set_1) | exact HI463.out)); (· repeat (first | (with_reducible first | exact HB.out | apply below_alloc | apply pw_below_drewN | apply below_drew1 | refine below_set ?_ (IsS112.ge HI463.out)) | exact HB.out)); rintro e w12 ⟨rfl, hi, hb, hk⟩; replace HO467 := am (Kd.R_mono (Kd.R_keep (IsS112.apart (show IsS112 w _ g463 t461 t468 from iw112 HI463) (wR HO467) (by decide)) hk (fun _ h => h.2)) (fun _ h => h.1)); replace HO471 := am (Kd.V_mono (Kd.V_keep (Kd.V_mono (ok := fun k_ => (((w.heap.size ≤ k_)) ∧ (some k_ ≠ (.slice Ao8 t465.length co8 : Value).ownBlock ∧ k_ ≠ g463))) (wV HO471) (fun k_ hk_ => (⟨hk_, hk_.2.2⟩ : _ ∧ k_ ≠ g463))) hk (fun _ h => h.2)) (fun _ h => h.1)); replace HB := am (hb); replace HI463 := am (hi); (try clear hb); (try clear hk); (try clear hi)))
   go_meet
   case rel => exact ⟨_, ((t473 == 0)), (t474), fr, H', ⟨by first | omega | exact Nat.le_refl _⟩, ⟨Kd.V_below (Kd.V_mono HO471.out (fun _ hk => ⟨hk.1, hk.2.2⟩)) gs⟩, ⟨iw112 HI463⟩, ⟨bi112 HB HI463⟩⟩
  ·replace c10 := Bool.eq_false_iff.mpr c10
   subst c10
   rw [if_neg (show ¬ (false = true) by decide)] at H
   have H' := am H; clear H; go_wp2
   go_meet
   case rel => exact ⟨_, (false), (t468), fr, H', ⟨by first | omega | exact Nat.le_refl _⟩, ⟨Kd.V_below (Kd.V_mono HO471.out (fun _ hk => ⟨hk.1, hk.2.2⟩)) gs⟩, ⟨iw112 HI463⟩, ⟨bi112 HB HI463⟩⟩
 case rest =>
  clear HC5; try clear c1; try clear c2; try clear p2; try clear c5; try clear c6; try clear c7; try clear c10
  obtain ⟨kq, x27_4, x464001_4, rfl, HA, HJ4, HO_7, HI463, HB⟩ := hcut
  cases kq with
  | zero => exact absurd HA.out (by simp [spec_l92Small.j0])
  | succ kj4 =>
   have H := HA.out; clear HA
   simp only [spec_l92Small.j0] at H
   by_cases c13 : x27_4 = true
   ·subst c13
    rw [if_pos rfl] at H
    simp only [Option.some.injEq, Prod.mk.injEq] at H
    obtain ⟨rfl, rfl⟩ := H; go_wp2
    go_ret2
    exact ⟨_, fq, Kd.V_below (Kd.V_mono HO_7.out (fun _ hk => hk.1)) gs, bi112 HB HI463⟩
   ·replace c13 := Bool.eq_false_iff.mpr c13
    subst c13
    rw [if_neg (show ¬ (false = true) by decide)] at H
    replace H := bsy H; obtain ⟨y475, Ny475, H⟩ := H; replace H := bs H
    obtain ⟨⟨t478, t479⟩, A14, H⟩ := H
    dsimp only at H
    by_cases c15 : 0 ≤ t478
    ·rw [if_pos c15] at H
     have c15b0 := decide_eq_true c15; clear c15; replace H := ifn H; obtain ⟨c16, H⟩ := H; have c16b0 := decide_eq_true c16; clear c16; replace H := bs H
     obtain ⟨⟨t481, t484⟩, A17, H⟩ := H
     dsimp only at H
     simp only [Option.some.injEq, Prod.mk.injEq] at H
     obtain ⟨rfl, rfl⟩ := H
     go_wp2_with (first | ((with_reducible refine gate_dst (N := 30) rfl ?_); refine li 3 [7, 11, 13, 9] ?_; intro v476 w18 ho19 hb; (first | rw [← Ny475.out] at ho19 | (simp only [Int.reduceToNat] at ho19; rw [← Ny475.out] at ho19)); replace HO_7 := eV HO_7 (Kd.R_base ho19) hb; have HO477 := am (Kd.R_lower (Kd.R_newM (M := fun k_ => (w.heap.size ≤ k_)) ho19 (below_size (bi112 HB HI463)) (fun k_ h_ => h_)) (below_size (bi112 HB HI463))); replace HB := am (below_step (bi112 HB HI463) hb); replace HI463 := am (IsS112.below (iw112 HI463) hb); clear hb ho19) | ((with_reducible refine gate_callee (f := 71) rfl ?_); refine gl 32 Try.func71 #[.pointer (some ⟨g463, 0, none⟩), .int .i64 4] ?_; (with_reducible refine (spec_l6Rd_pick.calls kj4 g463 t461 x464001_4 4 t478 t479 w _ ?_ ?_ A14.out).mono ?_); (· repeat (first | (with_reducible first | exact HI463.out | apply IsS112.alloc | apply IsS112.drewN | apply IsS112.drew | apply IsS112.set_1) | exact HI463.out)); (· repeat (first | (with_reducible first | exact HB.out | apply below_alloc | apply pw_below_drewN | apply below_drew1 | refine below_set ?_ (IsS112.ge HI463.out)) | exact HB.out)); rintro e w20 ⟨rfl, hi, hb, hk⟩; refine ⟨_, rfl, ?_⟩; replace HO_7 := am (Kd.V_mono (Kd.V_keep (Kd.V_mono (ok := fun k_ => ((((w.heap.size ≤ k_)) ∧ k_ ≠ g463) ∧ some k_ ≠ (v476 : Value).ownBlock)) (wV HO_7) (fun k_ hk_ => (⟨hk_, hk_.1.2⟩ : _ ∧ k_ ≠ g463))) hk (fun _ h => h.2)) (fun _ h => h.1)); replace HO477 := am (Kd.R_mono (Kd.R_keep (IsS112.apart (show IsS112 w _ g463 t461 x464001_4 from iw112 HI463) (wR HO477) (by decide)) hk (fun _ h => h.2)) (fun _ h => h.1)); replace HB := am (hb); replace HI463 := am (hi); (try clear hb); (try clear hk); (try clear hi); obtain ⟨Ao21, co21, eo21⟩ := Kd.R_slice HO477.out; subst eo21; have p480 : 0 ≤ (t478 : Int) := od; have q480 : t478 < (y475.length : Int) := od; obtain ⟨ad480, e480, hx480_0⟩ := Kd.at_int (Kd.R_reads' HO477.out).2.2 t478 p480 q480; cases e480; replace p480 := eq_true p480; replace q480 := eq_true q480) | ((with_reducible refine gate_callee (f := 91) rfl ?_); refine gl 38 Try.func91 #[.pointer (some ⟨g463, 0, none⟩), .int .i64 (rd y475 t478)] ?_; (with_reducible refine (spec_l92Form.calls kj4 g463 t461 t479 (rd y475 t478) t481 t484 w _ ?_ ?_ A17.out).mono ?_); (· repeat (first | (with_reducible first | exact HI463.out | apply IsS112.alloc | apply IsS112.drewN | apply IsS112.drew | apply IsS112.set_1) | exact HI463.out)); (· repeat (first | (with_reducible first | exact HB.out | apply below_alloc | apply pw_below_drewN | apply below_drew1 | refine below_set ?_ (IsS112.ge HI463.out)) | exact HB.out)); rintro e w22 ⟨v482, rfl, ho0, hi, hb, hk⟩; refine ⟨_, rfl, ?_⟩; replace HO_7 := am (Kd.V_mono (Kd.V_told (Kd.V_oldK (Kd.V_mono (ok := fun k_ => ((((w.heap.size ≤ k_)) ∧ k_ ≠ g463) ∧ some k_ ≠ (.slice (some ad480) y475.length co21 : Value).ownBlock)) (wV HO_7) (fun k_ hk_ => (⟨hk_, hk_.1.2⟩ : _ ∧ k_ ≠ g463))) hk) (Kd.R_base ho0)) (fun _ h_ => h_.1)); have HO483 := am (Kd.R_lower (Kd.R_new' (Kd.R_newM (M := fun k_ => (w.heap.size ≤ k_)) ho0 (below_size (bi112 HB HI463)) (fun k_ h_ => h_)) (Kd.R_lt (wR HO477))) (below_size (bi112 HB HI463))); replace HO477 := am (Kd.R_mono (Kd.R_told (Kd.R_oldK (IsS112.apart (show IsS112 w _ g463 t461 t479 from iw112 HI463) (wR HO477) (by decide)) hk) (Kd.R_base ho0)) (fun _ h_ => h_.1)); replace HB := am (hb); replace HI463 := am (hi); (try clear hb); (try clear hk); (try clear hi); (try clear ho0)))
     go_ret2
     exact ⟨_, fq, Kd.R_V (by (with_reducible repeat (first | apply Kd.R_alloc | apply Kd.R_drewN | apply Kd.R_drew)); exact Kd.R_mono HO483.out (fun _ hk => hk.1.1)), bi112 HB HI463⟩
    ·rw [if_neg c15] at H
     exact absurd H (by simp)/-! ### spec_DrawFormSmooth: function 16 -/
def spec_DrawFormSmooth.f (k : Nat) (l0 : List Int) : Option (Int × List Int) := (spec_l92Small.f k l0).bind fun bt485 => (some (bt485.1, bt485.2))
theorem spec_DrawFormSmooth.mono : ∀ a0 k, LeO (spec_DrawFormSmooth.f k a0) (spec_DrawFormSmooth.f (k + 1) a0) := by
 intro a0 k
 unfold spec_DrawFormSmooth.f
 repeat' first | (with_reducible first | apply spec_l92Small.mono | exact LeO.refl _ | exact LeO.none _ | refine LeO.ite ?_ ?_ | refine LeO.bind ?_ (fun _ => ?_)) | (first | apply spec_l92Small.mono | exact LeO.none _ | refine LeO.ite ?_ ?_ | refine LeO.bind ?_ (fun _ => ?_))
set_option maxHeartbeats 8000000 in
set_option maxRecDepth 100000 in
theorem spec_DrawFormSmooth.calls (k : Nat) (A0 : Option Addr) (c0 : Nat) (l0 : List Int) (r1 : Int) (r2 : List Int) (w : World) (hr0 : Kd.C (Kd.int .u8) w A0 l0.length l0) (hc0 : l0.length ≤ c0) (h : spec_DrawFormSmooth.f k l0 = some (r1, r2)) :
  Calls Try.prog 16 #[.slice A0 l0.length c0] w fun e w' => ∃ v1_ : Value, e = .returned (.tuple #[.int .i64 r1, v1_]) ∧ Kd.V (Kd.int .i64) 3 w' w.heap.size (fun k_ => (w.heap.size ≤ k_)) v1_ r2 ∧ Below w.heap.size w w' := by
 have HR0 := am hr0
 have HC0 := am hc0
 clear hr0 hc0
 have HB := am (Below.refl w.heap.size w)
 have H : ((spec_l92Small.f k l0).bind fun bt485 => (some (bt485.1, bt485.2))) = some (r1, r2) := h
 clear h; replace H := bs H
 obtain ⟨⟨t485, t486⟩, A2, H⟩ := H
 dsimp only at H
 simp only [Option.some.injEq, Prod.mk.injEq] at H
 obtain ⟨rfl, rfl⟩ := H
 go_enter Try.func16, Try.ntmps16
 go_wp2_with (first | ((with_reducible refine gate_callee (f := 51) rfl ?_); refine gl 5 Try.func51 #[.slice A0 l0.length c0] ?_; (with_reducible refine (spec_l92Small.calls k _ _ l0 t485 t486 _ ?_ ?_ A2.out).mono ?_); exact wC HR0; exact HC0.out; rintro e w3 ⟨v487, rfl, ho0, hb⟩; refine ⟨_, rfl, ?_⟩; have HO488 := am (Kd.V_lower (Kd.V_mono (ok' := fun k_ => (w.heap.size ≤ k_)) ho0 (fun k_ hk_ => (Nat.le_trans (bz HB) hk_))) (bz HB)); replace HB := bq HB hb; (try clear hb); (try clear ho0)))
 go_ret2
 exact ⟨_, fq, wV HO488, bw HB⟩
end Go.Proofs.Ytmgbpmihbljngaa.PA

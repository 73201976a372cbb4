-- Written by xprint.py, a program of this claim's own (over the kit's print.py)
import Derived.Test.YtmgbpmihbljngaaPAx0
import Derived.Test.YtmgbpmihbljngaaPAx17
import Derived.Test.YtmgbpmihbljngaaPAx19
import Derived.Test.YtmgbpmihbljngaaPAx20
namespace Go.Proofs.Ytmgbpmihbljngaa.PA
open Go.RowKit Go.Proofs.YtmgbpmihbljngaaW.PrintWords Go.Proofs.YtmgbpmihbljngaaW.PrintLast Go.Proofs.YtmgbpmihbljngaaW.PrintMore
attribute [local go_sem] max2_int min2_int max_two min_two max_three min_three max_four min_four   -- for this text's walks alone
set_option linter.unusedVariables false
set_option linter.unusedSimpArgs false

/-! ### spec_l6sOf: function 63 -/
mutual
def spec_l6sOf.l0 : Nat → Int → List (List Int) → List (List Int) → Int → Option (List Int)
 | 0, _, _, _, _ => none
 | k + 1, x0, x5, x6, x7 => if x7 < 4 then (if 0 ≤ x7 then (if x7 < (x5.length : Int) then ((spec_l6sSpread.f k (rd_L4 x5 x7)).bind fun t437 => (if x6.length < 5864062014805 then (spec_l6sOf.l0 k x0 x5 (x6 ++ [t437]) (wrap64 (x7 + 1))) else (none))) else (none)) else (none)) else (spec_l6sOf.l1 k x0 x6 (([] : List (List Int))) 0)
def spec_l6sOf.l1 : Nat → Int → List (List Int) → List (List Int) → Int → Option (List Int)
 | 0, _, _, _, _ => none
 | k + 1, x0, x6, x8, x9 => if x9 < 4 then (spec_l6sOf.l2 k x0 x6 x8 x9 x9) else (spec_l6sOf.l4 k x0 x8 (([] : List (List Int))) 0)
def spec_l6sOf.l2 : Nat → Int → List (List Int) → List (List Int) → Int → Int → Option (List Int)
 | 0, _, _, _, _, _ => none
 | k + 1, x0, x6, x8, x9, x10 => if x10 < 4 then (if 0 ≤ x9 then (if x9 < (x6.length : Int) then (if 0 ≤ x10 then (if x10 < (x6.length : Int) then ((spec_l6sTimes.f k x0 (rd_L4 x6 x9) (rd_L4 x6 x10)).bind fun t448 => (spec_l6sOf.l3 k x0 x6 x8 x9 x10 t448 x10)) else (none)) else (none)) else (none)) else (none)) else (spec_l6sOf.l1 k x0 x6 x8 (wrap64 (x9 + 1)))
def spec_l6sOf.l3 : Nat → Int → List (List Int) → List (List Int) → Int → Int → List Int → Int → Option (List Int)
 | 0, _, _, _, _, _, _, _ => none
 | k + 1, x0, x6, x8, x9, x10, x11, x12 => if x12 < 4 then (if 0 ≤ x12 then (if x12 < (x6.length : Int) then ((spec_l6sTimes.f k x0 x11 (rd_L4 x6 x12)).bind fun t452 => (if x8.length < 5864062014805 then (spec_l6sOf.l3 k x0 x6 (x8 ++ [t452]) x9 x10 x11 (wrap64 (x12 + 1))) else (none))) else (none)) else (none)) else (spec_l6sOf.l2 k x0 x6 x8 x9 (wrap64 (x10 + 1)))
def spec_l6sOf.l4 : Nat → Int → List (List Int) → List (List Int) → Int → Option (List Int)
 | 0, _, _, _, _ => none
 | k + 1, x0, x8, x13, x14 => if x14 < 100 then (spec_l6sOf.l5 k x0 x8 x13 x14 (([] : List Int)) 0) else ((spec_l4Null.f k x0 x13 20).bind fun t461 => (if 0 < (t461.length : Int) then (some (rd_L4 t461 0)) else (none)))
def spec_l6sOf.l5 : Nat → Int → List (List Int) → List (List Int) → Int → List Int → Int → Option (List Int)
 | 0, _, _, _, _, _, _ => none
 | k + 1, x0, x8, x13, x14, x15, x16 => if x16 < 20 then (if 0 ≤ x16 then (if x16 < (x8.length : Int) then (if 0 ≤ x14 then (if x14 < ((rd_L4 x8 x16).length : Int) then (if x15.length < 17592186044416 then (spec_l6sOf.l5 k x0 x8 x13 x14 (x15 ++ [rd (rd_L4 x8 x16) x14]) (wrap64 (x16 + 1))) else (none)) else (none)) else (none)) else (none)) else (none)) else (if x13.length < 5864062014805 then (spec_l6sOf.l4 k x0 x8 (x13 ++ [x15]) (wrap64 (x14 + 1))) else (none))
end
def spec_l6sOf.f (k : Nat) (a0 : Int) (l1 : List (S43)) : Option (List Int) := (spec_l5Base.f k a0 l1).bind fun t430 => (spec_l6sOf.l0 k a0 t430 (([] : List (List Int))) 0)
theorem spec_l6sOf.mono_l : ∀ k, (∀ y0 y1 y2 y3, LeO (spec_l6sOf.l0 k y0 y1 y2 y3) (spec_l6sOf.l0 (k + 1) y0 y1 y2 y3)) ∧ (∀ y0 y1 y2 y3, LeO (spec_l6sOf.l1 k y0 y1 y2 y3) (spec_l6sOf.l1 (k + 1) y0 y1 y2 y3)) ∧ (∀ y0 y1 y2 y3 y4, LeO (spec_l6sOf.l2 k y0 y1 y2 y3 y4) (spec_l6sOf.l2 (k + 1) y0 y1 y2 y3 y4)) ∧ (∀ y0 y1 y2 y3 y4 y5 y6, LeO (spec_l6sOf.l3 k y0 y1 y2 y3 y4 y5 y6) (spec_l6sOf.l3 (k + 1) y0 y1 y2 y3 y4 y5 y6)) ∧ (∀ y0 y1 y2 y3, LeO (spec_l6sOf.l4 k y0 y1 y2 y3) (spec_l6sOf.l4 (k + 1) y0 y1 y2 y3)) ∧ (∀ y0 y1 y2 y3 y4 y5, LeO (spec_l6sOf.l5 k y0 y1 y2 y3 y4 y5) (spec_l6sOf.l5 (k + 1) y0 y1 y2 y3 y4 y5))
 | 0 => ⟨fun _ _ _ _ r h => by simp [spec_l6sOf.l0] at h, fun _ _ _ _ r h => by simp [spec_l6sOf.l1] at h, fun _ _ _ _ _ r h => by simp [spec_l6sOf.l2] at h, fun _ _ _ _ _ _ _ r h => by simp [spec_l6sOf.l3] at h, fun _ _ _ _ r h => by simp [spec_l6sOf.l4] at h, fun _ _ _ _ _ _ r h => by simp [spec_l6sOf.l5] at h⟩
 | k + 1 => by
  obtain ⟨ih0, ih1, ih2, ih3, ih4, ih5⟩ := spec_l6sOf.mono_l k
  refine ⟨?_, ?_, ?_, ?_, ?_, ?_⟩
  ·intro y0 y1 y2 y3
   unfold spec_l6sOf.l0
   repeat' first | (with_reducible first | apply ih0 | apply ih1 | apply ih2 | apply ih3 | apply ih4 | apply ih5 | apply spec_l4Null.mono | apply spec_l5Base.mono | apply spec_l6sSpread.mono | apply spec_l6sTimes.mono | exact LeO.refl _ | exact LeO.none _ | refine LeO.ite ?_ ?_ | refine LeO.bind ?_ (fun _ => ?_)) | (first | apply ih0 | apply ih1 | apply ih2 | apply ih3 | apply ih4 | apply ih5 | apply spec_l4Null.mono | apply spec_l5Base.mono | apply spec_l6sSpread.mono | apply spec_l6sTimes.mono | exact LeO.none _ | refine LeO.ite ?_ ?_ | refine LeO.bind ?_ (fun _ => ?_))
  ·intro y0 y1 y2 y3
   unfold spec_l6sOf.l1
   repeat' first | (with_reducible first | apply ih0 | apply ih1 | apply ih2 | apply ih3 | apply ih4 | apply ih5 | apply spec_l4Null.mono | apply spec_l5Base.mono | apply spec_l6sSpread.mono | apply spec_l6sTimes.mono | exact LeO.refl _ | exact LeO.none _ | refine LeO.ite ?_ ?_ | refine LeO.bind ?_ (fun _ => ?_)) | (first | apply ih0 | apply ih1 | apply ih2 | apply ih3 | apply ih4 | apply ih5 | apply spec_l4Null.mono | apply spec_l5Base.mono | apply spec_l6sSpread.mono | apply spec_l6sTimes.mono | exact LeO.none _ | refine LeO.ite ?_ ?_ | refine LeO.bind ?_ (fun _ => ?_))
  ·intro y0 y1 y2 y3 y4
   unfold spec_l6sOf.l2
   repeat' first | (with_reducible first | apply ih0 | apply ih1 | apply ih2 | apply ih3 | apply ih4 | apply ih5 | apply spec_l4Null.mono | apply spec_l5Base.mono | apply spec_l6sSpread.mono | apply spec_l6sTimes.mono | exact LeO.refl _ | exact LeO.none _ | refine LeO.ite ?_ ?_ | refine LeO.bind ?_ (fun _ => ?_)) | (first | apply ih0 | apply ih1 | apply ih2 | apply ih3 | apply ih4 | apply ih5 | apply spec_l4Null.mono | apply spec_l5Base.mono | apply spec_l6sSpread.mono | apply spec_l6sTimes.mono | exact LeO.none _ | refine LeO.ite ?_ ?_ | refine LeO.bind ?_ (fun _ => ?_))
  ·intro y0 y1 y2 y3 y4 y5 y6
   unfold spec_l6sOf.l3
   repeat' first | (with_reducible first | apply ih0 | apply ih1 | apply ih2 | apply ih3 | apply ih4 | apply ih5 | apply spec_l4Null.mono | apply spec_l5Base.mono | apply spec_l6sSpread.mono | apply spec_l6sTimes.mono | exact LeO.refl _ | exact LeO.none _ | refine LeO.ite ?_ ?_ | refine LeO.bind ?_ (fun _ => ?_)) | (first | apply ih0 | apply ih1 | apply ih2 | apply ih3 | apply ih4 | apply ih5 | apply spec_l4Null.mono | apply spec_l5Base.mono | apply spec_l6sSpread.mono | apply spec_l6sTimes.mono | exact LeO.none _ | refine LeO.ite ?_ ?_ | refine LeO.bind ?_ (fun _ => ?_))
  ·intro y0 y1 y2 y3
   unfold spec_l6sOf.l4
   repeat' first | (with_reducible first | apply ih0 | apply ih1 | apply ih2 | apply ih3 | apply ih4 | apply ih5 | apply spec_l4Null.mono | apply spec_l5Base.mono | apply spec_l6sSpread.mono | apply spec_l6sTimes.mono | exact LeO.refl _ | exact LeO.none _ | refine LeO.ite ?_ ?_ | refine LeO.bind ?_ (fun _ => ?_)) | (first | apply ih0 | apply ih1 | apply ih2 | apply ih3 | apply ih4 | apply ih5 | apply spec_l4Null.mono | apply spec_l5Base.mono | apply spec_l6sSpread.mono | apply spec_l6sTimes.mono | exact LeO.none _ | refine LeO.ite ?_ ?_ | refine LeO.bind ?_ (fun _ => ?_))
  ·intro y0 y1 y2 y3 y4 y5
   unfold spec_l6sOf.l5
   repeat' first | (with_reducible first | apply ih0 | apply ih1 | apply ih2 | apply ih3 | apply ih4 | apply ih5 | apply spec_l4Null.mono | apply spec_l5Base.mono | apply spec_l6sSpread.mono | apply spec_l6sTimes.mono | exact LeO.refl _ | exact LeO.none _ | refine LeO.ite ?_ ?_ | refine LeO.bind ?_ (fun _ => ?_)) | (first | apply ih0 | apply ih1 | apply ih2 | apply ih3 | apply ih4 | apply ih5 | apply spec_l4Null.mono | apply spec_l5Base.mono | apply spec_l6sSpread.mono | apply spec_l6sTimes.mono | exact LeO.none _ | refine LeO.ite ?_ ?_ | refine LeO.bind ?_ (fun _ => ?_))
theorem spec_l6sOf.mono : ∀ a0 a1 k, LeO (spec_l6sOf.f k a0 a1) (spec_l6sOf.f (k + 1) a0 a1) := by
 intro a0 a1 k
 obtain ⟨ih0, ih1, ih2, ih3, ih4, ih5⟩ := spec_l6sOf.mono_l k
 unfold spec_l6sOf.f
 repeat' first | (with_reducible first | apply ih0 | apply ih1 | apply ih2 | apply ih3 | apply ih4 | apply ih5 | apply spec_l4Null.mono | apply spec_l5Base.mono | apply spec_l6sSpread.mono | apply spec_l6sTimes.mono | exact LeO.refl _ | exact LeO.none _ | refine LeO.ite ?_ ?_ | refine LeO.bind ?_ (fun _ => ?_)) | (first | apply ih0 | apply ih1 | apply ih2 | apply ih3 | apply ih4 | apply ih5 | apply spec_l4Null.mono | apply spec_l5Base.mono | apply spec_l6sSpread.mono | apply spec_l6sTimes.mono | exact LeO.none _ | refine LeO.ite ?_ ?_ | refine LeO.bind ?_ (fun _ => ?_))
def spec_l6sOf.T14 : Bool × List (List Nat × List Nat) := (true, [([], []), ([], []), ([], []), ([1, 2], [1, 2]), ([3], [3]), ([], []), ([], []), ([5, 6], [5, 6]), ([7], [7]), ([0, 4, 8], [0, 4, 8]), ([9, 9, 0, 1, 2, 3, 4, 5, 6, 7, 8, 9], [9])])
def spec_l6sOf.B14 : List Nat := [0, 0, 0, 6, 14, 0, 0, 96, 224, 511, 1023]
theorem spec_l6sOf.tab14 : rtab .any (opsOf Try.f63 14) = spec_l6sOf.T14 := by kernel_rfl
theorem spec_l6sOf.bits14 : waitsOk spec_l6sOf.T14.2 spec_l6sOf.B14 = true := by kernel_rfl
set_option maxHeartbeats 8000000 in
set_option maxRecDepth 100000 in
theorem spec_l6sOf.calls (k : Nat) (a0 : Int) (A1 : Option Addr) (c1 : Nat) (l1 : List (S43)) (r : List Int) (w : World) (hr1 : Kd.C k43 w A1 l1.length l1) (hc1 : l1.length ≤ c1) (h : spec_l6sOf.f k a0 l1 = some r) :
  Calls Try.prog 63 #[.int .i64 a0, .slice A1 l1.length c1] w fun e w' => ∃ v0_ : Value, e = .returned (v0_) ∧ Kd.V (Kd.int .i64) 3 w' w.heap.size (fun k_ => (w.heap.size ≤ k_)) v0_ r ∧ Below w.heap.size w w' := by
 have HR1 := am hr1
 have HC1 := am hc1
 clear hr1 hc1
 have HB := am (Below.refl w.heap.size w)
 have H : ((spec_l5Base.f k a0 l1).bind fun t430 => (spec_l6sOf.l0 k a0 t430 (([] : List (List Int))) 0)) = some r := h
 clear h; replace H := bs H; obtain ⟨t430, A3, H⟩ := H
 generalize hy433 : (([] : List (List Int))) = y433 at H
 have Ny433 := am hy433.symm; clear hy433; have H' := am H; clear H
 go_enter Try.func63, Try.ntmps63
 go_wp2_with (first | ((with_reducible refine gate_callee (f := 78) rfl ?_); refine gl 19 Try.func78 #[.int .i64 a0, .slice A1 l1.length c1] ?_; (with_reducible refine (spec_l5Base.calls k a0 _ _ l1 t430 _ ?_ ?_ A3.out).mono ?_); exact wC HR1; exact HC1.out; rintro e w4 ⟨v431, rfl, ho0, hb⟩; refine ⟨_, rfl, ?_⟩; have HO432 := am (Kd.N_lower (Kd.N_mono (ok' := fun k_ => (w.heap.size ≤ k_)) ho0 (fun k_ hk_ => (Nat.le_trans (bz HB) hk_))) (bz HB)); replace HB := bq HB hb; (try clear hb); (try clear ho0)) | ((with_reducible refine gate_dst (N := 20) rfl ?_); refine Kd.N_lit (Kd.slice 3 (Kd.int .i64)) _ 23 ?hg (N' := 20) ?hd (xs := ([] : List (List Int))) (inner := []) (ok := (fun k_ => (w.heap.size ≤ k_) ∧ some k_ ≠ (v431 : Value).ownBlock)) (okp := (fun k_ => (w.heap.size ≤ k_) ∧ some k_ ≠ (v431 : Value).ownBlock)) ?hr ?hp (fun _ hk => hk) ((show ∀ k_, w4.heap.size ≤ k_ → (fun k_ => (w.heap.size ≤ k_) ∧ some k_ ≠ (v431 : Value).ownBlock) k_ from fun k_ hk => ⟨(Nat.le_trans (bz HB) hk), Kd.fresh' (Kd.N_lt (wN HO432)) k_ hk⟩) _ (Nat.le_refl _)) (Below.refl _ _) (Nat.le_refl _) (by simp) ?_; (case hd => rfl); (case hg => rfl); (case hr => first | (go_simp; done) | (go_simp; rfl)); (case hp => exact (Reps.none _ _)); intro v434 w5 ho6 hb hg_ hnew_; clear hg_ hnew_; (first | rw [← Ny433.out] at ho6 | (simp only [Int.reduceToNat] at ho6; rw [← Ny433.out] at ho6)); replace HO432 := eN HO432 (Kd.N_base ho6) hb; have HO435 := am (Kd.N_lower ho6 (bz HB)); replace HB := bq HB hb; clear hb ho6))
 go_loopg [6, 7] k (fun kq v6 v7 w' => ∃ (x6_1 : List (List Int)) (x7_1 : Int), v7 = .int .i64 x7_1 ∧ Aside0 (spec_l6sOf.l0 kq a0 t430 x6_1 x7_1 = some r) ∧ Aside0 (kq ≤ k) ∧ Aside0 (Kd.N (Kd.slice 3 (Kd.int .i64)) 23 w' w.heap.size (fun k_ => (w.heap.size ≤ k_) ∧ some k_ ≠ (v6 : Value).ownBlock) v431 t430) ∧ Aside0 (Kd.N (Kd.slice 3 (Kd.int .i64)) 23 w' w.heap.size (fun k_ => (w.heap.size ≤ k_) ∧ some k_ ≠ (v431 : Value).ownBlock) v6 x6_1) ∧ Aside0 (Below w.heap.size w w'))
 case atStart => exact ⟨(y433), (0), fr, H', ⟨Nat.le_refl _⟩, ⟨wN HO432⟩, ⟨wN HO435⟩, ⟨bw HB⟩⟩
 case round =>
  clear H'; try clear c1; try clear p2; try clear c6
  obtain ⟨x6_1, x7_1, rfl, HA, HK1, HO_5, HO_6, HB⟩ := hrel
  cases gk with
  | zero => exact absurd HA.out (by simp [spec_l6sOf.l0])
  | succ k1 =>
   have H := HA.out; clear HA
   simp only [spec_l6sOf.l0] at H
   by_cases c7 : x7_1 < 4
   ·rw [if_pos c7] at H
    have c7b0 := decide_eq_true c7; clear c7; replace H := ifn H; obtain ⟨c8, H⟩ := H; have c8b0 := decide_eq_true c8; clear c8; replace H := ifn H; obtain ⟨c9, H⟩ := H; have c9b0 := decide_eq_true c9; clear c9; replace H := bs H; obtain ⟨t437, A10, H⟩ := H
    replace H := ifn H; obtain ⟨c11, H⟩ := H; have LMc11 := am c11; clear c11
    generalize hy440 : (x6_1 ++ [t437] : List (List Int)) = y440 at H
    have Ny440 := am hy440.symm; clear hy440; have H' := am H; clear H
    obtain ⟨Ao12, co12, eo12⟩ := Kd.N_slice HO_5.out
    subst eo12
    have p436 : 0 ≤ (x7_1 : Int) := od
    have q436 : x7_1 < (t430.length : Int) := od
    obtain ⟨ad436, A436_0, c436_0, e436, hx436_0, hl436_0, hi436_0⟩ := at_L4 (Kd.N_reads' HO_5.out).2.2 x7_1 p436 q436
    cases e436
    obtain ⟨ce436, hce436, hMe436, hcc436⟩ := Kd.N_get HO_5.out [] x7_1 p436 (by first | exact q436 | exact od | (have e_ := (Kd.N_reads' HO_5.out).1; omega))
    obtain ⟨ua436_0, uc436_0, rfl, ul436_0, ge436_0⟩ := Kd.FK_slice_open hMe436
    have hv436_0 := hcc436 0 _ rfl
    rw [Nat.add_zero, show ((Kd.slice 3 (Kd.int .i64))).sz = 1 from rfl, Nat.mul_one] at hv436_0
    replace hv436_0 := Option.some.inj (hv436_0.symm.trans hx436_0)
    injection hv436_0 with hva_ hvn_ hvc_
    rw [hva_] at ge436_0
    rw [hvc_] at ul436_0
    have HL436_0 := am (show Kd.V (Kd.int .i64) 3 _ w.heap.size _ _ (rd_L4 t430 x7_1) from Kd.V_mk ul436_0 ge436_0)
    clear hva_ hvn_ hvc_ ge436_0 ul436_0; clear hcc436 hce436
    have HR436_0 := am hi436_0
    have HC436_0 := am hl436_0
    clear hi436_0 hl436_0; replace p436 := eq_true p436; replace q436 := eq_true q436
    go_wp2_with (first | ((with_reducible refine gate_callee (f := 107) rfl ?_); refine gl 30 Try.func107 #[.slice A436_0 (rd_L4 t430 x7_1).length c436_0] ?_; (with_reducible refine (spec_l6sSpread.calls k1 _ _ (rd_L4 t430 x7_1) t437 _ ?_ ?_ A10.out).mono ?_); exact wC HR436_0; exact HC436_0.out; rintro e w13 ⟨v438, rfl, ho0, hb⟩; refine ⟨_, rfl, ?_⟩; replace HO_5 := eN HO_5 (Kd.R_base ho0) hb; replace HO_6 := eN HO_6 (Kd.R_base ho0) hb; replace HL436_0 := eV HL436_0 (Kd.R_base ho0) hb; have HO439 := am (mR ho0 HB); replace HR436_0 := am (Kd.C_below (wC HR436_0) hb); replace HB := bq HB hb; (try clear hb); (try clear ho0); obtain ⟨Ao15, co15, eo15⟩ := Kd.R_slice HO439.out; subst eo15) | ((with_reducible refine gate_builtin (b := .append) (xs := #[.tmp 25, .tmp 31]) rfl ?_); at_builtin; refine Kd.N_append (Kd.slice 3 (Kd.int .i64)) (w0 := w) w.heap.size rfl (.tmp 25) (.tmp 31) 47 23 (.slice none 0 0) 24 rfl Try.underlying47 info23 rfl (by decide) (by omega) u6 x6_1 t437 [.slice Ao15 t437.length co15] (fun k_ => (w.heap.size ≤ k_) ∧ some k_ ≠ (.slice (some ad436) t430.length co12 : Value).ownBlock) (fun k_ => ((fun k_ => (w.heap.size ≤ k_) ∧ some k_ ≠ (.slice (some ad436) t430.length co12 : Value).ownBlock)) k_ ∧ some k_ ≠ (u6 : Value).ownBlock) rfl rfl ?aP (fun _ hk => hk) ?aF ?aO ?aB ?aS ?aL ?_; (case aP => exact (Kd.FK_slice_mk (Kd.R_reads' (Kd.R_mono (ok' := (fun k_ => ((fun k_ => (w.heap.size ≤ k_) ∧ some k_ ≠ (.slice (some ad436) t430.length co12 : Value).ownBlock)) k_ ∧ some k_ ≠ (u6 : Value).ownBlock)) (Kd.R_apart' (Kd.R_apart' (HO439.out) (Kd.N_typed HO_5.out) (by decide)) (Kd.N_typed HO_6.out) (by decide)) (fun k_ hk => ⟨⟨hk.1.1.1, hk.1.2⟩, hk.2⟩))).2.1 (Kd.R_F (Kd.R_mono (ok' := (fun k_ => ((fun k_ => (w.heap.size ≤ k_) ∧ some k_ ≠ (.slice (some ad436) t430.length co12 : Value).ownBlock)) k_ ∧ some k_ ≠ (u6 : Value).ownBlock)) (Kd.R_apart' (Kd.R_apart' (HO439.out) (Kd.N_typed HO_5.out) (by decide)) (Kd.N_typed HO_6.out) (by decide)) (fun k_ hk => ⟨⟨hk.1.1.1, hk.1.2⟩, hk.2⟩))))); (case aB => exact (bw HB)); (case aF => exact (fun k_ hk => ⟨(Nat.le_trans (bz HB) hk), Kd.fresh' (Kd.N_lt (wN HO_5)) k_ hk⟩)); (case aO => exact (by (with_reducible repeat (first | apply Kd.N_alloc | apply Kd.N_drewN | apply Kd.N_drew)); exact Kd.N_mono HO_6.out (fun _ hk => ⟨hk.1.1, hk.1.2⟩))); (case aS => exact (bz HB)); (case aL => have := LMc11.out; omega); intro v441 w14 ho hb hg hat; rw [← Ny440.out] at ho; replace HO_5 := am (Kd.N_afterv (ok := (fun k_ => (w.heap.size ≤ k_) ∧ some k_ ≠ (.slice Ao15 t437.length co15 : Value).ownBlock)) (by (with_reducible repeat (first | apply Kd.N_alloc | apply Kd.N_drewN | apply Kd.N_drew)); exact Kd.N_mono HO_5.out (fun _ hk => ⟨⟨hk.1.1, hk.2⟩, hk.1.2⟩)) hg hat); replace HL436_0 := am (Kd.V_afterv (ok := (fun k_ => (w.heap.size ≤ k_) ∧ some k_ ≠ (.slice (some ad436) t430.length co12 : Value).ownBlock ∧ some k_ ≠ (.slice Ao15 t437.length co15 : Value).ownBlock)) (by (with_reducible repeat (first | apply Kd.V_alloc | apply Kd.V_drewN | apply Kd.V_drew)); exact Kd.V_mono HL436_0.out (fun _ hk => ⟨⟨hk.1.1.1, ⟨hk.1.2, hk.2⟩⟩, hk.1.1.2⟩)) hg hat); replace HB := am (hb); have HO442 := am (ho); clear HO_6 HO439; clear ho hb hg hat))
    go_roundg k1
    case measure => have := HK1.out; omega
    case rel => exact ⟨(y440), (wrap64 (x7_1 + 1)), fr, H', ⟨by have := HK1.out; omega⟩, ⟨Kd.N_below (Kd.N_mono HO_5.out (fun _ hk => ⟨hk.1.1, hk.2⟩)) gs⟩, ⟨wN HO442⟩, ⟨bw HB⟩⟩
   ·rw [if_neg c7] at H
    have c7b0 := decide_eq_false c7; clear c7
    generalize hy443 : (([] : List (List Int))) = y443 at H
    have Ny443 := am hy443.symm; clear hy443; have H' := am H; clear H
    go_wp2_with (first | ((with_reducible refine gate_dst (N := 33) rfl ?_); refine Kd.N_lit (Kd.slice 3 (Kd.int .i64)) _ 23 ?hg (N' := 33) ?hd (xs := ([] : List (List Int))) (inner := []) (ok := (fun k_ => (w.heap.size ≤ k_) ∧ some k_ ≠ (v431 : Value).ownBlock ∧ some k_ ≠ (u6 : Value).ownBlock)) (okp := (fun k_ => (w.heap.size ≤ k_) ∧ some k_ ≠ (v431 : Value).ownBlock ∧ some k_ ≠ (u6 : Value).ownBlock)) ?hr ?hp (fun _ hk => hk) ((show ∀ k_, wr.heap.size ≤ k_ → (fun k_ => (w.heap.size ≤ k_) ∧ some k_ ≠ (v431 : Value).ownBlock ∧ some k_ ≠ (u6 : Value).ownBlock) k_ from fun k_ hk => ⟨(Nat.le_trans (bz HB) hk), Kd.fresh' (Kd.N_lt (wN HO_5)) k_ hk, Kd.fresh' (Kd.N_lt (wN HO_6)) k_ hk⟩) _ (Nat.le_refl _)) (Below.refl _ _) (Nat.le_refl _) (by simp) ?_; (case hd => rfl); (case hg => rfl); (case hr => first | (go_simp; done) | (go_simp; rfl)); (case hp => exact (Reps.none _ _)); intro v444 w16 ho17 hb hg_ hnew_; clear hg_ hnew_; (first | rw [← Ny443.out] at ho17 | (simp only [Int.reduceToNat] at ho17; rw [← Ny443.out] at ho17)); replace HO_5 := eN HO_5 (Kd.N_base ho17) hb; replace HO_6 := eN HO_6 (Kd.N_base ho17) hb; have HO445 := am (Kd.N_lower ho17 (bz HB)); replace HB := bq HB hb; clear hb ho17))
    go_loopg [8, 9] k1 (fun kq v8 v9 w' => ∃ (x8_2 : List (List Int)) (x9_2 : Int), v9 = .int .i64 x9_2 ∧ Aside0 (spec_l6sOf.l1 kq a0 x6_1 x8_2 x9_2 = some r) ∧ Aside0 (kq ≤ k1) ∧ Aside0 (Kd.N (Kd.slice 3 (Kd.int .i64)) 23 w' w.heap.size (fun k_ => (w.heap.size ≤ k_) ∧ some k_ ≠ (v8 : Value).ownBlock) u6 x6_1) ∧ Aside0 (Kd.N (Kd.slice 3 (Kd.int .i64)) 23 w' w.heap.size (fun k_ => (w.heap.size ≤ k_) ∧ some k_ ≠ (u6 : Value).ownBlock) v8 x8_2) ∧ Aside0 (Below w.heap.size w w'))
    case atStart => exact ⟨(y443), (0), fr, H', ⟨Nat.le_refl _⟩, ⟨Kd.N_below (Kd.N_mono HO_6.out (fun _ hk => ⟨hk.1.1, hk.2⟩)) gs⟩, ⟨Kd.N_below (Kd.N_mono HO445.out (fun _ hk => ⟨hk.1, hk.2.2⟩)) gs⟩, ⟨bw HB⟩⟩
    case round =>
     clear H'; try clear c1; try clear p2; try clear c4; try clear p4; try clear q4; try clear hx4; try clear c6; try clear p6; try clear c7; try clear c7b0; try clear c8; try clear c8b0; try clear c9; try clear c9b0; try clear c10; try clear c11
     try clear hx436_0; try clear p2; try clear p436; try clear q436
     obtain ⟨x8_2, x9_2, rfl, HA, HK2, HO_6, HO_8, HB⟩ := hrel
     cases gk with
     | zero => exact absurd HA.out (by simp [spec_l6sOf.l1])
     | succ k2 =>
      have H := HA.out; clear HA
      simp only [spec_l6sOf.l1] at H
      by_cases c18 : x9_2 < 4
      ·rw [if_pos c18] at H
       have c18b0 := decide_eq_true c18; clear c18; have H' := am H; clear H; go_wp2
       go_loopg [8, 10] k2 (fun kq v8 v10 w' => ∃ (x8_3 : List (List Int)) (x10_3 : Int), v10 = .int .i64 x10_3 ∧ Aside0 (spec_l6sOf.l2 kq a0 x6_1 x8_3 x9_2 x10_3 = some r) ∧ Aside0 (kq ≤ k2) ∧ Aside0 (Kd.N (Kd.slice 3 (Kd.int .i64)) 23 w' w.heap.size (fun k_ => (w.heap.size ≤ k_) ∧ some k_ ≠ (v8 : Value).ownBlock) u6 x6_1) ∧ Aside0 (Kd.N (Kd.slice 3 (Kd.int .i64)) 23 w' w.heap.size (fun k_ => (w.heap.size ≤ k_) ∧ some k_ ≠ (u6 : Value).ownBlock) v8 x8_3) ∧ Aside0 (Below w.heap.size w w'))
       case atStart => exact ⟨(x8_2), (x9_2), fr, H', ⟨Nat.le_refl _⟩, ⟨wN HO_6⟩, ⟨wN HO_8⟩, ⟨bw HB⟩⟩
       case round =>
        clear H'; try clear c1; try clear p2; try clear c4; try clear p4; try clear q4; try clear hx4; try clear c6; try clear p6; try clear c7; try clear c7b0; try clear c8; try clear c8b0; try clear c9; try clear c9b0; try clear c10; try clear c11
        try clear c18; try clear c18b0; try clear hx436_0; try clear p2; try clear p4; try clear p436; try clear p6; try clear q4; try clear q436
        obtain ⟨x8_3, x10_3, rfl, HA, HK3, HO_6, HO_8, HB⟩ := hrel
        cases gk with
        | zero => exact absurd HA.out (by simp [spec_l6sOf.l2])
        | succ k3 =>
         have H := HA.out; clear HA
         simp only [spec_l6sOf.l2] at H
         by_cases c19 : x10_3 < 4
         ·rw [if_pos c19] at H
          have c19b0 := decide_eq_true c19; clear c19; replace H := ifn H; obtain ⟨c20, H⟩ := H; have c20b0 := decide_eq_true c20; clear c20; replace H := ifn H; obtain ⟨c21, H⟩ := H; have c21b0 := decide_eq_true c21; clear c21; replace H := ifn H; obtain ⟨c22, H⟩ := H
          have c22b0 := decide_eq_true c22; clear c22; replace H := ifn H; obtain ⟨c23, H⟩ := H; have c23b0 := decide_eq_true c23; clear c23; replace H := bs H; obtain ⟨t448, A24, H⟩ := H; have H' := am H; clear H
          try go_wp2
          replace HO_6 := am (Kd.N_drew HO_6.out)
          replace HO_8 := am (Kd.N_drew HO_8.out)
          replace HB := am (below_drew1 HB.out)
          obtain ⟨Ao26, co26, eo26⟩ := Kd.N_slice HO_6.out
          (first | subst eo26 | (injection eo26 with f1_ f2_ f3_; have f4_ := f1_.symm; have f5_ := f3_.symm; clear f1_ f2_ f3_; subst f4_; subst f5_))
          have p446 : 0 ≤ (x9_2 : Int) := od
          have q446 : x9_2 < (x6_1.length : Int) := od
          obtain ⟨ad446, A446_0, c446_0, e446, hx446_0, hl446_0, hi446_0⟩ := at_L4 (Kd.N_reads' HO_6.out).2.2 x9_2 p446 q446
          cases e446
          obtain ⟨ce446, hce446, hMe446, hcc446⟩ := Kd.N_get HO_6.out [] x9_2 p446 (by first | exact q446 | exact od | (have e_ := (Kd.N_reads' HO_6.out).1; omega))
          obtain ⟨ua446_0, uc446_0, rfl, ul446_0, ge446_0⟩ := Kd.FK_slice_open hMe446
          have hv446_0 := hcc446 0 _ rfl
          rw [Nat.add_zero, show ((Kd.slice 3 (Kd.int .i64))).sz = 1 from rfl, Nat.mul_one] at hv446_0
          replace hv446_0 := Option.some.inj (hv446_0.symm.trans hx446_0)
          injection hv446_0 with hva_ hvn_ hvc_
          rw [hva_] at ge446_0
          rw [hvc_] at ul446_0
          have HL446_0 := am (show Kd.V (Kd.int .i64) 3 _ w.heap.size _ _ (rd_L4 x6_1 x9_2) from Kd.V_mk ul446_0 ge446_0)
          clear hva_ hvn_ hvc_ ge446_0 ul446_0; clear hcc446 hce446
          have HR446_0 := am hi446_0
          have HC446_0 := am hl446_0
          clear hi446_0 hl446_0; replace p446 := eq_true p446; replace q446 := eq_true q446
          have p447 : 0 ≤ (x10_3 : Int) := od
          have q447 : x10_3 < (x6_1.length : Int) := od
          obtain ⟨ad447, A447_0, c447_0, e447, hx447_0, hl447_0, hi447_0⟩ := at_L4 (Kd.N_reads' HO_6.out).2.2 x10_3 p447 q447
          obtain rfl : ad446 = ad447 := (by injection e447)
          obtain ⟨ce447, hce447, hMe447, hcc447⟩ := Kd.N_get HO_6.out [] x10_3 p447 (by first | exact q447 | exact od | (have e_ := (Kd.N_reads' HO_6.out).1; omega))
          obtain ⟨ua447_0, uc447_0, rfl, ul447_0, ge447_0⟩ := Kd.FK_slice_open hMe447
          have hv447_0 := hcc447 0 _ rfl
          rw [Nat.add_zero, show ((Kd.slice 3 (Kd.int .i64))).sz = 1 from rfl, Nat.mul_one] at hv447_0
          replace hv447_0 := Option.some.inj (hv447_0.symm.trans hx447_0)
          injection hv447_0 with hva_ hvn_ hvc_
          rw [hva_] at ge447_0
          rw [hvc_] at ul447_0
          have HL447_0 := am (show Kd.V (Kd.int .i64) 3 _ w.heap.size _ _ (rd_L4 x6_1 x10_3) from Kd.V_mk ul447_0 ge447_0)
          clear hva_ hvn_ hvc_ ge447_0 ul447_0; clear hcc447 hce447
          have HR447_0 := am hi447_0
          have HC447_0 := am hl447_0
          clear hi447_0 hl447_0; replace p447 := eq_true p447; replace q447 := eq_true q447
          refine st 11 (fun w' => w'.cell? (ad446.add (x9_2).toNat) = some (.slice A446_0 (rd_L4 x6_1 x9_2).length c446_0) ∧ w'.cell? (ad446.add (x10_3).toNat) = some (.slice A447_0 (rd_L4 x6_1 x10_3).length c447_0)) [] spec_l6sOf.tab14 spec_l6sOf.bits14 (⟨hx446_0, hx447_0⟩) fun hHeld HT_ HW_ => ?_
          generalize wr.drew = w25 at HO_6 HO_8 HB HL446_0 HL447_0 HR446_0 HR447_0 hx446_0 hx447_0 hHeld ⊢
          refine pz 0 43 HT_ ?_; refine pz 1 44 HT_ ?_; refine pz 2 45 HT_ ?_; refine pz 3 46 HT_ ?_; refine pz 5 48 HT_ ?_; refine pz 6 49 HT_ ?_; refine pz 7 50 HT_ ?_; refine tk 4 47 HT_ HW_ hHeld ?_; refine tk 8 51 HT_ HW_ hHeld ?_
          refine on 9 (some 52) HT_ fun K hK => ?_
          refine gs_ Try.func108 #[.int .i64 a0, .slice A446_0 (rd_L4 x6_1 x9_2).length c446_0, .slice A447_0 (rd_L4 x6_1 x10_3).length c447_0] ?_
          with_reducible refine (spec_l6sTimes.calls k3 a0 _ _ (rd_L4 x6_1 x9_2) _ _ (rd_L4 x6_1 x10_3) t448 _ ?side1 ?side2 ?side3 ?side4 A24.out).mono ?_
          (case side1 => exact wC HR446_0)
          (case side2 => exact HC446_0.out)
          (case side3 => exact wC HR447_0)
          (case side4 => exact HC447_0.out)
          rintro e w27 ⟨v449, rfl, ho0, hb⟩
          have HS0_ := (hb.cell (World.block_lt_of_cell? _ _ (hHeld.1))).trans (hHeld.1)
          have HS1_ := (hb.cell (World.block_lt_of_cell? _ _ (hHeld.2))).trans (hHeld.2)
          refine ⟨_, rfl, ?_⟩
          replace HO_6 := eN HO_6 (Kd.R_base ho0) hb
          replace HO_8 := eN HO_8 (Kd.R_base ho0) hb
          replace HL446_0 := eV HL446_0 (Kd.R_base ho0) hb
          replace HL447_0 := eV HL447_0 (Kd.R_base ho0) hb
          have HO450 := am (mR ho0 HB)
          replace HR446_0 := am (Kd.C_below (wC HR446_0) hb)
          replace HR447_0 := am (Kd.C_below (wC HR447_0) hb)
          replace HB := bq HB hb
          (try clear hb)
          (try clear hb2)
          (try clear hk)
          (try clear hi)
          (try clear ho0)
          refine hK.out _ _ ⟨HS0_, HS1_⟩ fun hHeld => nz ?_
          clear hK K; refine pz 10 11 HT_ ?_
          refine done_ (done_of HT_.out (by kernel_rfl)) ?_
          try go_wp2
          go_loopg [8, 12] k3 (fun kq v8 v12 w' => ∃ (x8_4 : List (List Int)) (x12_4 : Int), v12 = .int .i64 x12_4 ∧ Aside0 (spec_l6sOf.l3 kq a0 x6_1 x8_4 x9_2 x10_3 t448 x12_4 = some r) ∧ Aside0 (kq ≤ k3) ∧ Aside0 (Kd.N (Kd.slice 3 (Kd.int .i64)) 23 w' w.heap.size (fun k_ => (w.heap.size ≤ k_) ∧ some k_ ≠ (v8 : Value).ownBlock ∧ some k_ ≠ (v449 : Value).ownBlock) (.slice (some ad446) x6_1.length co26) x6_1) ∧ Aside0 (Kd.N (Kd.slice 3 (Kd.int .i64)) 23 w' w.heap.size (fun k_ => (w.heap.size ≤ k_) ∧ some k_ ≠ ((.slice (some ad446) x6_1.length co26) : Value).ownBlock ∧ some k_ ≠ (v449 : Value).ownBlock) v8 x8_4) ∧ Aside0 (Kd.R (Kd.int .i64) 3 w' w.heap.size (fun k_ => (w.heap.size ≤ k_)) v449 t448) ∧ Aside0 (Below w.heap.size w w'))
          case atStart => exact ⟨(x8_3), (x10_3), fr, H', ⟨Nat.le_refl _⟩, ⟨Kd.N_below (Kd.N_mono HO_6.out (fun _ hk => ⟨hk.1.1, ⟨hk.1.2, hk.2⟩⟩)) gs⟩, ⟨Kd.N_below (Kd.N_mono HO_8.out (fun _ hk => ⟨hk.1.1, ⟨hk.1.2, hk.2⟩⟩)) gs⟩, ⟨Kd.R_below (Kd.R_mono HO450.out (fun _ hk => hk.1)) gs⟩, ⟨bw HB⟩⟩
          case round =>
           clear H'; try clear c1; try clear c2; try clear p2; try clear c4; try clear p4; try clear q4; try clear hx4; try clear c6; try clear p6; try clear c7; try clear c7b0; try clear c8; try clear c8b0; try clear c9; try clear c9b0; try clear c10
           try clear c11; try clear c18; try clear c18b0; try clear c19; try clear c19b0; try clear c20; try clear c20b0; try clear c21; try clear c21b0; try clear c22; try clear c22b0; try clear c23; try clear c23b0; try clear hx436_0; try clear hx446_0
           try clear hx447_0; try clear p2; try clear p4; try clear p436; try clear p446; try clear p447; try clear p6; try clear q4; try clear q436; try clear q446; try clear q447
           obtain ⟨x8_4, x12_4, rfl, HA, HK4, HO_6, HO_8, HO_11, HB⟩ := hrel
           cases gk with
           | zero => exact absurd HA.out (by simp [spec_l6sOf.l3])
           | succ k4 =>
            have H := HA.out; clear HA
            simp only [spec_l6sOf.l3] at H
            by_cases c28 : x12_4 < 4
            ·rw [if_pos c28] at H
             have c28b0 := decide_eq_true c28; clear c28; replace H := ifn H; obtain ⟨c29, H⟩ := H; have c29b0 := decide_eq_true c29; clear c29; replace H := ifn H; obtain ⟨c30, H⟩ := H; have c30b0 := decide_eq_true c30; clear c30; replace H := bs H; obtain ⟨t452, A31, H⟩ := H
             replace H := ifn H; obtain ⟨c32, H⟩ := H; have LMc32 := am c32; clear c32
             generalize hy455 : (x8_4 ++ [t452] : List (List Int)) = y455 at H
             have Ny455 := am hy455.symm; clear hy455; have H' := am H; clear H
             have p451 : 0 ≤ (x12_4 : Int) := od
             have q451 : x12_4 < (x6_1.length : Int) := od
             obtain ⟨ad451, A451_0, c451_0, e451, hx451_0, hl451_0, hi451_0⟩ := at_L4 (Kd.N_reads' HO_6.out).2.2 x12_4 p451 q451
             obtain rfl : ad446 = ad451 := (by injection e451)
             obtain ⟨ce451, hce451, hMe451, hcc451⟩ := Kd.N_get HO_6.out [] x12_4 p451 (by first | exact q451 | exact od | (have e_ := (Kd.N_reads' HO_6.out).1; omega))
             obtain ⟨ua451_0, uc451_0, rfl, ul451_0, ge451_0⟩ := Kd.FK_slice_open hMe451
             have hv451_0 := hcc451 0 _ rfl
             rw [Nat.add_zero, show ((Kd.slice 3 (Kd.int .i64))).sz = 1 from rfl, Nat.mul_one] at hv451_0
             replace hv451_0 := Option.some.inj (hv451_0.symm.trans hx451_0)
             injection hv451_0 with hva_ hvn_ hvc_
             rw [hva_] at ge451_0
             rw [hvc_] at ul451_0
             have HL451_0 := am (show Kd.V (Kd.int .i64) 3 _ w.heap.size _ _ (rd_L4 x6_1 x12_4) from Kd.V_mk ul451_0 ge451_0)
             clear hva_ hvn_ hvc_ ge451_0 ul451_0; clear hcc451 hce451
             have HR451_0 := am hi451_0
             have HC451_0 := am hl451_0
             clear hi451_0 hl451_0; replace p451 := eq_true p451; replace q451 := eq_true q451
             obtain ⟨Ao33, co33, eo33⟩ := Kd.R_slice HO_11.out
             subst eo33
             go_wp2_with (first | ((with_reducible refine gate_callee (f := 108) rfl ?_); refine gl 65 Try.func108 #[.int .i64 a0, .slice Ao33 t448.length co33, .slice A451_0 (rd_L4 x6_1 x12_4).length c451_0] ?_; (with_reducible refine (spec_l6sTimes.calls k4 a0 _ _ t448 _ _ (rd_L4 x6_1 x12_4) t452 _ ?_ ?_ ?_ ?_ A31.out).mono ?_); exact Kd.C_below (Kd.R_reads' HO_11.out).2.2 gs; exact (Kd.R_reads' HO_11.out).2.1; exact wC HR451_0; exact HC451_0.out; rintro e w34 ⟨v453, rfl, ho0, hb⟩; refine ⟨_, rfl, ?_⟩; replace HO_6 := eN HO_6 (Kd.R_base ho0) hb; replace HO_8 := eN HO_8 (Kd.R_base ho0) hb; replace HL451_0 := eV HL451_0 (Kd.R_base ho0) hb; have HO454 := am (Kd.R_lower (Kd.R_new' (Kd.R_newM (M := fun k_ => (w.heap.size ≤ k_)) ho0 (bz HB) (fun k_ h_ => h_)) (Kd.R_lt (wR HO_11))) (bz HB)); replace HO_11 := eR HO_11 (Kd.R_base ho0) hb; replace HR451_0 := am (Kd.C_below (wC HR451_0) hb); replace HB := bq HB hb; (try clear hb); (try clear ho0); obtain ⟨Ao36, co36, eo36⟩ := Kd.R_slice HO454.out; subst eo36) | ((with_reducible refine gate_builtin (b := .append) (xs := #[.tmp 58, .tmp 66]) rfl ?_); at_builtin; refine Kd.N_append (Kd.slice 3 (Kd.int .i64)) (w0 := w) w.heap.size rfl (.tmp 58) (.tmp 66) 47 23 (.slice none 0 0) 24 rfl Try.underlying47 info23 rfl (by decide) (by omega) u8 x8_4 t452 [.slice Ao36 t452.length co36] (fun k_ => (w.heap.size ≤ k_) ∧ some k_ ≠ (.slice (some ad446) x6_1.length co26 : Value).ownBlock ∧ some k_ ≠ (.slice Ao33 t448.length co33 : Value).ownBlock) (fun k_ => ((fun k_ => (w.heap.size ≤ k_) ∧ some k_ ≠ (.slice (some ad446) x6_1.length co26 : Value).ownBlock ∧ some k_ ≠ (.slice Ao33 t448.length co33 : Value).ownBlock)) k_ ∧ some k_ ≠ (u8 : Value).ownBlock) rfl rfl ?aP (fun _ hk => hk) ?aF ?aO ?aB ?aS ?aL ?_; (case aP => exact (Kd.FK_slice_mk (Kd.R_reads' (Kd.R_mono (ok' := (fun k_ => ((fun k_ => (w.heap.size ≤ k_) ∧ some k_ ≠ (.slice (some ad446) x6_1.length co26 : Value).ownBlock ∧ some k_ ≠ (.slice Ao33 t448.length co33 : Value).ownBlock)) k_ ∧ some k_ ≠ (u8 : Value).ownBlock)) (Kd.R_apart' (Kd.R_apart' (HO454.out) (Kd.N_typed HO_6.out) (by decide)) (Kd.N_typed HO_8.out) (by decide)) (fun k_ hk => ⟨⟨hk.1.1.1.1, ⟨hk.1.2, hk.1.1.2⟩⟩, hk.2⟩))).2.1 (Kd.R_F (Kd.R_mono (ok' := (fun k_ => ((fun k_ => (w.heap.size ≤ k_) ∧ some k_ ≠ (.slice (some ad446) x6_1.length co26 : Value).ownBlock ∧ some k_ ≠ (.slice Ao33 t448.length co33 : Value).ownBlock)) k_ ∧ some k_ ≠ (u8 : Value).ownBlock)) (Kd.R_apart' (Kd.R_apart' (HO454.out) (Kd.N_typed HO_6.out) (by decide)) (Kd.N_typed HO_8.out) (by decide)) (fun k_ hk => ⟨⟨hk.1.1.1.1, ⟨hk.1.2, hk.1.1.2⟩⟩, hk.2⟩))))); (case aB => exact (bw HB)); (case aF => exact (fun k_ hk => ⟨(Nat.le_trans (bz HB) hk), Kd.fresh' (Kd.N_lt (wN HO_6)) k_ hk, Kd.fresh' (Kd.R_lt (wR HO_11)) k_ hk⟩)); (case aO => exact (by (with_reducible repeat (first | apply Kd.N_alloc | apply Kd.N_drewN | apply Kd.N_drew)); exact Kd.N_mono HO_8.out (fun _ hk => ⟨hk.1.1, ⟨hk.1.2.1, hk.1.2.2⟩⟩))); (case aS => exact (bz HB)); (case aL => have := LMc32.out; omega); intro v456 w35 ho hb hg hat; rw [← Ny455.out] at ho; replace HO_6 := am (Kd.N_afterv (ok := (fun k_ => (w.heap.size ≤ k_) ∧ some k_ ≠ (.slice Ao33 t448.length co33 : Value).ownBlock ∧ some k_ ≠ (.slice Ao36 t452.length co36 : Value).ownBlock)) (by (with_reducible repeat (first | apply Kd.N_alloc | apply Kd.N_drewN | apply Kd.N_drew)); exact Kd.N_mono HO_6.out (fun _ hk => ⟨⟨hk.1.1, ⟨hk.1.2.2, hk.2⟩⟩, hk.1.2.1⟩)) hg hat); replace HO_11 := am (Kd.R_over' (wR HO_11) (Kd.N_typed (wN HO_8)) (by decide) hg); replace HL451_0 := am (Kd.V_afterv (ok := (fun k_ => (w.heap.size ≤ k_) ∧ some k_ ≠ (.slice (some ad446) x6_1.length co26 : Value).ownBlock ∧ some k_ ≠ (.slice Ao33 t448.length co33 : Value).ownBlock ∧ some k_ ≠ (.slice Ao36 t452.length co36 : Value).ownBlock)) (by (with_reducible repeat (first | apply Kd.V_alloc | apply Kd.V_drewN | apply Kd.V_drew)); exact Kd.V_mono HL451_0.out (fun _ hk => ⟨⟨hk.1.1.1, ⟨hk.1.2, ⟨hk.1.1.2.2, hk.2⟩⟩⟩, hk.1.1.2.1⟩)) hg hat); replace HB := am (hb); have HO457 := am (ho); clear HO_8 HO454; clear ho hb hg hat))
             go_roundg k4
             case measure => have := HK1.out; have := HK2.out; have := HK3.out; have := HK4.out; omega
             case rel => exact ⟨(y455), (wrap64 (x12_4 + 1)), fr, H', ⟨by have := HK1.out; have := HK2.out; have := HK3.out; have := HK4.out; omega⟩, ⟨Kd.N_below (Kd.N_mono HO_6.out (fun _ hk => ⟨hk.1.1, ⟨hk.2, hk.1.2.1⟩⟩)) gs⟩, ⟨wN HO457⟩, ⟨Kd.R_below (Kd.R_mono HO_11.out (fun _ hk => hk.1)) gs⟩, ⟨bw HB⟩⟩
            ·rw [if_neg c28] at H
             have c28b0 := decide_eq_false c28; clear c28; have H' := am H; clear H; go_wp2
             go_roundg k4
             case measure => have := HK1.out; have := HK2.out; have := HK3.out; have := HK4.out; omega
             case rel => exact ⟨(x8_4), (wrap64 (x10_3 + 1)), fr, H', ⟨by have := HK1.out; have := HK2.out; have := HK3.out; have := HK4.out; omega⟩, ⟨Kd.N_below (Kd.N_mono HO_6.out (fun _ hk => ⟨hk.1, hk.2.1⟩)) gs⟩, ⟨Kd.N_below (Kd.N_mono HO_8.out (fun _ hk => ⟨hk.1, hk.2.1⟩)) gs⟩, ⟨bw HB⟩⟩
         ·rw [if_neg c19] at H
          have c19b0 := decide_eq_false c19; clear c19; have H' := am H; clear H; go_wp2
          go_roundg k3
          case measure => have := HK1.out; have := HK2.out; have := HK3.out; omega
          case rel => exact ⟨(x8_3), (wrap64 (x9_2 + 1)), fr, H', ⟨by have := HK1.out; have := HK2.out; have := HK3.out; omega⟩, ⟨wN HO_6⟩, ⟨wN HO_8⟩, ⟨bw HB⟩⟩
      ·rw [if_neg c18] at H
       have c18b0 := decide_eq_false c18; clear c18
       generalize hy458 : (([] : List (List Int))) = y458 at H
       have Ny458 := am hy458.symm; clear hy458; have H' := am H; clear H
       go_wp2_with (first | ((with_reducible refine gate_dst (N := 68) rfl ?_); refine Kd.N_lit (Kd.slice 3 (Kd.int .i64)) _ 23 ?hg (N' := 68) ?hd (xs := ([] : List (List Int))) (inner := []) (ok := (fun k_ => (w.heap.size ≤ k_) ∧ some k_ ≠ (u6 : Value).ownBlock ∧ some k_ ≠ (u8 : Value).ownBlock)) (okp := (fun k_ => (w.heap.size ≤ k_) ∧ some k_ ≠ (u6 : Value).ownBlock ∧ some k_ ≠ (u8 : Value).ownBlock)) ?hr ?hp (fun _ hk => hk) ((show ∀ k_, wr.heap.size ≤ k_ → (fun k_ => (w.heap.size ≤ k_) ∧ some k_ ≠ (u6 : Value).ownBlock ∧ some k_ ≠ (u8 : Value).ownBlock) k_ from fun k_ hk => ⟨(Nat.le_trans (bz HB) hk), Kd.fresh' (Kd.N_lt (wN HO_6)) k_ hk, Kd.fresh' (Kd.N_lt (wN HO_8)) k_ hk⟩) _ (Nat.le_refl _)) (Below.refl _ _) (Nat.le_refl _) (by simp) ?_; (case hd => rfl); (case hg => rfl); (case hr => first | (go_simp; done) | (go_simp; rfl)); (case hp => exact (Reps.none _ _)); intro v459 w37 ho38 hb hg_ hnew_; clear hg_ hnew_; (first | rw [← Ny458.out] at ho38 | (simp only [Int.reduceToNat] at ho38; rw [← Ny458.out] at ho38)); replace HO_6 := eN HO_6 (Kd.N_base ho38) hb; replace HO_8 := eN HO_8 (Kd.N_base ho38) hb; have HO460 := am (Kd.N_lower ho38 (bz HB)); replace HB := bq HB hb; clear hb ho38))
       go_loopg [13, 14] k2 (fun kq v13 v14 w' => ∃ (x13_3 : List (List Int)) (x14_3 : Int), v14 = .int .i64 x14_3 ∧ Aside0 (spec_l6sOf.l4 kq a0 x8_2 x13_3 x14_3 = some r) ∧ Aside0 (kq ≤ k2) ∧ Aside0 (Kd.N (Kd.slice 3 (Kd.int .i64)) 23 w' w.heap.size (fun k_ => (w.heap.size ≤ k_) ∧ some k_ ≠ (v13 : Value).ownBlock) u8 x8_2) ∧ Aside0 (Kd.N (Kd.slice 3 (Kd.int .i64)) 23 w' w.heap.size (fun k_ => (w.heap.size ≤ k_) ∧ some k_ ≠ (u8 : Value).ownBlock) v13 x13_3) ∧ Aside0 (Below w.heap.size w w'))
       case atStart => exact ⟨(y458), (0), fr, H', ⟨Nat.le_refl _⟩, ⟨Kd.N_below (Kd.N_mono HO_8.out (fun _ hk => ⟨hk.1.1, hk.2⟩)) gs⟩, ⟨Kd.N_below (Kd.N_mono HO460.out (fun _ hk => ⟨hk.1, hk.2.2⟩)) gs⟩, ⟨bw HB⟩⟩
       case round =>
        clear H'; try clear c1; try clear c2; try clear p2; try clear c3; try clear c4; try clear p4; try clear q4; try clear hx4; try clear c6; try clear p6; try clear c7; try clear c7b0; try clear c8; try clear c8b0; try clear c9; try clear c9b0; try clear c10
        try clear c11; try clear c18; try clear c18b0; try clear c19; try clear c19b0; try clear c20; try clear c20b0; try clear c21; try clear c21b0; try clear c22; try clear c22b0; try clear c23; try clear c23b0; try clear c28; try clear c28b0; try clear c29
        try clear c29b0; try clear c30; try clear c30b0; try clear c32; try clear hx436_0; try clear hx446_0; try clear hx447_0; try clear hx451_0; try clear p2; try clear p4; try clear p436; try clear p446; try clear p447; try clear p451; try clear p6
        try clear q4; try clear q436; try clear q446; try clear q447; try clear q451
        obtain ⟨x13_3, x14_3, rfl, HA, HK3, HO_8, HO_13, HB⟩ := hrel
        cases gk with
        | zero => exact absurd HA.out (by simp [spec_l6sOf.l4])
        | succ k3 =>
         have H := HA.out; clear HA
         simp only [spec_l6sOf.l4] at H
         by_cases c39 : x14_3 < 100
         ·rw [if_pos c39] at H
          have c39b0 := decide_eq_true c39; clear c39
          generalize hy465 : (([] : List Int)) = y465 at H
          have Ny465 := am hy465.symm; clear hy465; have H' := am H; clear H
          go_wp2_with (first | ((with_reducible refine gate_dst (N := 73) rfl ?_); refine li 3 ([] : List Int) ?_; intro v466 w40 ho41 hb; (first | rw [← Ny465.out] at ho41 | (simp only [Int.reduceToNat] at ho41; rw [← Ny465.out] at ho41)); replace HO_8 := eN HO_8 (Kd.R_base ho41) hb; replace HO_13 := eN HO_13 (Kd.R_base ho41) hb; have HO467 := am (mR ho41 HB); replace HB := bq HB hb; clear hb ho41))
          go_loopg [15, 16] k3 (fun kq v15 v16 w' => ∃ (x15_4 : List Int) (x16_4 : Int), v16 = .int .i64 x16_4 ∧ Aside0 (spec_l6sOf.l5 kq a0 x8_2 x13_3 x14_3 x15_4 x16_4 = some r) ∧ Aside0 (kq ≤ k3) ∧ Aside0 (Kd.N (Kd.slice 3 (Kd.int .i64)) 23 w' w.heap.size (fun k_ => (w.heap.size ≤ k_) ∧ some k_ ≠ (u13 : Value).ownBlock ∧ some k_ ≠ (v15 : Value).ownBlock) u8 x8_2) ∧ Aside0 (Kd.N (Kd.slice 3 (Kd.int .i64)) 23 w' w.heap.size (fun k_ => (w.heap.size ≤ k_) ∧ some k_ ≠ (u8 : Value).ownBlock ∧ some k_ ≠ (v15 : Value).ownBlock) u13 x13_3) ∧ Aside0 (Kd.R (Kd.int .i64) 3 w' w.heap.size (fun k_ => (w.heap.size ≤ k_)) v15 x15_4) ∧ Aside0 (Below w.heap.size w w'))
          case atStart => exact ⟨(y465), (0), fr, H', ⟨Nat.le_refl _⟩, ⟨Kd.N_below (Kd.N_mono HO_8.out (fun _ hk => ⟨hk.1.1, ⟨hk.1.2, hk.2⟩⟩)) gs⟩, ⟨Kd.N_below (Kd.N_mono HO_13.out (fun _ hk => ⟨hk.1.1, ⟨hk.1.2, hk.2⟩⟩)) gs⟩, ⟨Kd.R_below (Kd.R_mono HO467.out (fun _ hk => hk.1)) gs⟩, ⟨bw HB⟩⟩
          case round =>
           clear H'; try clear c1; try clear c2; try clear p2; try clear c3; try clear c4; try clear p4; try clear q4; try clear hx4; try clear c6; try clear p6; try clear c7; try clear c7b0; try clear c8; try clear c8b0; try clear c9; try clear c9b0; try clear c10
           try clear c11; try clear c18; try clear c18b0; try clear c19; try clear c19b0; try clear c20; try clear c20b0; try clear c21; try clear c21b0; try clear c22; try clear c22b0; try clear c23; try clear c23b0; try clear c28; try clear c28b0; try clear c29
           try clear c29b0; try clear c30; try clear c30b0; try clear c32; try clear c39; try clear c39b0; try clear hx436_0; try clear hx446_0; try clear hx447_0; try clear hx451_0; try clear p2; try clear p4; try clear p436; try clear p446; try clear p447
           try clear p451; try clear p6; try clear q4; try clear q436; try clear q446; try clear q447; try clear q451
           obtain ⟨x15_4, x16_4, rfl, HA, HK4, HO_8, HO_13, HO_15, HB⟩ := hrel
           cases gk with
           | zero => exact absurd HA.out (by simp [spec_l6sOf.l5])
           | succ k4 =>
            have H := HA.out; clear HA
            simp only [spec_l6sOf.l5] at H
            by_cases c42 : x16_4 < 20
            ·rw [if_pos c42] at H
             have c42b0 := decide_eq_true c42; clear c42; replace H := ifn H; obtain ⟨c43, H⟩ := H; have c43b0 := decide_eq_true c43; clear c43; replace H := ifn H; obtain ⟨c44, H⟩ := H; have c44b0 := decide_eq_true c44; clear c44; replace H := ifn H; obtain ⟨c45, H⟩ := H
             have c45b0 := decide_eq_true c45; clear c45; replace H := ifn H; obtain ⟨c46, H⟩ := H; have c46b0 := decide_eq_true c46; clear c46; replace H := ifn H; obtain ⟨c47, H⟩ := H; have LMc47 := am c47; clear c47
             generalize hy470 : (x15_4 ++ [rd (rd_L4 x8_2 x16_4) x14_3] : List Int) = y470 at H
             have Ny470 := am hy470.symm; clear hy470; have H' := am H; clear H
             obtain ⟨Ao48, co48, eo48⟩ := Kd.N_slice HO_8.out
             subst eo48
             have p468 : 0 ≤ (x16_4 : Int) := od
             have q468 : x16_4 < (x8_2.length : Int) := od
             obtain ⟨ad468, A468_0, c468_0, e468, hx468_0, hl468_0, hi468_0⟩ := at_L4 (Kd.N_reads' HO_8.out).2.2 x16_4 p468 q468
             cases e468
             obtain ⟨ce468, hce468, hMe468, hcc468⟩ := Kd.N_get HO_8.out [] x16_4 p468 (by first | exact q468 | exact od | (have e_ := (Kd.N_reads' HO_8.out).1; omega))
             obtain ⟨ua468_0, uc468_0, rfl, ul468_0, ge468_0⟩ := Kd.FK_slice_open hMe468
             have hv468_0 := hcc468 0 _ rfl
             rw [Nat.add_zero, show ((Kd.slice 3 (Kd.int .i64))).sz = 1 from rfl, Nat.mul_one] at hv468_0
             replace hv468_0 := Option.some.inj (hv468_0.symm.trans hx468_0)
             injection hv468_0 with hva_ hvn_ hvc_
             rw [hva_] at ge468_0
             rw [hvc_] at ul468_0
             have HL468_0 := am (show Kd.V (Kd.int .i64) 3 _ w.heap.size _ _ (rd_L4 x8_2 x16_4) from Kd.V_mk ul468_0 ge468_0)
             clear hva_ hvn_ hvc_ ge468_0 ul468_0; clear hcc468 hce468
             have HR468_0 := am hi468_0
             have HC468_0 := am hl468_0
             clear hi468_0 hl468_0; replace p468 := eq_true p468; replace q468 := eq_true q468
             have p469 : 0 ≤ (x14_3 : Int) := od
             have q469 : x14_3 < ((rd_L4 x8_2 x16_4).length : Int) := od
             obtain ⟨ad469, e469, hx469_0⟩ := Kd.at_int HR468_0.out x14_3 p469 q469
             cases e469; replace p469 := eq_true p469; replace q469 := eq_true q469
             go_wp2_with (first | ((with_reducible refine gate_builtin (b := .append) (xs := #[.tmp 78, .tmp 86]) rfl ?_); at_builtin; refine Kd.R_append (Kd.int .i64) (w0 := w) w.heap.size rfl (.tmp 78) (.tmp 86) 23 3 (.int .i64 0) 8 rfl Try.underlying23 info3 rfl (by decide) (by omega) u15 x15_4 (rd (rd_L4 x8_2 x16_4) x14_3) [.int .i64 (rd (rd_L4 x8_2 x16_4) x14_3)] (fun k_ => (w.heap.size ≤ k_)) (fun _ => False) rfl rfl ?aP (fun _ hk => hk.elim) ?aF ?aO ?aB ?aS ?aL ?_; (case aP => exact rfl); (case aB => exact (bw HB)); (case aF => exact (fun k_ hk => (Nat.le_trans (bz HB) hk))); (case aO => exact (wR HO_15)); (case aS => exact (bz HB)); (case aL => have := LMc47.out; omega); intro v471 w49 ho hb hg hat; rw [← Ny470.out] at ho; replace HO_8 := am (Kd.N_afterv (ok := (fun k_ => (w.heap.size ≤ k_) ∧ some k_ ≠ (u13 : Value).ownBlock)) (by (with_reducible repeat (first | apply Kd.N_alloc | apply Kd.N_drewN | apply Kd.N_drew)); exact Kd.N_mono HO_8.out (fun _ hk => ⟨⟨hk.1, hk.2.1⟩, hk.2.2⟩)) hg hat); replace HO_13 := am (Kd.N_afterv (ok := (fun k_ => (w.heap.size ≤ k_) ∧ some k_ ≠ (.slice (some ad468) x8_2.length co48 : Value).ownBlock)) (by (with_reducible repeat (first | apply Kd.N_alloc | apply Kd.N_drewN | apply Kd.N_drew)); exact Kd.N_mono HO_13.out (fun _ hk => ⟨⟨hk.1, hk.2.1⟩, hk.2.2⟩)) hg hat); replace HL468_0 := am (Kd.V_afterv (ok := (fun k_ => (w.heap.size ≤ k_) ∧ some k_ ≠ (.slice (some ad468) x8_2.length co48 : Value).ownBlock ∧ some k_ ≠ (u13 : Value).ownBlock)) (by (with_reducible repeat (first | apply Kd.V_alloc | apply Kd.V_drewN | apply Kd.V_drew)); exact Kd.V_mono HL468_0.out (fun _ hk => ⟨⟨hk.1.1, ⟨hk.2, hk.1.2.1⟩⟩, hk.1.2.2⟩)) hg hat); replace HB := am (hb); have HO472 := am (ho); clear HO_15; clear ho hb hg hat))
             go_roundg k4
             case measure => have := HK1.out; have := HK2.out; have := HK3.out; have := HK4.out; omega
             case rel => exact ⟨(y470), (wrap64 (x16_4 + 1)), fr, H', ⟨by have := HK1.out; have := HK2.out; have := HK3.out; have := HK4.out; omega⟩, ⟨Kd.N_below (Kd.N_mono HO_8.out (fun _ hk => ⟨hk.1.1, ⟨hk.1.2, hk.2⟩⟩)) gs⟩, ⟨Kd.N_below (Kd.N_mono HO_13.out (fun _ hk => ⟨hk.1.1, ⟨hk.1.2, hk.2⟩⟩)) gs⟩, ⟨wR HO472⟩, ⟨bw HB⟩⟩
            ·rw [if_neg c42] at H
             have c42b0 := decide_eq_false c42; clear c42; replace H := ifn H; obtain ⟨c50, H⟩ := H; have LMc50 := am c50; clear c50
             generalize hy473 : (x13_3 ++ [x15_4] : List (List Int)) = y473 at H
             have Ny473 := am hy473.symm; clear hy473; have H' := am H; clear H
             obtain ⟨Ao52, co52, eo52⟩ := Kd.R_slice HO_15.out
             subst eo52
             go_wp2_with (first | ((with_reducible refine gate_builtin (b := .append) (xs := #[.tmp 88, .tmp 90]) rfl ?_); at_builtin; refine Kd.N_append (Kd.slice 3 (Kd.int .i64)) (w0 := w) w.heap.size rfl (.tmp 88) (.tmp 90) 47 23 (.slice none 0 0) 24 rfl Try.underlying47 info23 rfl (by decide) (by omega) u13 x13_3 x15_4 [.slice Ao52 x15_4.length co52] (fun k_ => (w.heap.size ≤ k_) ∧ some k_ ≠ (u8 : Value).ownBlock) (fun k_ => ((fun k_ => (w.heap.size ≤ k_) ∧ some k_ ≠ (u8 : Value).ownBlock)) k_ ∧ some k_ ≠ (u13 : Value).ownBlock) rfl rfl ?aP (fun _ hk => hk) ?aF ?aO ?aB ?aS ?aL ?_; (case aP => exact (Kd.FK_slice_mk (Kd.R_reads' (Kd.R_mono (ok' := (fun k_ => ((fun k_ => (w.heap.size ≤ k_) ∧ some k_ ≠ (u8 : Value).ownBlock)) k_ ∧ some k_ ≠ (u13 : Value).ownBlock)) (Kd.R_apart' (Kd.R_apart' (HO_15.out) (Kd.N_typed HO_8.out) (by decide)) (Kd.N_typed HO_13.out) (by decide)) (fun k_ hk => ⟨⟨hk.1.1, hk.1.2⟩, hk.2⟩))).2.1 (Kd.R_F (Kd.R_mono (ok' := (fun k_ => ((fun k_ => (w.heap.size ≤ k_) ∧ some k_ ≠ (u8 : Value).ownBlock)) k_ ∧ some k_ ≠ (u13 : Value).ownBlock)) (Kd.R_apart' (Kd.R_apart' (HO_15.out) (Kd.N_typed HO_8.out) (by decide)) (Kd.N_typed HO_13.out) (by decide)) (fun k_ hk => ⟨⟨hk.1.1, hk.1.2⟩, hk.2⟩))))); (case aB => exact (bw HB)); (case aF => exact (fun k_ hk => ⟨(Nat.le_trans (bz HB) hk), Kd.fresh' (Kd.N_lt (wN HO_8)) k_ hk⟩)); (case aO => exact (by (with_reducible repeat (first | apply Kd.N_alloc | apply Kd.N_drewN | apply Kd.N_drew)); exact Kd.N_mono HO_13.out (fun _ hk => ⟨hk.1, hk.2.1⟩))); (case aS => exact (bz HB)); (case aL => have := LMc50.out; omega); intro v474 w51 ho hb hg hat; rw [← Ny473.out] at ho; replace HO_8 := am (Kd.N_afterv (ok := (fun k_ => (w.heap.size ≤ k_) ∧ some k_ ≠ (.slice Ao52 x15_4.length co52 : Value).ownBlock)) (by (with_reducible repeat (first | apply Kd.N_alloc | apply Kd.N_drewN | apply Kd.N_drew)); exact Kd.N_mono HO_8.out (fun _ hk => ⟨⟨hk.1, hk.2.2⟩, hk.2.1⟩)) hg hat); replace HB := am (hb); have HO475 := am (ho); clear HO_13 HO_15; clear ho hb hg hat))
             go_roundg k4
             case measure => have := HK1.out; have := HK2.out; have := HK3.out; have := HK4.out; omega
             case rel => exact ⟨(y473), (wrap64 (x14_3 + 1)), fr, H', ⟨by have := HK1.out; have := HK2.out; have := HK3.out; have := HK4.out; omega⟩, ⟨Kd.N_below (Kd.N_mono HO_8.out (fun _ hk => ⟨hk.1.1, hk.2⟩)) gs⟩, ⟨wN HO475⟩, ⟨bw HB⟩⟩
         ·rw [if_neg c39] at H
          have c39b0 := decide_eq_false c39; clear c39; replace H := bs H; obtain ⟨t461, A53, H⟩ := H
          by_cases c54 : 0 < (t461.length : Int)
          ·rw [if_pos c54] at H
           have c54b0 := decide_eq_true c54
           have c54b1 : decide (0 < t461.length) = true := decide_eq_true (by omega)
           clear c54; obtain rfl := Option.some.inj H
           obtain ⟨Ao55, co55, eo55⟩ := Kd.N_slice HO_13.out
           subst eo55
           go_wp2_with (first | ((with_reducible refine gate_callee (f := 109) rfl ?_); refine gl 94 Try.func109 #[.int .i64 a0, .slice Ao55 x13_3.length co55, .int .i64 20] ?_; (with_reducible refine (spec_l4Null.calls k3 a0 (fun k_ => ((w.heap.size ≤ k_) ∧ some k_ ≠ (u8 : Value).ownBlock)) _ _ x13_3 20 t461 _ ?_ A53.out).mono ?_); exact Kd.N_V (HO_13.out); rintro e w56 ⟨v462, rfl, ho0, hb⟩; refine ⟨_, rfl, ?_⟩; replace HO_13 := eN HO_13 (Kd.N_base ho0) hb; have HO463 := am (Kd.N_lower (Kd.N_mono (ok' := fun k_ => (w.heap.size ≤ k_) ∧ some k_ ≠ (u8 : Value).ownBlock) ho0 (fun k_ hk_ => ⟨Or.elim hk_ (fun hs_ => hs_.1) (fun hn_ => (Nat.le_trans (bz HB) hn_)), Or.elim hk_ (fun hs_ => hs_.2) (fun hn_ => (Kd.fresh' (Kd.N_lt (wN HO_8)) k_ hn_))⟩)) (bz HB)); replace HO_8 := eN HO_8 (Kd.N_base ho0) hb; replace HB := bq HB hb; (try clear hb); (try clear ho0); obtain ⟨Ao57, co57, eo57⟩ := Kd.N_slice HO463.out; subst eo57; have p464 : 0 ≤ (0 : Int) := (by omega); have q464 : 0 < (t461.length : Int) := od; obtain ⟨ad464, A464_0, c464_0, e464, hx464_0, hl464_0, hi464_0⟩ := at_L4 (Kd.N_reads' HO463.out).2.2 0 p464 q464; cases e464; obtain ⟨ce464, hce464, hMe464, hcc464⟩ := Kd.N_get HO463.out [] 0 p464 (by first | exact q464 | exact od | (have e_ := (Kd.N_reads' HO463.out).1; omega)); obtain ⟨ua464_0, uc464_0, rfl, ul464_0, ge464_0⟩ := Kd.FK_slice_open hMe464; have hv464_0 := hcc464 0 _ rfl; rw [Nat.add_zero, show ((Kd.slice 3 (Kd.int .i64))).sz = 1 from rfl, Nat.mul_one] at hv464_0; replace hv464_0 := Option.some.inj (hv464_0.symm.trans hx464_0); injection hv464_0 with hva_ hvn_ hvc_; rw [hva_] at ge464_0; rw [hvc_] at ul464_0; have HL464_0 := am (show Kd.V (Kd.int .i64) 3 _ w.heap.size _ _ (rd_L4 t461 0) from Kd.V_mk ul464_0 ge464_0); clear hva_ hvn_ hvc_ ge464_0 ul464_0; clear hcc464 hce464; have qi464 : (0 < t461.length) = True := eq_true (by omega); (try rw [show ((0 : Int)).toNat = 0 from rfl] at hx464_0); (try rw [Addr.add_zero'] at hx464_0); have HR464_0 := am hi464_0; have HC464_0 := am hl464_0; clear hi464_0 hl464_0; replace p464 := eq_true p464; replace q464 := eq_true q464))
           go_ret
           exact ⟨_, fq, Kd.V_below (Kd.V_mono HL464_0.out (fun _ hk => hk.1.1)) gs, bw HB⟩
          ·rw [if_neg c54] at H
           exact absurd H (by simp)
end Go.Proofs.Ytmgbpmihbljngaa.PA

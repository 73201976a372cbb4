-- Written by xprint.py, a program of this claim's own (over the kit's print.py)
import Derived.Test.YtmgbpmihbljngaaPAx0
import Derived.Test.YtmgbpmihbljngaaPAx17
import Derived.Test.YtmgbpmihbljngaaPAx18
namespace Go.Proofs.Ytmgbpmihbljngaa.PA
open Go.RowKit Go.Proofs.YtmgbpmihbljngaaW.PrintWords Go.Proofs.YtmgbpmihbljngaaW.PrintLast Go.Proofs.YtmgbpmihbljngaaW.PrintMore
attribute [local go_sem] max2_int min2_int max_two min_two max_three min_three max_four min_four   -- for this text's walks alone
set_option linter.unusedVariables false
set_option linter.unusedSimpArgs false

/-! ### spec_l5Products: function 123 -/
def spec_l5Products.l0 : Nat → Int → List Int → List (S41) → Int → Int → Int → Int → Option (List Int)
 | 0, _, _, _, _, _, _, _ => none
 | k + 1, x0, x5, x6, x7, x384000, x384001, x384002 => if x7 < 10 then (if 0 ≤ x7 then (if x7 < (x6.length : Int) then ((spec_l5Power.f k x0 x384000 ((rd_T41 x6 x7).f0)).bind fun t392 => ((spec_l5Power.f k x0 x384001 ((rd_T41 x6 x7).f1)).bind fun t393 => (if x0 = 0 then (none) else ((spec_l5Power.f k x0 x384002 ((rd_T41 x6 x7).f2)).bind fun t394 => (if x5.length < 17592186044416 then (spec_l5Products.l0 k x0 (x5 ++ [Int.tmod (wrap64 ((Int.tmod (wrap64 (t392 * t393)) x0) * t394)) x0]) x6 (wrap64 (x7 + 1)) x384000 x384001 x384002) else (none)))))) else (none)) else (none)) else (some x5)
def spec_l5Products.f (k : Nat) (a0 : Int) (a1_0 : Int) (a1_1 : Int) (a1_2 : Int) : Option (List Int) := (spec_l5Powers.f).bind fun t387 => (spec_l5Products.l0 k a0 (([] : List Int)) t387 0 a1_0 a1_1 a1_2)
theorem spec_l5Products.mono_l : ∀ k, (∀ y0 y1 y2 y3 y4 y5 y6, LeO (spec_l5Products.l0 k y0 y1 y2 y3 y4 y5 y6) (spec_l5Products.l0 (k + 1) y0 y1 y2 y3 y4 y5 y6))
 | 0 => fun _ _ _ _ _ _ _ r h => by simp [spec_l5Products.l0] at h
 | k + 1 => by
  have ih0 := spec_l5Products.mono_l k
  ·intro y0 y1 y2 y3 y4 y5 y6
   unfold spec_l5Products.l0
   repeat' first | (with_reducible first | apply ih0 | apply spec_l5Power.mono | exact LeO.refl _ | exact LeO.none _ | refine LeO.ite ?_ ?_ | refine LeO.bind ?_ (fun _ => ?_)) | (first | apply ih0 | apply spec_l5Power.mono | exact LeO.none _ | refine LeO.ite ?_ ?_ | refine LeO.bind ?_ (fun _ => ?_))
theorem spec_l5Products.mono : ∀ a0 a1 a2 a3 k, LeO (spec_l5Products.f k a0 a1 a2 a3) (spec_l5Products.f (k + 1) a0 a1 a2 a3) := by
 intro a0 a1 a2 a3 k
 have ih0 := spec_l5Products.mono_l k
 unfold spec_l5Products.f
 repeat' first | (with_reducible first | apply ih0 | apply spec_l5Power.mono | exact LeO.refl _ | exact LeO.none _ | refine LeO.ite ?_ ?_ | refine LeO.bind ?_ (fun _ => ?_)) | (first | apply ih0 | apply spec_l5Power.mono | exact LeO.none _ | refine LeO.ite ?_ ?_ | refine LeO.bind ?_ (fun _ => ?_))
def spec_l5Products.T7 : Bool × List (List Nat × List Nat) := (true, [([], []), ([], []), ([], []), ([2], [2]), ([3], [3]), ([], []), ([5], [5]), ([1, 4, 6], [1, 4, 6]), ([], []), ([], []), ([9], [9]), ([10], [10]), ([], []), ([12], [12]), ([8, 11, 13, 7], [8, 11, 13]), ([7, 14], [7, 14]), ([], []), ([15, 16], [15, 16]), ([], []), ([], []), ([19], [19]), ([20], [20]), ([], []), ([22], [22]), ([18, 21, 23, 14], [18, 21, 23]), ([17, 24], [17, 24]), ([], []), ([25, 26], [25, 26]), ([27], [27]), ([0, 28, 24], [0, 28]), ([29, 29, 0, 1, 2, 3, 4, 5, 6, 7, 8, 9, 10, 11, 12, 13, 14, 15, 16, 17, 18, 19, 20, 21, 22, 23, 24, 25, 26, 27, 28, 29], [0, 29])])
def spec_l5Products.B7 : List Nat := [0, 0, 0, 4, 12, 0, 32, 126, 0, 0, 512, 1536, 0, 4096, 16382, 32766, 0, 131070, 0, 0, 524288, 1572864, 0, 4194304, 16547838, 33554430, 0, 134217726, 268435454, 536870911, 1073741823]
theorem spec_l5Products.tab7 : rtab .any (opsOf Try.f123 7) = spec_l5Products.T7 := by kernel_rfl
theorem spec_l5Products.bits7 : waitsOk spec_l5Products.T7.2 spec_l5Products.B7 = true := by kernel_rfl
set_option maxHeartbeats 8000000 in
set_option maxRecDepth 100000 in
theorem spec_l5Products.calls (k : Nat) (a0 : Int) (a1_0 : Int) (a1_1 : Int) (a1_2 : Int) (r : List Int) (w : World) (h : spec_l5Products.f k a0 a1_0 a1_1 a1_2 = some r) :
  Calls Try.prog 123 #[.int .i64 a0, .agg #[.int .i64 a1_0, .int .i64 a1_1, .int .i64 a1_2]] w fun e w' => ∃ v0_ : Value, e = .returned (v0_) ∧ Kd.R (Kd.int .i64) 3 w' w.heap.size (fun _ => True) v0_ r ∧ Below w.heap.size w w' := by
 have hu43 := Try.underlying43
 have hu41 := Try.underlying41
 have HB := am (Below.refl w.heap.size w)
 have H : ((spec_l5Powers.f).bind fun t387 => (spec_l5Products.l0 k a0 (([] : List Int)) t387 0 a1_0 a1_1 a1_2)) = some r := h
 clear h
 generalize hy384 : (([] : List Int)) = y384 at H
 have Ny384 := am hy384.symm; clear hy384; replace H := bs H; obtain ⟨t387, A3, H⟩ := H; have H' := am H; clear H
 go_enter Try.func123, Try.ntmps123
 go_wp2_with (first | ((with_reducible refine gate_dst (N := 3) rfl ?_); refine box_event ?hg (N := 3) ?hd (cs := #[.int .i64 a1_0, .int .i64 a1_1, .int .i64 a1_2]) (t := 43) ?hr ?_; (case hd => rfl); (case hg => rfl); (case hr => first | (go_simp; done) | (go_simp; rfl)); intro gb383 hg w4 hbox hb; have n0_ := bq HB hb; have n1_ := am (hbox); have n2_ := am ((by rw [hg]; exact (bz HB) : w.heap.size ≤ gb383)); have n3_ := am ((by rw [hg]; exact (bz HB) : w.heap.size ≤ gb383)); clear HB; have HB := n0_; have BK383 := n1_; have GW383 := n2_; have GE383 := n3_; clear n0_ n1_ n2_ n3_; clear hb hbox hg) | ((with_reducible refine gate_dst (N := 9) rfl ?_); refine li 3 ([] : List Int) ?_; intro v385 w5 ho6 hb; (first | rw [← Ny384.out] at ho6 | (simp only [Int.reduceToNat] at ho6; rw [← Ny384.out] at ho6)); have n0_ := am (Kd.R_lower ho6 (below_size (bx_ HB))); have n1_ := am (blk_below (g := gb383) (o := .cells #[.int .i64 a1_0, .int .i64 a1_1, .int .i64 a1_2] 43 (0, 0)) (pk_ BK383) hb); have n2_ := am (below_step (bx_ HB) hb); clear BK383; clear HB; have HO386 := n0_; have BK383 := n1_; have HB := n2_; clear n0_ n1_ n2_; clear hb ho6) | ((with_reducible refine gate_callee (f := 157) rfl ?_); refine gl 10 Try.func157 #[] ?_; (with_reducible refine (spec_l5Powers.calls  t387 _ A3.out).mono ?_); rintro e w7 ⟨v388, rfl, ho0, hb⟩; refine ⟨_, rfl, ?_⟩; have n0_ := am (Kd.R_below (wR HO386) hb); have n1_ := am (Kd.R_lower ho0 (below_size (bx_ HB))); have n2_ := am (blk_below (g := gb383) (o := .cells #[.int .i64 a1_0, .int .i64 a1_1, .int .i64 a1_2] 43 (0, 0)) (pk_ BK383) hb); have n3_ := am (below_step (bx_ HB) hb); clear HO386; clear BK383; clear HB; have HO386 := n0_; have HO389 := n1_; have BK383 := n2_; have HB := n3_; clear n0_ n1_ n2_ n3_; (try clear hb); (try clear ho0)))
 go_loopg [5, 7] k (fun kq v5 v7 w' => ∃ (x5_1 : List Int) (x7_1 : Int), v7 = .int .i64 x7_1 ∧ Aside0 (spec_l5Products.l0 kq a0 x5_1 t387 x7_1 a1_0 a1_1 a1_2 = some r) ∧ Aside0 (kq ≤ k) ∧ Aside0 (Kd.R (Kd.int .i64) 3 w' w.heap.size (fun _ => True) v5 x5_1) ∧ Aside0 (Kd.R k41 41 w' w.heap.size (fun _ => True) v388 t387) ∧ Aside0 (w'.heap[gb383]? = some (.cells #[.int .i64 a1_0, .int .i64 a1_1, .int .i64 a1_2] 43 (0, 0))) ∧ Aside0 (Below w.heap.size w w'))
 case atStart => exact ⟨(y384), (0), fr, H', ⟨Nat.le_refl _⟩, ⟨wR HO386⟩, ⟨wR HO389⟩, ⟨by (with_reducible repeat (first | refine blk_drewN ?_ _ | refine blk_drew ?_ | refine blk_alloc ?_ _)); exact BK383.out⟩, ⟨bx_ HB⟩⟩
 case round =>
  clear H'; try clear c1; try clear p2
  obtain ⟨x5_1, x7_1, rfl, HA, HK1, HO_5, HO_6, BK383, HB⟩ := hrel
  cases gk with
  | zero => exact absurd HA.out (by simp [spec_l5Products.l0])
  | succ k1 =>
   have H := HA.out; clear HA
   simp only [spec_l5Products.l0] at H
   by_cases c8 : x7_1 < 10
   ·rw [if_pos c8] at H
    have c8b0 := decide_eq_true c8; clear c8; replace H := ifn H; obtain ⟨c9, H⟩ := H; have c9b0 := decide_eq_true c9; clear c9; replace H := ifn H; obtain ⟨c10, H⟩ := H; have c10b0 := decide_eq_true c10; clear c10; replace H := bs H; obtain ⟨t392, A11, H⟩ := H
    replace H := bs H; obtain ⟨t393, A12, H⟩ := H; replace H := ifm H; obtain ⟨c13, H⟩ := H; have c13b0 := beq_eq_false_iff_ne.mpr c13; have c13b1 := bne_iff_ne.mpr c13; replace H := bs H; obtain ⟨t394, A14, H⟩ := H; replace H := ifn H; obtain ⟨c15, H⟩ := H
    have LMc15 := am c15; clear c15
    generalize hy395 : (x5_1 ++ [Int.tmod (wrap64 ((Int.tmod (wrap64 (t392 * t393)) a0) * t394)) a0] : List Int) = y395 at H
    have Ny395 := am hy395.symm; clear hy395; have H' := am H; clear H
    obtain ⟨Ao16, co16, eo16⟩ := Kd.R_slice HO_6.out
    subst eo16
    have p390 : 0 ≤ (x7_1 : Int) := od
    have q390 : x7_1 < (t387.length : Int) := od
    obtain ⟨ad390, e390, hx390_0, hx390_1, hx390_2⟩ := at_T41 (Kd.R_reads' HO_6.out).2.2 x7_1 p390 q390
    cases e390; replace p390 := eq_true p390; replace q390 := eq_true q390
    try go_wp2_with (first | ((with_reducible refine gate_dst (N := 8) rfl ?_); refine box_event ?hg (N := 8) ?hd (cs := #[.int .i64 0, .int .i64 0, .int .i64 0]) (t := 41) ?hr ?_; (case hd => rfl); (case hg => rfl); (case hr => first | (go_simp; done) | (go_simp; rfl)); intro gb391 hg w17 hbox hb; have n0_ := am (Kd.R_below (wR HO_5) hb); have n1_ := am (Kd.R_below (Kd.R_elderB (wR HO_6) gb391 (Nat.le_of_eq hg.symm)) hb); have n2_ := am (blk_below (g := gb383) (o := .cells #[.int .i64 a1_0, .int .i64 a1_1, .int .i64 a1_2] 43 (0, 0)) (pk_ BK383) hb); have n3_ := am (below_step (bx_ HB) hb); have n4_ := am (hbox); have n5_ := am ((by rw [hg]; exact (below_size (bx_ HB)) : w.heap.size ≤ gb391)); have n6_ := am ((by rw [hg]; exact (below_size (bx_ HB)) : w.heap.size ≤ gb391)); have n7_ := am ((by rw [hg]; exact Nat.ne_of_lt (blk_lt (g := gb383) (o := .cells #[.int .i64 a1_0, .int .i64 a1_1, .int .i64 a1_2] 43 (0, 0)) (pk_ BK383)) : gb383 ≠ gb391)); have n8_ := am ((by rw [hg]; exact Nat.ne_of_gt (blk_lt (g := gb383) (o := .cells #[.int .i64 a1_0, .int .i64 a1_1, .int .i64 a1_2] 43 (0, 0)) (pk_ BK383)) : gb391 ≠ gb383)); clear HO_5; clear HO_6; clear BK383; clear HB; have HO_5 := n0_; have HO_6 := n1_; have BK383 := n2_; have HB := n3_; have BK391 := n4_; have GW391 := n5_; have GE391 := n6_; have NB383_391 := n7_; have NB391_383 := n8_; clear n0_ n1_ n2_ n3_ n4_ n5_ n6_ n7_ n8_; clear hb hbox hg; have hnb18 := NB391_383.out; have hnc18 := NB383_391.out; have hcz19_0 : w17.cell? ⟨gb391, 0, none⟩ = some (.int .i64 0) := (blk_cell BK391.out 0).trans rfl; have hcz19_1 : w17.cell? ⟨gb391, 1, none⟩ = some (.int .i64 0) := (blk_cell BK391.out 1).trans rfl; have hcz19_2 : w17.cell? ⟨gb391, 2, none⟩ = some (.int .i64 0) := (blk_cell BK391.out 2).trans rfl; have hfz19_0 := blk_frozen BK391.out 0; have hfz19_1 := blk_frozen BK391.out 1; have hfz19_2 := blk_frozen BK391.out 2))
    have n0_ : Aside0 (Kd.R (Kd.int .i64) 3 (((w17.setCell ⟨gb391, 0, none⟩ (.int .i64 ((rd_T41 t387 x7_1).f0))).setCell ⟨gb391, 1, none⟩ (.int .i64 ((rd_T41 t387 x7_1).f1))).setCell ⟨gb391, 2, none⟩ (.int .i64 ((rd_T41 t387 x7_1).f2))) w.heap.size (fun _ => True) u5 x5_1) := ⟨by (with_reducible repeat (first | apply Kd.R_alloc | apply Kd.R_drewN | apply Kd.R_drew)); exact Kd.R_mono (Kd.R_far (p := ⟨gb391, 2, none⟩) (Kd.R_far (p := ⟨gb391, 1, none⟩) (Kd.R_far (p := ⟨gb391, 0, none⟩) (Kd.R_types HO_5.out BK391.out (by decide)) (fun _ hk => hk.2) (.int .i64 ((rd_T41 t387 x7_1).f0))) (fun _ hk => hk.2) (.int .i64 ((rd_T41 t387 x7_1).f1))) (fun _ hk => hk.2) (.int .i64 ((rd_T41 t387 x7_1).f2))) (fun _ hk => trivial)⟩
    have n1_ : Aside0 (Kd.R k41 41 (((w17.setCell ⟨gb391, 0, none⟩ (.int .i64 ((rd_T41 t387 x7_1).f0))).setCell ⟨gb391, 1, none⟩ (.int .i64 ((rd_T41 t387 x7_1).f1))).setCell ⟨gb391, 2, none⟩ (.int .i64 ((rd_T41 t387 x7_1).f2))) w.heap.size (fun k_ => k_ ≠ gb391) (.slice (some ad390) t387.length co16) t387) := ⟨by (with_reducible repeat (first | apply Kd.R_alloc | apply Kd.R_drewN | apply Kd.R_drew)); exact Kd.R_mono (Kd.R_far (p := ⟨gb391, 2, none⟩) (Kd.R_far (p := ⟨gb391, 1, none⟩) (Kd.R_far (p := ⟨gb391, 0, none⟩) (Kd.R_mono HO_6.out (fun k_ hk => (⟨hk, hk.2⟩ : _ ∧ k_ ≠ gb391))) (fun _ hk => hk.2) (.int .i64 ((rd_T41 t387 x7_1).f0))) (fun _ hk => hk.2) (.int .i64 ((rd_T41 t387 x7_1).f1))) (fun _ hk => hk.2) (.int .i64 ((rd_T41 t387 x7_1).f2))) (fun _ hk => hk.1.2)⟩
    have n2_ : Aside0 ((((w17.setCell ⟨gb391, 0, none⟩ (.int .i64 ((rd_T41 t387 x7_1).f0))).setCell ⟨gb391, 1, none⟩ (.int .i64 ((rd_T41 t387 x7_1).f1))).setCell ⟨gb391, 2, none⟩ (.int .i64 ((rd_T41 t387 x7_1).f2))).heap[gb383]? = some (.cells #[.int .i64 a1_0, .int .i64 a1_1, .int .i64 a1_2] 43 (0, 0))) := ⟨by (with_reducible repeat (first | refine blk_drewN ?_ _ | refine blk_drew ?_ | refine blk_alloc ?_ _)); refine blk_far ?_ NB383_391.out _; (with_reducible repeat (first | refine blk_drewN ?_ _ | refine blk_drew ?_ | refine blk_alloc ?_ _)); refine blk_far ?_ NB383_391.out _; (with_reducible repeat (first | refine blk_drewN ?_ _ | refine blk_drew ?_ | refine blk_alloc ?_ _)); refine blk_far ?_ NB383_391.out _; (with_reducible repeat (first | refine blk_drewN ?_ _ | refine blk_drew ?_ | refine blk_alloc ?_ _)); exact BK383.out⟩
    have n3_ : Aside0 ((((w17.setCell ⟨gb391, 0, none⟩ (.int .i64 ((rd_T41 t387 x7_1).f0))).setCell ⟨gb391, 1, none⟩ (.int .i64 ((rd_T41 t387 x7_1).f1))).setCell ⟨gb391, 2, none⟩ (.int .i64 ((rd_T41 t387 x7_1).f2))).heap[gb391]? = some (.cells #[.int .i64 ((rd_T41 t387 x7_1).f0), .int .i64 ((rd_T41 t387 x7_1).f1), .int .i64 ((rd_T41 t387 x7_1).f2)] 41 (0, 0))) := ⟨by (with_reducible repeat (first | refine blk_drewN ?_ _ | refine blk_drew ?_ | refine blk_alloc ?_ _)); refine blk_put (cs := #[.int .i64 ((rd_T41 t387 x7_1).f0), .int .i64 ((rd_T41 t387 x7_1).f1), .int .i64 0]) ?_ 2 _ rfl; (with_reducible repeat (first | refine blk_drewN ?_ _ | refine blk_drew ?_ | refine blk_alloc ?_ _)); refine blk_put (cs := #[.int .i64 ((rd_T41 t387 x7_1).f0), .int .i64 0, .int .i64 0]) ?_ 1 _ rfl; (with_reducible repeat (first | refine blk_drewN ?_ _ | refine blk_drew ?_ | refine blk_alloc ?_ _)); refine blk_put (cs := #[.int .i64 0, .int .i64 0, .int .i64 0]) ?_ 0 _ rfl; (with_reducible repeat (first | refine blk_drewN ?_ _ | refine blk_drew ?_ | refine blk_alloc ?_ _)); exact BK391.out⟩
    have n4_ : Aside0 (Below w.heap.size w (((w17.setCell ⟨gb391, 0, none⟩ (.int .i64 ((rd_T41 t387 x7_1).f0))).setCell ⟨gb391, 1, none⟩ (.int .i64 ((rd_T41 t387 x7_1).f1))).setCell ⟨gb391, 2, none⟩ (.int .i64 ((rd_T41 t387 x7_1).f2)))) := ⟨bx_ HB⟩
    (try clear HO_5)
    (try clear HO_6)
    (try clear BK383)
    (try clear BK391)
    (try clear HB)
    generalize (((w17.setCell ⟨gb391, 0, none⟩ (.int .i64 ((rd_T41 t387 x7_1).f0))).setCell ⟨gb391, 1, none⟩ (.int .i64 ((rd_T41 t387 x7_1).f1))).setCell ⟨gb391, 2, none⟩ (.int .i64 ((rd_T41 t387 x7_1).f2))) = w20 at n0_ n1_ n2_ n3_ n4_ ⊢
    have HO_5 := n0_
    have HO_6 := n1_
    have BK383 := n2_
    have BK391 := n3_
    have HB := n4_
    clear n0_ n1_ n2_ n3_ n4_
    replace HO_5 := am (Kd.R_drew HO_5.out)
    replace HO_6 := am (Kd.R_drew HO_6.out)
    replace BK383 := am (blk_drew BK383.out)
    replace BK391 := am (blk_drew BK391.out)
    replace HB := am (below_drew1 HB.out)
    refine st 31 (fun w' => w'.cell? ⟨gb383, 0, none⟩ = some (.int .i64 a1_0) ∧ w'.cell? ⟨gb383, 1, none⟩ = some (.int .i64 a1_1) ∧ w'.cell? ⟨gb383, 2, none⟩ = some (.int .i64 a1_2) ∧ w'.cell? ⟨gb391, 0, none⟩ = some (.int .i64 ((rd_T41 t387 x7_1).f0)) ∧ w'.cell? ⟨gb391, 1, none⟩ = some (.int .i64 ((rd_T41 t387 x7_1).f1)) ∧ w'.cell? ⟨gb391, 2, none⟩ = some (.int .i64 ((rd_T41 t387 x7_1).f2))) [] spec_l5Products.tab7 spec_l5Products.bits7 (⟨(blk_cell BK383.out 0).trans rfl, (blk_cell BK383.out 1).trans rfl, (blk_cell BK383.out 2).trans rfl, (blk_cell BK391.out 0).trans rfl, (blk_cell BK391.out 1).trans rfl, (blk_cell BK391.out 2).trans rfl⟩) fun hHeld HT_ HW_ => ?_
    generalize w20.drew = w21 at HO_5 HO_6 BK383 BK391 HB hHeld ⊢
    refine pz 0 19 HT_ ?_; refine pz 1 20 HT_ ?_; refine pz 2 21 HT_ ?_; refine pz 3 22 HT_ ?_; refine pz 5 24 HT_ ?_; refine pz 8 27 HT_ ?_; refine pz 9 28 HT_ ?_; refine pz 10 29 HT_ ?_; refine pz 12 31 HT_ ?_; refine pz 16 35 HT_ ?_; refine pz 18 37 HT_ ?_
    refine pz 19 38 HT_ ?_; refine pz 20 39 HT_ ?_; refine pz 22 41 HT_ ?_; refine pz 26 45 HT_ ?_; refine tk 4 23 HT_ HW_ hHeld ?_; refine tk 6 25 HT_ HW_ hHeld ?_; refine tk 11 30 HT_ HW_ hHeld ?_; refine tk 13 32 HT_ HW_ hHeld ?_; refine tk 21 40 HT_ HW_ hHeld ?_
    refine tk 23 42 HT_ HW_ hHeld ?_
    refine on 7 (some 26) HT_ fun K hK => ?_
    refine gs_ Try.func162 #[.int .i64 a0, .int .i64 a1_0, .int .i64 ((rd_T41 t387 x7_1).f0)] ?_
    with_reducible refine (spec_l5Power.calls k1 a0 a1_0 ((rd_T41 t387 x7_1).f0) t392 _ A11.out).mono ?_
    rintro e w' ⟨rfl, ⟨nd, rfl⟩⟩
    refine ⟨_, rfl, ?_⟩
    refine hK.out _ _ ⟨(blk_cell BK383.out 0).trans rfl, (blk_cell BK383.out 1).trans rfl, (blk_cell BK383.out 2).trans rfl, (blk_cell BK391.out 0).trans rfl, (blk_cell BK391.out 1).trans rfl, (blk_cell BK391.out 2).trans rfl⟩ fun hHeld => nz ?_
    clear hK K
    refine on 14 (some 33) HT_ fun K hK => ?_
    refine gs_ Try.func162 #[.int .i64 a0, .int .i64 a1_1, .int .i64 ((rd_T41 t387 x7_1).f1)] ?_
    with_reducible refine (spec_l5Power.calls k1 a0 a1_1 ((rd_T41 t387 x7_1).f1) t393 _ A12.out).mono ?_
    rintro e w' ⟨rfl, ⟨nd, rfl⟩⟩
    refine ⟨_, rfl, ?_⟩
    refine hK.out _ _ ⟨(blk_cell BK383.out 0).trans rfl, (blk_cell BK383.out 1).trans rfl, (blk_cell BK383.out 2).trans rfl, (blk_cell BK391.out 0).trans rfl, (blk_cell BK391.out 1).trans rfl, (blk_cell BK391.out 2).trans rfl⟩ fun hHeld => nz ?_
    clear hK K; refine pz 15 34 HT_ ?_; refine pz 17 36 HT_ ?_
    refine on 24 (some 43) HT_ fun K hK => ?_
    refine gs_ Try.func162 #[.int .i64 a0, .int .i64 a1_2, .int .i64 ((rd_T41 t387 x7_1).f2)] ?_
    with_reducible refine (spec_l5Power.calls k1 a0 a1_2 ((rd_T41 t387 x7_1).f2) t394 _ A14.out).mono ?_
    rintro e w' ⟨rfl, ⟨nd, rfl⟩⟩
    refine ⟨_, rfl, ?_⟩
    refine hK.out _ _ ⟨(blk_cell BK383.out 0).trans rfl, (blk_cell BK383.out 1).trans rfl, (blk_cell BK383.out 2).trans rfl, (blk_cell BK391.out 0).trans rfl, (blk_cell BK391.out 1).trans rfl, (blk_cell BK391.out 2).trans rfl⟩ fun hHeld => nz ?_
    clear hK K; refine pz 25 44 HT_ ?_; refine pz 27 46 HT_ ?_
    refine on 28 (some 47) HT_ fun K hK => ?_
    refine value_ (w1 := ?_) (v := ?_) (by rfl) rfl ?_ ?_
    rotate_left 2
    ·go_simp
     constructor
     ·rfl
     ·rfl
    refine hK.out _ _ ⟨(blk_cell (blk_alloc BK383.out _) 0).trans rfl, (blk_cell (blk_alloc BK383.out _) 1).trans rfl, (blk_cell (blk_alloc BK383.out _) 2).trans rfl, (blk_cell (blk_alloc BK391.out _) 0).trans rfl, (blk_cell (blk_alloc BK391.out _) 1).trans rfl, (blk_cell (blk_alloc BK391.out _) 2).trans rfl⟩ fun hHeld => nz ?_
    clear hK K
    refine on 29 (some 48) HT_ fun K hK => ?_
    refine Kd.R_append_step (Kd.int .i64) (w0 := w) w.heap.size (by rfl) (.tmp 19) (.tmp 47) 23 3 (.int .i64 0) 8 rfl Try.underlying23 info3 rfl (by decide) (by omega) u5 x5_1 (Int.tmod (wrap64 ((Int.tmod (wrap64 (t392 * t393)) a0) * t394)) a0) [.int .i64 (Int.tmod (wrap64 ((Int.tmod (wrap64 (t392 * t393)) a0) * t394)) a0)] (fun _ => True) (fun _ => False) rfl rfl ?aP (fun _ hk => hk.elim) ?aF ?aO ?aB ?aS ?aL ?_
    (case aP => exact rfl)
    (case aB => exact (bx_ HB))
    (case aF => exact (fun _ _ => trivial))
    (case aO => exact (wR HO_5))
    (case aS => exact (below_size (bx_ HB)))
    (case aL => have := LMc15.out; omega)
    intro v396 w22 ho hb hg hat
    rw [← Ny395.out] at ho
    replace HO_6 := am (Kd.R_over' (wR HO_6) (Kd.R_typed (wR HO_5)) (by decide) hg)
    replace BK383 := am (blk_grown (g := gb383) (o := .cells #[.int .i64 a1_0, .int .i64 a1_1, .int .i64 a1_2] 43 (0, 0)) (pk_ BK383) hg (Kd.R_ne HO_5.out BK383.out (by decide)))
    replace BK391 := am (blk_grown (g := gb391) (o := .cells #[.int .i64 ((rd_T41 t387 x7_1).f0), .int .i64 ((rd_T41 t387 x7_1).f1), .int .i64 ((rd_T41 t387 x7_1).f2)] 41 (0, 0)) (pk_ BK391) hg (Kd.R_ne HO_5.out BK391.out (by decide)))
    replace HB := am (hb)
    have HO397 := am (ho)
    clear HO_5; clear ho hb hg hat
    refine hK.out _ _ ⟨(blk_cell BK383.out 0).trans rfl, (blk_cell BK383.out 1).trans rfl, (blk_cell BK383.out 2).trans rfl, (blk_cell BK391.out 0).trans rfl, (blk_cell BK391.out 1).trans rfl, (blk_cell BK391.out 2).trans rfl⟩ fun hHeld => nz ?_
    clear hK K; refine pz 30 5 HT_ ?_
    refine done_ (done_of HT_.out (by kernel_rfl)) ?_
    try go_wp2
    go_roundg k1
    case measure => have := HK1.out; omega
    case rel => exact ⟨(y395), (wrap64 (x7_1 + 1)), fr, H', ⟨by have := HK1.out; omega⟩, ⟨wR HO397⟩, ⟨Kd.R_below (Kd.R_mono HO_6.out (fun _ hk => trivial)) gs⟩, ⟨by (with_reducible repeat (first | refine blk_drewN ?_ _ | refine blk_drew ?_ | refine blk_alloc ?_ _)); exact BK383.out⟩, ⟨bx_ HB⟩⟩
   ·rw [if_neg c8] at H
    have c8b0 := decide_eq_false c8; clear c8; obtain rfl := Option.some.inj H; go_wp2; go_ret
    exact ⟨_, fq, wR HO_5, bx_ HB⟩/-! ### spec_l5Base: function 78 -/
def spec_l5Base.l0 : Nat → Int → List (S43) → List (List Int) → Int → Option ((List (List Int)))
 | 0, _, _, _, _ => none
 | k + 1, x0, x1, x5, x6 => if x6 < 6 then (if 0 ≤ x6 then (if x6 < (x1.length : Int) then ((spec_l5Products.f k x0 ((rd_T43 x1 x6).f0.f0) ((rd_T43 x1 x6).f0.f1) ((rd_T43 x1 x6).f0.f2)).bind fun t402 => (if x5.length < 5864062014805 then (spec_l5Base.l0 k x0 x1 (x5 ++ [t402]) (wrap64 (x6 + 1))) else (none))) else (none)) else (none)) else ((spec_l4Null.f k x0 x5 10).bind fun t408 => (some t408))
def spec_l5Base.f (k : Nat) (a0 : Int) (l1 : List (S43)) : Option ((List (List Int))) := spec_l5Base.l0 k a0 l1 (([] : List (List Int))) 0
theorem spec_l5Base.mono_l : ∀ k, (∀ y0 y1 y2 y3, LeO (spec_l5Base.l0 k y0 y1 y2 y3) (spec_l5Base.l0 (k + 1) y0 y1 y2 y3))
 | 0 => fun _ _ _ _ r h => by simp [spec_l5Base.l0] at h
 | k + 1 => by
  have ih0 := spec_l5Base.mono_l k
  ·intro y0 y1 y2 y3
   unfold spec_l5Base.l0
   repeat' first | (with_reducible first | apply ih0 | apply spec_l4Null.mono | apply spec_l5Products.mono | exact LeO.refl _ | exact LeO.none _ | refine LeO.ite ?_ ?_ | refine LeO.bind ?_ (fun _ => ?_)) | (first | apply ih0 | apply spec_l4Null.mono | apply spec_l5Products.mono | exact LeO.none _ | refine LeO.ite ?_ ?_ | refine LeO.bind ?_ (fun _ => ?_))
theorem spec_l5Base.mono : ∀ a0 a1 k, LeO (spec_l5Base.f k a0 a1) (spec_l5Base.f (k + 1) a0 a1) := by
 intro a0 a1 k
 have ih0 := spec_l5Base.mono_l k
 unfold spec_l5Base.f
 repeat' first | (with_reducible first | apply ih0 | apply spec_l4Null.mono | apply spec_l5Products.mono | exact LeO.refl _ | exact LeO.none _ | refine LeO.ite ?_ ?_ | refine LeO.bind ?_ (fun _ => ?_)) | (first | apply ih0 | apply spec_l4Null.mono | apply spec_l5Products.mono | exact LeO.none _ | refine LeO.ite ?_ ?_ | refine LeO.bind ?_ (fun _ => ?_))
set_option maxHeartbeats 8000000 in
set_option maxRecDepth 100000 in
theorem spec_l5Base.calls (k : Nat) (a0 : Int) (A1 : Option Addr) (c1 : Nat) (l1 : List (S43)) (r : List (List Int)) (w : World) (hr1 : Kd.C k43 w A1 l1.length l1) (hc1 : l1.length ≤ c1) (h : spec_l5Base.f k a0 l1 = some r) :
  Calls Try.prog 78 #[.int .i64 a0, .slice A1 l1.length c1] w fun e w' => ∃ v0_ : Value, e = .returned (v0_) ∧ Kd.N (Kd.slice 3 (Kd.int .i64)) 23 w' w.heap.size (fun k_ => (w.heap.size ≤ k_)) v0_ r ∧ Below w.heap.size w w' := by
 have hu43 := Try.underlying43
 have HR1 := am hr1
 have HC1 := am hc1
 clear hr1 hc1
 have HB := am (Below.refl w.heap.size w)
 have H : (spec_l5Base.l0 k a0 l1 (([] : List (List Int))) 0) = some r := h
 clear h
 generalize hy398 : (([] : List (List Int))) = y398 at H
 have Ny398 := am hy398.symm; clear hy398; have H' := am H; clear H
 go_enter Try.func78, Try.ntmps78
 go_wp2_with (first | ((with_reducible refine gate_dst (N := 7) rfl ?_); refine Kd.N_lit (Kd.slice 3 (Kd.int .i64)) _ 23 ?hg (N' := 7) ?hd (xs := ([] : List (List Int))) (inner := []) (ok := (fun k_ => (w.heap.size ≤ k_))) (okp := (fun k_ => (w.heap.size ≤ k_))) ?hr ?hp (fun _ hk => hk) ((show ∀ k_, w.heap.size ≤ k_ → (fun k_ => (w.heap.size ≤ k_)) k_ from fun k_ hk => (Nat.le_trans (bz HB) hk)) _ (Nat.le_refl _)) (Below.refl _ _) (Nat.le_refl _) (by simp) ?_; (case hd => rfl); (case hg => rfl); (case hr => first | (go_simp; done) | (go_simp; rfl)); (case hp => exact (Reps.none _ _)); intro v399 w3 ho4 hb hg_ hnew_; clear hg_ hnew_; (first | rw [← Ny398.out] at ho4 | (simp only [Int.reduceToNat] at ho4; rw [← Ny398.out] at ho4)); have HO400 := am (Kd.N_lower ho4 (bz HB)); replace HB := bq HB hb; clear hb ho4))
 go_loopg [5, 6] k (fun kq v5 v6 w' => ∃ (x5_1 : List (List Int)) (x6_1 : Int), v6 = .int .i64 x6_1 ∧ Aside0 (spec_l5Base.l0 kq a0 l1 x5_1 x6_1 = some r) ∧ Aside0 (kq ≤ k) ∧ Aside0 (Kd.N (Kd.slice 3 (Kd.int .i64)) 23 w' w.heap.size (fun k_ => (w.heap.size ≤ k_)) v5 x5_1) ∧ Aside0 (Below w.heap.size w w'))
 case atStart => exact ⟨(y398), (0), fr, H', ⟨Nat.le_refl _⟩, ⟨wN HO400⟩, ⟨bw HB⟩⟩
 case round =>
  clear H'; try clear c1; try clear p2
  obtain ⟨x5_1, x6_1, rfl, HA, HK1, HO_5, HB⟩ := hrel
  cases gk with
  | zero => exact absurd HA.out (by simp [spec_l5Base.l0])
  | succ k1 =>
   have H := HA.out; clear HA
   simp only [spec_l5Base.l0] at H
   by_cases c5 : x6_1 < 6
   ·rw [if_pos c5] at H
    have c5b0 := decide_eq_true c5; clear c5; replace H := ifn H; obtain ⟨c6, H⟩ := H; have c6b0 := decide_eq_true c6; clear c6; replace H := ifn H; obtain ⟨c7, H⟩ := H; have c7b0 := decide_eq_true c7; clear c7; replace H := bs H; obtain ⟨t402, A8, H⟩ := H
    replace H := ifn H; obtain ⟨c9, H⟩ := H; have LMc9 := am c9; clear c9
    generalize hy405 : (x5_1 ++ [t402] : List (List Int)) = y405 at H
    have Ny405 := am hy405.symm; clear hy405; have H' := am H; clear H
    have p401 : 0 ≤ (x6_1 : Int) := od
    have q401 : x6_1 < (l1.length : Int) := od
    obtain ⟨ad401, e401, hx401_0, hx401_1, hx401_2⟩ := at_T43 HR1.out x6_1 p401 q401
    cases e401
    replace hx401_0 := wcl HB hx401_0
    replace hx401_1 := wcl HB hx401_1
    replace hx401_2 := wcl HB hx401_2
    replace p401 := eq_true p401; replace q401 := eq_true q401
    go_wp2_with (first | ((with_reducible refine gate_callee (f := 123) rfl ?_); refine gl 18 Try.func123 #[.int .i64 a0, .agg #[.int .i64 ((rd_T43 l1 x6_1).f0.f0), .int .i64 ((rd_T43 l1 x6_1).f0.f1), .int .i64 ((rd_T43 l1 x6_1).f0.f2)]] ?_; (with_reducible refine (spec_l5Products.calls k1 a0 ((rd_T43 l1 x6_1).f0.f0) ((rd_T43 l1 x6_1).f0.f1) ((rd_T43 l1 x6_1).f0.f2) t402 _ A8.out).mono ?_); rintro e w10 ⟨v403, rfl, ho0, hb⟩; refine ⟨_, rfl, ?_⟩; replace HO_5 := eN HO_5 (Kd.R_base ho0) hb; have HO404 := am (mR ho0 HB); replace HB := bq HB hb; (try clear hb); (try clear ho0); obtain ⟨Ao12, co12, eo12⟩ := Kd.R_slice HO404.out; subst eo12) | ((with_reducible refine gate_builtin (b := .append) (xs := #[.tmp 12, .tmp 19]) rfl ?_); at_builtin; refine Kd.N_append (Kd.slice 3 (Kd.int .i64)) (w0 := w) w.heap.size rfl (.tmp 12) (.tmp 19) 47 23 (.slice none 0 0) 24 rfl Try.underlying47 info23 rfl (by decide) (by omega) u5 x5_1 t402 [.slice Ao12 t402.length co12] (fun k_ => (w.heap.size ≤ k_)) (fun k_ => ((fun k_ => (w.heap.size ≤ k_))) k_ ∧ some k_ ≠ (u5 : Value).ownBlock) rfl rfl ?aP (fun _ hk => hk) ?aF ?aO ?aB ?aS ?aL ?_; (case aP => exact (Kd.FK_slice_mk (Kd.R_reads' (Kd.R_mono (ok' := (fun k_ => ((fun k_ => (w.heap.size ≤ k_))) k_ ∧ some k_ ≠ (u5 : Value).ownBlock)) (Kd.R_apart' (HO404.out) (Kd.N_typed HO_5.out) (by decide)) (fun k_ hk => ⟨hk.1.1, hk.2⟩))).2.1 (Kd.R_F (Kd.R_mono (ok' := (fun k_ => ((fun k_ => (w.heap.size ≤ k_))) k_ ∧ some k_ ≠ (u5 : Value).ownBlock)) (Kd.R_apart' (HO404.out) (Kd.N_typed HO_5.out) (by decide)) (fun k_ hk => ⟨hk.1.1, hk.2⟩))))); (case aB => exact (bw HB)); (case aF => exact (fun k_ hk => (Nat.le_trans (bz HB) hk))); (case aO => exact (by (with_reducible repeat (first | apply Kd.N_alloc | apply Kd.N_drewN | apply Kd.N_drew)); exact Kd.N_mono HO_5.out (fun _ hk => hk.1))); (case aS => exact (bz HB)); (case aL => have := LMc9.out; omega); intro v406 w11 ho hb hg hat; rw [← Ny405.out] at ho; replace HB := am (hb); have HO407 := am (ho); clear HO_5 HO404; clear ho hb hg hat))
    go_roundg k1
    case measure => have := HK1.out; omega
    case rel => exact ⟨(y405), (wrap64 (x6_1 + 1)), fr, H', ⟨by have := HK1.out; omega⟩, ⟨wN HO407⟩, ⟨bw HB⟩⟩
   ·rw [if_neg c5] at H
    have c5b0 := decide_eq_false c5; clear c5; replace H := bs H; obtain ⟨t408, A13, H⟩ := H; obtain rfl := Option.some.inj H
    obtain ⟨Ao14, co14, eo14⟩ := Kd.N_slice HO_5.out
    subst eo14
    go_wp2_with (first | ((with_reducible refine gate_callee (f := 109) rfl ?_); refine gl 23 Try.func109 #[.int .i64 a0, .slice Ao14 x5_1.length co14, .int .i64 10] ?_; (with_reducible refine (spec_l4Null.calls k1 a0 (fun k_ => (w.heap.size ≤ k_)) _ _ x5_1 10 t408 _ ?_ A13.out).mono ?_); exact Kd.N_V (HO_5.out); rintro e w15 ⟨v409, rfl, ho0, hb⟩; refine ⟨_, rfl, ?_⟩; replace HO_5 := eN HO_5 (Kd.N_base ho0) hb; have HO410 := am (Kd.N_lower (Kd.N_mono (ok' := fun k_ => (w.heap.size ≤ k_)) ho0 (fun k_ hk_ => Or.elim hk_ (fun hs_ => hs_) (fun hn_ => (Nat.le_trans (bz HB) hn_)))) (bz HB)); replace HB := bq HB hb; (try clear hb); (try clear ho0)))
    go_ret
    exact ⟨_, fq, wN HO410, bw HB⟩
end Go.Proofs.Ytmgbpmihbljngaa.PA

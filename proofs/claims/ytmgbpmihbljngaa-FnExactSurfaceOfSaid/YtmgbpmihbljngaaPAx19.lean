-- Written by xprint.py, a program of this claim's own (over the kit's print.py)
import Derived.Test.YtmgbpmihbljngaaPAx0
import Derived.Test.YtmgbpmihbljngaaPAx15
import Derived.Test.YtmgbpmihbljngaaPAx16
import Derived.Test.YtmgbpmihbljngaaPAx18
import Derived.BigQuiet
import Derived.Deep.QuietTactic
namespace Go.Proofs.Ytmgbpmihbljngaa.PA
open Go.RowKit Go.Proofs.YtmgbpmihbljngaaW.PrintWords Go.Proofs.YtmgbpmihbljngaaW.PrintLast Go.Proofs.YtmgbpmihbljngaaW.PrintMore
attribute [local go_sem] max2_int min2_int max_two min_two max_three min_three max_four min_four   -- for this text's walks alone
set_option linter.unusedVariables false
set_option linter.unusedSimpArgs false

/-! ### impl_cubes: function 82 -/
def impl_cubes.l0 : Nat → List Int → List (S41) → Int → Int → Int → Int → Int → Option (List Int)
 | 0, _, _, _, _, _, _, _ => none
 | k + 1, x3, x7, x8, x9, x428000, x428001, x428002 => if x9 < x8 then (if 0 ≤ x9 then (if x9 < (x7.length : Int) then ((impl_power.f k x428000 ((rd_T41 x7 x9).f0)).bind fun t436 => ((impl_power.f k x428001 ((rd_T41 x7 x9).f1)).bind fun t437 => ((impl_power.f k x428002 ((rd_T41 x7 x9).f2)).bind fun t438 => (if x3.length < 17592186044416 then (impl_cubes.l0 k (x3 ++ [wrap64 ((wrap64 (t436 * t437)) * t438)]) x7 x8 (wrap64 (x9 + 1)) x428000 x428001 x428002) else (none))))) else (none)) else (none)) else (some x3)
def impl_cubes.f (k : Nat) (a0_0 : Int) (a0_1 : Int) (a0_2 : Int) : Option (List Int) := (impl_exponents.f k).bind fun t431 => (impl_cubes.l0 k (([] : List Int)) t431 (t431.length : Int) 0 a0_0 a0_1 a0_2)
theorem impl_cubes.mono_l : ∀ k, (∀ y0 y1 y2 y3 y4 y5 y6, LeO (impl_cubes.l0 k y0 y1 y2 y3 y4 y5 y6) (impl_cubes.l0 (k + 1) y0 y1 y2 y3 y4 y5 y6))
 | 0 => fun _ _ _ _ _ _ _ r h => by simp [impl_cubes.l0] at h
 | k + 1 => by
  have ih0 := impl_cubes.mono_l k
  ·intro y0 y1 y2 y3 y4 y5 y6
   unfold impl_cubes.l0
   repeat' first | (with_reducible first | apply ih0 | apply impl_exponents.mono | apply impl_power.mono | exact LeO.refl _ | exact LeO.none _ | refine LeO.ite ?_ ?_ | refine LeO.bind ?_ (fun _ => ?_)) | (first | apply ih0 | apply impl_exponents.mono | apply impl_power.mono | exact LeO.none _ | refine LeO.ite ?_ ?_ | refine LeO.bind ?_ (fun _ => ?_))
theorem impl_cubes.mono : ∀ a0 a1 a2 k, LeO (impl_cubes.f k a0 a1 a2) (impl_cubes.f (k + 1) a0 a1 a2) := by
 intro a0 a1 a2 k
 have ih0 := impl_cubes.mono_l k
 unfold impl_cubes.f
 repeat' first | (with_reducible first | apply ih0 | apply impl_exponents.mono | apply impl_power.mono | exact LeO.refl _ | exact LeO.none _ | refine LeO.ite ?_ ?_ | refine LeO.bind ?_ (fun _ => ?_)) | (first | apply ih0 | apply impl_exponents.mono | apply impl_power.mono | exact LeO.none _ | refine LeO.ite ?_ ?_ | refine LeO.bind ?_ (fun _ => ?_))
def impl_cubes.T5 : Bool × List (List Nat × List Nat) := (true, [([], []), ([], []), ([1], [1]), ([2], [2]), ([], []), ([4], [4]), ([3, 5], [3, 5]), ([], []), ([7], [7]), ([8], [8]), ([], []), ([10], [10]), ([9, 11, 6], [9, 11]), ([6, 12], [6, 12]), ([], []), ([14], [14]), ([15], [15]), ([], []), ([17], [17]), ([16, 18, 12], [16, 18]), ([13, 19], [13, 19]), ([20], [20]), ([0, 21, 19], [0, 21]), ([22, 22, 0, 1, 2, 3, 4, 5, 6, 7, 8, 9, 10, 11, 12, 13, 14, 15, 16, 17, 18, 19, 20, 21, 22], [0, 22])])
def impl_cubes.B5 : List Nat := [0, 0, 2, 6, 0, 16, 62, 0, 128, 384, 0, 1024, 4094, 8190, 0, 16384, 49152, 0, 131072, 516094, 1048574, 2097150, 4194303, 8388607]
theorem impl_cubes.tab5 : rtab .any (opsOf Try.f82 5) = impl_cubes.T5 := by kernel_rfl
theorem impl_cubes.bits5 : waitsOk impl_cubes.T5.2 impl_cubes.B5 = true := by kernel_rfl
set_option maxHeartbeats 8000000 in
set_option maxRecDepth 100000 in
theorem impl_cubes.calls (k : Nat) (a0_0 : Int) (a0_1 : Int) (a0_2 : Int) (r : List Int) (w : World) (h : impl_cubes.f k a0_0 a0_1 a0_2 = some r) :
  Calls Try.prog 82 #[.agg #[.int .i64 a0_0, .int .i64 a0_1, .int .i64 a0_2]] w fun e w' => ∃ v0_ : Value, e = .returned (v0_) ∧ Kd.R (Kd.int .i64) 3 w' w.heap.size (fun _ => True) v0_ r ∧ Below w.heap.size w w' := by
 have hu43 := Try.underlying43
 have hu41 := Try.underlying41
 have HB := am (Below.refl w.heap.size w)
 have H : ((impl_exponents.f k).bind fun t431 => (impl_cubes.l0 k (([] : List Int)) t431 (t431.length : Int) 0 a0_0 a0_1 a0_2)) = some r := h
 clear h
 generalize hy428 : (([] : List Int)) = y428 at H
 have Ny428 := am hy428.symm; clear hy428; replace H := bs H; obtain ⟨t431, A2, H⟩ := H; have H' := am H; clear H
 go_enter Try.func82, Try.ntmps82
 go_wp2_with (first | ((with_reducible refine gate_dst (N := 1) rfl ?_); refine box_event ?hg (N := 1) ?hd (cs := #[.int .i64 a0_0, .int .i64 a0_1, .int .i64 a0_2]) (t := 43) ?hr ?_; (case hd => rfl); (case hg => rfl); (case hr => first | (go_simp; done) | (go_simp; rfl)); intro gb427 hg w3 hbox hb; have n0_ := bq HB hb; have n1_ := am (hbox); have n2_ := am ((by rw [hg]; exact (bz HB) : w.heap.size ≤ gb427)); have n3_ := am ((by rw [hg]; exact (bz HB) : w.heap.size ≤ gb427)); clear HB; have HB := n0_; have BK427 := n1_; have GW427 := n2_; have GE427 := n3_; clear n0_ n1_ n2_ n3_; clear hb hbox hg) | ((with_reducible refine gate_dst (N := 6) rfl ?_); refine li 3 ([] : List Int) ?_; intro v429 w4 ho5 hb; (first | rw [← Ny428.out] at ho5 | (simp only [Int.reduceToNat] at ho5; rw [← Ny428.out] at ho5)); have n0_ := am (Kd.R_lower ho5 (below_size (by repeat (first | (with_reducible first | exact HB.out | apply below_alloc | apply pw_below_drewN | apply below_drew1 | refine below_set ?_ GE427.out) | exact HB.out)))); have n1_ := am (blk_below (g := gb427) (o := .cells #[.int .i64 a0_0, .int .i64 a0_1, .int .i64 a0_2] 43 (0, 0)) (by (with_reducible repeat (first | refine blk_drewN ?_ _ | refine blk_drew ?_ | refine blk_alloc ?_ _)); exact BK427.out) hb); have n2_ := am (below_step (by repeat (first | (with_reducible first | exact HB.out | apply below_alloc | apply pw_below_drewN | apply below_drew1 | refine below_set ?_ GE427.out) | exact HB.out)) hb); clear BK427; clear HB; have HO430 := n0_; have BK427 := n1_; have HB := n2_; clear n0_ n1_ n2_; clear hb ho5) | ((with_reducible refine gate_callee (f := 114) rfl ?_); refine gl 7 Try.func114 #[] ?_; (with_reducible refine (impl_exponents.calls k  t431 _ A2.out).mono ?_); rintro e w6 ⟨v432, rfl, ho0, hb⟩; refine ⟨_, rfl, ?_⟩; have n0_ := am (Kd.R_below (wR HO430) hb); have n1_ := am (Kd.R_lower ho0 (below_size (by repeat (first | (with_reducible first | exact HB.out | apply below_alloc | apply pw_below_drewN | apply below_drew1 | refine below_set ?_ GE427.out) | exact HB.out)))); have n2_ := am (blk_below (g := gb427) (o := .cells #[.int .i64 a0_0, .int .i64 a0_1, .int .i64 a0_2] 43 (0, 0)) (by (with_reducible repeat (first | refine blk_drewN ?_ _ | refine blk_drew ?_ | refine blk_alloc ?_ _)); exact BK427.out) hb); have n3_ := am (below_step (by repeat (first | (with_reducible first | exact HB.out | apply below_alloc | apply pw_below_drewN | apply below_drew1 | refine below_set ?_ GE427.out) | exact HB.out)) hb); clear HO430; clear BK427; clear HB; have HO430 := n0_; have HO433 := n1_; have BK427 := n2_; have HB := n3_; clear n0_ n1_ n2_ n3_; (try clear hb); (try clear ho0); obtain ⟨Ao7, co7, eo7⟩ := Kd.R_slice HO433.out; subst eo7))
 go_loopg [3, 9] k (fun kq v3 v9 w' => ∃ (x3_1 : List Int) (x9_1 : Int), v9 = .int .i64 x9_1 ∧ Aside0 (impl_cubes.l0 kq x3_1 t431 (t431.length : Int) x9_1 a0_0 a0_1 a0_2 = some r) ∧ Aside0 (kq ≤ k) ∧ Aside0 (Kd.R (Kd.int .i64) 3 w' w.heap.size (fun _ => True) v3 x3_1) ∧ Aside0 (Kd.R k41 41 w' w.heap.size (fun _ => True) (.slice Ao7 t431.length co7) t431) ∧ Aside0 (w'.heap[gb427]? = some (.cells #[.int .i64 a0_0, .int .i64 a0_1, .int .i64 a0_2] 43 (0, 0))) ∧ Aside0 (Below w.heap.size w w'))
 case atStart => exact ⟨(y428), (0), fr, H', ⟨Nat.le_refl _⟩, ⟨wR HO430⟩, ⟨wR HO433⟩, ⟨by (with_reducible repeat (first | refine blk_drewN ?_ _ | refine blk_drew ?_ | refine blk_alloc ?_ _)); exact BK427.out⟩, ⟨by repeat (first | (with_reducible first | exact HB.out | apply below_alloc | apply pw_below_drewN | apply below_drew1 | refine below_set ?_ GE427.out) | exact HB.out)⟩⟩
 case round =>
  clear H'; try clear c1; try clear p2
  obtain ⟨x3_1, x9_1, rfl, HA, HK1, HO_3, HO_7, BK427, HB⟩ := hrel
  cases gk with
  | zero => exact absurd HA.out (by simp [impl_cubes.l0])
  | succ k1 =>
   have H := HA.out; clear HA
   simp only [impl_cubes.l0] at H
   by_cases c8 : x9_1 < (t431.length : Int)
   ·rw [if_pos c8] at H
    have c8b0 := decide_eq_true c8; clear c8; replace H := ifn H; obtain ⟨c9, H⟩ := H; have c9b0 := decide_eq_true c9; clear c9; replace H := ifn H; obtain ⟨c10, H⟩ := H; have c10b0 := decide_eq_true c10; clear c10; replace H := bs H; obtain ⟨t436, A11, H⟩ := H
    replace H := bs H; obtain ⟨t437, A12, H⟩ := H; replace H := bs H; obtain ⟨t438, A13, H⟩ := H; replace H := ifn H; obtain ⟨c14, H⟩ := H; have LMc14 := am c14; clear c14
    generalize hy439 : (x3_1 ++ [wrap64 ((wrap64 (t436 * t437)) * t438)] : List Int) = y439 at H
    have Ny439 := am hy439.symm; clear hy439; have H' := am H; clear H
    have p434 : 0 ≤ (x9_1 : Int) := od
    have q434 : x9_1 < (t431.length : Int) := od
    obtain ⟨ad434, e434, hx434_0, hx434_1, hx434_2⟩ := at_T41 (Kd.R_reads' HO_7.out).2.2 x9_1 p434 q434
    cases e434; replace p434 := eq_true p434; replace q434 := eq_true q434
    try go_wp2_with (first | ((with_reducible refine gate_dst (N := 5) rfl ?_); refine box_event ?hg (N := 5) ?hd (cs := #[.int .i64 0, .int .i64 0, .int .i64 0]) (t := 41) ?hr ?_; (case hd => rfl); (case hg => rfl); (case hr => first | (go_simp; done) | (go_simp; rfl)); intro gb435 hg w15 hbox hb; have n0_ := am (Kd.R_below (wR HO_3) hb); have n1_ := am (Kd.R_below (Kd.R_elderB (wR HO_7) gb435 (Nat.le_of_eq hg.symm)) hb); have n2_ := am (blk_below (g := gb427) (o := .cells #[.int .i64 a0_0, .int .i64 a0_1, .int .i64 a0_2] 43 (0, 0)) (by (with_reducible repeat (first | refine blk_drewN ?_ _ | refine blk_drew ?_ | refine blk_alloc ?_ _)); exact BK427.out) hb); have n3_ := am (below_step (by repeat (first | (with_reducible first | exact HB.out | apply below_alloc | apply pw_below_drewN | apply below_drew1 | refine below_set ?_ GE427.out) | exact HB.out)) hb); have n4_ := am (hbox); have n5_ := am ((by rw [hg]; exact (below_size (by repeat (first | (with_reducible first | exact HB.out | apply below_alloc | apply pw_below_drewN | apply below_drew1 | refine below_set ?_ GE427.out) | exact HB.out))) : w.heap.size ≤ gb435)); have n6_ := am ((by rw [hg]; exact (below_size (by repeat (first | (with_reducible first | exact HB.out | apply below_alloc | apply pw_below_drewN | apply below_drew1 | refine below_set ?_ GE427.out) | exact HB.out))) : w.heap.size ≤ gb435)); have n7_ := am ((by rw [hg]; exact Nat.ne_of_lt (blk_lt (g := gb427) (o := .cells #[.int .i64 a0_0, .int .i64 a0_1, .int .i64 a0_2] 43 (0, 0)) (by (with_reducible repeat (first | refine blk_drewN ?_ _ | refine blk_drew ?_ | refine blk_alloc ?_ _)); exact BK427.out)) : gb427 ≠ gb435)); have n8_ := am ((by rw [hg]; exact Nat.ne_of_gt (blk_lt (g := gb427) (o := .cells #[.int .i64 a0_0, .int .i64 a0_1, .int .i64 a0_2] 43 (0, 0)) (by (with_reducible repeat (first | refine blk_drewN ?_ _ | refine blk_drew ?_ | refine blk_alloc ?_ _)); exact BK427.out)) : gb435 ≠ gb427)); clear HO_3; clear HO_7; clear BK427; clear HB; have HO_3 := n0_; have HO_7 := n1_; have BK427 := n2_; have HB := n3_; have BK435 := n4_; have GW435 := n5_; have GE435 := n6_; have NB427_435 := n7_; have NB435_427 := n8_; clear n0_ n1_ n2_ n3_ n4_ n5_ n6_ n7_ n8_; clear hb hbox hg; have hnb16 := NB435_427.out; have hnc16 := NB427_435.out; have hcz17_0 : w15.cell? ⟨gb435, 0, none⟩ = some (.int .i64 0) := (blk_cell BK435.out 0).trans rfl; have hcz17_1 : w15.cell? ⟨gb435, 1, none⟩ = some (.int .i64 0) := (blk_cell BK435.out 1).trans rfl; have hcz17_2 : w15.cell? ⟨gb435, 2, none⟩ = some (.int .i64 0) := (blk_cell BK435.out 2).trans rfl; have hfz17_0 := blk_frozen BK435.out 0; have hfz17_1 := blk_frozen BK435.out 1; have hfz17_2 := blk_frozen BK435.out 2))
    have n0_ : Aside0 (Kd.R (Kd.int .i64) 3 (((w15.setCell ⟨gb435, 0, none⟩ (.int .i64 ((rd_T41 t431 x9_1).f0))).setCell ⟨gb435, 1, none⟩ (.int .i64 ((rd_T41 t431 x9_1).f1))).setCell ⟨gb435, 2, none⟩ (.int .i64 ((rd_T41 t431 x9_1).f2))) w.heap.size (fun _ => True) u3 x3_1) := ⟨by (with_reducible repeat (first | apply Kd.R_alloc | apply Kd.R_drewN | apply Kd.R_drew)); exact Kd.R_mono (Kd.R_far (p := ⟨gb435, 2, none⟩) (Kd.R_far (p := ⟨gb435, 1, none⟩) (Kd.R_far (p := ⟨gb435, 0, none⟩) (Kd.R_types HO_3.out BK435.out (by decide)) (fun _ hk => hk.2) (.int .i64 ((rd_T41 t431 x9_1).f0))) (fun _ hk => hk.2) (.int .i64 ((rd_T41 t431 x9_1).f1))) (fun _ hk => hk.2) (.int .i64 ((rd_T41 t431 x9_1).f2))) (fun _ hk => trivial)⟩
    have n1_ : Aside0 (Kd.R k41 41 (((w15.setCell ⟨gb435, 0, none⟩ (.int .i64 ((rd_T41 t431 x9_1).f0))).setCell ⟨gb435, 1, none⟩ (.int .i64 ((rd_T41 t431 x9_1).f1))).setCell ⟨gb435, 2, none⟩ (.int .i64 ((rd_T41 t431 x9_1).f2))) w.heap.size (fun k_ => k_ ≠ gb435) (.slice (some ad434) t431.length co7) t431) := ⟨by (with_reducible repeat (first | apply Kd.R_alloc | apply Kd.R_drewN | apply Kd.R_drew)); exact Kd.R_mono (Kd.R_far (p := ⟨gb435, 2, none⟩) (Kd.R_far (p := ⟨gb435, 1, none⟩) (Kd.R_far (p := ⟨gb435, 0, none⟩) (Kd.R_mono HO_7.out (fun k_ hk => (⟨hk, hk.2⟩ : _ ∧ k_ ≠ gb435))) (fun _ hk => hk.2) (.int .i64 ((rd_T41 t431 x9_1).f0))) (fun _ hk => hk.2) (.int .i64 ((rd_T41 t431 x9_1).f1))) (fun _ hk => hk.2) (.int .i64 ((rd_T41 t431 x9_1).f2))) (fun _ hk => hk.1.2)⟩
    have n2_ : Aside0 ((((w15.setCell ⟨gb435, 0, none⟩ (.int .i64 ((rd_T41 t431 x9_1).f0))).setCell ⟨gb435, 1, none⟩ (.int .i64 ((rd_T41 t431 x9_1).f1))).setCell ⟨gb435, 2, none⟩ (.int .i64 ((rd_T41 t431 x9_1).f2))).heap[gb427]? = some (.cells #[.int .i64 a0_0, .int .i64 a0_1, .int .i64 a0_2] 43 (0, 0))) := ⟨by (with_reducible repeat (first | refine blk_drewN ?_ _ | refine blk_drew ?_ | refine blk_alloc ?_ _)); refine blk_far ?_ NB427_435.out _; (with_reducible repeat (first | refine blk_drewN ?_ _ | refine blk_drew ?_ | refine blk_alloc ?_ _)); refine blk_far ?_ NB427_435.out _; (with_reducible repeat (first | refine blk_drewN ?_ _ | refine blk_drew ?_ | refine blk_alloc ?_ _)); refine blk_far ?_ NB427_435.out _; (with_reducible repeat (first | refine blk_drewN ?_ _ | refine blk_drew ?_ | refine blk_alloc ?_ _)); exact BK427.out⟩
    have n3_ : Aside0 ((((w15.setCell ⟨gb435, 0, none⟩ (.int .i64 ((rd_T41 t431 x9_1).f0))).setCell ⟨gb435, 1, none⟩ (.int .i64 ((rd_T41 t431 x9_1).f1))).setCell ⟨gb435, 2, none⟩ (.int .i64 ((rd_T41 t431 x9_1).f2))).heap[gb435]? = some (.cells #[.int .i64 ((rd_T41 t431 x9_1).f0), .int .i64 ((rd_T41 t431 x9_1).f1), .int .i64 ((rd_T41 t431 x9_1).f2)] 41 (0, 0))) := ⟨by (with_reducible repeat (first | refine blk_drewN ?_ _ | refine blk_drew ?_ | refine blk_alloc ?_ _)); refine blk_put (cs := #[.int .i64 ((rd_T41 t431 x9_1).f0), .int .i64 ((rd_T41 t431 x9_1).f1), .int .i64 0]) ?_ 2 _ rfl; (with_reducible repeat (first | refine blk_drewN ?_ _ | refine blk_drew ?_ | refine blk_alloc ?_ _)); refine blk_put (cs := #[.int .i64 ((rd_T41 t431 x9_1).f0), .int .i64 0, .int .i64 0]) ?_ 1 _ rfl; (with_reducible repeat (first | refine blk_drewN ?_ _ | refine blk_drew ?_ | refine blk_alloc ?_ _)); refine blk_put (cs := #[.int .i64 0, .int .i64 0, .int .i64 0]) ?_ 0 _ rfl; (with_reducible repeat (first | refine blk_drewN ?_ _ | refine blk_drew ?_ | refine blk_alloc ?_ _)); exact BK435.out⟩
    have n4_ : Aside0 (Below w.heap.size w (((w15.setCell ⟨gb435, 0, none⟩ (.int .i64 ((rd_T41 t431 x9_1).f0))).setCell ⟨gb435, 1, none⟩ (.int .i64 ((rd_T41 t431 x9_1).f1))).setCell ⟨gb435, 2, none⟩ (.int .i64 ((rd_T41 t431 x9_1).f2)))) := ⟨by repeat (first | (with_reducible first | exact HB.out | apply below_alloc | apply pw_below_drewN | apply below_drew1 | refine below_set ?_ GE427.out | refine below_set ?_ GE435.out) | exact HB.out)⟩
    (try clear HO_3)
    (try clear HO_7)
    (try clear BK427)
    (try clear BK435)
    (try clear HB)
    generalize (((w15.setCell ⟨gb435, 0, none⟩ (.int .i64 ((rd_T41 t431 x9_1).f0))).setCell ⟨gb435, 1, none⟩ (.int .i64 ((rd_T41 t431 x9_1).f1))).setCell ⟨gb435, 2, none⟩ (.int .i64 ((rd_T41 t431 x9_1).f2))) = w18 at n0_ n1_ n2_ n3_ n4_ ⊢
    have HO_3 := n0_
    have HO_7 := n1_
    have BK427 := n2_
    have BK435 := n3_
    have HB := n4_
    clear n0_ n1_ n2_ n3_ n4_
    have n0_ := am (Kd.R_drew HO_3.out)
    have n1_ := am (Kd.R_drew HO_7.out)
    have n2_ := am (blk_drew BK427.out)
    have n3_ := am (blk_drew BK435.out)
    have n4_ := am (below_drew1 HB.out)
    clear HO_3; clear HO_7; clear BK427; clear BK435; clear HB
    have HO_3 := n0_
    have HO_7 := n1_
    have BK427 := n2_
    have BK435 := n3_
    have HB := n4_
    clear n0_ n1_ n2_ n3_ n4_
    refine st 24 (fun w' => w'.cell? ⟨gb427, 0, none⟩ = some (.int .i64 a0_0) ∧ w'.cell? ⟨gb427, 1, none⟩ = some (.int .i64 a0_1) ∧ w'.cell? ⟨gb427, 2, none⟩ = some (.int .i64 a0_2) ∧ w'.cell? ⟨gb435, 0, none⟩ = some (.int .i64 ((rd_T41 t431 x9_1).f0)) ∧ w'.cell? ⟨gb435, 1, none⟩ = some (.int .i64 ((rd_T41 t431 x9_1).f1)) ∧ w'.cell? ⟨gb435, 2, none⟩ = some (.int .i64 ((rd_T41 t431 x9_1).f2))) [] impl_cubes.tab5 impl_cubes.bits5 (⟨(blk_cell BK427.out 0).trans rfl, (blk_cell BK427.out 1).trans rfl, (blk_cell BK427.out 2).trans rfl, (blk_cell BK435.out 0).trans rfl, (blk_cell BK435.out 1).trans rfl, (blk_cell BK435.out 2).trans rfl⟩) fun hHeld HT_ HW_ => ?_
    generalize w18.drew = w19 at HO_3 HO_7 BK427 BK435 HB hHeld ⊢
    refine pz 0 13 HT_ ?_; refine pz 1 14 HT_ ?_; refine pz 2 15 HT_ ?_; refine pz 4 17 HT_ ?_; refine pz 7 20 HT_ ?_; refine pz 8 21 HT_ ?_; refine pz 10 23 HT_ ?_; refine pz 14 27 HT_ ?_; refine pz 15 28 HT_ ?_; refine pz 17 30 HT_ ?_; refine tk 3 16 HT_ HW_ hHeld ?_
    refine tk 5 18 HT_ HW_ hHeld ?_; refine tk 9 22 HT_ HW_ hHeld ?_; refine tk 11 24 HT_ HW_ hHeld ?_; refine tk 16 29 HT_ HW_ hHeld ?_; refine tk 18 31 HT_ HW_ hHeld ?_
    refine on 6 (some 19) HT_ fun K hK => ?_
    refine gs_ Try.func102 #[.int .i64 a0_0, .int .i64 ((rd_T41 t431 x9_1).f0)] ?_
    with_reducible refine (impl_power.calls k1 a0_0 ((rd_T41 t431 x9_1).f0) t436 _ A11.out).mono ?_
    rintro e w' ⟨rfl, ⟨nd, rfl⟩⟩
    refine ⟨_, rfl, ?_⟩
    refine hK.out _ _ ⟨(blk_cell BK427.out 0).trans rfl, (blk_cell BK427.out 1).trans rfl, (blk_cell BK427.out 2).trans rfl, (blk_cell BK435.out 0).trans rfl, (blk_cell BK435.out 1).trans rfl, (blk_cell BK435.out 2).trans rfl⟩ fun hHeld => nz ?_
    clear hK K
    refine on 12 (some 25) HT_ fun K hK => ?_
    refine gs_ Try.func102 #[.int .i64 a0_1, .int .i64 ((rd_T41 t431 x9_1).f1)] ?_
    with_reducible refine (impl_power.calls k1 a0_1 ((rd_T41 t431 x9_1).f1) t437 _ A12.out).mono ?_
    rintro e w' ⟨rfl, ⟨nd, rfl⟩⟩
    refine ⟨_, rfl, ?_⟩
    refine hK.out _ _ ⟨(blk_cell BK427.out 0).trans rfl, (blk_cell BK427.out 1).trans rfl, (blk_cell BK427.out 2).trans rfl, (blk_cell BK435.out 0).trans rfl, (blk_cell BK435.out 1).trans rfl, (blk_cell BK435.out 2).trans rfl⟩ fun hHeld => nz ?_
    clear hK K; refine pz 13 26 HT_ ?_
    refine on 19 (some 32) HT_ fun K hK => ?_
    refine gs_ Try.func102 #[.int .i64 a0_2, .int .i64 ((rd_T41 t431 x9_1).f2)] ?_
    with_reducible refine (impl_power.calls k1 a0_2 ((rd_T41 t431 x9_1).f2) t438 _ A13.out).mono ?_
    rintro e w' ⟨rfl, ⟨nd, rfl⟩⟩
    refine ⟨_, rfl, ?_⟩
    refine hK.out _ _ ⟨(blk_cell BK427.out 0).trans rfl, (blk_cell BK427.out 1).trans rfl, (blk_cell BK427.out 2).trans rfl, (blk_cell BK435.out 0).trans rfl, (blk_cell BK435.out 1).trans rfl, (blk_cell BK435.out 2).trans rfl⟩ fun hHeld => nz ?_
    clear hK K; refine pz 20 33 HT_ ?_
    refine on 21 (some 34) HT_ fun K hK => ?_
    refine value_ (w1 := ?_) (v := ?_) (by rfl) rfl ?_ ?_
    rotate_left 2
    ·go_simp
     constructor
     ·rfl
     ·rfl
    refine hK.out _ _ ⟨(blk_cell (blk_alloc BK427.out _) 0).trans rfl, (blk_cell (blk_alloc BK427.out _) 1).trans rfl, (blk_cell (blk_alloc BK427.out _) 2).trans rfl, (blk_cell (blk_alloc BK435.out _) 0).trans rfl, (blk_cell (blk_alloc BK435.out _) 1).trans rfl, (blk_cell (blk_alloc BK435.out _) 2).trans rfl⟩ fun hHeld => nz ?_
    clear hK K
    refine on 22 (some 35) HT_ fun K hK => ?_
    refine Kd.R_append_step (Kd.int .i64) (w0 := w) w.heap.size (by rfl) (.tmp 13) (.tmp 34) 23 3 (.int .i64 0) 8 rfl Try.underlying23 info3 rfl (by decide) (by omega) u3 x3_1 (wrap64 ((wrap64 (t436 * t437)) * t438)) [.int .i64 (wrap64 ((wrap64 (t436 * t437)) * t438))] (fun _ => True) (fun _ => False) rfl rfl ?aP (fun _ hk => hk.elim) ?aF ?aO ?aB ?aS ?aL ?_
    (case aP => exact rfl)
    (case aB => exact (by repeat (first | (with_reducible first | exact HB.out | apply below_alloc | apply pw_below_drewN | apply below_drew1 | refine below_set ?_ GE427.out | refine below_set ?_ GE435.out) | exact HB.out)))
    (case aF => exact (fun _ _ => trivial))
    (case aO => exact (wR HO_3))
    (case aS => exact (below_size (by repeat (first | (with_reducible first | exact HB.out | apply below_alloc | apply pw_below_drewN | apply below_drew1 | refine below_set ?_ GE427.out | refine below_set ?_ GE435.out) | exact HB.out))))
    (case aL => have := LMc14.out; omega)
    intro v440 w20 ho hb hg hat
    rw [← Ny439.out] at ho
    have n0_ := am (Kd.R_over' (wR HO_7) (Kd.R_typed (wR HO_3)) (by decide) hg)
    have n1_ := am (blk_grown (g := gb427) (o := .cells #[.int .i64 a0_0, .int .i64 a0_1, .int .i64 a0_2] 43 (0, 0)) (by (with_reducible repeat (first | refine blk_drewN ?_ _ | refine blk_drew ?_ | refine blk_alloc ?_ _)); exact BK427.out) hg (Kd.R_ne HO_3.out BK427.out (by decide)))
    have n2_ := am (blk_grown (g := gb435) (o := .cells #[.int .i64 ((rd_T41 t431 x9_1).f0), .int .i64 ((rd_T41 t431 x9_1).f1), .int .i64 ((rd_T41 t431 x9_1).f2)] 41 (0, 0)) (by (with_reducible repeat (first | refine blk_drewN ?_ _ | refine blk_drew ?_ | refine blk_alloc ?_ _)); exact BK435.out) hg (Kd.R_ne HO_3.out BK435.out (by decide)))
    have n3_ := am (hb)
    have n4_ := am (ho)
    clear HO_7; clear BK427; clear BK435; clear HB; clear HO_3
    have HO_7 := n0_
    have BK427 := n1_
    have BK435 := n2_
    have HB := n3_
    have HO441 := n4_
    clear n0_ n1_ n2_ n3_ n4_; clear ho hb hg hat
    refine hK.out _ _ ⟨(blk_cell BK427.out 0).trans rfl, (blk_cell BK427.out 1).trans rfl, (blk_cell BK427.out 2).trans rfl, (blk_cell BK435.out 0).trans rfl, (blk_cell BK435.out 1).trans rfl, (blk_cell BK435.out 2).trans rfl⟩ fun hHeld => nz ?_
    clear hK K; refine pz 23 3 HT_ ?_
    refine done_ (done_of HT_.out (by kernel_rfl)) ?_
    try go_wp2
    go_roundg k1
    case measure => have := HK1.out; omega
    case rel => exact ⟨(y439), (wrap64 (x9_1 + 1)), fr, H', ⟨by have := HK1.out; omega⟩, ⟨wR HO441⟩, ⟨Kd.R_below (Kd.R_mono HO_7.out (fun _ hk => trivial)) gs⟩, ⟨by (with_reducible repeat (first | refine blk_drewN ?_ _ | refine blk_drew ?_ | refine blk_alloc ?_ _)); exact BK427.out⟩, ⟨by repeat (first | (with_reducible first | exact HB.out | apply below_alloc | apply pw_below_drewN | apply below_drew1 | refine below_set ?_ GE427.out | refine below_set ?_ GE435.out) | exact HB.out)⟩⟩
   ·rw [if_neg c8] at H
    have c8b0 := decide_eq_false c8; clear c8; obtain rfl := Option.some.inj H; go_wp2; go_ret
    exact ⟨_, fq, wR HO_3, by repeat (first | (with_reducible first | exact HB.out | apply below_alloc | apply pw_below_drewN | apply below_drew1 | refine below_set ?_ GE427.out) | exact HB.out)⟩/-! ### impl_baseOf: function 67 -/
def impl_baseOf.l0 : Nat → Int → List (List Int) → List (S43) → Int → Int → Option ((List (List Int)))
 | 0, _, _, _, _, _ => none
 | k + 1, x0, x5, x9, x10, x11 => if x11 < x10 then (if 0 ≤ x11 then (if x11 < (x9.length : Int) then ((impl_cubes.f k ((rd_T43 x9 x11).f0.f0) ((rd_T43 x9 x11).f0.f1) ((rd_T43 x9 x11).f0.f2)).bind fun t447 => (if x5.length < 5864062014805 then (impl_baseOf.l0 k x0 (x5 ++ [t447]) x9 x10 (wrap64 (x11 + 1))) else (none))) else (none)) else (none)) else ((impl_solutions.f k x0 x5 10).bind fun t453 => (some t453))
def impl_baseOf.f (k : Nat) (a0 : Int) (l1 : List (S43)) : Option ((List (List Int))) := impl_baseOf.l0 k a0 (([] : List (List Int))) l1 (l1.length : Int) 0
theorem impl_baseOf.mono_l : ∀ k, (∀ y0 y1 y2 y3 y4, LeO (impl_baseOf.l0 k y0 y1 y2 y3 y4) (impl_baseOf.l0 (k + 1) y0 y1 y2 y3 y4))
 | 0 => fun _ _ _ _ _ r h => by simp [impl_baseOf.l0] at h
 | k + 1 => by
  have ih0 := impl_baseOf.mono_l k
  ·intro y0 y1 y2 y3 y4
   unfold impl_baseOf.l0
   repeat' first | (with_reducible first | apply ih0 | apply impl_cubes.mono | apply impl_solutions.mono | exact LeO.refl _ | exact LeO.none _ | refine LeO.ite ?_ ?_ | refine LeO.bind ?_ (fun _ => ?_)) | (first | apply ih0 | apply impl_cubes.mono | apply impl_solutions.mono | exact LeO.none _ | refine LeO.ite ?_ ?_ | refine LeO.bind ?_ (fun _ => ?_))
theorem impl_baseOf.mono : ∀ a0 a1 k, LeO (impl_baseOf.f k a0 a1) (impl_baseOf.f (k + 1) a0 a1) := by
 intro a0 a1 k
 have ih0 := impl_baseOf.mono_l k
 unfold impl_baseOf.f
 repeat' first | (with_reducible first | apply ih0 | apply impl_cubes.mono | apply impl_solutions.mono | exact LeO.refl _ | exact LeO.none _ | refine LeO.ite ?_ ?_ | refine LeO.bind ?_ (fun _ => ?_)) | (first | apply ih0 | apply impl_cubes.mono | apply impl_solutions.mono | exact LeO.none _ | refine LeO.ite ?_ ?_ | refine LeO.bind ?_ (fun _ => ?_))
set_option maxHeartbeats 8000000 in
set_option maxRecDepth 100000 in
theorem impl_baseOf.calls (k : Nat) (a0 : Int) (A1 : Option Addr) (c1 : Nat) (l1 : List (S43)) (r : List (List Int)) (w : World) (hr1 : Kd.C k43 w A1 l1.length l1) (hc1 : l1.length ≤ c1) (h : impl_baseOf.f k a0 l1 = some r) :
  Calls Try.prog 67 #[.int .i64 a0, .slice A1 l1.length c1] w fun e w' => ∃ v0_ : Value, e = .returned (v0_) ∧ Kd.S (Kd.slice 3 (Kd.int .i64)) 23 w' w.heap.size (fun _ => True) v0_ r ∧ Below w.heap.size w w' := by
 have hu43 := Try.underlying43
 have HR1 := am hr1
 have HC1 := am hc1
 clear hr1 hc1
 have HB := am (Below.refl w.heap.size w)
 have H : (impl_baseOf.l0 k a0 (([] : List (List Int))) l1 (l1.length : Int) 0) = some r := h
 clear h
 generalize hy442 : (([] : List (List Int))) = y442 at H
 have Ny442 := am hy442.symm; clear hy442; have H' := am H; clear H
 go_enter Try.func67, Try.ntmps67
 go_wp2_with (first | ((with_reducible refine gate_dst (N := 8) rfl ?_); refine Kd.S_lit (Kd.slice 3 (Kd.int .i64)) _ 23 ?hg (N := 8) ?hd (xs := ([] : List (List Int))) (inner := []) (ok := fun _ => True) (okp := fun _ => True) ?hr ?hp (fun _ hk => hk) trivial (Below.refl _ _) (Nat.le_refl _) (by simp) ?_; (case hd => rfl); (case hg => rfl); (case hr => first | (go_simp; done) | (go_simp; rfl)); (case hp => exact (Reps.none _ _)); intro v443 w3 ho4 hb hg_ hnew_; clear hg_ hnew_; (first | rw [← Ny442.out] at ho4 | (simp only [Int.reduceToNat] at ho4; rw [← Ny442.out] at ho4)); have HO444 := am (Kd.S_lower ho4 (bz HB)); replace HB := bq HB hb; clear hb ho4))
 go_loopg [5, 11] k (fun kq v5 v11 w' => ∃ (x5_1 : List (List Int)) (x11_1 : Int), v11 = .int .i64 x11_1 ∧ Aside0 (impl_baseOf.l0 kq a0 x5_1 l1 (l1.length : Int) x11_1 = some r) ∧ Aside0 (kq ≤ k) ∧ Aside0 (Kd.S (Kd.slice 3 (Kd.int .i64)) 23 w' w.heap.size (fun _ => True) v5 x5_1) ∧ Aside0 (Below w.heap.size w w'))
 case atStart => exact ⟨(y442), (0), fr, H', ⟨Nat.le_refl _⟩, ⟨wS HO444⟩, ⟨bw HB⟩⟩
 case round =>
  clear H'; try clear c1; try clear p2
  obtain ⟨x5_1, x11_1, rfl, HA, HK1, HO_5, HB⟩ := hrel
  cases gk with
  | zero => exact absurd HA.out (by simp [impl_baseOf.l0])
  | succ k1 =>
   have H := HA.out; clear HA
   simp only [impl_baseOf.l0] at H
   by_cases c5 : x11_1 < (l1.length : Int)
   ·rw [if_pos c5] at H
    have c5b0 := decide_eq_true c5; clear c5; replace H := ifn H; obtain ⟨c6, H⟩ := H; have c6b0 := decide_eq_true c6; clear c6; replace H := ifn H; obtain ⟨c7, H⟩ := H; have c7b0 := decide_eq_true c7; clear c7; replace H := bs H; obtain ⟨t447, A8, H⟩ := H
    replace H := ifn H; obtain ⟨c9, H⟩ := H; have LMc9 := am c9; clear c9
    generalize hy450 : (x5_1 ++ [t447] : List (List Int)) = y450 at H
    have Ny450 := am hy450.symm; clear hy450; have H' := am H; clear H
    have p445 : 0 ≤ (x11_1 : Int) := od
    have q445 : x11_1 < (l1.length : Int) := od
    obtain ⟨ad445, e445, hx445_0, hx445_1, hx445_2⟩ := at_T43 HR1.out x11_1 p445 q445
    cases e445
    replace hx445_0 := wcl HB hx445_0
    replace hx445_1 := wcl HB hx445_1
    replace hx445_2 := wcl HB hx445_2
    replace p445 := eq_true p445; replace q445 := eq_true q445
    go_wp2_with (first | ((with_reducible refine gate_dst (N := 7) rfl ?_); refine box_event ?hg (N := 7) ?hd (cs := #[.int .i64 0, .int .i64 0, .int .i64 0]) (t := 43) ?hr ?_; (case hd => rfl); (case hg => rfl); (case hr => first | (go_simp; done) | (go_simp; rfl)); intro gb446 hg w10 hbox hb; have n0_ := am (Kd.S_below (wS HO_5) hb); have n1_ := bq HB hb; have n2_ := am (hbox); have n3_ := am ((by rw [hg]; exact (bz HB) : w.heap.size ≤ gb446)); have n4_ := am ((by rw [hg]; exact (bz HB) : w.heap.size ≤ gb446)); clear HO_5; clear HB; have HO_5 := n0_; have HB := n1_; have BK446 := n2_; have GW446 := n3_; have GE446 := n4_; clear n0_ n1_ n2_ n3_ n4_; clear hb hbox hg; have hcz11_0 : w10.cell? ⟨gb446, 0, none⟩ = some (.int .i64 0) := (blk_cell BK446.out 0).trans rfl; have hcz11_1 : w10.cell? ⟨gb446, 1, none⟩ = some (.int .i64 0) := (blk_cell BK446.out 1).trans rfl; have hcz11_2 : w10.cell? ⟨gb446, 2, none⟩ = some (.int .i64 0) := (blk_cell BK446.out 2).trans rfl; have hfz11_0 := blk_frozen BK446.out 0; have hfz11_1 := blk_frozen BK446.out 1; have hfz11_2 := blk_frozen BK446.out 2) | ((with_reducible refine gate_callee (f := 82) rfl ?_); refine gl 17 Try.func82 #[.agg #[.int .i64 ((rd_T43 l1 x11_1).f0.f0), .int .i64 ((rd_T43 l1 x11_1).f0.f1), .int .i64 ((rd_T43 l1 x11_1).f0.f2)]] ?_; (with_reducible refine (impl_cubes.calls k1 ((rd_T43 l1 x11_1).f0.f0) ((rd_T43 l1 x11_1).f0.f1) ((rd_T43 l1 x11_1).f0.f2) t447 _ A8.out).mono ?_); rintro e w12 ⟨v448, rfl, ho0, hb⟩; refine ⟨_, rfl, ?_⟩; have n0_ := am (Kd.S_elder' (by (with_reducible repeat (first | apply Kd.S_alloc | apply Kd.S_drewN | apply Kd.S_drew)); exact (Kd.S_mono (Kd.S_far (p := ⟨gb446, 2, none⟩) (Kd.S_far (p := ⟨gb446, 1, none⟩) (Kd.S_far (p := ⟨gb446, 0, none⟩) (Kd.S_types HO_5.out BK446.out (by decide)) (fun _ hk => hk.2) (.int .i64 ((rd_T43 l1 x11_1).f0.f0))) (fun _ hk => hk.2) (.int .i64 ((rd_T43 l1 x11_1).f0.f1))) (fun _ hk => hk.2) (.int .i64 ((rd_T43 l1 x11_1).f0.f2))) (fun _ h_ => h_.1))) (Kd.R_base ho0) hb); have n1_ := am (Kd.R_lower ho0 (below_size (by repeat (first | (with_reducible first | exact HB.out | apply below_alloc | apply pw_below_drewN | apply below_drew1 | refine below_set ?_ GE446.out) | exact HB.out)))); have n2_ := am (blk_below (g := gb446) (o := .cells #[.int .i64 ((rd_T43 l1 x11_1).f0.f0), .int .i64 ((rd_T43 l1 x11_1).f0.f1), .int .i64 ((rd_T43 l1 x11_1).f0.f2)] 43 (0, 0)) (by (with_reducible repeat (first | refine blk_drewN ?_ _ | refine blk_drew ?_ | refine blk_alloc ?_ _)); refine blk_put (cs := #[.int .i64 ((rd_T43 l1 x11_1).f0.f0), .int .i64 ((rd_T43 l1 x11_1).f0.f1), .int .i64 0]) ?_ 2 _ rfl; (with_reducible repeat (first | refine blk_drewN ?_ _ | refine blk_drew ?_ | refine blk_alloc ?_ _)); refine blk_put (cs := #[.int .i64 ((rd_T43 l1 x11_1).f0.f0), .int .i64 0, .int .i64 0]) ?_ 1 _ rfl; (with_reducible repeat (first | refine blk_drewN ?_ _ | refine blk_drew ?_ | refine blk_alloc ?_ _)); refine blk_put (cs := #[.int .i64 0, .int .i64 0, .int .i64 0]) ?_ 0 _ rfl; (with_reducible repeat (first | refine blk_drewN ?_ _ | refine blk_drew ?_ | refine blk_alloc ?_ _)); exact BK446.out) hb); have n3_ := am (below_step (by repeat (first | (with_reducible first | exact HB.out | apply below_alloc | apply pw_below_drewN | apply below_drew1 | refine below_set ?_ GE446.out) | exact HB.out)) hb); clear HO_5; clear BK446; clear HB; have HO_5 := n0_; have HO449 := n1_; have BK446 := n2_; have HB := n3_; clear n0_ n1_ n2_ n3_; (try clear hb); (try clear ho0); obtain ⟨Ao14, co14, eo14⟩ := Kd.R_slice HO449.out; subst eo14) | ((with_reducible refine gate_builtin (b := .append) (xs := #[.tmp 15, .tmp 18]) rfl ?_); at_builtin; refine Kd.S_append (Kd.slice 3 (Kd.int .i64)) (w0 := w) w.heap.size rfl (.tmp 15) (.tmp 18) 47 23 (.slice none 0 0) 24 rfl Try.underlying47 info23 rfl (by decide) (by omega) u5 x5_1 t447 [.slice Ao14 t447.length co14] (fun _ => True) (fun k_ => some k_ = (.slice Ao14 t447.length co14 : Value).ownBlock) rfl rfl ?aP (fun k_ hk_ => ((Kd.R_mono (ok' := fun k_ => ((fun _ => True)) k_ ∧ some k_ ≠ (u5 : Value).ownBlock) (Kd.R_apart' (HO449.out) (Kd.S_typed HO_5.out) (by decide)) (fun k_ hk => ⟨trivial, hk.2⟩))).1 k_ hk_.symm) ?aF ?aO ?aB ?aS ?aL ?_; (case aP => exact Kd.M_row (Kd.R_mono (Kd.R_tight rfl (Kd.R_mono (ok' := fun k_ => ((fun _ => True)) k_ ∧ some k_ ≠ (u5 : Value).ownBlock) (Kd.R_apart' (HO449.out) (Kd.S_typed HO_5.out) (by decide)) (fun k_ hk => ⟨trivial, hk.2⟩))) (fun _ h_ => h_))); (case aB => exact (by repeat (first | (with_reducible first | exact HB.out | apply below_alloc | apply pw_below_drewN | apply below_drew1 | refine below_set ?_ GE446.out) | exact HB.out))); (case aF => exact (fun _ _ => trivial)); (case aO => exact (by (with_reducible repeat (first | apply Kd.S_alloc | apply Kd.S_drewN | apply Kd.S_drew)); exact Kd.S_mono HO_5.out (fun k_ hk => ⟨trivial, fun e_ => hk.2 e_⟩))); (case aS => exact (below_size (by repeat (first | (with_reducible first | exact HB.out | apply below_alloc | apply pw_below_drewN | apply below_drew1 | refine below_set ?_ GE446.out) | exact HB.out)))); (case aL => have := LMc9.out; omega); intro v451 w13 ho hb hg hat; rw [← Ny450.out] at ho; have n0_ := am (blk_grown (g := gb446) (o := .cells #[.int .i64 ((rd_T43 l1 x11_1).f0.f0), .int .i64 ((rd_T43 l1 x11_1).f0.f1), .int .i64 ((rd_T43 l1 x11_1).f0.f2)] 43 (0, 0)) (by (with_reducible repeat (first | refine blk_drewN ?_ _ | refine blk_drew ?_ | refine blk_alloc ?_ _)); exact BK446.out) hg (Kd.S_ne HO_5.out BK446.out (by decide))); have n1_ := am (hb); have n2_ := am (ho); clear BK446; clear HB; clear HO_5; clear HO449; have BK446 := n0_; have HB := n1_; have HO452 := n2_; clear n0_ n1_ n2_; clear ho hb hg hat))
    go_roundg k1
    case measure => have := HK1.out; omega
    case rel => exact ⟨(y450), (wrap64 (x11_1 + 1)), fr, H', ⟨by have := HK1.out; omega⟩, ⟨wS HO452⟩, ⟨by repeat (first | (with_reducible first | exact HB.out | apply below_alloc | apply pw_below_drewN | apply below_drew1 | refine below_set ?_ GE446.out) | exact HB.out)⟩⟩
   ·rw [if_neg c5] at H
    have c5b0 := decide_eq_false c5; clear c5; replace H := bs H; obtain ⟨t453, A15, H⟩ := H; obtain rfl := Option.some.inj H
    obtain ⟨Ao16, co16, eo16⟩ := Kd.S_slice HO_5.out
    subst eo16
    go_wp2_with (first | ((with_reducible refine gate_callee (f := 112) rfl ?_); refine gl 23 Try.func112 #[.int .i64 a0, .slice Ao16 x5_1.length co16, .int .i64 10] ?_; (with_reducible refine (impl_solutions.calls k1 a0 _ _ x5_1 10 t453 _ ?_ ?_ A15.out).mono ?_); exact Kd.C_below (Kd.S_reads' HO_5.out).2.2 gs; exact (Kd.S_reads' HO_5.out).2.1; rintro e w17 ⟨v454, rfl, ho0, hb⟩; refine ⟨_, rfl, ?_⟩; have HO455 := am (Kd.S_lower (Kd.S_new' ho0 (Kd.S_lt (wS HO_5))) (bz HB)); replace HO_5 := eS HO_5 (Kd.S_base ho0) hb; replace HB := bq HB hb; (try clear hb); (try clear ho0)))
    go_ret
    exact ⟨_, fq, Kd.S_below (Kd.S_mono HO455.out (fun _ hk => trivial)) gs, bw HB⟩/-! ### impl_SurfaceOf: function 22 -/
def impl_SurfaceOf.f (k : Nat) (a0 : Int) (l1 : List (S43)) : Option (List Int × Bool) := (impl_areGeneral.f k a0 l1).bind fun t456 => (if t456 = true then ((impl_baseOf.f k a0 l1).bind fun t457 => ((impl_surfaceOf.f k a0 t457).bind fun t460 => (some (t460, true)))) else (some (([] : List Int), false)))
theorem impl_SurfaceOf.mono : ∀ a0 a1 k, LeO (impl_SurfaceOf.f k a0 a1) (impl_SurfaceOf.f (k + 1) a0 a1) := by
 intro a0 a1 k
 unfold impl_SurfaceOf.f
 repeat' first | (with_reducible first | apply impl_areGeneral.mono | apply impl_baseOf.mono | apply impl_surfaceOf.mono | exact LeO.refl _ | exact LeO.none _ | refine LeO.ite ?_ ?_ | refine LeO.bind ?_ (fun _ => ?_)) | (first | apply impl_areGeneral.mono | apply impl_baseOf.mono | apply impl_surfaceOf.mono | exact LeO.none _ | refine LeO.ite ?_ ?_ | refine LeO.bind ?_ (fun _ => ?_))
set_option maxHeartbeats 8000000 in
set_option maxRecDepth 100000 in
theorem impl_SurfaceOf.calls (k : Nat) (a0 : Int) (A1 : Option Addr) (c1 : Nat) (l1 : List (S43)) (r1 : List Int) (r2 : Bool) (w : World) (hr1 : Kd.C k43 w A1 l1.length l1) (hc1 : l1.length ≤ c1) (h : impl_SurfaceOf.f k a0 l1 = some (r1, r2)) :
  Calls Try.prog 22 #[.int .i64 a0, .slice A1 l1.length c1] w fun e w' => ∃ v0_ : Value, e = .returned (.tuple #[v0_, .bool r2]) ∧ Kd.R (Kd.int .i64) 3 w' w.heap.size (fun _ => True) v0_ r1 ∧ Below w.heap.size w w' := by
 have HR1 := am hr1
 have HC1 := am hc1
 clear hr1 hc1
 have HB := am (Below.refl w.heap.size w)
 have H : ((impl_areGeneral.f k a0 l1).bind fun t456 => (if t456 = true then ((impl_baseOf.f k a0 l1).bind fun t457 => ((impl_surfaceOf.f k a0 t457).bind fun t460 => (some (t460, true)))) else (some (([] : List Int), false)))) = some (r1, r2) := h
 clear h; replace H := bs H; obtain ⟨t456, A3, H⟩ := H
 by_cases c4 : t456 = true
 ·subst c4
  rw [if_pos rfl] at H
  replace H := bs H; obtain ⟨t457, A5, H⟩ := H; replace H := bs H; obtain ⟨t460, A6, H⟩ := H
  simp only [Option.some.injEq, Prod.mk.injEq] at H
  obtain ⟨rfl, rfl⟩ := H
  go_enter Try.func22, Try.ntmps22
  go_wp2_with (first | ((with_reducible refine gate_callee (f := 65) rfl ?_); refine gl 8 Try.func65 #[.int .i64 a0, .slice A1 l1.length c1] ?_; (with_reducible refine (impl_areGeneral.calls k a0 _ _ l1 true _ ?_ ?_ A3.out).mono ?_); exact wC HR1; exact HC1.out; rintro e w7 ⟨rfl, hb⟩; refine ⟨_, rfl, ?_⟩; replace HB := bq HB hb; (try clear hb)) | ((with_reducible refine gate_callee (f := 67) rfl ?_); refine gl 13 Try.func67 #[.int .i64 a0, .slice A1 l1.length c1] ?_; (with_reducible refine (impl_baseOf.calls k a0 _ _ l1 t457 _ ?_ ?_ A5.out).mono ?_); exact Kd.C_below HR1.out (bw HB); exact HC1.out; rintro e w8 ⟨v458, rfl, ho0, hb⟩; refine ⟨_, rfl, ?_⟩; have HO459 := am (Kd.S_lower ho0 (bz HB)); replace HB := bq HB hb; (try clear hb); (try clear ho0); obtain ⟨Ao9, co9, eo9⟩ := Kd.S_slice HO459.out; subst eo9) | ((with_reducible refine gate_callee (f := 66) rfl ?_); refine gl 14 Try.func66 #[.int .i64 a0, .slice Ao9 t457.length co9] ?_; (with_reducible refine (impl_surfaceOf.calls k a0 _ _ t457 t460 _ ?_ ?_ A6.out).mono ?_); exact Kd.C_below (Kd.S_reads' HO459.out).2.2 gs; exact (Kd.S_reads' HO459.out).2.1; rintro e w10 ⟨v461, rfl, ho0, hb⟩; refine ⟨_, rfl, ?_⟩; replace HO459 := eS HO459 (Kd.R_base ho0) hb; have HO462 := am (Kd.R_lower ho0 (bz HB)); replace HB := bq HB hb; (try clear hb); (try clear ho0)))
  go_ret2
  exact ⟨_, fq, wR HO462, bw HB⟩
 ·replace c4 := Bool.eq_false_iff.mpr c4
  subst c4
  rw [if_neg (show ¬ (false = true) by decide)] at H
  simp only [Option.some.injEq, Prod.mk.injEq] at H
  obtain ⟨rfl, rfl⟩ := H
  go_enter Try.func22, Try.ntmps22
  go_wp2_with (first | ((with_reducible refine gate_callee (f := 65) rfl ?_); refine gl 8 Try.func65 #[.int .i64 a0, .slice A1 l1.length c1] ?_; (with_reducible refine (impl_areGeneral.calls k a0 _ _ l1 false _ ?_ ?_ A3.out).mono ?_); exact wC HR1; exact HC1.out; rintro e w11 ⟨rfl, hb⟩; refine ⟨_, rfl, ?_⟩; replace HB := bq HB hb; (try clear hb)))
  go_ret2
  exact ⟨_, fq, by first | exact Kd.R_nil _ _ _ _ _ | exact Kd.N_nil _ _ _ _ _ | exact Kd.V_nil _ _ _ _ _ | exact Kd.Q_nil _ _ _ _ _ | exact Kd.S_nil _ _ _ _ _, bw HB⟩/-! ### laws_eqIntS: function 23 -/
def laws_eqIntS.l0 : Nat → List Int → List Int → Int → Option (Bool)
 | 0, _, _, _ => none
 | k + 1, x0, x1, x5 => if x5 < (x0.length : Int) then (if 0 ≤ x5 then (if x5 < (x1.length : Int) then (if (rd x0 x5) = (rd x1 x5) then (laws_eqIntS.l0 k x0 x1 (wrap64 (x5 + 1))) else (some false)) else (none)) else (none)) else (some true)
def laws_eqIntS.f (k : Nat) (l0 : List Int) (l1 : List Int) : Option (Bool) := if (l0.length : Int) = (l1.length : Int) then (laws_eqIntS.l0 k l0 l1 0) else (some false)
theorem laws_eqIntS.mono_l : ∀ k, (∀ y0 y1 y2, LeO (laws_eqIntS.l0 k y0 y1 y2) (laws_eqIntS.l0 (k + 1) y0 y1 y2))
 | 0 => fun _ _ _ r h => by simp [laws_eqIntS.l0] at h
 | k + 1 => by
  have ih0 := laws_eqIntS.mono_l k
  ·intro y0 y1 y2
   unfold laws_eqIntS.l0
   repeat' first | (with_reducible first | apply ih0 | exact LeO.refl _ | exact LeO.none _ | refine LeO.ite ?_ ?_ | refine LeO.bind ?_ (fun _ => ?_)) | (first | apply ih0 | exact LeO.none _ | refine LeO.ite ?_ ?_ | refine LeO.bind ?_ (fun _ => ?_))
theorem laws_eqIntS.mono : ∀ a0 a1 k, LeO (laws_eqIntS.f k a0 a1) (laws_eqIntS.f (k + 1) a0 a1) := by
 intro a0 a1 k
 have ih0 := laws_eqIntS.mono_l k
 unfold laws_eqIntS.f
 repeat' first | (with_reducible first | apply ih0 | exact LeO.refl _ | exact LeO.none _ | refine LeO.ite ?_ ?_ | refine LeO.bind ?_ (fun _ => ?_)) | (first | apply ih0 | exact LeO.none _ | refine LeO.ite ?_ ?_ | refine LeO.bind ?_ (fun _ => ?_))
set_option maxHeartbeats 8000000 in
set_option maxRecDepth 100000 in
theorem laws_eqIntS.calls (k : Nat) (A0 : Option Addr) (c0 : Nat) (l0 : List Int) (A1 : Option Addr) (c1 : Nat) (l1 : List Int) (r : Bool) (w : World) (hr0 : Kd.C (Kd.int .i64) w A0 l0.length l0) (hc0 : l0.length ≤ c0) (hr1 : Kd.C (Kd.int .i64) w A1 l1.length l1) (hc1 : l1.length ≤ c1) (h : laws_eqIntS.f k l0 l1 = some r) :
  Calls Try.prog 23 #[.slice A0 l0.length c0, .slice A1 l1.length c1] w fun e w' => e = .returned (.bool r) ∧ Drawn0 w w' := by
 have HR0 := am hr0
 have HC0 := am hc0
 clear hr0 hc0
 have HR1 := am hr1
 have HC1 := am hc1
 clear hr1 hc1
 have H : (if (l0.length : Int) = (l1.length : Int) then (laws_eqIntS.l0 k l0 l1 0) else (some false)) = some r := h
 clear h
 by_cases c3 : (l0.length : Int) = (l1.length : Int)
 ·rw [if_pos c3] at H
  have c3b0 := beq_iff_eq.mpr c3; have c3b1 := bne_eq_false_iff_eq.mpr c3
  have c3b2 : (l0.length == l1.length) = true := by first | simpa using c3 | (simp at c3 ⊢; omega)
  clear c3; have H' := am H; clear H
  go_enter Try.func23, Try.ntmps23
  go_wp2
  repeat (go_quiet (fail); try go_wp2)
  go_loopg [5] k (fun kq v5 w' => ∃ (x5_1 : Int), v5 = .int .i64 x5_1 ∧ Aside0 (laws_eqIntS.l0 kq l0 l1 x5_1 = some r) ∧ Aside0 (kq ≤ k) ∧ Drawn0 w w')
  case atStart => exact ⟨(0), fr, H', ⟨Nat.le_refl _⟩, df⟩
  case round =>
   clear H'; try clear c1; try clear c2; try clear p2; try clear c3; try clear c3b0; try clear c3b1; try clear c3b2
   obtain ⟨x5_1, rfl, HA, HK1, ⟨m1, rfl⟩⟩ := hrel
   cases gk with
   | zero => exact absurd HA.out (by simp [laws_eqIntS.l0])
   | succ k1 =>
    have H := HA.out; clear HA
    simp only [laws_eqIntS.l0] at H
    by_cases c4 : x5_1 < (l0.length : Int)
    ·rw [if_pos c4] at H
     have c4b0 := decide_eq_true c4; clear c4; replace H := ifn H; obtain ⟨c5, H⟩ := H; have c5b0 := decide_eq_true c5; clear c5; replace H := ifn H; obtain ⟨c6, H⟩ := H; have c6b0 := decide_eq_true c6; clear c6
     by_cases c7 : (rd l0 x5_1) = (rd l1 x5_1)
     ·rw [if_pos c7] at H
      have c7b0 := beq_iff_eq.mpr c7; have c7b1 := bne_eq_false_iff_eq.mpr c7; clear c7; have H' := am H; clear H
      have p463 : 0 ≤ (x5_1 : Int) := od
      have q463 : x5_1 < (l0.length : Int) := od
      obtain ⟨ad463, e463, hx463_0⟩ := Kd.at_int HR0.out x5_1 p463 q463
      cases e463; replace p463 := eq_true p463; replace q463 := eq_true q463
      have p464 : 0 ≤ (x5_1 : Int) := od
      have q464 : x5_1 < (l1.length : Int) := od
      obtain ⟨ad464, e464, hx464_0⟩ := Kd.at_int HR1.out x5_1 p464 q464
      cases e464; replace p464 := eq_true p464; replace q464 := eq_true q464; go_wp2
      repeat (go_quiet (fail); try go_wp2)
      go_roundg k1
      case measure => have := HK1.out; omega
      case rel => exact ⟨(wrap64 (x5_1 + 1)), fr, H', ⟨by have := HK1.out; omega⟩, df⟩
     ·rw [if_neg c7] at H
      have c7b0 := beq_eq_false_iff_ne.mpr c7; have c7b1 := bne_iff_ne.mpr c7; obtain rfl := Option.some.inj H
      have p463 : 0 ≤ (x5_1 : Int) := od
      have q463 : x5_1 < (l0.length : Int) := od
      obtain ⟨ad463, e463, hx463_0⟩ := Kd.at_int HR0.out x5_1 p463 q463
      cases e463; replace p463 := eq_true p463; replace q463 := eq_true q463
      have p464 : 0 ≤ (x5_1 : Int) := od
      have q464 : x5_1 < (l1.length : Int) := od
      obtain ⟨ad464, e464, hx464_0⟩ := Kd.at_int HR1.out x5_1 p464 q464
      cases e464; replace p464 := eq_true p464; replace q464 := eq_true q464; go_wp2
      repeat (go_quiet (fail); try go_wp2)
      go_ret
      exact ⟨fr, df⟩
    ·rw [if_neg c4] at H
     have c4b0 := decide_eq_false c4; clear c4; obtain rfl := Option.some.inj H; go_wp2
     repeat (go_quiet (fail); try go_wp2)
     go_ret
     exact ⟨fr, df⟩
 ·rw [if_neg c3] at H
  have c3b0 := beq_eq_false_iff_ne.mpr c3; have c3b1 := bne_iff_ne.mpr c3
  have c3b2 : (l0.length == l1.length) = false := by first | simpa using c3 | (simp at c3 ⊢; omega)
  obtain rfl := Option.some.inj H
  go_enter Try.func23, Try.ntmps23
  go_wp2
  repeat (go_quiet (fail); try go_wp2)
  go_ret
  exact ⟨fr, df⟩
end Go.Proofs.Ytmgbpmihbljngaa.PA

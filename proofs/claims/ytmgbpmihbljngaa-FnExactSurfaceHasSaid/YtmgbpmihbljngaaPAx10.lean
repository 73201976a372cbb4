-- Written by xprint.py, a program of this claim's own (over the kit's print.py)
import Derived.Test.YtmgbpmihbljngaaPAx0
import Derived.Test.YtmgbpmihbljngaaPAx2
import Derived.Test.YtmgbpmihbljngaaPAx3
import Derived.Test.YtmgbpmihbljngaaPAx6
import Derived.Test.YtmgbpmihbljngaaPAx7
import Derived.Test.YtmgbpmihbljngaaPAx9
namespace Go.Proofs.Ytmgbpmihbljngaa.PA
open Go.RowKit Go.Proofs.YtmgbpmihbljngaaW.PrintWords Go.Proofs.YtmgbpmihbljngaaW.PrintLast Go.Proofs.YtmgbpmihbljngaaW.PrintMore
attribute [local go_sem] max2_int min2_int max_two min_two max_three min_three max_four min_four   -- for this text's walks alone
set_option linter.unusedVariables false
set_option linter.unusedSimpArgs false

/-! ### impl_cubes: function 82 -/
def impl_cubes.l0 : Nat → List Int → List (S41) → Int → Int → Int → Int → Int → Option (List Int)
 | 0, _, _, _, _, _, _, _ => none
 | k + 1, x3, x7, x8, x9, x204000, x204001, x204002 => if x9 < x8 then (if 0 ≤ x9 then (if x9 < (x7.length : Int) then ((impl_power.f k x204000 ((rd_T41 x7 x9).f0)).bind fun t212 => ((impl_power.f k x204001 ((rd_T41 x7 x9).f1)).bind fun t213 => ((impl_power.f k x204002 ((rd_T41 x7 x9).f2)).bind fun t214 => (if x3.length < 17592186044416 then (impl_cubes.l0 k (x3 ++ [wrap64 ((wrap64 (t212 * t213)) * t214)]) x7 x8 (wrap64 (x9 + 1)) x204000 x204001 x204002) else (none))))) else (none)) else (none)) else (some x3)
def impl_cubes.f (k : Nat) (a0_0 : Int) (a0_1 : Int) (a0_2 : Int) : Option (List Int) := (impl_exponents.f k).bind fun t207 => (impl_cubes.l0 k (([] : List Int)) t207 (t207.length : Int) 0 a0_0 a0_1 a0_2)
theorem impl_cubes.mono_l : ∀ k, (∀ y0 y1 y2 y3 y4 y5 y6, LeO (impl_cubes.l0 k y0 y1 y2 y3 y4 y5 y6) (impl_cubes.l0 (k + 1) y0 y1 y2 y3 y4 y5 y6))
 | 0 => fun _ _ _ _ _ _ _ r h => by simp [impl_cubes.l0] at h
 | k + 1 => by
  have ih0 := impl_cubes.mono_l k
  ·intro y0 y1 y2 y3 y4 y5 y6
   unfold impl_cubes.l0
   repeat' first | (with_reducible first | apply ih0 | apply impl_exponents.mono | apply impl_power.mono | exact LeO.refl _ | exact LeO.none _ | refine LeO.ite ?_ ?_ | refine LeO.bind ?_ (fun _ => ?_)) | (first | apply ih0 | apply impl_exponents.mono | apply impl_power.mono | exact LeO.none _ | refine LeO.ite ?_ ?_ | refine LeO.bind ?_ (fun _ => ?_))
theorem impl_cubes.mono : ∀ a0 a1 a2 k, LeO (impl_cubes.f k a0 a1 a2) (impl_cubes.f (k + 1) a0 a1 a2) := by
 intro a0 a1 a2 k
 have ih0 := impl_cubes.mono_l k
 unfold impl_cubes.f
 repeat' first | (with_reducible first | apply ih0 | apply impl_exponents.mono | apply impl_power.mono | exact LeO.refl _ | exact LeO.none _ | refine LeO.ite ?_ ?_ | refine LeO.bind ?_ (fun _ => ?_)) | (first | apply ih0 | apply impl_exponents.mono | apply impl_power.mono | exact LeO.none _ | refine LeO.ite ?_ ?_ | refine LeO.bind ?_ (fun _ => ?_))
def impl_cubes.T5 : Bool × List (List Nat × List Nat) := (true, [([], []), ([], []), ([1], [1]), ([2], [2]), ([], []), ([4], [4]), ([3, 5], [3, 5]), ([], []), ([7], [7]), ([8], [8]), ([], []), ([10], [10]), ([9, 11, 6], [9, 11]), ([6, 12], [6, 12]), ([], []), ([14], [14]), ([15], [15]), ([], []), ([17], [17]), ([16, 18, 12], [16, 18]), ([13, 19], [13, 19]), ([20], [20]), ([0, 21, 19], [0, 21]), ([22, 22, 0, 1, 2, 3, 4, 5, 6, 7, 8, 9, 10, 11, 12, 13, 14, 15, 16, 17, 18, 19, 20, 21, 22], [0, 22])])
def impl_cubes.B5 : List Nat := [0, 0, 2, 6, 0, 16, 62, 0, 128, 384, 0, 1024, 4094, 8190, 0, 16384, 49152, 0, 131072, 516094, 1048574, 2097150, 4194303, 8388607]
theorem impl_cubes.tab5 : rtab .any (opsOf Try.f82 5) = impl_cubes.T5 := by kernel_rfl
theorem impl_cubes.bits5 : waitsOk impl_cubes.T5.2 impl_cubes.B5 = true := by kernel_rfl
set_option maxHeartbeats 8000000 in
set_option maxRecDepth 100000 in
theorem impl_cubes.calls (k : Nat) (a0_0 : Int) (a0_1 : Int) (a0_2 : Int) (r : List Int) (w : World) (h : impl_cubes.f k a0_0 a0_1 a0_2 = some r) :
  Calls Try.prog 82 #[.agg #[.int .i64 a0_0, .int .i64 a0_1, .int .i64 a0_2]] w fun e w' => ∃ v0_ : Value, e = .returned (v0_) ∧ Kd.R (Kd.int .i64) 3 w' w.heap.size (fun _ => True) v0_ r ∧ Below w.heap.size w w' := by
 have hu43 := Try.underlying43
 have hu41 := Try.underlying41
 have HB := am (Below.refl w.heap.size w)
 have H : ((impl_exponents.f k).bind fun t207 => (impl_cubes.l0 k (([] : List Int)) t207 (t207.length : Int) 0 a0_0 a0_1 a0_2)) = some r := h
 clear h
 generalize hy204 : (([] : List Int)) = y204 at H
 have Ny204 := am hy204.symm; clear hy204; replace H := bs H; obtain ⟨t207, A2, H⟩ := H; have H' := am H; clear H
 go_enter Try.func82, Try.ntmps82
 go_wp2_with (first | ((with_reducible refine gate_dst (N := 1) rfl ?_); refine box_event ?hg (N := 1) ?hd (cs := #[.int .i64 a0_0, .int .i64 a0_1, .int .i64 a0_2]) (t := 43) ?hr ?_; (case hd => rfl); (case hg => rfl); (case hr => first | (go_simp; done) | (go_simp; rfl)); intro gb203 hg w3 hbox hb; have n0_ := bq HB hb; have n1_ := am (hbox); have n2_ := am ((by rw [hg]; exact (bz HB) : w.heap.size ≤ gb203)); have n3_ := am ((by rw [hg]; exact (bz HB) : w.heap.size ≤ gb203)); clear HB; have HB := n0_; have BK203 := n1_; have GW203 := n2_; have GE203 := n3_; clear n0_ n1_ n2_ n3_; clear hb hbox hg) | ((with_reducible refine gate_dst (N := 6) rfl ?_); refine li 3 ([] : List Int) ?_; intro v205 w4 ho5 hb; (first | rw [← Ny204.out] at ho5 | (simp only [Int.reduceToNat] at ho5; rw [← Ny204.out] at ho5)); have n0_ := am (Kd.R_lower ho5 (below_size (bx_ HB))); have n1_ := am (blk_below (g := gb203) (o := .cells #[.int .i64 a0_0, .int .i64 a0_1, .int .i64 a0_2] 43 (0, 0)) (pk_ BK203) hb); have n2_ := am (below_step (bx_ HB) hb); clear BK203; clear HB; have HO206 := n0_; have BK203 := n1_; have HB := n2_; clear n0_ n1_ n2_; clear hb ho5) | ((with_reducible refine gate_callee (f := 114) rfl ?_); refine gl 7 Try.func114 #[] ?_; (with_reducible refine (impl_exponents.calls k  t207 _ A2.out).mono ?_); rintro e w6 ⟨v208, rfl, ho0, hb⟩; refine ⟨_, rfl, ?_⟩; have n0_ := am (Kd.R_below (wR HO206) hb); have n1_ := am (Kd.R_lower ho0 (below_size (bx_ HB))); have n2_ := am (blk_below (g := gb203) (o := .cells #[.int .i64 a0_0, .int .i64 a0_1, .int .i64 a0_2] 43 (0, 0)) (pk_ BK203) hb); have n3_ := am (below_step (bx_ HB) hb); clear HO206; clear BK203; clear HB; have HO206 := n0_; have HO209 := n1_; have BK203 := n2_; have HB := n3_; clear n0_ n1_ n2_ n3_; (try clear hb); (try clear ho0); obtain ⟨Ao7, co7, eo7⟩ := Kd.R_slice HO209.out; subst eo7))
 go_loopg [3, 9] k (fun kq v3 v9 w' => ∃ (x3_1 : List Int) (x9_1 : Int), v9 = .int .i64 x9_1 ∧ Aside0 (impl_cubes.l0 kq x3_1 t207 (t207.length : Int) x9_1 a0_0 a0_1 a0_2 = some r) ∧ Aside0 (kq ≤ k) ∧ Aside0 (Kd.R (Kd.int .i64) 3 w' w.heap.size (fun _ => True) v3 x3_1) ∧ Aside0 (Kd.R k41 41 w' w.heap.size (fun _ => True) (.slice Ao7 t207.length co7) t207) ∧ Aside0 (w'.heap[gb203]? = some (.cells #[.int .i64 a0_0, .int .i64 a0_1, .int .i64 a0_2] 43 (0, 0))) ∧ Aside0 (Below w.heap.size w w'))
 case atStart => exact ⟨(y204), (0), fr, H', ⟨Nat.le_refl _⟩, ⟨wR HO206⟩, ⟨wR HO209⟩, ⟨by (with_reducible repeat (first | refine blk_drewN ?_ _ | refine blk_drew ?_ | refine blk_alloc ?_ _)); exact BK203.out⟩, ⟨bx_ HB⟩⟩
 case round =>
  clear H'; try clear c1; try clear p2
  obtain ⟨x3_1, x9_1, rfl, HA, HK1, HO_3, HO_7, BK203, HB⟩ := hrel
  cases gk with
  | zero => exact absurd HA.out (by simp [impl_cubes.l0])
  | succ k1 =>
   have H := HA.out; clear HA
   simp only [impl_cubes.l0] at H
   by_cases c8 : x9_1 < (t207.length : Int)
   ·rw [if_pos c8] at H
    have c8b0 := decide_eq_true c8; clear c8; replace H := ifn H; obtain ⟨c9, H⟩ := H; have c9b0 := decide_eq_true c9; clear c9; replace H := ifn H; obtain ⟨c10, H⟩ := H; have c10b0 := decide_eq_true c10; clear c10; replace H := bs H; obtain ⟨t212, A11, H⟩ := H
    replace H := bs H; obtain ⟨t213, A12, H⟩ := H; replace H := bs H; obtain ⟨t214, A13, H⟩ := H; replace H := ifn H; obtain ⟨c14, H⟩ := H; have LMc14 := am c14; clear c14
    generalize hy215 : (x3_1 ++ [wrap64 ((wrap64 (t212 * t213)) * t214)] : List Int) = y215 at H
    have Ny215 := am hy215.symm; clear hy215; have H' := am H; clear H
    have p210 : 0 ≤ (x9_1 : Int) := od
    have q210 : x9_1 < (t207.length : Int) := od
    obtain ⟨ad210, e210, hx210_0, hx210_1, hx210_2⟩ := at_T41 (Kd.R_reads' HO_7.out).2.2 x9_1 p210 q210
    cases e210; replace p210 := eq_true p210; replace q210 := eq_true q210
    try go_wp2_with (first | ((with_reducible refine gate_dst (N := 5) rfl ?_); refine box_event ?hg (N := 5) ?hd (cs := #[.int .i64 0, .int .i64 0, .int .i64 0]) (t := 41) ?hr ?_; (case hd => rfl); (case hg => rfl); (case hr => first | (go_simp; done) | (go_simp; rfl)); intro gb211 hg w15 hbox hb; have n0_ := am (Kd.R_below (wR HO_3) hb); have n1_ := am (Kd.R_below (Kd.R_elderB (wR HO_7) gb211 (Nat.le_of_eq hg.symm)) hb); have n2_ := am (blk_below (g := gb203) (o := .cells #[.int .i64 a0_0, .int .i64 a0_1, .int .i64 a0_2] 43 (0, 0)) (pk_ BK203) hb); have n3_ := am (below_step (bx_ HB) hb); have n4_ := am (hbox); have n5_ := am ((by rw [hg]; exact (below_size (bx_ HB)) : w.heap.size ≤ gb211)); have n6_ := am ((by rw [hg]; exact (below_size (bx_ HB)) : w.heap.size ≤ gb211)); have n7_ := am ((by rw [hg]; exact Nat.ne_of_lt (blk_lt (g := gb203) (o := .cells #[.int .i64 a0_0, .int .i64 a0_1, .int .i64 a0_2] 43 (0, 0)) (pk_ BK203)) : gb203 ≠ gb211)); have n8_ := am ((by rw [hg]; exact Nat.ne_of_gt (blk_lt (g := gb203) (o := .cells #[.int .i64 a0_0, .int .i64 a0_1, .int .i64 a0_2] 43 (0, 0)) (pk_ BK203)) : gb211 ≠ gb203)); clear HO_3; clear HO_7; clear BK203; clear HB; have HO_3 := n0_; have HO_7 := n1_; have BK203 := n2_; have HB := n3_; have BK211 := n4_; have GW211 := n5_; have GE211 := n6_; have NB203_211 := n7_; have NB211_203 := n8_; clear n0_ n1_ n2_ n3_ n4_ n5_ n6_ n7_ n8_; clear hb hbox hg; have hnb16 := NB211_203.out; have hnc16 := NB203_211.out; have hcz17_0 : w15.cell? ⟨gb211, 0, none⟩ = some (.int .i64 0) := (blk_cell BK211.out 0).trans rfl; have hcz17_1 : w15.cell? ⟨gb211, 1, none⟩ = some (.int .i64 0) := (blk_cell BK211.out 1).trans rfl; have hcz17_2 : w15.cell? ⟨gb211, 2, none⟩ = some (.int .i64 0) := (blk_cell BK211.out 2).trans rfl; have hfz17_0 := blk_frozen BK211.out 0; have hfz17_1 := blk_frozen BK211.out 1; have hfz17_2 := blk_frozen BK211.out 2))
    have n0_ : Aside0 (Kd.R (Kd.int .i64) 3 (((w15.setCell ⟨gb211, 0, none⟩ (.int .i64 ((rd_T41 t207 x9_1).f0))).setCell ⟨gb211, 1, none⟩ (.int .i64 ((rd_T41 t207 x9_1).f1))).setCell ⟨gb211, 2, none⟩ (.int .i64 ((rd_T41 t207 x9_1).f2))) w.heap.size (fun _ => True) u3 x3_1) := ⟨by (with_reducible repeat (first | apply Kd.R_alloc | apply Kd.R_drewN | apply Kd.R_drew)); exact Kd.R_mono (Kd.R_far (p := ⟨gb211, 2, none⟩) (Kd.R_far (p := ⟨gb211, 1, none⟩) (Kd.R_far (p := ⟨gb211, 0, none⟩) (Kd.R_types HO_3.out BK211.out (by decide)) (fun _ hk => hk.2) (.int .i64 ((rd_T41 t207 x9_1).f0))) (fun _ hk => hk.2) (.int .i64 ((rd_T41 t207 x9_1).f1))) (fun _ hk => hk.2) (.int .i64 ((rd_T41 t207 x9_1).f2))) (fun _ hk => trivial)⟩
    have n1_ : Aside0 (Kd.R k41 41 (((w15.setCell ⟨gb211, 0, none⟩ (.int .i64 ((rd_T41 t207 x9_1).f0))).setCell ⟨gb211, 1, none⟩ (.int .i64 ((rd_T41 t207 x9_1).f1))).setCell ⟨gb211, 2, none⟩ (.int .i64 ((rd_T41 t207 x9_1).f2))) w.heap.size (fun k_ => k_ ≠ gb211) (.slice (some ad210) t207.length co7) t207) := ⟨by (with_reducible repeat (first | apply Kd.R_alloc | apply Kd.R_drewN | apply Kd.R_drew)); exact Kd.R_mono (Kd.R_far (p := ⟨gb211, 2, none⟩) (Kd.R_far (p := ⟨gb211, 1, none⟩) (Kd.R_far (p := ⟨gb211, 0, none⟩) (Kd.R_mono HO_7.out (fun k_ hk => (⟨hk, hk.2⟩ : _ ∧ k_ ≠ gb211))) (fun _ hk => hk.2) (.int .i64 ((rd_T41 t207 x9_1).f0))) (fun _ hk => hk.2) (.int .i64 ((rd_T41 t207 x9_1).f1))) (fun _ hk => hk.2) (.int .i64 ((rd_T41 t207 x9_1).f2))) (fun _ hk => hk.1.2)⟩
    have n2_ : Aside0 ((((w15.setCell ⟨gb211, 0, none⟩ (.int .i64 ((rd_T41 t207 x9_1).f0))).setCell ⟨gb211, 1, none⟩ (.int .i64 ((rd_T41 t207 x9_1).f1))).setCell ⟨gb211, 2, none⟩ (.int .i64 ((rd_T41 t207 x9_1).f2))).heap[gb203]? = some (.cells #[.int .i64 a0_0, .int .i64 a0_1, .int .i64 a0_2] 43 (0, 0))) := ⟨by (with_reducible repeat (first | refine blk_drewN ?_ _ | refine blk_drew ?_ | refine blk_alloc ?_ _)); refine blk_far ?_ NB203_211.out _; (with_reducible repeat (first | refine blk_drewN ?_ _ | refine blk_drew ?_ | refine blk_alloc ?_ _)); refine blk_far ?_ NB203_211.out _; (with_reducible repeat (first | refine blk_drewN ?_ _ | refine blk_drew ?_ | refine blk_alloc ?_ _)); refine blk_far ?_ NB203_211.out _; (with_reducible repeat (first | refine blk_drewN ?_ _ | refine blk_drew ?_ | refine blk_alloc ?_ _)); exact BK203.out⟩
    have n3_ : Aside0 ((((w15.setCell ⟨gb211, 0, none⟩ (.int .i64 ((rd_T41 t207 x9_1).f0))).setCell ⟨gb211, 1, none⟩ (.int .i64 ((rd_T41 t207 x9_1).f1))).setCell ⟨gb211, 2, none⟩ (.int .i64 ((rd_T41 t207 x9_1).f2))).heap[gb211]? = some (.cells #[.int .i64 ((rd_T41 t207 x9_1).f0), .int .i64 ((rd_T41 t207 x9_1).f1), .int .i64 ((rd_T41 t207 x9_1).f2)] 41 (0, 0))) := ⟨by (with_reducible repeat (first | refine blk_drewN ?_ _ | refine blk_drew ?_ | refine blk_alloc ?_ _)); refine blk_put (cs := #[.int .i64 ((rd_T41 t207 x9_1).f0), .int .i64 ((rd_T41 t207 x9_1).f1), .int .i64 0]) ?_ 2 _ rfl; (with_reducible repeat (first | refine blk_drewN ?_ _ | refine blk_drew ?_ | refine blk_alloc ?_ _)); refine blk_put (cs := #[.int .i64 ((rd_T41 t207 x9_1).f0), .int .i64 0, .int .i64 0]) ?_ 1 _ rfl; (with_reducible repeat (first | refine blk_drewN ?_ _ | refine blk_drew ?_ | refine blk_alloc ?_ _)); refine blk_put (cs := #[.int .i64 0, .int .i64 0, .int .i64 0]) ?_ 0 _ rfl; (with_reducible repeat (first | refine blk_drewN ?_ _ | refine blk_drew ?_ | refine blk_alloc ?_ _)); exact BK211.out⟩
    have n4_ : Aside0 (Below w.heap.size w (((w15.setCell ⟨gb211, 0, none⟩ (.int .i64 ((rd_T41 t207 x9_1).f0))).setCell ⟨gb211, 1, none⟩ (.int .i64 ((rd_T41 t207 x9_1).f1))).setCell ⟨gb211, 2, none⟩ (.int .i64 ((rd_T41 t207 x9_1).f2)))) := ⟨bx_ HB⟩
    (try clear HO_3)
    (try clear HO_7)
    (try clear BK203)
    (try clear BK211)
    (try clear HB)
    generalize (((w15.setCell ⟨gb211, 0, none⟩ (.int .i64 ((rd_T41 t207 x9_1).f0))).setCell ⟨gb211, 1, none⟩ (.int .i64 ((rd_T41 t207 x9_1).f1))).setCell ⟨gb211, 2, none⟩ (.int .i64 ((rd_T41 t207 x9_1).f2))) = w18 at n0_ n1_ n2_ n3_ n4_ ⊢
    have HO_3 := n0_
    have HO_7 := n1_
    have BK203 := n2_
    have BK211 := n3_
    have HB := n4_
    clear n0_ n1_ n2_ n3_ n4_
    replace HO_3 := am (Kd.R_drew HO_3.out)
    replace HO_7 := am (Kd.R_drew HO_7.out)
    replace BK203 := am (blk_drew BK203.out)
    replace BK211 := am (blk_drew BK211.out)
    replace HB := am (below_drew1 HB.out)
    refine st 24 (fun w' => w'.cell? ⟨gb203, 0, none⟩ = some (.int .i64 a0_0) ∧ w'.cell? ⟨gb203, 1, none⟩ = some (.int .i64 a0_1) ∧ w'.cell? ⟨gb203, 2, none⟩ = some (.int .i64 a0_2) ∧ w'.cell? ⟨gb211, 0, none⟩ = some (.int .i64 ((rd_T41 t207 x9_1).f0)) ∧ w'.cell? ⟨gb211, 1, none⟩ = some (.int .i64 ((rd_T41 t207 x9_1).f1)) ∧ w'.cell? ⟨gb211, 2, none⟩ = some (.int .i64 ((rd_T41 t207 x9_1).f2))) [] impl_cubes.tab5 impl_cubes.bits5 (⟨(blk_cell BK203.out 0).trans rfl, (blk_cell BK203.out 1).trans rfl, (blk_cell BK203.out 2).trans rfl, (blk_cell BK211.out 0).trans rfl, (blk_cell BK211.out 1).trans rfl, (blk_cell BK211.out 2).trans rfl⟩) fun hHeld HT_ HW_ => ?_
    generalize w18.drew = w19 at HO_3 HO_7 BK203 BK211 HB hHeld ⊢
    refine pz 0 13 HT_ ?_; refine pz 1 14 HT_ ?_; refine pz 2 15 HT_ ?_; refine pz 4 17 HT_ ?_; refine pz 7 20 HT_ ?_; refine pz 8 21 HT_ ?_; refine pz 10 23 HT_ ?_; refine pz 14 27 HT_ ?_; refine pz 15 28 HT_ ?_; refine pz 17 30 HT_ ?_; refine tk 3 16 HT_ HW_ hHeld ?_
    refine tk 5 18 HT_ HW_ hHeld ?_; refine tk 9 22 HT_ HW_ hHeld ?_; refine tk 11 24 HT_ HW_ hHeld ?_; refine tk 16 29 HT_ HW_ hHeld ?_; refine tk 18 31 HT_ HW_ hHeld ?_
    refine on 6 (some 19) HT_ fun K hK => ?_
    refine gs_ Try.func102 #[.int .i64 a0_0, .int .i64 ((rd_T41 t207 x9_1).f0)] ?_
    with_reducible refine (impl_power.calls k1 a0_0 ((rd_T41 t207 x9_1).f0) t212 _ A11.out).mono ?_
    rintro e w' ⟨rfl, ⟨nd, rfl⟩⟩
    refine ⟨_, rfl, ?_⟩
    refine hK.out _ _ ⟨(blk_cell BK203.out 0).trans rfl, (blk_cell BK203.out 1).trans rfl, (blk_cell BK203.out 2).trans rfl, (blk_cell BK211.out 0).trans rfl, (blk_cell BK211.out 1).trans rfl, (blk_cell BK211.out 2).trans rfl⟩ fun hHeld => nz ?_
    clear hK K
    refine on 12 (some 25) HT_ fun K hK => ?_
    refine gs_ Try.func102 #[.int .i64 a0_1, .int .i64 ((rd_T41 t207 x9_1).f1)] ?_
    with_reducible refine (impl_power.calls k1 a0_1 ((rd_T41 t207 x9_1).f1) t213 _ A12.out).mono ?_
    rintro e w' ⟨rfl, ⟨nd, rfl⟩⟩
    refine ⟨_, rfl, ?_⟩
    refine hK.out _ _ ⟨(blk_cell BK203.out 0).trans rfl, (blk_cell BK203.out 1).trans rfl, (blk_cell BK203.out 2).trans rfl, (blk_cell BK211.out 0).trans rfl, (blk_cell BK211.out 1).trans rfl, (blk_cell BK211.out 2).trans rfl⟩ fun hHeld => nz ?_
    clear hK K; refine pz 13 26 HT_ ?_
    refine on 19 (some 32) HT_ fun K hK => ?_
    refine gs_ Try.func102 #[.int .i64 a0_2, .int .i64 ((rd_T41 t207 x9_1).f2)] ?_
    with_reducible refine (impl_power.calls k1 a0_2 ((rd_T41 t207 x9_1).f2) t214 _ A13.out).mono ?_
    rintro e w' ⟨rfl, ⟨nd, rfl⟩⟩
    refine ⟨_, rfl, ?_⟩
    refine hK.out _ _ ⟨(blk_cell BK203.out 0).trans rfl, (blk_cell BK203.out 1).trans rfl, (blk_cell BK203.out 2).trans rfl, (blk_cell BK211.out 0).trans rfl, (blk_cell BK211.out 1).trans rfl, (blk_cell BK211.out 2).trans rfl⟩ fun hHeld => nz ?_
    clear hK K; refine pz 20 33 HT_ ?_
    refine on 21 (some 34) HT_ fun K hK => ?_
    refine value_ (w1 := ?_) (v := ?_) (by rfl) rfl ?_ ?_
    rotate_left 2
    ·go_simp
     constructor
     ·rfl
     ·rfl
    refine hK.out _ _ ⟨(blk_cell (blk_alloc BK203.out _) 0).trans rfl, (blk_cell (blk_alloc BK203.out _) 1).trans rfl, (blk_cell (blk_alloc BK203.out _) 2).trans rfl, (blk_cell (blk_alloc BK211.out _) 0).trans rfl, (blk_cell (blk_alloc BK211.out _) 1).trans rfl, (blk_cell (blk_alloc BK211.out _) 2).trans rfl⟩ fun hHeld => nz ?_
    clear hK K
    refine on 22 (some 35) HT_ fun K hK => ?_
    refine Kd.R_append_step (Kd.int .i64) (w0 := w) w.heap.size (by rfl) (.tmp 13) (.tmp 34) 23 3 (.int .i64 0) 8 rfl Try.underlying23 info3 rfl (by decide) (by omega) u3 x3_1 (wrap64 ((wrap64 (t212 * t213)) * t214)) [.int .i64 (wrap64 ((wrap64 (t212 * t213)) * t214))] (fun _ => True) (fun _ => False) rfl rfl ?aP (fun _ hk => hk.elim) ?aF ?aO ?aB ?aS ?aL ?_
    (case aP => exact rfl)
    (case aB => exact (bx_ HB))
    (case aF => exact (fun _ _ => trivial))
    (case aO => exact (wR HO_3))
    (case aS => exact (below_size (bx_ HB)))
    (case aL => have := LMc14.out; omega)
    intro v216 w20 ho hb hg hat
    rw [← Ny215.out] at ho
    replace HO_7 := am (Kd.R_over' (wR HO_7) (Kd.R_typed (wR HO_3)) (by decide) hg)
    replace BK203 := am (blk_grown (g := gb203) (o := .cells #[.int .i64 a0_0, .int .i64 a0_1, .int .i64 a0_2] 43 (0, 0)) (pk_ BK203) hg (Kd.R_ne HO_3.out BK203.out (by decide)))
    replace BK211 := am (blk_grown (g := gb211) (o := .cells #[.int .i64 ((rd_T41 t207 x9_1).f0), .int .i64 ((rd_T41 t207 x9_1).f1), .int .i64 ((rd_T41 t207 x9_1).f2)] 41 (0, 0)) (pk_ BK211) hg (Kd.R_ne HO_3.out BK211.out (by decide)))
    replace HB := am (hb)
    have HO217 := am (ho)
    clear HO_3; clear ho hb hg hat
    refine hK.out _ _ ⟨(blk_cell BK203.out 0).trans rfl, (blk_cell BK203.out 1).trans rfl, (blk_cell BK203.out 2).trans rfl, (blk_cell BK211.out 0).trans rfl, (blk_cell BK211.out 1).trans rfl, (blk_cell BK211.out 2).trans rfl⟩ fun hHeld => nz ?_
    clear hK K; refine pz 23 3 HT_ ?_
    refine done_ (done_of HT_.out (by kernel_rfl)) ?_
    try go_wp2
    go_roundg k1
    case measure => have := HK1.out; omega
    case rel => exact ⟨(y215), (wrap64 (x9_1 + 1)), fr, H', ⟨by have := HK1.out; omega⟩, ⟨wR HO217⟩, ⟨Kd.R_below (Kd.R_mono HO_7.out (fun _ hk => trivial)) gs⟩, ⟨by (with_reducible repeat (first | refine blk_drewN ?_ _ | refine blk_drew ?_ | refine blk_alloc ?_ _)); exact BK203.out⟩, ⟨bx_ HB⟩⟩
   ·rw [if_neg c8] at H
    have c8b0 := decide_eq_false c8; clear c8; obtain rfl := Option.some.inj H; go_wp2; go_ret
    exact ⟨_, fq, wR HO_3, bx_ HB⟩/-! ### impl_baseOf: function 67 -/
def impl_baseOf.l0 : Nat → Int → List (List Int) → List (S43) → Int → Int → Option ((List (List Int)))
 | 0, _, _, _, _, _ => none
 | k + 1, x0, x5, x9, x10, x11 => if x11 < x10 then (if 0 ≤ x11 then (if x11 < (x9.length : Int) then ((impl_cubes.f k ((rd_T43 x9 x11).f0.f0) ((rd_T43 x9 x11).f0.f1) ((rd_T43 x9 x11).f0.f2)).bind fun t223 => (if x5.length < 5864062014805 then (impl_baseOf.l0 k x0 (x5 ++ [t223]) x9 x10 (wrap64 (x11 + 1))) else (none))) else (none)) else (none)) else ((impl_solutions.f k x0 x5 10).bind fun t229 => (some t229))
def impl_baseOf.f (k : Nat) (a0 : Int) (l1 : List (S43)) : Option ((List (List Int))) := impl_baseOf.l0 k a0 (([] : List (List Int))) l1 (l1.length : Int) 0
theorem impl_baseOf.mono_l : ∀ k, (∀ y0 y1 y2 y3 y4, LeO (impl_baseOf.l0 k y0 y1 y2 y3 y4) (impl_baseOf.l0 (k + 1) y0 y1 y2 y3 y4))
 | 0 => fun _ _ _ _ _ r h => by simp [impl_baseOf.l0] at h
 | k + 1 => by
  have ih0 := impl_baseOf.mono_l k
  ·intro y0 y1 y2 y3 y4
   unfold impl_baseOf.l0
   repeat' first | (with_reducible first | apply ih0 | apply impl_cubes.mono | apply impl_solutions.mono | exact LeO.refl _ | exact LeO.none _ | refine LeO.ite ?_ ?_ | refine LeO.bind ?_ (fun _ => ?_)) | (first | apply ih0 | apply impl_cubes.mono | apply impl_solutions.mono | exact LeO.none _ | refine LeO.ite ?_ ?_ | refine LeO.bind ?_ (fun _ => ?_))
theorem impl_baseOf.mono : ∀ a0 a1 k, LeO (impl_baseOf.f k a0 a1) (impl_baseOf.f (k + 1) a0 a1) := by
 intro a0 a1 k
 have ih0 := impl_baseOf.mono_l k
 unfold impl_baseOf.f
 repeat' first | (with_reducible first | apply ih0 | apply impl_cubes.mono | apply impl_solutions.mono | exact LeO.refl _ | exact LeO.none _ | refine LeO.ite ?_ ?_ | refine LeO.bind ?_ (fun _ => ?_)) | (first | apply ih0 | apply impl_cubes.mono | apply impl_solutions.mono | exact LeO.none _ | refine LeO.ite ?_ ?_ | refine LeO.bind ?_ (fun _ => ?_))
set_option maxHeartbeats 8000000 in
set_option maxRecDepth 100000 in
theorem impl_baseOf.calls (k : Nat) (a0 : Int) (A1 : Option Addr) (c1 : Nat) (l1 : List (S43)) (r : List (List Int)) (w : World) (hr1 : Kd.C k43 w A1 l1.length l1) (hc1 : l1.length ≤ c1) (h : impl_baseOf.f k a0 l1 = some r) :
  Calls Try.prog 67 #[.int .i64 a0, .slice A1 l1.length c1] w fun e w' => ∃ v0_ : Value, e = .returned (v0_) ∧ Kd.S (Kd.slice 3 (Kd.int .i64)) 23 w' w.heap.size (fun _ => True) v0_ r ∧ Below w.heap.size w w' := by
 have hu43 := Try.underlying43
 have HR1 := am hr1
 have HC1 := am hc1
 clear hr1 hc1
 have HB := am (Below.refl w.heap.size w)
 have H : (impl_baseOf.l0 k a0 (([] : List (List Int))) l1 (l1.length : Int) 0) = some r := h
 clear h
 generalize hy218 : (([] : List (List Int))) = y218 at H
 have Ny218 := am hy218.symm; clear hy218; have H' := am H; clear H
 go_enter Try.func67, Try.ntmps67
 go_wp2_with (first | ((with_reducible refine gate_dst (N := 8) rfl ?_); refine Kd.S_lit (Kd.slice 3 (Kd.int .i64)) _ 23 ?hg (N := 8) ?hd (xs := ([] : List (List Int))) (inner := []) (ok := fun _ => True) (okp := fun _ => True) ?hr ?hp (fun _ hk => hk) trivial (Below.refl _ _) (Nat.le_refl _) (by simp) ?_; (case hd => rfl); (case hg => rfl); (case hr => first | (go_simp; done) | (go_simp; rfl)); (case hp => exact (Reps.none _ _)); intro v219 w3 ho4 hb hg_ hnew_; clear hg_ hnew_; (first | rw [← Ny218.out] at ho4 | (simp only [Int.reduceToNat] at ho4; rw [← Ny218.out] at ho4)); have HO220 := am (Kd.S_lower ho4 (bz HB)); replace HB := bq HB hb; clear hb ho4))
 go_loopg [5, 11] k (fun kq v5 v11 w' => ∃ (x5_1 : List (List Int)) (x11_1 : Int), v11 = .int .i64 x11_1 ∧ Aside0 (impl_baseOf.l0 kq a0 x5_1 l1 (l1.length : Int) x11_1 = some r) ∧ Aside0 (kq ≤ k) ∧ Aside0 (Kd.S (Kd.slice 3 (Kd.int .i64)) 23 w' w.heap.size (fun _ => True) v5 x5_1) ∧ Aside0 (Below w.heap.size w w'))
 case atStart => exact ⟨(y218), (0), fr, H', ⟨Nat.le_refl _⟩, ⟨wS HO220⟩, ⟨bw HB⟩⟩
 case round =>
  clear H'; try clear c1; try clear p2
  obtain ⟨x5_1, x11_1, rfl, HA, HK1, HO_5, HB⟩ := hrel
  cases gk with
  | zero => exact absurd HA.out (by simp [impl_baseOf.l0])
  | succ k1 =>
   have H := HA.out; clear HA
   simp only [impl_baseOf.l0] at H
   by_cases c5 : x11_1 < (l1.length : Int)
   ·rw [if_pos c5] at H
    have c5b0 := decide_eq_true c5; clear c5; replace H := ifn H; obtain ⟨c6, H⟩ := H; have c6b0 := decide_eq_true c6; clear c6; replace H := ifn H; obtain ⟨c7, H⟩ := H; have c7b0 := decide_eq_true c7; clear c7; replace H := bs H; obtain ⟨t223, A8, H⟩ := H
    replace H := ifn H; obtain ⟨c9, H⟩ := H; have LMc9 := am c9; clear c9
    generalize hy226 : (x5_1 ++ [t223] : List (List Int)) = y226 at H
    have Ny226 := am hy226.symm; clear hy226; have H' := am H; clear H
    have p221 : 0 ≤ (x11_1 : Int) := od
    have q221 : x11_1 < (l1.length : Int) := od
    obtain ⟨ad221, e221, hx221_0, hx221_1, hx221_2⟩ := at_T43 HR1.out x11_1 p221 q221
    cases e221
    replace hx221_0 := wcl HB hx221_0
    replace hx221_1 := wcl HB hx221_1
    replace hx221_2 := wcl HB hx221_2
    replace p221 := eq_true p221; replace q221 := eq_true q221
    go_wp2_with (first | ((with_reducible refine gate_dst (N := 7) rfl ?_); refine box_event ?hg (N := 7) ?hd (cs := #[.int .i64 0, .int .i64 0, .int .i64 0]) (t := 43) ?hr ?_; (case hd => rfl); (case hg => rfl); (case hr => first | (go_simp; done) | (go_simp; rfl)); intro gb222 hg w10 hbox hb; have n0_ := am (Kd.S_below (wS HO_5) hb); have n1_ := bq HB hb; have n2_ := am (hbox); have n3_ := am ((by rw [hg]; exact (bz HB) : w.heap.size ≤ gb222)); have n4_ := am ((by rw [hg]; exact (bz HB) : w.heap.size ≤ gb222)); clear HO_5; clear HB; have HO_5 := n0_; have HB := n1_; have BK222 := n2_; have GW222 := n3_; have GE222 := n4_; clear n0_ n1_ n2_ n3_ n4_; clear hb hbox hg; have hcz11_0 : w10.cell? ⟨gb222, 0, none⟩ = some (.int .i64 0) := (blk_cell BK222.out 0).trans rfl; have hcz11_1 : w10.cell? ⟨gb222, 1, none⟩ = some (.int .i64 0) := (blk_cell BK222.out 1).trans rfl; have hcz11_2 : w10.cell? ⟨gb222, 2, none⟩ = some (.int .i64 0) := (blk_cell BK222.out 2).trans rfl; have hfz11_0 := blk_frozen BK222.out 0; have hfz11_1 := blk_frozen BK222.out 1; have hfz11_2 := blk_frozen BK222.out 2) | ((with_reducible refine gate_callee (f := 82) rfl ?_); refine gl 17 Try.func82 #[.agg #[.int .i64 ((rd_T43 l1 x11_1).f0.f0), .int .i64 ((rd_T43 l1 x11_1).f0.f1), .int .i64 ((rd_T43 l1 x11_1).f0.f2)]] ?_; (with_reducible refine (impl_cubes.calls k1 ((rd_T43 l1 x11_1).f0.f0) ((rd_T43 l1 x11_1).f0.f1) ((rd_T43 l1 x11_1).f0.f2) t223 _ A8.out).mono ?_); rintro e w12 ⟨v224, rfl, ho0, hb⟩; refine ⟨_, rfl, ?_⟩; have n0_ := am (Kd.S_elder' (by (with_reducible repeat (first | apply Kd.S_alloc | apply Kd.S_drewN | apply Kd.S_drew)); exact (Kd.S_mono (Kd.S_far (p := ⟨gb222, 2, none⟩) (Kd.S_far (p := ⟨gb222, 1, none⟩) (Kd.S_far (p := ⟨gb222, 0, none⟩) (Kd.S_types HO_5.out BK222.out (by decide)) (fun _ hk => hk.2) (.int .i64 ((rd_T43 l1 x11_1).f0.f0))) (fun _ hk => hk.2) (.int .i64 ((rd_T43 l1 x11_1).f0.f1))) (fun _ hk => hk.2) (.int .i64 ((rd_T43 l1 x11_1).f0.f2))) (fun _ h_ => h_.1))) (Kd.R_base ho0) hb); have n1_ := am (Kd.R_lower ho0 (below_size (bx_ HB))); have n2_ := am (blk_below (g := gb222) (o := .cells #[.int .i64 ((rd_T43 l1 x11_1).f0.f0), .int .i64 ((rd_T43 l1 x11_1).f0.f1), .int .i64 ((rd_T43 l1 x11_1).f0.f2)] 43 (0, 0)) (by (with_reducible repeat (first | refine blk_drewN ?_ _ | refine blk_drew ?_ | refine blk_alloc ?_ _)); refine blk_put (cs := #[.int .i64 ((rd_T43 l1 x11_1).f0.f0), .int .i64 ((rd_T43 l1 x11_1).f0.f1), .int .i64 0]) ?_ 2 _ rfl; (with_reducible repeat (first | refine blk_drewN ?_ _ | refine blk_drew ?_ | refine blk_alloc ?_ _)); refine blk_put (cs := #[.int .i64 ((rd_T43 l1 x11_1).f0.f0), .int .i64 0, .int .i64 0]) ?_ 1 _ rfl; (with_reducible repeat (first | refine blk_drewN ?_ _ | refine blk_drew ?_ | refine blk_alloc ?_ _)); refine blk_put (cs := #[.int .i64 0, .int .i64 0, .int .i64 0]) ?_ 0 _ rfl; (with_reducible repeat (first | refine blk_drewN ?_ _ | refine blk_drew ?_ | refine blk_alloc ?_ _)); exact BK222.out) hb); have n3_ := am (below_step (bx_ HB) hb); clear HO_5; clear BK222; clear HB; have HO_5 := n0_; have HO225 := n1_; have BK222 := n2_; have HB := n3_; clear n0_ n1_ n2_ n3_; (try clear hb); (try clear ho0); obtain ⟨Ao14, co14, eo14⟩ := Kd.R_slice HO225.out; subst eo14) | ((with_reducible refine gate_builtin (b := .append) (xs := #[.tmp 15, .tmp 18]) rfl ?_); at_builtin; refine Kd.S_append (Kd.slice 3 (Kd.int .i64)) (w0 := w) w.heap.size rfl (.tmp 15) (.tmp 18) 47 23 (.slice none 0 0) 24 rfl Try.underlying47 info23 rfl (by decide) (by omega) u5 x5_1 t223 [.slice Ao14 t223.length co14] (fun _ => True) (fun k_ => some k_ = (.slice Ao14 t223.length co14 : Value).ownBlock) rfl rfl ?aP (fun k_ hk_ => ((Kd.R_mono (ok' := fun k_ => ((fun _ => True)) k_ ∧ some k_ ≠ (u5 : Value).ownBlock) (Kd.R_apart' (HO225.out) (Kd.S_typed HO_5.out) (by decide)) (fun k_ hk => ⟨trivial, hk.2⟩))).1 k_ hk_.symm) ?aF ?aO ?aB ?aS ?aL ?_; (case aP => exact Kd.M_row (Kd.R_mono (Kd.R_tight rfl (Kd.R_mono (ok' := fun k_ => ((fun _ => True)) k_ ∧ some k_ ≠ (u5 : Value).ownBlock) (Kd.R_apart' (HO225.out) (Kd.S_typed HO_5.out) (by decide)) (fun k_ hk => ⟨trivial, hk.2⟩))) (fun _ h_ => h_))); (case aB => exact (bx_ HB)); (case aF => exact (fun _ _ => trivial)); (case aO => exact (by (with_reducible repeat (first | apply Kd.S_alloc | apply Kd.S_drewN | apply Kd.S_drew)); exact Kd.S_mono HO_5.out (fun k_ hk => ⟨trivial, fun e_ => hk.2 e_⟩))); (case aS => exact (below_size (bx_ HB))); (case aL => have := LMc9.out; omega); intro v227 w13 ho hb hg hat; rw [← Ny226.out] at ho; have n0_ := am (blk_grown (g := gb222) (o := .cells #[.int .i64 ((rd_T43 l1 x11_1).f0.f0), .int .i64 ((rd_T43 l1 x11_1).f0.f1), .int .i64 ((rd_T43 l1 x11_1).f0.f2)] 43 (0, 0)) (pk_ BK222) hg (Kd.S_ne HO_5.out BK222.out (by decide))); have n1_ := am (hb); have n2_ := am (ho); clear BK222; clear HB; clear HO_5; clear HO225; have BK222 := n0_; have HB := n1_; have HO228 := n2_; clear n0_ n1_ n2_; clear ho hb hg hat))
    go_roundg k1
    case measure => have := HK1.out; omega
    case rel => exact ⟨(y226), (wrap64 (x11_1 + 1)), fr, H', ⟨by have := HK1.out; omega⟩, ⟨wS HO228⟩, ⟨bx_ HB⟩⟩
   ·rw [if_neg c5] at H
    have c5b0 := decide_eq_false c5; clear c5; replace H := bs H; obtain ⟨t229, A15, H⟩ := H; obtain rfl := Option.some.inj H
    obtain ⟨Ao16, co16, eo16⟩ := Kd.S_slice HO_5.out
    subst eo16
    go_wp2_with (first | ((with_reducible refine gate_callee (f := 112) rfl ?_); refine gl 23 Try.func112 #[.int .i64 a0, .slice Ao16 x5_1.length co16, .int .i64 10] ?_; (with_reducible refine (impl_solutions.calls k1 a0 _ _ x5_1 10 t229 _ ?_ ?_ A15.out).mono ?_); exact Kd.C_below (Kd.S_reads' HO_5.out).2.2 gs; exact (Kd.S_reads' HO_5.out).2.1; rintro e w17 ⟨v230, rfl, ho0, hb⟩; refine ⟨_, rfl, ?_⟩; have HO231 := am (Kd.S_lower (Kd.S_new' ho0 (Kd.S_lt (wS HO_5))) (bz HB)); replace HO_5 := eS HO_5 (Kd.S_base ho0) hb; replace HB := bq HB hb; (try clear hb); (try clear ho0)))
    go_ret
    exact ⟨_, fq, Kd.S_below (Kd.S_mono HO231.out (fun _ hk => trivial)) gs, bw HB⟩/-! ### impl_isPlace: function 83 -/
def impl_isPlace.f (a0 : Int) (l1 : List Int) : Option (Bool) := (impl_areNumbers.f a0 l1 4).bind fun t232 => (if t232 = true then ((impl_isMonic.f l1).bind fun t233 => (some t233)) else (some false))
set_option maxHeartbeats 8000000 in
set_option maxRecDepth 100000 in
theorem impl_isPlace.calls (a0 : Int) (A1 : Option Addr) (c1 : Nat) (l1 : List Int) (r : Bool) (w : World) (hr1 : Kd.C (Kd.int .i64) w A1 l1.length l1) (hc1 : l1.length ≤ c1) (h : impl_isPlace.f a0 l1 = some r) :
  Calls Try.prog 83 #[.int .i64 a0, .slice A1 l1.length c1] w fun e w' => e = .returned (.bool r) ∧ Below w.heap.size w w' := by
 have HR1 := am hr1
 have HC1 := am hc1
 clear hr1 hc1
 have HB := am (Below.refl w.heap.size w)
 have H : ((impl_areNumbers.f a0 l1 4).bind fun t232 => (if t232 = true then ((impl_isMonic.f l1).bind fun t233 => (some t233)) else (some false))) = some r := h
 clear h; replace H := bs H; obtain ⟨t232, A3, H⟩ := H
 by_cases c4 : t232 = true
 ·subst c4
  rw [if_pos rfl] at H
  replace H := bs H; obtain ⟨t233, A5, H⟩ := H; obtain rfl := Option.some.inj H
  go_enter Try.func83, Try.ntmps83
  go_wp2_with (first | ((with_reducible refine gate_callee (f := 52) rfl ?_); refine gl 7 Try.func52 #[.int .i64 a0, .slice A1 l1.length c1, .int .i64 4] ?_; (with_reducible refine (impl_areNumbers.calls a0 _ _ l1 4 true _ ?_ ?_ A3.out).mono ?_); exact wC HR1; exact HC1.out; rintro e w6 ⟨rfl, hb⟩; refine ⟨_, rfl, ?_⟩; replace HB := bq HB hb; (try clear hb)) | (go_at_call 119; (with_reducible refine (impl_isMonic.calls _ _ l1 t233 _ ?_ ?_ A5.out).mono ?_); exact Kd.C_below HR1.out (bw HB); exact HC1.out; rintro e w' ⟨rfl, ⟨nd, rfl⟩⟩))
  go_ret
  exact ⟨fq, bw HB⟩
 ·replace c4 := Bool.eq_false_iff.mpr c4
  subst c4
  rw [if_neg (show ¬ (false = true) by decide)] at H
  obtain rfl := Option.some.inj H
  go_enter Try.func83, Try.ntmps83
  go_wp2_with (first | ((with_reducible refine gate_callee (f := 52) rfl ?_); refine gl 7 Try.func52 #[.int .i64 a0, .slice A1 l1.length c1, .int .i64 4] ?_; (with_reducible refine (impl_areNumbers.calls a0 _ _ l1 4 false _ ?_ ?_ A3.out).mono ?_); exact wC HR1; exact HC1.out; rintro e w7 ⟨rfl, hb⟩; refine ⟨_, rfl, ?_⟩; replace HB := bq HB hb; (try clear hb)))
  go_ret
  exact ⟨fq, bw HB⟩/-! ### impl_SurfaceHas: function 35 -/
def impl_SurfaceHas.f (k : Nat) (a0 : Int) (l1 : List (S43)) (l2 : List Int) : Option (Bool) := (impl_areGeneral.f k a0 l1).bind fun t234 => (if t234 = true then ((impl_isPlace.f a0 l2).bind fun t235 => (if t235 = true then ((impl_baseOf.f k a0 l1).bind fun t236 => ((impl_surfaceOf.f k a0 t236).bind fun t239 => ((impl_valueAt.f k a0 t239 l2).bind fun t242 => (some (t242 == 0))))) else (some false))) else (some false))
theorem impl_SurfaceHas.mono : ∀ a0 a1 a2 k, LeO (impl_SurfaceHas.f k a0 a1 a2) (impl_SurfaceHas.f (k + 1) a0 a1 a2) := by
 intro a0 a1 a2 k
 unfold impl_SurfaceHas.f
 repeat' first | (with_reducible first | apply impl_areGeneral.mono | apply impl_baseOf.mono | apply impl_surfaceOf.mono | apply impl_valueAt.mono | exact LeO.refl _ | exact LeO.none _ | refine LeO.ite ?_ ?_ | refine LeO.bind ?_ (fun _ => ?_)) | (first | apply impl_areGeneral.mono | apply impl_baseOf.mono | apply impl_surfaceOf.mono | apply impl_valueAt.mono | exact LeO.none _ | refine LeO.ite ?_ ?_ | refine LeO.bind ?_ (fun _ => ?_))
set_option maxHeartbeats 8000000 in
set_option maxRecDepth 100000 in
theorem impl_SurfaceHas.calls (k : Nat) (a0 : Int) (A1 : Option Addr) (c1 : Nat) (l1 : List (S43)) (A2 : Option Addr) (c2 : Nat) (l2 : List Int) (r : Bool) (w : World) (hr1 : Kd.C k43 w A1 l1.length l1) (hc1 : l1.length ≤ c1) (hr2 : Kd.C (Kd.int .i64) w A2 l2.length l2) (hc2 : l2.length ≤ c2) (h : impl_SurfaceHas.f k a0 l1 l2 = some r) :
  Calls Try.prog 35 #[.int .i64 a0, .slice A1 l1.length c1, .slice A2 l2.length c2] w fun e w' => e = .returned (.bool r) ∧ Below w.heap.size w w' := by
 have HR1 := am hr1
 have HC1 := am hc1
 clear hr1 hc1
 have HR2 := am hr2
 have HC2 := am hc2
 clear hr2 hc2
 have HB := am (Below.refl w.heap.size w)
 have H : ((impl_areGeneral.f k a0 l1).bind fun t234 => (if t234 = true then ((impl_isPlace.f a0 l2).bind fun t235 => (if t235 = true then ((impl_baseOf.f k a0 l1).bind fun t236 => ((impl_surfaceOf.f k a0 t236).bind fun t239 => ((impl_valueAt.f k a0 t239 l2).bind fun t242 => (some (t242 == 0))))) else (some false))) else (some false))) = some r := h
 clear h; replace H := bs H; obtain ⟨t234, A4, H⟩ := H
 by_cases c5 : t234 = true
 ·subst c5
  rw [if_pos rfl] at H
  replace H := bs H; obtain ⟨t235, A6, H⟩ := H
  by_cases c7 : t235 = true
  ·subst c7
   rw [if_pos rfl] at H
   replace H := bs H; obtain ⟨t236, A8, H⟩ := H; replace H := bs H; obtain ⟨t239, A9, H⟩ := H; replace H := bs H; obtain ⟨t242, A10, H⟩ := H; obtain rfl := Option.some.inj H
   go_enter Try.func35, Try.ntmps35
   go_wp2_with (first | ((with_reducible refine gate_callee (f := 65) rfl ?_); refine gl 9 Try.func65 #[.int .i64 a0, .slice A1 l1.length c1] ?_; (with_reducible refine (impl_areGeneral.calls k a0 _ _ l1 true _ ?_ ?_ A4.out).mono ?_); exact wC HR1; exact HC1.out; rintro e w11 ⟨rfl, hb⟩; refine ⟨_, rfl, ?_⟩; replace HB := bq HB hb; (try clear hb)) | (go_at_call 83; (with_reducible refine (impl_isPlace.calls a0 _ _ l2 true _ ?_ ?_ A6.out).mono ?_); exact Kd.C_below HR2.out (bw HB); exact HC2.out; rintro e w12 ⟨rfl, hb⟩; replace HB := bq HB hb; (try clear hb)) | (go_at_call 67; (with_reducible refine (impl_baseOf.calls k a0 _ _ l1 t236 _ ?_ ?_ A8.out).mono ?_); exact Kd.C_below HR1.out (bw HB); exact HC1.out; rintro e w13 ⟨v237, rfl, ho0, hb⟩; have HO238 := am (Kd.S_lower ho0 (bz HB)); replace HB := bq HB hb; (try clear hb); (try clear ho0); obtain ⟨Ao14, co14, eo14⟩ := Kd.S_slice HO238.out; subst eo14) | (go_at_call 66; (with_reducible refine (impl_surfaceOf.calls k a0 _ _ t236 t239 _ ?_ ?_ A9.out).mono ?_); exact Kd.C_below (Kd.S_reads' HO238.out).2.2 gs; exact (Kd.S_reads' HO238.out).2.1; rintro e w15 ⟨v240, rfl, ho0, hb⟩; replace HO238 := eS HO238 (Kd.R_base ho0) hb; have HO241 := am (Kd.R_lower ho0 (bz HB)); replace HB := bq HB hb; (try clear hb); (try clear ho0); obtain ⟨Ao16, co16, eo16⟩ := Kd.R_slice HO241.out; subst eo16) | (go_at_call 55; (with_reducible refine (impl_valueAt.calls k a0 _ _ t239 _ _ l2 t242 _ ?_ ?_ ?_ ?_ A10.out).mono ?_); exact Kd.C_below (Kd.R_reads' HO241.out).2.2 gs; exact (Kd.R_reads' HO241.out).2.1; exact Kd.C_below HR2.out (bw HB); exact HC2.out; rintro e w' ⟨rfl, ⟨nd, rfl⟩⟩))
   go_ret
   exact ⟨fq, bw HB⟩
  ·replace c7 := Bool.eq_false_iff.mpr c7
   subst c7
   rw [if_neg (show ¬ (false = true) by decide)] at H
   obtain rfl := Option.some.inj H
   go_enter Try.func35, Try.ntmps35
   go_wp2_with (first | ((with_reducible refine gate_callee (f := 65) rfl ?_); refine gl 9 Try.func65 #[.int .i64 a0, .slice A1 l1.length c1] ?_; (with_reducible refine (impl_areGeneral.calls k a0 _ _ l1 true _ ?_ ?_ A4.out).mono ?_); exact wC HR1; exact HC1.out; rintro e w17 ⟨rfl, hb⟩; refine ⟨_, rfl, ?_⟩; replace HB := bq HB hb; (try clear hb)) | (go_at_call 83; (with_reducible refine (impl_isPlace.calls a0 _ _ l2 false _ ?_ ?_ A6.out).mono ?_); exact Kd.C_below HR2.out (bw HB); exact HC2.out; rintro e w18 ⟨rfl, hb⟩; replace HB := bq HB hb; (try clear hb)))
   go_ret
   exact ⟨fq, bw HB⟩
 ·replace c5 := Bool.eq_false_iff.mpr c5
  subst c5
  rw [if_neg (show ¬ (false = true) by decide)] at H
  obtain rfl := Option.some.inj H
  go_enter Try.func35, Try.ntmps35
  go_wp2_with (first | ((with_reducible refine gate_callee (f := 65) rfl ?_); refine gl 9 Try.func65 #[.int .i64 a0, .slice A1 l1.length c1] ?_; (with_reducible refine (impl_areGeneral.calls k a0 _ _ l1 false _ ?_ ?_ A4.out).mono ?_); exact wC HR1; exact HC1.out; rintro e w19 ⟨rfl, hb⟩; refine ⟨_, rfl, ?_⟩; replace HB := bq HB hb; (try clear hb)))
  go_ret
  exact ⟨fq, bw HB⟩
end Go.Proofs.Ytmgbpmihbljngaa.PA

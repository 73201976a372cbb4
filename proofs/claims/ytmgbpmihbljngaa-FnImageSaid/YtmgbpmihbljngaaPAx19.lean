-- Written by xprint.py, a program of this claim's own (over the kit's print.py)
import Derived.Test.YtmgbpmihbljngaaPAx18
namespace Go.Proofs.Ytmgbpmihbljngaa.PA
set_option maxHeartbeats 8000000
set_option maxRecDepth 100000
open Go.RowKit Go.Proofs.YtmgbpmihbljngaaW.PrintWords Go.Proofs.YtmgbpmihbljngaaW.PrintLast Go.Proofs.YtmgbpmihbljngaaW.PrintMore
attribute [local go_sem] j8 j9 Qi Qj jw jy Qa Qb
set_option linter.unusedVariables false
set_option linter.unusedSimpArgs false
def qr.l0 : Nat → Int → List Int → List (S41) → Int → Int → Int → Int → Option (List Int)
 | 0, _, _, _, _, _, _, _ => none
 | k + 1, x0, x5, x6, x7, x474000, x474001, x474002 => if x7 < 10 then (if 0 ≤ x7 then (if x7 < (x6.length : Int) then ((zt.f k x0 x474000 ((ze x6 x7).f0)).bind fun t482 => ((zt.f k x0 x474001 ((ze x6 x7).f1)).bind fun t483 => (if x0 = 0 then (none) else ((zt.f k x0 x474002 ((ze x6 x7).f2)).bind fun t484 => (if x5.length < 17592186044416 then (qr.l0 k x0 (x5 ++ [Int.tmod (wrap64 ((Int.tmod (wrap64 (t482 * t483)) x0) * t484)) x0]) x6 (wrap64 (x7 + 1)) x474000 x474001 x474002) else (none)))))) else (none)) else (none)) else (some x5)
def qr.f (k : Nat) (a0 : Int) (a1_0 : Int) (a1_1 : Int) (a1_2 : Int) : Option (List Int) := (Zd.f).bind fun t477 => (qr.l0 k a0 (([] : List Int)) t477 0 a1_0 a1_1 a1_2)
theorem qr.mono_l : ∀ k, (∀ y0 y1 y2 y3 y4 y5 y6, LeO (qr.l0 k y0 y1 y2 y3 y4 y5 y6) (qr.l0 (k + 1) y0 y1 y2 y3 y4 y5 y6))
 | 0 => fun _ _ _ _ _ _ _ r h => by simp [qr.l0] at h
 | k + 1 => by
  have ih0 := qr.mono_l k
  ·intro y0 y1 y2 y3 y4 y5 y6
   unfold qr.l0
   repeat' first | (with_reducible first | apply ih0 | apply zt.mono | exact LeO.refl _ | exact LeO.none _ | refine LeO.ite ?_ ?_ | refine LeO.bind ?_ (fun _ => ?_)) | (first | apply ih0 | apply zt.mono | exact LeO.none _ | refine LeO.ite ?_ ?_ | refine LeO.bind ?_ (fun _ => ?_))
theorem qr.mono : ∀ a0 a1 a2 a3 k, LeO (qr.f k a0 a1 a2 a3) (qr.f (k + 1) a0 a1 a2 a3) := by
 intro a0 a1 a2 a3 k
 have ih0 := qr.mono_l k
 unfold qr.f
 repeat' first | (with_reducible first | apply ih0 | apply zt.mono | exact LeO.refl _ | exact LeO.none _ | refine LeO.ite ?_ ?_ | refine LeO.bind ?_ (fun _ => ?_)) | (first | apply ih0 | apply zt.mono | exact LeO.none _ | refine LeO.ite ?_ ?_ | refine LeO.bind ?_ (fun _ => ?_))
def qr.T7 : Bool × List (List Nat × List Nat) := (true, [([], []), ([], []), ([], []), ([2], [2]), ([3], [3]), ([], []), ([5], [5]), ([1, 4, 6], [1, 4, 6]), ([], []), ([], []), ([9], [9]), ([10], [10]), ([], []), ([12], [12]), ([8, 11, 13, 7], [8, 11, 13]), ([7, 14], [7, 14]), ([], []), ([15, 16], [15, 16]), ([], []), ([], []), ([19], [19]), ([20], [20]), ([], []), ([22], [22]), ([18, 21, 23, 14], [18, 21, 23]), ([17, 24], [17, 24]), ([], []), ([25, 26], [25, 26]), ([27], [27]), ([0, 28, 24], [0, 28]), ([29, 29, 0, 1, 2, 3, 4, 5, 6, 7, 8, 9, 10, 11, 12, 13, 14, 15, 16, 17, 18, 19, 20, 21, 22, 23, 24, 25, 26, 27, 28, 29], [0, 29])])
def qr.B7 : List Nat := [0, 0, 0, 4, 12, 0, 32, 126, 0, 0, 512, 1536, 0, 4096, 16382, 32766, 0, 131070, 0, 0, 524288, 1572864, 0, 4194304, 16547838, 33554430, 0, 134217726, 268435454, 536870911, 1073741823]
theorem qr.tab7 : rtab .any (Zp Try.f123 7) = qr.T7 := by kernel_rfl
theorem qr.bits7 : Qd qr.T7.2 qr.B7 = true := by kernel_rfl
theorem qr.calls (k : Nat) (a0 : Int) (a1_0 : Int) (a1_1 : Int) (a1_2 : Int) (r : List Int) (w : World) (h : qr.f k a0 a1_0 a1_1 a1_2 = some r) :
  Calls Try.prog 123 #[.int .i64 a0, .agg #[.int .i64 a1_0, .int .i64 a1_1, .int .i64 a1_2]] w fun e w' => ∃ v0_ : Value, e = .returned (v0_) ∧ Kd.R (Kd.int .i64) 3 w' w.heap.size (fun _ => True) v0_ r ∧ Below w.heap.size w w' := by
 have hu43 := Try.underlying43
 have hu41 := Try.underlying41
 have HB := am (Below.refl w.heap.size w)
 have H : ((Zd.f).bind fun t477 => (qr.l0 k a0 (([] : List Int)) t477 0 a1_0 a1_1 a1_2)) = some r := h
 clear h
 generalize hy474 : (([] : List Int)) = y474 at H
 have Ny474 := am hy474.symm; clear hy474; replace H := bs H; obtain ⟨t477, A3, H⟩ := H; have H' := am H; clear H
 go_enter Try.func123, Try.ntmps123
 go_wp2_with (first | ((with_reducible refine q6 (N := 3) rfl ?_); refine xe_ 3 43 #[.int .i64 a1_0, .int .i64 a1_1, .int .i64 a1_2] ?_; intro gb473 hg w4 hbox hb; have BK473 := am (hbox); have GW473 := am ((by rw [hg]; exact (bz HB) : w.heap.size ≤ gb473)); have GE473 := am ((by rw [hg]; exact (bz HB) : w.heap.size ≤ gb473)); replace HB := bq HB hb; clear hb hbox hg) | ((with_reducible refine q6 (N := 9) rfl ?_); refine li 3 ([] : List Int) ?_; intro v475 w5 ho6 hb; (first | rw [← Ny474.out] at ho6 | (simp only [Int.reduceToNat] at ho6; rw [← Ny474.out] at ho6)); have HO476 := am (Kd.R_lower ho6 (q4 (bx_ HB))); replace BK473 := am (qp (g := gb473) (o := .cells #[.int .i64 a1_0, .int .i64 a1_1, .int .i64 a1_2] 43 (0, 0)) (pk_ BK473) hb); replace HB := am (qo (bx_ HB) hb); clear hb ho6) | ((with_reducible refine qj (f := 157) rfl ?_); refine gl 10 Try.func157 #[] ?_; (with_reducible refine (Zd.calls  t477 _ A3.out).mono ?_); rintro e w7 ⟨v478, rfl, ho0, hb⟩; refine ⟨_, rfl, ?_⟩; replace HO476 := am (Kd.R_below (wR HO476) hb); have HO479 := am (Kd.R_lower ho0 (q4 (bx_ HB))); replace BK473 := am (qp (g := gb473) (o := .cells #[.int .i64 a1_0, .int .i64 a1_1, .int .i64 a1_2] 43 (0, 0)) (pk_ BK473) hb); replace HB := am (qo (bx_ HB) hb); (try clear hb); (try clear ho0)))
 go_loopg [5, 7] k (fun kq v5 v7 w' => ∃ (x5_1 : List Int) (x7_1 : Int), v7 = .int .i64 x7_1 ∧ qb (qr.l0 kq a0 x5_1 t477 x7_1 a1_0 a1_1 a1_2 = some r) ∧ qb (kq ≤ k) ∧ qb (Kd.R (Kd.int .i64) 3 w' w.heap.size (fun _ => True) v5 x5_1) ∧ qb (Kd.R k41 41 w' w.heap.size (fun _ => True) v478 t477) ∧ qb (w'.heap[gb473]? = some (.cells #[.int .i64 a1_0, .int .i64 a1_1, .int .i64 a1_2] 43 (0, 0))) ∧ qb (Below w.heap.size w w'))
 case atStart => exact ⟨(y474), (0), fr, H', ⟨Nat.le_refl _⟩, ⟨wR HO476⟩, ⟨wR HO479⟩, ⟨by (with_reducible repeat (first | refine qf ?_ _ | refine qh ?_ | refine qe ?_ _)); exact BK473.out⟩, ⟨bx_ HB⟩⟩
 case round =>
  clear H'; try clear c1; try clear p2
  obtain ⟨x5_1, x7_1, rfl, HA, HK1, HO_5, HO_6, BK473, HB⟩ := hrel
  cases gk with
  | zero => exact absurd HA.out (by simp [qr.l0])
  | succ k1 =>
   have H := HA.out; clear HA
   simp only [qr.l0] at H
   by_cases c8 : x7_1 < 10
   ·rw [if_pos c8] at H
    have c8b0 := decide_eq_true c8; clear c8; replace H := ifn H; obtain ⟨c9, H⟩ := H; have c9b0 := decide_eq_true c9; clear c9; replace H := ifn H; obtain ⟨c10, H⟩ := H; have c10b0 := decide_eq_true c10; clear c10; replace H := bs H; obtain ⟨t482, A11, H⟩ := H
    replace H := bs H; obtain ⟨t483, A12, H⟩ := H; replace H := ifm H; obtain ⟨c13, H⟩ := H; have c13b0 := beq_eq_false_iff_ne.mpr c13; have c13b1 := bne_iff_ne.mpr c13; replace H := bs H; obtain ⟨t484, A14, H⟩ := H; replace H := ifn H; obtain ⟨c15, H⟩ := H
    have LMc15 := am c15; clear c15
    generalize hy485 : (x5_1 ++ [Int.tmod (wrap64 ((Int.tmod (wrap64 (t482 * t483)) a0) * t484)) a0] : List Int) = y485 at H
    have Ny485 := am hy485.symm; clear hy485; have H' := am H; clear H
    obtain ⟨Ao16, co16, eo16⟩ := Kd.R_slice HO_6.out
    subst eo16
    have p480 : 0 ≤ (x7_1 : Int) := od
    have q480 : x7_1 < (t477.length : Int) := od
    obtain ⟨ad480, e480, hx480_0, hx480_1, hx480_2⟩ := qg9 (Kd.R_reads' HO_6.out).2.2 x7_1 p480 q480
    cases e480; replace p480 := eq_true p480; replace q480 := eq_true q480
    try go_wp2_with (first | ((with_reducible refine q6 (N := 8) rfl ?_); refine xe_ 8 41 #[.int .i64 0, .int .i64 0, .int .i64 0] ?_; intro gb481 hg w17 hbox hb; replace HO_5 := am (Kd.R_below (wR HO_5) hb); replace HO_6 := am (Kd.R_below (Kd.R_elderB (wR HO_6) gb481 (Nat.le_of_eq hg.symm)) hb); have BK481 := am (hbox); have GW481 := am ((by rw [hg]; exact (q4 (bx_ HB)) : w.heap.size ≤ gb481)); have GE481 := am ((by rw [hg]; exact (q4 (bx_ HB)) : w.heap.size ≤ gb481)); replace HB := am (qo (bx_ HB) hb); have NB473_481 := am ((by rw [hg]; exact Nat.ne_of_lt (ju (g := gb473) (o := .cells #[.int .i64 a1_0, .int .i64 a1_1, .int .i64 a1_2] 43 (0, 0)) (pk_ BK473)) : gb473 ≠ gb481)); have NB481_473 := am ((by rw [hg]; exact Nat.ne_of_gt (ju (g := gb473) (o := .cells #[.int .i64 a1_0, .int .i64 a1_1, .int .i64 a1_2] 43 (0, 0)) (pk_ BK473)) : gb481 ≠ gb473)); replace BK473 := am (qp (g := gb473) (o := .cells #[.int .i64 a1_0, .int .i64 a1_1, .int .i64 a1_2] 43 (0, 0)) (pk_ BK473) hb); clear hb hbox hg; have hnb18 := NB481_473.out; have hnc18 := NB473_481.out; have hcz19_0 : w17.cell? ⟨gb481, 0, none⟩ = some (.int .i64 0) := (qa BK481.out 0).trans rfl; have hcz19_1 : w17.cell? ⟨gb481, 1, none⟩ = some (.int .i64 0) := (qa BK481.out 1).trans rfl; have hcz19_2 : w17.cell? ⟨gb481, 2, none⟩ = some (.int .i64 0) := (qa BK481.out 2).trans rfl; have hfz19_0 := qg BK481.out 0; have hfz19_1 := qg BK481.out 1; have hfz19_2 := qg BK481.out 2))
    have n0_ : qb (Kd.R (Kd.int .i64) 3 (((w17.setCell ⟨gb481, 0, none⟩ (.int .i64 ((ze t477 x7_1).f0))).setCell ⟨gb481, 1, none⟩ (.int .i64 ((ze t477 x7_1).f1))).setCell ⟨gb481, 2, none⟩ (.int .i64 ((ze t477 x7_1).f2))) w.heap.size (fun _ => True) u5 x5_1) := ⟨by (with_reducible repeat (first | apply Kd.R_alloc | apply Kd.R_drewN | apply Kd.R_drew)); exact Kd.R_mono (Kd.R_far (p := ⟨gb481, 2, none⟩) (Kd.R_far (p := ⟨gb481, 1, none⟩) (Kd.R_far (p := ⟨gb481, 0, none⟩) (Kd.R_types HO_5.out BK481.out (by decide)) (fun _ hk => hk.2) (.int .i64 ((ze t477 x7_1).f0))) (fun _ hk => hk.2) (.int .i64 ((ze t477 x7_1).f1))) (fun _ hk => hk.2) (.int .i64 ((ze t477 x7_1).f2))) (fun _ hk => trivial)⟩
    have n1_ : qb (Kd.R k41 41 (((w17.setCell ⟨gb481, 0, none⟩ (.int .i64 ((ze t477 x7_1).f0))).setCell ⟨gb481, 1, none⟩ (.int .i64 ((ze t477 x7_1).f1))).setCell ⟨gb481, 2, none⟩ (.int .i64 ((ze t477 x7_1).f2))) w.heap.size (fun k_ => k_ ≠ gb481) (.slice (some ad480) t477.length co16) t477) := ⟨by (with_reducible repeat (first | apply Kd.R_alloc | apply Kd.R_drewN | apply Kd.R_drew)); exact Kd.R_mono (Kd.R_far (p := ⟨gb481, 2, none⟩) (Kd.R_far (p := ⟨gb481, 1, none⟩) (Kd.R_far (p := ⟨gb481, 0, none⟩) (Kd.R_mono HO_6.out (fun k_ hk => (⟨hk, hk.2⟩ : _ ∧ k_ ≠ gb481))) (fun _ hk => hk.2) (.int .i64 ((ze t477 x7_1).f0))) (fun _ hk => hk.2) (.int .i64 ((ze t477 x7_1).f1))) (fun _ hk => hk.2) (.int .i64 ((ze t477 x7_1).f2))) (fun _ hk => hk.1.2)⟩
    have n2_ : qb ((((w17.setCell ⟨gb481, 0, none⟩ (.int .i64 ((ze t477 x7_1).f0))).setCell ⟨gb481, 1, none⟩ (.int .i64 ((ze t477 x7_1).f1))).setCell ⟨gb481, 2, none⟩ (.int .i64 ((ze t477 x7_1).f2))).heap[gb473]? = some (.cells #[.int .i64 a1_0, .int .i64 a1_1, .int .i64 a1_2] 43 (0, 0))) := ⟨by (with_reducible repeat (first | refine qf ?_ _ | refine qh ?_ | refine qe ?_ _)); refine jv ?_ NB473_481.out _; (with_reducible repeat (first | refine qf ?_ _ | refine qh ?_ | refine qe ?_ _)); refine jv ?_ NB473_481.out _; (with_reducible repeat (first | refine qf ?_ _ | refine qh ?_ | refine qe ?_ _)); refine jv ?_ NB473_481.out _; (with_reducible repeat (first | refine qf ?_ _ | refine qh ?_ | refine qe ?_ _)); exact BK473.out⟩
    have n3_ : qb ((((w17.setCell ⟨gb481, 0, none⟩ (.int .i64 ((ze t477 x7_1).f0))).setCell ⟨gb481, 1, none⟩ (.int .i64 ((ze t477 x7_1).f1))).setCell ⟨gb481, 2, none⟩ (.int .i64 ((ze t477 x7_1).f2))).heap[gb481]? = some (.cells #[.int .i64 ((ze t477 x7_1).f0), .int .i64 ((ze t477 x7_1).f1), .int .i64 ((ze t477 x7_1).f2)] 41 (0, 0))) := ⟨by (with_reducible repeat (first | refine qf ?_ _ | refine qh ?_ | refine qe ?_ _)); refine zz (cs := #[.int .i64 ((ze t477 x7_1).f0), .int .i64 ((ze t477 x7_1).f1), .int .i64 0]) ?_ 2 _ rfl; (with_reducible repeat (first | refine qf ?_ _ | refine qh ?_ | refine qe ?_ _)); refine zz (cs := #[.int .i64 ((ze t477 x7_1).f0), .int .i64 0, .int .i64 0]) ?_ 1 _ rfl; (with_reducible repeat (first | refine qf ?_ _ | refine qh ?_ | refine qe ?_ _)); refine zz (cs := #[.int .i64 0, .int .i64 0, .int .i64 0]) ?_ 0 _ rfl; (with_reducible repeat (first | refine qf ?_ _ | refine qh ?_ | refine qe ?_ _)); exact BK481.out⟩
    have n4_ : qb (Below w.heap.size w (((w17.setCell ⟨gb481, 0, none⟩ (.int .i64 ((ze t477 x7_1).f0))).setCell ⟨gb481, 1, none⟩ (.int .i64 ((ze t477 x7_1).f1))).setCell ⟨gb481, 2, none⟩ (.int .i64 ((ze t477 x7_1).f2)))) := ⟨bx_ HB⟩
    (try clear HO_5)
    (try clear HO_6)
    (try clear BK473)
    (try clear BK481)
    (try clear HB)
    generalize (((w17.setCell ⟨gb481, 0, none⟩ (.int .i64 ((ze t477 x7_1).f0))).setCell ⟨gb481, 1, none⟩ (.int .i64 ((ze t477 x7_1).f1))).setCell ⟨gb481, 2, none⟩ (.int .i64 ((ze t477 x7_1).f2))) = w20 at n0_ n1_ n2_ n3_ n4_ ⊢
    have HO_5 := n0_
    have HO_6 := n1_
    have BK473 := n2_
    have BK481 := n3_
    have HB := n4_
    clear n0_ n1_ n2_ n3_ n4_
    replace HO_5 := am (Kd.R_drew HO_5.out)
    replace HO_6 := am (Kd.R_drew HO_6.out)
    replace BK473 := am (qh BK473.out)
    replace BK481 := am (qh BK481.out)
    replace HB := am (zc HB.out)
    refine st 31 (fun w' => w'.cell? ⟨gb473, 0, none⟩ = some (.int .i64 a1_0) ∧ w'.cell? ⟨gb473, 1, none⟩ = some (.int .i64 a1_1) ∧ w'.cell? ⟨gb473, 2, none⟩ = some (.int .i64 a1_2) ∧ w'.cell? ⟨gb481, 0, none⟩ = some (.int .i64 ((ze t477 x7_1).f0)) ∧ w'.cell? ⟨gb481, 1, none⟩ = some (.int .i64 ((ze t477 x7_1).f1)) ∧ w'.cell? ⟨gb481, 2, none⟩ = some (.int .i64 ((ze t477 x7_1).f2))) [] qr.tab7 qr.bits7 (⟨(qa BK473.out 0).trans rfl, (qa BK473.out 1).trans rfl, (qa BK473.out 2).trans rfl, (qa BK481.out 0).trans rfl, (qa BK481.out 1).trans rfl, (qa BK481.out 2).trans rfl⟩) fun hHeld HT_ HW_ => ?_
    generalize w20.drew = w21 at HO_5 HO_6 BK473 BK481 HB hHeld ⊢
    refine pz 0 19 HT_ ?_; refine pz 1 20 HT_ ?_; refine pz 2 21 HT_ ?_; refine pz 3 22 HT_ ?_; refine pz 5 24 HT_ ?_; refine pz 8 27 HT_ ?_; refine pz 9 28 HT_ ?_; refine pz 10 29 HT_ ?_; refine pz 12 31 HT_ ?_; refine pz 16 35 HT_ ?_; refine pz 18 37 HT_ ?_
    refine pz 19 38 HT_ ?_; refine pz 20 39 HT_ ?_; refine pz 22 41 HT_ ?_; refine pz 26 45 HT_ ?_; refine tk 4 23 HT_ HW_ hHeld ?_; refine tk 6 25 HT_ HW_ hHeld ?_; refine tk 11 30 HT_ HW_ hHeld ?_; refine tk 13 32 HT_ HW_ hHeld ?_; refine tk 21 40 HT_ HW_ hHeld ?_
    refine tk 23 42 HT_ HW_ hHeld ?_
    refine on 7 (some 26) HT_ fun K hK => ?_
    refine gs_ Try.func162 #[.int .i64 a0, .int .i64 a1_0, .int .i64 ((ze t477 x7_1).f0)] ?_
    with_reducible refine (zt.calls k1 a0 a1_0 ((ze t477 x7_1).f0) t482 _ A11.out).mono ?_
    rintro e w' ⟨rfl, ⟨nd, rfl⟩⟩
    refine ⟨_, rfl, ?_⟩
    refine hK.out _ _ ⟨(qa BK473.out 0).trans rfl, (qa BK473.out 1).trans rfl, (qa BK473.out 2).trans rfl, (qa BK481.out 0).trans rfl, (qa BK481.out 1).trans rfl, (qa BK481.out 2).trans rfl⟩ fun hHeld => nz ?_
    clear hK K
    refine on 14 (some 33) HT_ fun K hK => ?_
    refine gs_ Try.func162 #[.int .i64 a0, .int .i64 a1_1, .int .i64 ((ze t477 x7_1).f1)] ?_
    with_reducible refine (zt.calls k1 a0 a1_1 ((ze t477 x7_1).f1) t483 _ A12.out).mono ?_
    rintro e w' ⟨rfl, ⟨nd, rfl⟩⟩
    refine ⟨_, rfl, ?_⟩
    refine hK.out _ _ ⟨(qa BK473.out 0).trans rfl, (qa BK473.out 1).trans rfl, (qa BK473.out 2).trans rfl, (qa BK481.out 0).trans rfl, (qa BK481.out 1).trans rfl, (qa BK481.out 2).trans rfl⟩ fun hHeld => nz ?_
    clear hK K; refine pz 15 34 HT_ ?_; refine pz 17 36 HT_ ?_
    refine on 24 (some 43) HT_ fun K hK => ?_
    refine gs_ Try.func162 #[.int .i64 a0, .int .i64 a1_2, .int .i64 ((ze t477 x7_1).f2)] ?_
    with_reducible refine (zt.calls k1 a0 a1_2 ((ze t477 x7_1).f2) t484 _ A14.out).mono ?_
    rintro e w' ⟨rfl, ⟨nd, rfl⟩⟩
    refine ⟨_, rfl, ?_⟩
    refine hK.out _ _ ⟨(qa BK473.out 0).trans rfl, (qa BK473.out 1).trans rfl, (qa BK473.out 2).trans rfl, (qa BK481.out 0).trans rfl, (qa BK481.out 1).trans rfl, (qa BK481.out 2).trans rfl⟩ fun hHeld => nz ?_
    clear hK K; refine pz 25 44 HT_ ?_; refine pz 27 46 HT_ ?_
    refine on 28 (some 47) HT_ fun K hK => ?_
    refine qe2 (w1 := ?_) (v := ?_) (by rfl) rfl ?_ ?_
    rotate_left 2
    ·go_simp
     constructor
     ·rfl
     ·rfl
    refine hK.out _ _ ⟨(qa (qe BK473.out _) 0).trans rfl, (qa (qe BK473.out _) 1).trans rfl, (qa (qe BK473.out _) 2).trans rfl, (qa (qe BK481.out _) 0).trans rfl, (qa (qe BK481.out _) 1).trans rfl, (qa (qe BK481.out _) 2).trans rfl⟩ fun hHeld => nz ?_
    clear hK K
    refine on 29 (some 48) HT_ fun K hK => ?_
    refine Kd.R_append_step (Kd.int .i64) (w0 := w) w.heap.size (by rfl) (.tmp 19) (.tmp 47) 23 3 (.int .i64 0) 8 rfl Try.underlying23 qag rfl (by decide) (by omega) u5 x5_1 (Int.tmod (wrap64 ((Int.tmod (wrap64 (t482 * t483)) a0) * t484)) a0) [.int .i64 (Int.tmod (wrap64 ((Int.tmod (wrap64 (t482 * t483)) a0) * t484)) a0)] (fun _ => True) (fun _ => False) rfl rfl ?aP (fun _ hk => hk.elim) ?aF ?aO ?aB ?aS ?aL ?_
    (case aP => exact rfl)
    (case aB => exact (bx_ HB))
    (case aF => exact (fun _ _ => trivial))
    (case aO => exact (wR HO_5))
    (case aS => exact (q4 (bx_ HB)))
    (case aL => have := LMc15.out; omega)
    intro v486 w22 ho hb hg hat
    rw [← Ny485.out] at ho
    replace HO_6 := am (Kd.R_over' (wR HO_6) (Kd.R_typed (wR HO_5)) (by decide) hg)
    replace BK473 := am (Qe (g := gb473) (o := .cells #[.int .i64 a1_0, .int .i64 a1_1, .int .i64 a1_2] 43 (0, 0)) (pk_ BK473) hg (Kd.R_ne HO_5.out BK473.out (by decide)))
    replace BK481 := am (Qe (g := gb481) (o := .cells #[.int .i64 ((ze t477 x7_1).f0), .int .i64 ((ze t477 x7_1).f1), .int .i64 ((ze t477 x7_1).f2)] 41 (0, 0)) (pk_ BK481) hg (Kd.R_ne HO_5.out BK481.out (by decide)))
    replace HB := am (hb)
    have HO487 := am (ho)
    clear HO_5; clear ho hb hg hat
    refine hK.out _ _ ⟨(qa BK473.out 0).trans rfl, (qa BK473.out 1).trans rfl, (qa BK473.out 2).trans rfl, (qa BK481.out 0).trans rfl, (qa BK481.out 1).trans rfl, (qa BK481.out 2).trans rfl⟩ fun hHeld => nz ?_
    clear hK K; refine pz 30 5 HT_ ?_
    refine Q4 (Qg HT_.out (by kernel_rfl)) ?_
    try go_wp2
    go_roundg k1
    case measure => have := HK1.out; omega
    case rel => exact ⟨(y485), (wrap64 (x7_1 + 1)), fr, H', ⟨by have := HK1.out; omega⟩, ⟨wR HO487⟩, ⟨Kd.R_below (Kd.R_mono HO_6.out (fun _ hk => trivial)) gs⟩, ⟨by (with_reducible repeat (first | refine qf ?_ _ | refine qh ?_ | refine qe ?_ _)); exact BK473.out⟩, ⟨bx_ HB⟩⟩
   ·rw [if_neg c8] at H
    have c8b0 := decide_eq_false c8; clear c8; obtain rfl := Option.some.inj H; go_wp2; go_ret
    exact ⟨_, fq, wR HO_5, bx_ HB⟩
def jj.l0 : Nat → Int → List Int → List Int → Int → Int → Option (Int)
 | 0, _, _, _, _, _ => none
 | k + 1, x0, x1, x2, x7, x8 => if x8 < (x1.length : Int) then (if 0 ≤ x8 then (if x8 < (x2.length : Int) then (if x0 = 0 then (none) else (jj.l0 k x0 x1 x2 (Int.tmod (wrap64 (x7 + (wrap64 ((rd x1 x8) * (rd x2 x8))))) x0) (wrap64 (x8 + 1)))) else (none)) else (none)) else (some x7)
def jj.f (k : Nat) (a0 : Int) (l1 : List Int) (l2 : List Int) : Option (Int) := jj.l0 k a0 l1 l2 0 0
theorem jj.mono_l : ∀ k, (∀ y0 y1 y2 y3 y4, LeO (jj.l0 k y0 y1 y2 y3 y4) (jj.l0 (k + 1) y0 y1 y2 y3 y4))
 | 0 => fun _ _ _ _ _ r h => by simp [jj.l0] at h
 | k + 1 => by
  have ih0 := jj.mono_l k
  ·intro y0 y1 y2 y3 y4
   unfold jj.l0
   repeat' first | (with_reducible first | apply ih0 | exact LeO.refl _ | exact LeO.none _ | refine LeO.ite ?_ ?_ | refine LeO.bind ?_ (fun _ => ?_)) | (first | apply ih0 | exact LeO.none _ | refine LeO.ite ?_ ?_ | refine LeO.bind ?_ (fun _ => ?_))
theorem jj.mono : ∀ a0 a1 a2 k, LeO (jj.f k a0 a1 a2) (jj.f (k + 1) a0 a1 a2) := by
 intro a0 a1 a2 k
 have ih0 := jj.mono_l k
 unfold jj.f
 repeat' first | (with_reducible first | apply ih0 | exact LeO.refl _ | exact LeO.none _ | refine LeO.ite ?_ ?_ | refine LeO.bind ?_ (fun _ => ?_)) | (first | apply ih0 | exact LeO.none _ | refine LeO.ite ?_ ?_ | refine LeO.bind ?_ (fun _ => ?_))
theorem jj.calls (k : Nat) (a0 : Int) (A1 : Option Addr) (c1 : Nat) (l1 : List Int) (A2 : Option Addr) (c2 : Nat) (l2 : List Int) (r : Int) (w : World) (hr1 : Kd.C (Kd.int .i64) w A1 l1.length l1) (hc1 : l1.length ≤ c1) (hr2 : Kd.C (Kd.int .i64) w A2 l2.length l2) (hc2 : l2.length ≤ c2) (h : jj.f k a0 l1 l2 = some r) :
  Calls Try.prog 124 #[.int .i64 a0, .slice A1 l1.length c1, .slice A2 l2.length c2] w fun e w' => e = .returned (.int .i64 r) ∧ Drawn0 w w' := by
 have HR1 := am hr1
 have HC1 := am hc1
 clear hr1 hc1
 have HR2 := am hr2
 have HC2 := am hc2
 clear hr2 hc2
 have H : (jj.l0 k a0 l1 l2 0 0) = some r := h
 clear h; have H' := am H; clear H
 go_enter Try.func124, Try.ntmps124
 go_wp2
 repeat (go_quiet (fail); try go_wp2)
 go_loopg [7, 8] k (fun kq v7 v8 w' => ∃ (x7_1 : Int) (x8_1 : Int), v7 = .int .i64 x7_1 ∧ v8 = .int .i64 x8_1 ∧ qb (jj.l0 kq a0 l1 l2 x7_1 x8_1 = some r) ∧ qb (kq ≤ k) ∧ Drawn0 w w')
 case atStart => exact ⟨(0), (0), fr, fr, H', ⟨Nat.le_refl _⟩, df⟩
 case round =>
  clear H'; try clear c1; try clear c2; try clear p2
  obtain ⟨x7_1, x8_1, rfl, rfl, HA, HK1, ⟨m1, rfl⟩⟩ := hrel
  cases gk with
  | zero => exact absurd HA.out (by simp [jj.l0])
  | succ k1 =>
   have H := HA.out; clear HA
   simp only [jj.l0] at H
   by_cases c4 : x8_1 < (l1.length : Int)
   ·rw [if_pos c4] at H
    have c4b0 := decide_eq_true c4; clear c4; replace H := ifn H; obtain ⟨c5, H⟩ := H; have c5b0 := decide_eq_true c5; clear c5; replace H := ifn H; obtain ⟨c6, H⟩ := H; have c6b0 := decide_eq_true c6; clear c6; replace H := ifm H; obtain ⟨c7, H⟩ := H
    have c7b0 := beq_eq_false_iff_ne.mpr c7; have c7b1 := bne_iff_ne.mpr c7; have H' := am H; clear H
    have p488 : 0 ≤ (x8_1 : Int) := od
    have q488 : x8_1 < (l1.length : Int) := od
    obtain ⟨ad488, e488, hx488_0⟩ := Kd.at_int HR1.out x8_1 p488 q488
    cases e488; replace p488 := eq_true p488; replace q488 := eq_true q488
    have p489 : 0 ≤ (x8_1 : Int) := od
    have q489 : x8_1 < (l2.length : Int) := od
    obtain ⟨ad489, e489, hx489_0⟩ := Kd.at_int HR2.out x8_1 p489 q489
    cases e489; replace p489 := eq_true p489; replace q489 := eq_true q489; go_wp2
    repeat (go_quiet (fail); try go_wp2)
    go_roundg k1
    case measure => have := HK1.out; omega
    case rel => exact ⟨(Int.tmod (wrap64 (x7_1 + (wrap64 ((rd l1 x8_1) * (rd l2 x8_1))))) a0), (wrap64 (x8_1 + 1)), fr, fr, H', ⟨by have := HK1.out; omega⟩, df⟩
   ·rw [if_neg c4] at H
    have c4b0 := decide_eq_false c4; clear c4; obtain rfl := Option.some.inj H; go_wp2
    repeat (go_quiet (fail); try go_wp2)
    go_ret
    exact ⟨fr, df⟩
def zv.l0 : Nat → Int → List (List Int) → List Int → List Int → Int → Option (List Int)
 | 0, _, _, _, _, _ => none
 | k + 1, x0, x1, x7, x8, x9 => if x9 < (x1.length : Int) then (if 0 ≤ x9 then ((jj.f k x0 (jl x1 x9) x8).bind fun t498 => (if x7.length < 17592186044416 then (zv.l0 k x0 x1 (x7 ++ [t498]) x8 (wrap64 (x9 + 1))) else (none))) else (none)) else (some x7)
def zv.f (k : Nat) (a0 : Int) (l1 : List (List Int)) (a2_0 : Int) (a2_1 : Int) (a2_2 : Int) : Option (List Int) := (qr.f k a0 a2_0 a2_1 a2_2).bind fun t494 => (zv.l0 k a0 l1 (([] : List Int)) t494 0)
theorem zv.mono_l : ∀ k, (∀ y0 y1 y2 y3 y4, LeO (zv.l0 k y0 y1 y2 y3 y4) (zv.l0 (k + 1) y0 y1 y2 y3 y4))
 | 0 => fun _ _ _ _ _ r h => by simp [zv.l0] at h
 | k + 1 => by
  have ih0 := zv.mono_l k
  ·intro y0 y1 y2 y3 y4
   unfold zv.l0
   repeat' first | (with_reducible first | apply ih0 | apply jj.mono | apply qr.mono | exact LeO.refl _ | exact LeO.none _ | refine LeO.ite ?_ ?_ | refine LeO.bind ?_ (fun _ => ?_)) | (first | apply ih0 | apply jj.mono | apply qr.mono | exact LeO.none _ | refine LeO.ite ?_ ?_ | refine LeO.bind ?_ (fun _ => ?_))
theorem zv.mono : ∀ a0 a1 a2 a3 a4 k, LeO (zv.f k a0 a1 a2 a3 a4) (zv.f (k + 1) a0 a1 a2 a3 a4) := by
 intro a0 a1 a2 a3 a4 k
 have ih0 := zv.mono_l k
 unfold zv.f
 repeat' first | (with_reducible first | apply ih0 | apply jj.mono | apply qr.mono | exact LeO.refl _ | exact LeO.none _ | refine LeO.ite ?_ ?_ | refine LeO.bind ?_ (fun _ => ?_)) | (first | apply ih0 | apply jj.mono | apply qr.mono | exact LeO.none _ | refine LeO.ite ?_ ?_ | refine LeO.bind ?_ (fun _ => ?_))
theorem zv.calls (k : Nat) (a0 : Int) (A1 : Option Addr) (c1 : Nat) (l1 : List (List Int)) (a2_0 : Int) (a2_1 : Int) (a2_2 : Int) (r : List Int) (w : World) (hr1 : Kd.C (Kd.slice 3 (Kd.int .i64)) w A1 l1.length l1) (hc1 : l1.length ≤ c1) (h : zv.f k a0 l1 a2_0 a2_1 a2_2 = some r) :
  Calls Try.prog 77 #[.int .i64 a0, .slice A1 l1.length c1, .agg #[.int .i64 a2_0, .int .i64 a2_1, .int .i64 a2_2]] w fun e w' => ∃ v0_ : Value, e = .returned (v0_) ∧ Kd.R (Kd.int .i64) 3 w' w.heap.size (fun _ => True) v0_ r ∧ Below w.heap.size w w' := by
 have hu43 := Try.underlying43
 have HR1 := am hr1
 have HC1 := am hc1
 clear hr1 hc1
 have HB := am (Below.refl w.heap.size w)
 have H : ((qr.f k a0 a2_0 a2_1 a2_2).bind fun t494 => (zv.l0 k a0 l1 (([] : List Int)) t494 0)) = some r := h
 clear h
 generalize hy491 : (([] : List Int)) = y491 at H
 have Ny491 := am hy491.symm; clear hy491; replace H := bs H; obtain ⟨t494, A4, H⟩ := H; have H' := am H; clear H
 go_enter Try.func77, Try.ntmps77
 go_wp2_with (first | ((with_reducible refine q6 (N := 5) rfl ?_); refine xe_ 5 43 #[.int .i64 a2_0, .int .i64 a2_1, .int .i64 a2_2] ?_; intro gb490 hg w5 hbox hb; have BK490 := am (hbox); have GW490 := am ((by rw [hg]; exact (bz HB) : w.heap.size ≤ gb490)); have GE490 := am ((by rw [hg]; exact (bz HB) : w.heap.size ≤ gb490)); replace HB := bq HB hb; clear hb hbox hg) | ((with_reducible refine q6 (N := 10) rfl ?_); refine li 3 ([] : List Int) ?_; intro v492 w6 ho7 hb; (first | rw [← Ny491.out] at ho7 | (simp only [Int.reduceToNat] at ho7; rw [← Ny491.out] at ho7)); have HO493 := am (Kd.R_lower ho7 (q4 (bx_ HB))); replace BK490 := am (qp (g := gb490) (o := .cells #[.int .i64 a2_0, .int .i64 a2_1, .int .i64 a2_2] 43 (0, 0)) (pk_ BK490) hb); replace HB := am (qo (bx_ HB) hb); clear hb ho7; have hcz8_0 : w6.cell? ⟨gb490, 0, none⟩ = some (.int .i64 a2_0) := (qa BK490.out 0).trans rfl; have hcz8_1 : w6.cell? ⟨gb490, 1, none⟩ = some (.int .i64 a2_1) := (qa BK490.out 1).trans rfl; have hcz8_2 : w6.cell? ⟨gb490, 2, none⟩ = some (.int .i64 a2_2) := (qa BK490.out 2).trans rfl; have hfz8_0 := qg BK490.out 0; have hfz8_1 := qg BK490.out 1; have hfz8_2 := qg BK490.out 2) | ((with_reducible refine qj (f := 123) rfl ?_); refine gl 13 Try.func123 #[.int .i64 a0, .agg #[.int .i64 a2_0, .int .i64 a2_1, .int .i64 a2_2]] ?_; (with_reducible refine (qr.calls k a0 a2_0 a2_1 a2_2 t494 _ A4.out).mono ?_); rintro e w9 ⟨v495, rfl, ho0, hb⟩; refine ⟨_, rfl, ?_⟩; have HO496 := am (Kd.R_lower (Kd.R_new' ho0 (Kd.R_lt (wR HO493))) (q4 (bx_ HB))); replace HO493 := eR HO493 (Kd.R_base ho0) hb; replace BK490 := am (qp (g := gb490) (o := .cells #[.int .i64 a2_0, .int .i64 a2_1, .int .i64 a2_2] 43 (0, 0)) (pk_ BK490) hb); replace HB := am (qo (bx_ HB) hb); (try clear hb); (try clear ho0)))
 go_loopg [7, 9] k (fun kq v7 v9 w' => ∃ (x7_1 : List Int) (x9_1 : Int), v9 = .int .i64 x9_1 ∧ qb (zv.l0 kq a0 l1 x7_1 t494 x9_1 = some r) ∧ qb (kq ≤ k) ∧ qb (Kd.R (Kd.int .i64) 3 w' w.heap.size (fun k_ => some k_ ≠ (v495 : Value).ownBlock) v7 x7_1) ∧ qb (Kd.R (Kd.int .i64) 3 w' w.heap.size (fun k_ => some k_ ≠ (v7 : Value).ownBlock) v495 t494) ∧ qb (w'.heap[gb490]? = some (.cells #[.int .i64 a2_0, .int .i64 a2_1, .int .i64 a2_2] 43 (0, 0))) ∧ qb (Below w.heap.size w w'))
 case atStart => exact ⟨(y491), (0), fr, H', ⟨Nat.le_refl _⟩, ⟨Kd.R_below (Kd.R_mono HO493.out (fun _ hk => hk.2)) gs⟩, ⟨Kd.R_below (Kd.R_mono HO496.out (fun _ hk => hk.2)) gs⟩, ⟨by (with_reducible repeat (first | refine qf ?_ _ | refine qh ?_ | refine qe ?_ _)); exact BK490.out⟩, ⟨bx_ HB⟩⟩
 case round =>
  clear H'; try clear c1; try clear p2; try clear c7; try clear hcz8_0; try clear hcz8_1; try clear hcz8_2; try clear hfz8_0; try clear hfz8_1; try clear hfz8_2
  obtain ⟨x7_1, x9_1, rfl, HA, HK1, HO_7, HO_8, BK490, HB⟩ := hrel
  cases gk with
  | zero => exact absurd HA.out (by simp [zv.l0])
  | succ k1 =>
   have H := HA.out; clear HA
   simp only [zv.l0] at H
   by_cases c10 : x9_1 < (l1.length : Int)
   ·rw [if_pos c10] at H
    have c10b0 := decide_eq_true c10; clear c10; replace H := ifn H; obtain ⟨c11, H⟩ := H; have c11b0 := decide_eq_true c11; clear c11; replace H := bs H; obtain ⟨t498, A12, H⟩ := H; replace H := ifn H; obtain ⟨c13, H⟩ := H; have LMc13 := am c13
    clear c13
    generalize hy499 : (x7_1 ++ [t498] : List Int) = y499 at H
    have Ny499 := am hy499.symm; clear hy499; have H' := am H; clear H
    have p497 : 0 ≤ (x9_1 : Int) := od
    have q497 : x9_1 < (l1.length : Int) := od
    obtain ⟨ad497, A497_0, c497_0, e497, hx497_0, hl497_0, hi497_0⟩ := qad HR1.out x9_1 p497 q497
    cases e497
    replace hx497_0 := wcl HB hx497_0
    have HR497_0 := am hi497_0
    have HC497_0 := am hl497_0
    clear hi497_0 hl497_0; replace p497 := eq_true p497; replace q497 := eq_true q497
    obtain ⟨Ao14, co14, eo14⟩ := Kd.R_slice HO_8.out
    subst eo14
    go_wp2_with (first | ((with_reducible refine qj (f := 124) rfl ?_); refine gl 27 Try.func124 #[.int .i64 a0, .slice A497_0 (jl l1 x9_1).length c497_0, .slice Ao14 t494.length co14] ?_; (with_reducible refine (jj.calls k1 a0 _ _ (jl l1 x9_1) _ _ t494 t498 _ ?_ ?_ ?_ ?_ A12.out).mono ?_); exact Kd.C_below (Kd.C_below HR497_0.out HB.out) gs; exact HC497_0.out; exact Kd.C_below (Kd.R_reads' HO_8.out).2.2 gs; exact (Kd.R_reads' HO_8.out).2.1; rintro e w' ⟨rfl, ⟨nd, rfl⟩⟩; refine ⟨_, rfl, ?_⟩) | ((with_reducible refine jp (b := .append) (xs := #[.tmp 20, .tmp 28]) rfl ?_); at_builtin; refine Kd.R_append (Kd.int .i64) (w0 := w) w.heap.size rfl (.tmp 20) (.tmp 28) 23 3 (.int .i64 0) 8 rfl Try.underlying23 qag rfl (by decide) (by omega) u7 x7_1 t498 [.int .i64 t498] (fun k_ => some k_ ≠ (.slice Ao14 t494.length co14 : Value).ownBlock) (fun _ => False) rfl rfl ?aP (fun _ hk => hk.elim) ?aF ?aO ?aB ?aS ?aL ?_; (case aP => exact rfl); (case aB => exact (bx_ HB)); (case aF => exact (fun k_ hk => Kd.fresh' (Kd.R_lt (wR HO_8)) k_ hk)); (case aO => exact (wR HO_7)); (case aS => exact (q4 (bx_ HB))); (case aL => have := LMc13.out; omega); intro v500 w15 ho hb hg hat; rw [← Ny499.out] at ho; replace HO_8 := am (Kd.R_after (ok := (fun _ => True)) (oR_ HO_8 (fun _ hk => ⟨trivial, hk⟩)) hg hat); replace BK490 := am (Qe (g := gb490) (o := .cells #[.int .i64 a2_0, .int .i64 a2_1, .int .i64 a2_2] 43 (0, 0)) (pk_ BK490) hg (Kd.R_ne HO_7.out BK490.out (by decide))); replace HB := am (hb); have HO501 := am (ho); clear HO_7; clear ho hb hg hat))
    go_roundg k1
    case measure => have := HK1.out; omega
    case rel => exact ⟨(y499), (wrap64 (x9_1 + 1)), fr, H', ⟨by have := HK1.out; omega⟩, ⟨wR HO501⟩, ⟨Kd.R_below (Kd.R_mono HO_8.out (fun _ hk => hk.2)) gs⟩, ⟨by (with_reducible repeat (first | refine qf ?_ _ | refine qh ?_ | refine qe ?_ _)); exact BK490.out⟩, ⟨bx_ HB⟩⟩
   ·rw [if_neg c10] at H
    have c10b0 := decide_eq_false c10; clear c10; obtain rfl := Option.some.inj H; go_wp2; go_ret
    exact ⟨_, fq, Kd.R_below (Kd.R_mono HO_7.out (fun _ hk => trivial)) gs, bx_ HB⟩
end Go.Proofs.Ytmgbpmihbljngaa.PA

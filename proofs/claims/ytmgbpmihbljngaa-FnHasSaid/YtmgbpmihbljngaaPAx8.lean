-- Written by xprint.py, a program of this claim's own (over the kit's print.py)
import Derived.Test.YtmgbpmihbljngaaPAx7
namespace Go.Proofs.Ytmgbpmihbljngaa.PA
set_option maxHeartbeats 8000000
set_option maxRecDepth 100000
open Go.RowKit Go.Proofs.YtmgbpmihbljngaaW.PrintWords Go.Proofs.YtmgbpmihbljngaaW.PrintLast Go.Proofs.YtmgbpmihbljngaaW.PrintMore
attribute [local go_sem] j9 j8 Qf Qg js jr j6 j7
set_option linter.unusedVariables false
set_option linter.unusedSimpArgs false
def zu.l0 : Nat → List Int → List (S41) → Int → Int → Int → Int → Int → Option (List Int)
 | 0, _, _, _, _, _, _, _ => none
 | k + 1, x3, x7, x8, x9, x178000, x178001, x178002 => if x9 < x8 then (if 0 ≤ x9 then (if x9 < (x7.length : Int) then ((z7.f k x178000 ((qy x7 x9).f0)).bind fun t186 => ((z7.f k x178001 ((qy x7 x9).f1)).bind fun t187 => ((z7.f k x178002 ((qy x7 x9).f2)).bind fun t188 => (if x3.length < 17592186044416 then (zu.l0 k (x3 ++ [wrap64 ((wrap64 (t186 * t187)) * t188)]) x7 x8 (wrap64 (x9 + 1)) x178000 x178001 x178002) else (none))))) else (none)) else (none)) else (some x3)
def zu.f (k : Nat) (a0_0 : Int) (a0_1 : Int) (a0_2 : Int) : Option (List Int) := (q9.f k).bind fun t181 => (zu.l0 k (([] : List Int)) t181 (t181.length : Int) 0 a0_0 a0_1 a0_2)
theorem zu.mono_l : ∀ k, (∀ y0 y1 y2 y3 y4 y5 y6, LeO (zu.l0 k y0 y1 y2 y3 y4 y5 y6) (zu.l0 (k + 1) y0 y1 y2 y3 y4 y5 y6))
 | 0 => fun _ _ _ _ _ _ _ r h => by simp [zu.l0] at h
 | k + 1 => by
  have ih0 := zu.mono_l k
  ·intro y0 y1 y2 y3 y4 y5 y6
   unfold zu.l0
   repeat' first | (with_reducible first | apply ih0 | apply q9.mono | apply z7.mono | exact LeO.refl _ | exact LeO.none _ | refine LeO.ite ?_ ?_ | refine LeO.bind ?_ (fun _ => ?_)) | (first | apply ih0 | apply q9.mono | apply z7.mono | exact LeO.none _ | refine LeO.ite ?_ ?_ | refine LeO.bind ?_ (fun _ => ?_))
theorem zu.mono : ∀ a0 a1 a2 k, LeO (zu.f k a0 a1 a2) (zu.f (k + 1) a0 a1 a2) := by
 intro a0 a1 a2 k
 have ih0 := zu.mono_l k
 unfold zu.f
 repeat' first | (with_reducible first | apply ih0 | apply q9.mono | apply z7.mono | exact LeO.refl _ | exact LeO.none _ | refine LeO.ite ?_ ?_ | refine LeO.bind ?_ (fun _ => ?_)) | (first | apply ih0 | apply q9.mono | apply z7.mono | exact LeO.none _ | refine LeO.ite ?_ ?_ | refine LeO.bind ?_ (fun _ => ?_))
def zu.T5 : Bool × List (List Nat × List Nat) := (true, [([], []), ([], []), ([1], [1]), ([2], [2]), ([], []), ([4], [4]), ([3, 5], [3, 5]), ([], []), ([7], [7]), ([8], [8]), ([], []), ([10], [10]), ([9, 11, 6], [9, 11]), ([6, 12], [6, 12]), ([], []), ([14], [14]), ([15], [15]), ([], []), ([17], [17]), ([16, 18, 12], [16, 18]), ([13, 19], [13, 19]), ([20], [20]), ([0, 21, 19], [0, 21]), ([22, 22, 0, 1, 2, 3, 4, 5, 6, 7, 8, 9, 10, 11, 12, 13, 14, 15, 16, 17, 18, 19, 20, 21, 22], [0, 22])])
def zu.B5 : List Nat := [0, 0, 2, 6, 0, 16, 62, 0, 128, 384, 0, 1024, 4094, 8190, 0, 16384, 49152, 0, 131072, 516094, 1048574, 2097150, 4194303, 8388607]
theorem zu.tab5 : rtab .any (Zu Try.f82 5) = zu.T5 := by kernel_rfl
theorem zu.bits5 : Qe zu.T5.2 zu.B5 = true := by kernel_rfl
theorem zu.calls (k : Nat) (a0_0 : Int) (a0_1 : Int) (a0_2 : Int) (r : List Int) (w : World) (h : zu.f k a0_0 a0_1 a0_2 = some r) :
  Calls Try.prog 82 #[.agg #[.int .i64 a0_0, .int .i64 a0_1, .int .i64 a0_2]] w fun e w' => ∃ v0_ : Value, e = .returned (v0_) ∧ Kd.R (Kd.int .i64) 3 w' w.heap.size (fun _ => True) v0_ r ∧ Below w.heap.size w w' := by
 have hu43 := Try.underlying43
 have hu41 := Try.underlying41
 have HB := am (Below.refl w.heap.size w)
 have H : ((q9.f k).bind fun t181 => (zu.l0 k (([] : List Int)) t181 (t181.length : Int) 0 a0_0 a0_1 a0_2)) = some r := h
 clear h
 generalize hy178 : (([] : List Int)) = y178 at H
 have Ny178 := am hy178.symm; clear hy178; replace H := bs H; obtain ⟨t181, A2, H⟩ := H; have H' := am H; clear H
 go_enter Try.func82, Try.ntmps82
 go_wp2_with (first | ((with_reducible refine za (N := 1) rfl ?_); refine xe_ 1 43 #[.int .i64 a0_0, .int .i64 a0_1, .int .i64 a0_2] ?_; intro gb177 hg w3 hbox hb; have BK177 := am (hbox); have GW177 := am ((by rw [hg]; exact (bz HB) : w.heap.size ≤ gb177)); have GE177 := am ((by rw [hg]; exact (bz HB) : w.heap.size ≤ gb177)); replace HB := bq HB hb; clear hb hbox hg) | ((with_reducible refine za (N := 6) rfl ?_); refine li 3 ([] : List Int) ?_; intro v179 w4 ho5 hb; (first | rw [← Ny178.out] at ho5 | (simp only [Int.reduceToNat] at ho5; rw [← Ny178.out] at ho5)); have HO180 := am (Kd.R_lower ho5 (zc (bx_ HB))); replace BK177 := am (zg (g := gb177) (o := .cells #[.int .i64 a0_0, .int .i64 a0_1, .int .i64 a0_2] 43 (0, 0)) (pk_ BK177) hb); replace HB := am (qz (bx_ HB) hb); clear hb ho5) | ((with_reducible refine qf (f := 114) rfl ?_); refine gl 7 Try.func114 #[] ?_; (with_reducible refine (q9.calls k  t181 _ A2.out).mono ?_); rintro e w6 ⟨v182, rfl, ho0, hb⟩; refine ⟨_, rfl, ?_⟩; replace HO180 := am (Kd.R_below (wR HO180) hb); have HO183 := am (Kd.R_lower ho0 (zc (bx_ HB))); replace BK177 := am (zg (g := gb177) (o := .cells #[.int .i64 a0_0, .int .i64 a0_1, .int .i64 a0_2] 43 (0, 0)) (pk_ BK177) hb); replace HB := am (qz (bx_ HB) hb); (try clear hb); (try clear ho0); obtain ⟨Ao7, co7, eo7⟩ := Kd.R_slice HO183.out; subst eo7))
 go_loopg [3, 9] k (fun kq v3 v9 w' => ∃ (x3_1 : List Int) (x9_1 : Int), v9 = .int .i64 x9_1 ∧ qb (zu.l0 kq x3_1 t181 (t181.length : Int) x9_1 a0_0 a0_1 a0_2 = some r) ∧ qb (kq ≤ k) ∧ qb (Kd.R (Kd.int .i64) 3 w' w.heap.size (fun _ => True) v3 x3_1) ∧ qb (Kd.R k41 41 w' w.heap.size (fun _ => True) (.slice Ao7 t181.length co7) t181) ∧ qb (w'.heap[gb177]? = some (.cells #[.int .i64 a0_0, .int .i64 a0_1, .int .i64 a0_2] 43 (0, 0))) ∧ qb (Below w.heap.size w w'))
 case atStart => exact ⟨(y178), (0), fr, H', ⟨Nat.le_refl _⟩, ⟨wR HO180⟩, ⟨wR HO183⟩, ⟨by (with_reducible repeat (first | refine qi ?_ _ | refine qj ?_ | refine qg ?_ _)); exact BK177.out⟩, ⟨bx_ HB⟩⟩
 case round =>
  clear H'; try clear c1; try clear p2
  obtain ⟨x3_1, x9_1, rfl, HA, HK1, HO_3, HO_7, BK177, HB⟩ := hrel
  cases gk with
  | zero => exact absurd HA.out (by simp [zu.l0])
  | succ k1 =>
   have H := HA.out; clear HA
   simp only [zu.l0] at H
   by_cases c8 : x9_1 < (t181.length : Int)
   ·rw [if_pos c8] at H
    have c8b0 := decide_eq_true c8; clear c8; replace H := ifn H; obtain ⟨c9, H⟩ := H; have c9b0 := decide_eq_true c9; clear c9; replace H := ifn H; obtain ⟨c10, H⟩ := H; have c10b0 := decide_eq_true c10; clear c10; replace H := bs H; obtain ⟨t186, A11, H⟩ := H
    replace H := bs H; obtain ⟨t187, A12, H⟩ := H; replace H := bs H; obtain ⟨t188, A13, H⟩ := H; replace H := ifn H; obtain ⟨c14, H⟩ := H; have LMc14 := am c14; clear c14
    generalize hy189 : (x3_1 ++ [wrap64 ((wrap64 (t186 * t187)) * t188)] : List Int) = y189 at H
    have Ny189 := am hy189.symm; clear hy189; have H' := am H; clear H
    have p184 : 0 ≤ (x9_1 : Int) := od
    have q184 : x9_1 < (t181.length : Int) := od
    obtain ⟨ad184, e184, hx184_0, hx184_1, hx184_2⟩ := qeo (Kd.R_reads' HO_7.out).2.2 x9_1 p184 q184
    cases e184; replace p184 := eq_true p184; replace q184 := eq_true q184
    try go_wp2_with (first | ((with_reducible refine za (N := 5) rfl ?_); refine xe_ 5 41 #[.int .i64 0, .int .i64 0, .int .i64 0] ?_; intro gb185 hg w15 hbox hb; replace HO_3 := am (Kd.R_below (wR HO_3) hb); replace HO_7 := am (Kd.R_below (Kd.R_elderB (wR HO_7) gb185 (Nat.le_of_eq hg.symm)) hb); have BK185 := am (hbox); have GW185 := am ((by rw [hg]; exact (zc (bx_ HB)) : w.heap.size ≤ gb185)); have GE185 := am ((by rw [hg]; exact (zc (bx_ HB)) : w.heap.size ≤ gb185)); replace HB := am (qz (bx_ HB) hb); have NB177_185 := am ((by rw [hg]; exact Nat.ne_of_lt (jv (g := gb177) (o := .cells #[.int .i64 a0_0, .int .i64 a0_1, .int .i64 a0_2] 43 (0, 0)) (pk_ BK177)) : gb177 ≠ gb185)); have NB185_177 := am ((by rw [hg]; exact Nat.ne_of_gt (jv (g := gb177) (o := .cells #[.int .i64 a0_0, .int .i64 a0_1, .int .i64 a0_2] 43 (0, 0)) (pk_ BK177)) : gb185 ≠ gb177)); replace BK177 := am (zg (g := gb177) (o := .cells #[.int .i64 a0_0, .int .i64 a0_1, .int .i64 a0_2] 43 (0, 0)) (pk_ BK177) hb); clear hb hbox hg; have hnb16 := NB185_177.out; have hnc16 := NB177_185.out; have hcz17_0 : w15.cell? ⟨gb185, 0, none⟩ = some (.int .i64 0) := (qa BK185.out 0).trans rfl; have hcz17_1 : w15.cell? ⟨gb185, 1, none⟩ = some (.int .i64 0) := (qa BK185.out 1).trans rfl; have hcz17_2 : w15.cell? ⟨gb185, 2, none⟩ = some (.int .i64 0) := (qa BK185.out 2).trans rfl; have hfz17_0 := qp BK185.out 0; have hfz17_1 := qp BK185.out 1; have hfz17_2 := qp BK185.out 2))
    have n0_ : qb (Kd.R (Kd.int .i64) 3 (((w15.setCell ⟨gb185, 0, none⟩ (.int .i64 ((qy t181 x9_1).f0))).setCell ⟨gb185, 1, none⟩ (.int .i64 ((qy t181 x9_1).f1))).setCell ⟨gb185, 2, none⟩ (.int .i64 ((qy t181 x9_1).f2))) w.heap.size (fun _ => True) u3 x3_1) := ⟨by (with_reducible repeat (first | apply Kd.R_alloc | apply Kd.R_drewN | apply Kd.R_drew)); exact Kd.R_mono (Kd.R_far (p := ⟨gb185, 2, none⟩) (Kd.R_far (p := ⟨gb185, 1, none⟩) (Kd.R_far (p := ⟨gb185, 0, none⟩) (Kd.R_types HO_3.out BK185.out (by decide)) (fun _ hk => hk.2) (.int .i64 ((qy t181 x9_1).f0))) (fun _ hk => hk.2) (.int .i64 ((qy t181 x9_1).f1))) (fun _ hk => hk.2) (.int .i64 ((qy t181 x9_1).f2))) (fun _ hk => trivial)⟩
    have n1_ : qb (Kd.R k41 41 (((w15.setCell ⟨gb185, 0, none⟩ (.int .i64 ((qy t181 x9_1).f0))).setCell ⟨gb185, 1, none⟩ (.int .i64 ((qy t181 x9_1).f1))).setCell ⟨gb185, 2, none⟩ (.int .i64 ((qy t181 x9_1).f2))) w.heap.size (fun k_ => k_ ≠ gb185) (.slice (some ad184) t181.length co7) t181) := ⟨by (with_reducible repeat (first | apply Kd.R_alloc | apply Kd.R_drewN | apply Kd.R_drew)); exact Kd.R_mono (Kd.R_far (p := ⟨gb185, 2, none⟩) (Kd.R_far (p := ⟨gb185, 1, none⟩) (Kd.R_far (p := ⟨gb185, 0, none⟩) (Kd.R_mono HO_7.out (fun k_ hk => (⟨hk, hk.2⟩ : _ ∧ k_ ≠ gb185))) (fun _ hk => hk.2) (.int .i64 ((qy t181 x9_1).f0))) (fun _ hk => hk.2) (.int .i64 ((qy t181 x9_1).f1))) (fun _ hk => hk.2) (.int .i64 ((qy t181 x9_1).f2))) (fun _ hk => hk.1.2)⟩
    have n2_ : qb ((((w15.setCell ⟨gb185, 0, none⟩ (.int .i64 ((qy t181 x9_1).f0))).setCell ⟨gb185, 1, none⟩ (.int .i64 ((qy t181 x9_1).f1))).setCell ⟨gb185, 2, none⟩ (.int .i64 ((qy t181 x9_1).f2))).heap[gb177]? = some (.cells #[.int .i64 a0_0, .int .i64 a0_1, .int .i64 a0_2] 43 (0, 0))) := ⟨by (with_reducible repeat (first | refine qi ?_ _ | refine qj ?_ | refine qg ?_ _)); refine jx ?_ NB177_185.out _; (with_reducible repeat (first | refine qi ?_ _ | refine qj ?_ | refine qg ?_ _)); refine jx ?_ NB177_185.out _; (with_reducible repeat (first | refine qi ?_ _ | refine qj ?_ | refine qg ?_ _)); refine jx ?_ NB177_185.out _; (with_reducible repeat (first | refine qi ?_ _ | refine qj ?_ | refine qg ?_ _)); exact BK177.out⟩
    have n3_ : qb ((((w15.setCell ⟨gb185, 0, none⟩ (.int .i64 ((qy t181 x9_1).f0))).setCell ⟨gb185, 1, none⟩ (.int .i64 ((qy t181 x9_1).f1))).setCell ⟨gb185, 2, none⟩ (.int .i64 ((qy t181 x9_1).f2))).heap[gb185]? = some (.cells #[.int .i64 ((qy t181 x9_1).f0), .int .i64 ((qy t181 x9_1).f1), .int .i64 ((qy t181 x9_1).f2)] 41 (0, 0))) := ⟨by (with_reducible repeat (first | refine qi ?_ _ | refine qj ?_ | refine qg ?_ _)); refine z6 (cs := #[.int .i64 ((qy t181 x9_1).f0), .int .i64 ((qy t181 x9_1).f1), .int .i64 0]) ?_ 2 _ rfl; (with_reducible repeat (first | refine qi ?_ _ | refine qj ?_ | refine qg ?_ _)); refine z6 (cs := #[.int .i64 ((qy t181 x9_1).f0), .int .i64 0, .int .i64 0]) ?_ 1 _ rfl; (with_reducible repeat (first | refine qi ?_ _ | refine qj ?_ | refine qg ?_ _)); refine z6 (cs := #[.int .i64 0, .int .i64 0, .int .i64 0]) ?_ 0 _ rfl; (with_reducible repeat (first | refine qi ?_ _ | refine qj ?_ | refine qg ?_ _)); exact BK185.out⟩
    have n4_ : qb (Below w.heap.size w (((w15.setCell ⟨gb185, 0, none⟩ (.int .i64 ((qy t181 x9_1).f0))).setCell ⟨gb185, 1, none⟩ (.int .i64 ((qy t181 x9_1).f1))).setCell ⟨gb185, 2, none⟩ (.int .i64 ((qy t181 x9_1).f2)))) := ⟨bx_ HB⟩
    (try clear HO_3)
    (try clear HO_7)
    (try clear BK177)
    (try clear BK185)
    (try clear HB)
    generalize (((w15.setCell ⟨gb185, 0, none⟩ (.int .i64 ((qy t181 x9_1).f0))).setCell ⟨gb185, 1, none⟩ (.int .i64 ((qy t181 x9_1).f1))).setCell ⟨gb185, 2, none⟩ (.int .i64 ((qy t181 x9_1).f2))) = w18 at n0_ n1_ n2_ n3_ n4_ ⊢
    have HO_3 := n0_
    have HO_7 := n1_
    have BK177 := n2_
    have BK185 := n3_
    have HB := n4_
    clear n0_ n1_ n2_ n3_ n4_
    replace HO_3 := am (Kd.R_drew HO_3.out)
    replace HO_7 := am (Kd.R_drew HO_7.out)
    replace BK177 := am (qj BK177.out)
    replace BK185 := am (qj BK185.out)
    replace HB := am (qx HB.out)
    refine st 24 (fun w' => w'.cell? ⟨gb177, 0, none⟩ = some (.int .i64 a0_0) ∧ w'.cell? ⟨gb177, 1, none⟩ = some (.int .i64 a0_1) ∧ w'.cell? ⟨gb177, 2, none⟩ = some (.int .i64 a0_2) ∧ w'.cell? ⟨gb185, 0, none⟩ = some (.int .i64 ((qy t181 x9_1).f0)) ∧ w'.cell? ⟨gb185, 1, none⟩ = some (.int .i64 ((qy t181 x9_1).f1)) ∧ w'.cell? ⟨gb185, 2, none⟩ = some (.int .i64 ((qy t181 x9_1).f2))) [] zu.tab5 zu.bits5 (⟨(qa BK177.out 0).trans rfl, (qa BK177.out 1).trans rfl, (qa BK177.out 2).trans rfl, (qa BK185.out 0).trans rfl, (qa BK185.out 1).trans rfl, (qa BK185.out 2).trans rfl⟩) fun hHeld HT_ HW_ => ?_
    generalize w18.drew = w19 at HO_3 HO_7 BK177 BK185 HB hHeld ⊢
    refine pz 0 13 HT_ ?_; refine pz 1 14 HT_ ?_; refine pz 2 15 HT_ ?_; refine pz 4 17 HT_ ?_; refine pz 7 20 HT_ ?_; refine pz 8 21 HT_ ?_; refine pz 10 23 HT_ ?_; refine pz 14 27 HT_ ?_; refine pz 15 28 HT_ ?_; refine pz 17 30 HT_ ?_; refine tk 3 16 HT_ HW_ hHeld ?_
    refine tk 5 18 HT_ HW_ hHeld ?_; refine tk 9 22 HT_ HW_ hHeld ?_; refine tk 11 24 HT_ HW_ hHeld ?_; refine tk 16 29 HT_ HW_ hHeld ?_; refine tk 18 31 HT_ HW_ hHeld ?_
    refine on 6 (some 19) HT_ fun K hK => ?_
    refine gs_ Try.func102 #[.int .i64 a0_0, .int .i64 ((qy t181 x9_1).f0)] ?_
    with_reducible refine (z7.calls k1 a0_0 ((qy t181 x9_1).f0) t186 _ A11.out).mono ?_
    rintro e w' ⟨rfl, ⟨nd, rfl⟩⟩
    refine ⟨_, rfl, ?_⟩
    refine hK.out _ _ ⟨(qa BK177.out 0).trans rfl, (qa BK177.out 1).trans rfl, (qa BK177.out 2).trans rfl, (qa BK185.out 0).trans rfl, (qa BK185.out 1).trans rfl, (qa BK185.out 2).trans rfl⟩ fun hHeld => nz ?_
    clear hK K
    refine on 12 (some 25) HT_ fun K hK => ?_
    refine gs_ Try.func102 #[.int .i64 a0_1, .int .i64 ((qy t181 x9_1).f1)] ?_
    with_reducible refine (z7.calls k1 a0_1 ((qy t181 x9_1).f1) t187 _ A12.out).mono ?_
    rintro e w' ⟨rfl, ⟨nd, rfl⟩⟩
    refine ⟨_, rfl, ?_⟩
    refine hK.out _ _ ⟨(qa BK177.out 0).trans rfl, (qa BK177.out 1).trans rfl, (qa BK177.out 2).trans rfl, (qa BK185.out 0).trans rfl, (qa BK185.out 1).trans rfl, (qa BK185.out 2).trans rfl⟩ fun hHeld => nz ?_
    clear hK K; refine pz 13 26 HT_ ?_
    refine on 19 (some 32) HT_ fun K hK => ?_
    refine gs_ Try.func102 #[.int .i64 a0_2, .int .i64 ((qy t181 x9_1).f2)] ?_
    with_reducible refine (z7.calls k1 a0_2 ((qy t181 x9_1).f2) t188 _ A13.out).mono ?_
    rintro e w' ⟨rfl, ⟨nd, rfl⟩⟩
    refine ⟨_, rfl, ?_⟩
    refine hK.out _ _ ⟨(qa BK177.out 0).trans rfl, (qa BK177.out 1).trans rfl, (qa BK177.out 2).trans rfl, (qa BK185.out 0).trans rfl, (qa BK185.out 1).trans rfl, (qa BK185.out 2).trans rfl⟩ fun hHeld => nz ?_
    clear hK K; refine pz 20 33 HT_ ?_
    refine on 21 (some 34) HT_ fun K hK => ?_
    refine qfo (w1 := ?_) (v := ?_) (by rfl) rfl ?_ ?_
    rotate_left 2
    ·go_simp
     constructor
     ·rfl
     ·rfl
    refine hK.out _ _ ⟨(qa (qg BK177.out _) 0).trans rfl, (qa (qg BK177.out _) 1).trans rfl, (qa (qg BK177.out _) 2).trans rfl, (qa (qg BK185.out _) 0).trans rfl, (qa (qg BK185.out _) 1).trans rfl, (qa (qg BK185.out _) 2).trans rfl⟩ fun hHeld => nz ?_
    clear hK K
    refine on 22 (some 35) HT_ fun K hK => ?_
    refine Kd.R_append_step (Kd.int .i64) (w0 := w) w.heap.size (by rfl) (.tmp 13) (.tmp 34) 23 3 (.int .i64 0) 8 rfl Try.underlying23 Ju rfl (by decide) (by omega) u3 x3_1 (wrap64 ((wrap64 (t186 * t187)) * t188)) [.int .i64 (wrap64 ((wrap64 (t186 * t187)) * t188))] (fun _ => True) (fun _ => False) rfl rfl ?aP (fun _ hk => hk.elim) ?aF ?aO ?aB ?aS ?aL ?_
    (case aP => exact rfl)
    (case aB => exact (bx_ HB))
    (case aF => exact (fun _ _ => trivial))
    (case aO => exact (wR HO_3))
    (case aS => exact (zc (bx_ HB)))
    (case aL => have := LMc14.out; omega)
    intro v190 w20 ho hb hg hat
    rw [← Ny189.out] at ho
    replace HO_7 := am (Kd.R_over' (wR HO_7) (Kd.R_typed (wR HO_3)) (by decide) hg)
    replace BK177 := am (Qh (g := gb177) (o := .cells #[.int .i64 a0_0, .int .i64 a0_1, .int .i64 a0_2] 43 (0, 0)) (pk_ BK177) hg (Kd.R_ne HO_3.out BK177.out (by decide)))
    replace BK185 := am (Qh (g := gb185) (o := .cells #[.int .i64 ((qy t181 x9_1).f0), .int .i64 ((qy t181 x9_1).f1), .int .i64 ((qy t181 x9_1).f2)] 41 (0, 0)) (pk_ BK185) hg (Kd.R_ne HO_3.out BK185.out (by decide)))
    replace HB := am (hb)
    have HO191 := am (ho)
    clear HO_3; clear ho hb hg hat
    refine hK.out _ _ ⟨(qa BK177.out 0).trans rfl, (qa BK177.out 1).trans rfl, (qa BK177.out 2).trans rfl, (qa BK185.out 0).trans rfl, (qa BK185.out 1).trans rfl, (qa BK185.out 2).trans rfl⟩ fun hHeld => nz ?_
    clear hK K; refine pz 23 3 HT_ ?_
    refine Q8 (Qj HT_.out (by kernel_rfl)) ?_
    try go_wp2
    go_roundg k1
    case measure => have := HK1.out; omega
    case rel => exact ⟨(y189), (wrap64 (x9_1 + 1)), fr, H', ⟨by have := HK1.out; omega⟩, ⟨wR HO191⟩, ⟨Kd.R_below (Kd.R_mono HO_7.out (fun _ hk => trivial)) gs⟩, ⟨by (with_reducible repeat (first | refine qi ?_ _ | refine qj ?_ | refine qg ?_ _)); exact BK177.out⟩, ⟨bx_ HB⟩⟩
   ·rw [if_neg c8] at H
    have c8b0 := decide_eq_false c8; clear c8; obtain rfl := Option.some.inj H; go_wp2; go_ret
    exact ⟨_, fq, wR HO_3, bx_ HB⟩
def zv.l0 : Nat → Int → List (List Int) → List (S43) → Int → Int → Option ((List (List Int)))
 | 0, _, _, _, _, _ => none
 | k + 1, x0, x5, x9, x10, x11 => if x11 < x10 then (if 0 ≤ x11 then (if x11 < (x9.length : Int) then ((zu.f k ((qd x9 x11).f0.f0) ((qd x9 x11).f0.f1) ((qd x9 x11).f0.f2)).bind fun t197 => (if x5.length < 5864062014805 then (zv.l0 k x0 (x5 ++ [t197]) x9 x10 (wrap64 (x11 + 1))) else (none))) else (none)) else (none)) else ((qh.f k x0 x5 10).bind fun t203 => (some t203))
def zv.f (k : Nat) (a0 : Int) (l1 : List (S43)) : Option ((List (List Int))) := zv.l0 k a0 (([] : List (List Int))) l1 (l1.length : Int) 0
theorem zv.mono_l : ∀ k, (∀ y0 y1 y2 y3 y4, LeO (zv.l0 k y0 y1 y2 y3 y4) (zv.l0 (k + 1) y0 y1 y2 y3 y4))
 | 0 => fun _ _ _ _ _ r h => by simp [zv.l0] at h
 | k + 1 => by
  have ih0 := zv.mono_l k
  ·intro y0 y1 y2 y3 y4
   unfold zv.l0
   repeat' first | (with_reducible first | apply ih0 | apply zu.mono | apply qh.mono | exact LeO.refl _ | exact LeO.none _ | refine LeO.ite ?_ ?_ | refine LeO.bind ?_ (fun _ => ?_)) | (first | apply ih0 | apply zu.mono | apply qh.mono | exact LeO.none _ | refine LeO.ite ?_ ?_ | refine LeO.bind ?_ (fun _ => ?_))
theorem zv.mono : ∀ a0 a1 k, LeO (zv.f k a0 a1) (zv.f (k + 1) a0 a1) := by
 intro a0 a1 k
 have ih0 := zv.mono_l k
 unfold zv.f
 repeat' first | (with_reducible first | apply ih0 | apply zu.mono | apply qh.mono | exact LeO.refl _ | exact LeO.none _ | refine LeO.ite ?_ ?_ | refine LeO.bind ?_ (fun _ => ?_)) | (first | apply ih0 | apply zu.mono | apply qh.mono | exact LeO.none _ | refine LeO.ite ?_ ?_ | refine LeO.bind ?_ (fun _ => ?_))
theorem zv.calls (k : Nat) (a0 : Int) (A1 : Option Addr) (c1 : Nat) (l1 : List (S43)) (r : List (List Int)) (w : World) (hr1 : Kd.C k43 w A1 l1.length l1) (hc1 : l1.length ≤ c1) (h : zv.f k a0 l1 = some r) :
  Calls Try.prog 67 #[.int .i64 a0, .slice A1 l1.length c1] w fun e w' => ∃ v0_ : Value, e = .returned (v0_) ∧ Kd.S (Kd.slice 3 (Kd.int .i64)) 23 w' w.heap.size (fun _ => True) v0_ r ∧ Below w.heap.size w w' := by
 have hu43 := Try.underlying43
 have HR1 := am hr1
 have HC1 := am hc1
 clear hr1 hc1
 have HB := am (Below.refl w.heap.size w)
 have H : (zv.l0 k a0 (([] : List (List Int))) l1 (l1.length : Int) 0) = some r := h
 clear h
 generalize hy192 : (([] : List (List Int))) = y192 at H
 have Ny192 := am hy192.symm; clear hy192; have H' := am H; clear H
 go_enter Try.func67, Try.ntmps67
 go_wp2_with (first | ((with_reducible refine za (N := 8) rfl ?_); refine Kd.S_lit (Kd.slice 3 (Kd.int .i64)) _ 23 ?hg (N := 8) ?hd (xs := ([] : List (List Int))) (inner := []) (ok := fun _ => True) (okp := fun _ => True) ?hr ?hp (fun _ hk => hk) trivial (Below.refl _ _) (Nat.le_refl _) (by simp) ?_; (case hd => rfl); (case hg => rfl); (case hr => first | (go_simp; done) | (go_simp; rfl)); (case hp => exact (Reps.none _ _)); intro v193 w3 ho4 hb hg_ hnew_; clear hg_ hnew_; (first | rw [← Ny192.out] at ho4 | (simp only [Int.reduceToNat] at ho4; rw [← Ny192.out] at ho4)); have HO194 := am (Kd.S_lower ho4 (bz HB)); replace HB := bq HB hb; clear hb ho4))
 go_loopg [5, 11] k (fun kq v5 v11 w' => ∃ (x5_1 : List (List Int)) (x11_1 : Int), v11 = .int .i64 x11_1 ∧ qb (zv.l0 kq a0 x5_1 l1 (l1.length : Int) x11_1 = some r) ∧ qb (kq ≤ k) ∧ qb (Kd.S (Kd.slice 3 (Kd.int .i64)) 23 w' w.heap.size (fun _ => True) v5 x5_1) ∧ qb (Below w.heap.size w w'))
 case atStart => exact ⟨(y192), (0), fr, H', ⟨Nat.le_refl _⟩, ⟨wS HO194⟩, ⟨bw HB⟩⟩
 case round =>
  clear H'; try clear c1; try clear p2
  obtain ⟨x5_1, x11_1, rfl, HA, HK1, HO_5, HB⟩ := hrel
  cases gk with
  | zero => exact absurd HA.out (by simp [zv.l0])
  | succ k1 =>
   have H := HA.out; clear HA
   simp only [zv.l0] at H
   by_cases c5 : x11_1 < (l1.length : Int)
   ·rw [if_pos c5] at H
    have c5b0 := decide_eq_true c5; clear c5; replace H := ifn H; obtain ⟨c6, H⟩ := H; have c6b0 := decide_eq_true c6; clear c6; replace H := ifn H; obtain ⟨c7, H⟩ := H; have c7b0 := decide_eq_true c7; clear c7; replace H := bs H; obtain ⟨t197, A8, H⟩ := H
    replace H := ifn H; obtain ⟨c9, H⟩ := H; have LMc9 := am c9; clear c9
    generalize hy200 : (x5_1 ++ [t197] : List (List Int)) = y200 at H
    have Ny200 := am hy200.symm; clear hy200; have H' := am H; clear H
    have p195 : 0 ≤ (x11_1 : Int) := od
    have q195 : x11_1 < (l1.length : Int) := od
    obtain ⟨ad195, e195, hx195_0, hx195_1, hx195_2⟩ := Z4 HR1.out x11_1 p195 q195
    cases e195
    replace hx195_0 := wcl HB hx195_0
    replace hx195_1 := wcl HB hx195_1
    replace hx195_2 := wcl HB hx195_2
    replace p195 := eq_true p195; replace q195 := eq_true q195
    go_wp2_with (first | ((with_reducible refine za (N := 7) rfl ?_); refine xe_ 7 43 #[.int .i64 0, .int .i64 0, .int .i64 0] ?_; intro gb196 hg w10 hbox hb; replace HO_5 := am (Kd.S_below (wS HO_5) hb); have BK196 := am (hbox); have GW196 := am ((by rw [hg]; exact (bz HB) : w.heap.size ≤ gb196)); have GE196 := am ((by rw [hg]; exact (bz HB) : w.heap.size ≤ gb196)); replace HB := bq HB hb; clear hb hbox hg; have hcz11_0 : w10.cell? ⟨gb196, 0, none⟩ = some (.int .i64 0) := (qa BK196.out 0).trans rfl; have hcz11_1 : w10.cell? ⟨gb196, 1, none⟩ = some (.int .i64 0) := (qa BK196.out 1).trans rfl; have hcz11_2 : w10.cell? ⟨gb196, 2, none⟩ = some (.int .i64 0) := (qa BK196.out 2).trans rfl; have hfz11_0 := qp BK196.out 0; have hfz11_1 := qp BK196.out 1; have hfz11_2 := qp BK196.out 2) | ((with_reducible refine qf (f := 82) rfl ?_); refine gl 17 Try.func82 #[.agg #[.int .i64 ((qd l1 x11_1).f0.f0), .int .i64 ((qd l1 x11_1).f0.f1), .int .i64 ((qd l1 x11_1).f0.f2)]] ?_; (with_reducible refine (zu.calls k1 ((qd l1 x11_1).f0.f0) ((qd l1 x11_1).f0.f1) ((qd l1 x11_1).f0.f2) t197 _ A8.out).mono ?_); rintro e w12 ⟨v198, rfl, ho0, hb⟩; refine ⟨_, rfl, ?_⟩; replace HO_5 := am (Kd.S_elder' (by (with_reducible repeat (first | apply Kd.S_alloc | apply Kd.S_drewN | apply Kd.S_drew)); exact (Kd.S_mono (Kd.S_far (p := ⟨gb196, 2, none⟩) (Kd.S_far (p := ⟨gb196, 1, none⟩) (Kd.S_far (p := ⟨gb196, 0, none⟩) (Kd.S_types HO_5.out BK196.out (by decide)) (fun _ hk => hk.2) (.int .i64 ((qd l1 x11_1).f0.f0))) (fun _ hk => hk.2) (.int .i64 ((qd l1 x11_1).f0.f1))) (fun _ hk => hk.2) (.int .i64 ((qd l1 x11_1).f0.f2))) (fun _ h_ => h_.1))) (Kd.R_base ho0) hb); have HO199 := am (Kd.R_lower ho0 (zc (bx_ HB))); replace BK196 := am (zg (g := gb196) (o := .cells #[.int .i64 ((qd l1 x11_1).f0.f0), .int .i64 ((qd l1 x11_1).f0.f1), .int .i64 ((qd l1 x11_1).f0.f2)] 43 (0, 0)) (by (with_reducible repeat (first | refine qi ?_ _ | refine qj ?_ | refine qg ?_ _)); refine z6 (cs := #[.int .i64 ((qd l1 x11_1).f0.f0), .int .i64 ((qd l1 x11_1).f0.f1), .int .i64 0]) ?_ 2 _ rfl; (with_reducible repeat (first | refine qi ?_ _ | refine qj ?_ | refine qg ?_ _)); refine z6 (cs := #[.int .i64 ((qd l1 x11_1).f0.f0), .int .i64 0, .int .i64 0]) ?_ 1 _ rfl; (with_reducible repeat (first | refine qi ?_ _ | refine qj ?_ | refine qg ?_ _)); refine z6 (cs := #[.int .i64 0, .int .i64 0, .int .i64 0]) ?_ 0 _ rfl; (with_reducible repeat (first | refine qi ?_ _ | refine qj ?_ | refine qg ?_ _)); exact BK196.out) hb); replace HB := am (qz (bx_ HB) hb); (try clear hb); (try clear ho0); obtain ⟨Ao14, co14, eo14⟩ := Kd.R_slice HO199.out; subst eo14) | ((with_reducible refine jh (b := .append) (xs := #[.tmp 15, .tmp 18]) rfl ?_); at_builtin; refine Kd.S_append (Kd.slice 3 (Kd.int .i64)) (w0 := w) w.heap.size rfl (.tmp 15) (.tmp 18) 47 23 (.slice none 0 0) 24 rfl Try.underlying47 Zb rfl (by decide) (by omega) u5 x5_1 t197 [.slice Ao14 t197.length co14] (fun _ => True) (fun k_ => some k_ = (.slice Ao14 t197.length co14 : Value).ownBlock) rfl rfl ?aP (fun k_ hk_ => ((Kd.R_mono (ok' := fun k_ => ((fun _ => True)) k_ ∧ some k_ ≠ (u5 : Value).ownBlock) (Kd.R_apart' (HO199.out) (Kd.S_typed HO_5.out) (by decide)) (fun k_ hk => ⟨trivial, hk.2⟩))).1 k_ hk_.symm) ?aF ?aO ?aB ?aS ?aL ?_; (case aP => exact Kd.M_row (Kd.R_mono (Kd.R_tight rfl (Kd.R_mono (ok' := fun k_ => ((fun _ => True)) k_ ∧ some k_ ≠ (u5 : Value).ownBlock) (Kd.R_apart' (HO199.out) (Kd.S_typed HO_5.out) (by decide)) (fun k_ hk => ⟨trivial, hk.2⟩))) (fun _ h_ => h_))); (case aB => exact (bx_ HB)); (case aF => exact (fun _ _ => trivial)); (case aO => exact (oS_ HO_5 (fun k_ hk => ⟨trivial, fun e_ => hk.2 e_⟩))); (case aS => exact (zc (bx_ HB))); (case aL => have := LMc9.out; omega); intro v201 w13 ho hb hg hat; rw [← Ny200.out] at ho; replace BK196 := am (Qh (g := gb196) (o := .cells #[.int .i64 ((qd l1 x11_1).f0.f0), .int .i64 ((qd l1 x11_1).f0.f1), .int .i64 ((qd l1 x11_1).f0.f2)] 43 (0, 0)) (pk_ BK196) hg (Kd.S_ne HO_5.out BK196.out (by decide))); replace HB := am (hb); have HO202 := am (ho); clear HO_5 HO199; clear ho hb hg hat))
    go_roundg k1
    case measure => have := HK1.out; omega
    case rel => exact ⟨(y200), (wrap64 (x11_1 + 1)), fr, H', ⟨by have := HK1.out; omega⟩, ⟨wS HO202⟩, ⟨bx_ HB⟩⟩
   ·rw [if_neg c5] at H
    have c5b0 := decide_eq_false c5; clear c5; replace H := bs H; obtain ⟨t203, A15, H⟩ := H; obtain rfl := Option.some.inj H
    obtain ⟨Ao16, co16, eo16⟩ := Kd.S_slice HO_5.out
    subst eo16
    go_wp2_with (first | ((with_reducible refine qf (f := 112) rfl ?_); refine gl 23 Try.func112 #[.int .i64 a0, .slice Ao16 x5_1.length co16, .int .i64 10] ?_; (with_reducible refine (qh.calls k1 a0 _ _ x5_1 10 t203 _ ?_ ?_ A15.out).mono ?_); exact Kd.C_below (Kd.S_reads' HO_5.out).2.2 gs; exact (Kd.S_reads' HO_5.out).2.1; rintro e w17 ⟨v204, rfl, ho0, hb⟩; refine ⟨_, rfl, ?_⟩; have HO205 := am (Kd.S_lower (Kd.S_new' ho0 (Kd.S_lt (wS HO_5))) (bz HB)); replace HO_5 := eS HO_5 (Kd.S_base ho0) hb; replace HB := bq HB hb; (try clear hb); (try clear ho0)))
    go_ret
    exact ⟨_, fq, Kd.S_below (Kd.S_mono HO205.out (fun _ hk => trivial)) gs, bw HB⟩
def jy.f (k : Nat) (a0 : Int) (l1 : List (S43)) : Option (List Int × Bool) := (z8.f k a0 l1).bind fun t206 => (if t206 = true then ((zv.f k a0 l1).bind fun t207 => ((q6.f k a0 t207).bind fun t210 => (some (t210, true)))) else (some (([] : List Int), false)))
theorem jy.mono : ∀ a0 a1 k, LeO (jy.f k a0 a1) (jy.f (k + 1) a0 a1) := by
 intro a0 a1 k
 unfold jy.f
 repeat' first | (with_reducible first | apply z8.mono | apply zv.mono | apply q6.mono | exact LeO.refl _ | exact LeO.none _ | refine LeO.ite ?_ ?_ | refine LeO.bind ?_ (fun _ => ?_)) | (first | apply z8.mono | apply zv.mono | apply q6.mono | exact LeO.none _ | refine LeO.ite ?_ ?_ | refine LeO.bind ?_ (fun _ => ?_))
theorem jy.calls (k : Nat) (a0 : Int) (A1 : Option Addr) (c1 : Nat) (l1 : List (S43)) (r1 : List Int) (r2 : Bool) (w : World) (hr1 : Kd.C k43 w A1 l1.length l1) (hc1 : l1.length ≤ c1) (h : jy.f k a0 l1 = some (r1, r2)) :
  Calls Try.prog 22 #[.int .i64 a0, .slice A1 l1.length c1] w fun e w' => ∃ v0_ : Value, e = .returned (.tuple #[v0_, .bool r2]) ∧ Kd.R (Kd.int .i64) 3 w' w.heap.size (fun _ => True) v0_ r1 ∧ Below w.heap.size w w' := by
 have HR1 := am hr1
 have HC1 := am hc1
 clear hr1 hc1
 have HB := am (Below.refl w.heap.size w)
 have H : ((z8.f k a0 l1).bind fun t206 => (if t206 = true then ((zv.f k a0 l1).bind fun t207 => ((q6.f k a0 t207).bind fun t210 => (some (t210, true)))) else (some (([] : List Int), false)))) = some (r1, r2) := h
 clear h; replace H := bs H; obtain ⟨t206, A3, H⟩ := H
 by_cases c4 : t206 = true
 ·subst c4
  rw [if_pos rfl] at H
  replace H := bs H; obtain ⟨t207, A5, H⟩ := H; replace H := bs H; obtain ⟨t210, A6, H⟩ := H
  simp only [Option.some.injEq, Prod.mk.injEq] at H
  obtain ⟨rfl, rfl⟩ := H
  go_enter Try.func22, Try.ntmps22
  go_wp2_with (first | ((with_reducible refine qf (f := 65) rfl ?_); refine gl 8 Try.func65 #[.int .i64 a0, .slice A1 l1.length c1] ?_; (with_reducible refine (z8.calls k a0 _ _ l1 true _ ?_ ?_ A3.out).mono ?_); exact wC HR1; exact HC1.out; rintro e w7 ⟨rfl, hb⟩; refine ⟨_, rfl, ?_⟩; replace HB := bq HB hb; (try clear hb)) | ((with_reducible refine qf (f := 67) rfl ?_); refine gl 13 Try.func67 #[.int .i64 a0, .slice A1 l1.length c1] ?_; (with_reducible refine (zv.calls k a0 _ _ l1 t207 _ ?_ ?_ A5.out).mono ?_); exact Kd.C_below HR1.out (bw HB); exact HC1.out; rintro e w8 ⟨v208, rfl, ho0, hb⟩; refine ⟨_, rfl, ?_⟩; have HO209 := am (Kd.S_lower ho0 (bz HB)); replace HB := bq HB hb; (try clear hb); (try clear ho0); obtain ⟨Ao9, co9, eo9⟩ := Kd.S_slice HO209.out; subst eo9) | ((with_reducible refine qf (f := 66) rfl ?_); refine gl 14 Try.func66 #[.int .i64 a0, .slice Ao9 t207.length co9] ?_; (with_reducible refine (q6.calls k a0 _ _ t207 t210 _ ?_ ?_ A6.out).mono ?_); exact Kd.C_below (Kd.S_reads' HO209.out).2.2 gs; exact (Kd.S_reads' HO209.out).2.1; rintro e w10 ⟨v211, rfl, ho0, hb⟩; refine ⟨_, rfl, ?_⟩; replace HO209 := eS HO209 (Kd.R_base ho0) hb; have HO212 := am (Kd.R_lower ho0 (bz HB)); replace HB := bq HB hb; (try clear hb); (try clear ho0)))
  go_ret2
  exact ⟨_, fq, wR HO212, bw HB⟩
 ·replace c4 := Bool.eq_false_iff.mpr c4
  subst c4
  rw [if_neg (show ¬ (false = true) by decide)] at H
  simp only [Option.some.injEq, Prod.mk.injEq] at H
  obtain ⟨rfl, rfl⟩ := H
  go_enter Try.func22, Try.ntmps22
  go_wp2_with (first | ((with_reducible refine qf (f := 65) rfl ?_); refine gl 8 Try.func65 #[.int .i64 a0, .slice A1 l1.length c1] ?_; (with_reducible refine (z8.calls k a0 _ _ l1 false _ ?_ ?_ A3.out).mono ?_); exact wC HR1; exact HC1.out; rintro e w11 ⟨rfl, hb⟩; refine ⟨_, rfl, ?_⟩; replace HB := bq HB hb; (try clear hb)))
  go_ret2
  exact ⟨_, fq, by first | exact Kd.R_nil _ _ _ _ _ | exact Kd.N_nil _ _ _ _ _ | exact Kd.V_nil _ _ _ _ _ | exact Kd.Q_nil _ _ _ _ _ | exact Kd.S_nil _ _ _ _ _, bw HB⟩
end Go.Proofs.Ytmgbpmihbljngaa.PA

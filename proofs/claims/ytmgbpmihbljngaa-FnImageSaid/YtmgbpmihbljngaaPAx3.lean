-- Written by xprint.py, a program of this claim's own (over the kit's print.py)
import Derived.Test.YtmgbpmihbljngaaPAx2
namespace Go.Proofs.Ytmgbpmihbljngaa.PA
set_option maxHeartbeats 8000000
set_option maxRecDepth 100000
open Go.RowKit Go.Proofs.YtmgbpmihbljngaaW.PrintWords Go.Proofs.YtmgbpmihbljngaaW.PrintLast Go.Proofs.YtmgbpmihbljngaaW.PrintMore
attribute [local go_sem] j8 j9 Qi Qj jw jy Qa Qb
set_option linter.unusedVariables false
set_option linter.unusedSimpArgs false
def j6.f (a0 : Int) (a1_0 : Int) (a1_1 : Int) (a1_2 : Int) (a2_0 : Int) (a2_1 : Int) (a2_2 : Int) : Option (List Int) := (jo.f a0 (wrap64 ((wrap64 (a1_1 * a2_2)) - (wrap64 (a1_2 * a2_1))))).bind fun t123 => ((jo.f a0 (wrap64 ((wrap64 (a1_2 * a2_0)) - (wrap64 (a1_0 * a2_2))))).bind fun t124 => ((jo.f a0 (wrap64 ((wrap64 (a1_0 * a2_1)) - (wrap64 (a1_1 * a2_0))))).bind fun t125 => (some (([t123, t124, t125] : List Int)))))
def j6.T1 : Bool × List (List Nat × List Nat) := (true, [([], []), ([], []), ([1], [1]), ([2], [2]), ([], []), ([4], [4]), ([5], [5]), ([3, 6], [3, 6]), ([], []), ([8], [8]), ([9], [9]), ([], []), ([11], [11]), ([12], [12]), ([10, 13], [10, 13]), ([7, 14], [7, 14]), ([0, 15], [0, 15]), ([], []), ([], []), ([18], [18]), ([19], [19]), ([], []), ([21], [21]), ([22], [22]), ([20, 23], [20, 23]), ([], []), ([25], [25]), ([26], [26]), ([], []), ([28], [28]), ([29], [29]), ([27, 30], [27, 30]), ([24, 31], [24, 31]), ([17, 32, 16], [17, 32]), ([], []), ([], []), ([35], [35]), ([36], [36]), ([], []), ([38], [38]), ([39], [39]), ([37, 40], [37, 40]), ([], []), ([42], [42]), ([43], [43]), ([], []), ([45], [45]), ([46], [46]), ([44, 47], [44, 47]), ([41, 48], [41, 48]), ([34, 49, 33], [34, 49]), ([16, 33, 50], [16, 33, 50]), ([51, 50, 0, 1, 2, 3, 4, 5, 6, 7, 8, 9, 10, 11, 12, 13, 14, 15, 16, 17, 18, 19, 20, 21, 22, 23, 24, 25, 26, 27, 28, 29, 30, 31, 32, 33, 34, 35, 36, 37, 38, 39, 40, 41, 42, 43, 44, 45, 46, 47, 48, 49, 50, 51], [51])])
def j6.B1 : List Nat := [0, 0, 2, 6, 0, 16, 48, 126, 0, 256, 768, 0, 2048, 6144, 16128, 32766, 65535, 0, 0, 262144, 786432, 0, 2097152, 6291456, 16515072, 0, 33554432, 100663296, 0, 268435456, 805306368, 2113929216, 4294705152, 8589934591, 0, 0, 34359738368, 103079215104, 0, 274877906944, 824633720832, 2164663517184, 0, 4398046511104, 13194139533312, 0, 35184372088832, 105553116266496, 277076930199552, 562915593682944, 1125899906842623, 2251799813685247, 4503599627370495]
theorem j6.tab1 : rtab .any (Zp Try.f130 1) = j6.T1 := by kernel_rfl
theorem j6.bits1 : Qd j6.T1.2 j6.B1 = true := by kernel_rfl
theorem j6.calls (a0 : Int) (a1_0 : Int) (a1_1 : Int) (a1_2 : Int) (a2_0 : Int) (a2_1 : Int) (a2_2 : Int) (r : List Int) (w : World) (h : j6.f a0 a1_0 a1_1 a1_2 a2_0 a2_1 a2_2 = some r) :
  Calls Try.prog 130 #[.int .i64 a0, .agg #[.int .i64 a1_0, .int .i64 a1_1, .int .i64 a1_2], .agg #[.int .i64 a2_0, .int .i64 a2_1, .int .i64 a2_2]] w fun e w' => ∃ v0_ : Value, e = .returned (v0_) ∧ Kd.R (Kd.int .i64) 3 w' w.heap.size (fun _ => True) v0_ r ∧ Below w.heap.size w w' := by
 have hu43 := Try.underlying43
 have HB := am (Below.refl w.heap.size w)
 have H : ((jo.f a0 (wrap64 ((wrap64 (a1_1 * a2_2)) - (wrap64 (a1_2 * a2_1))))).bind fun t123 => ((jo.f a0 (wrap64 ((wrap64 (a1_2 * a2_0)) - (wrap64 (a1_0 * a2_2))))).bind fun t124 => ((jo.f a0 (wrap64 ((wrap64 (a1_0 * a2_1)) - (wrap64 (a1_1 * a2_0))))).bind fun t125 => (some (([t123, t124, t125] : List Int)))))) = some r := h
 clear h; replace H := bs H; obtain ⟨t123, A4, H⟩ := H; replace H := bs H; obtain ⟨t124, A5, H⟩ := H; replace H := bs H; obtain ⟨t125, A6, H⟩ := H
 generalize hy126 : (([t123, t124, t125] : List Int)) = y126 at H
 have Ny126 := am hy126.symm; clear hy126; obtain rfl := Option.some.inj H
 go_enter Try.func130, Try.ntmps130
 try go_wp2_with (first | ((with_reducible refine q6 (N := 4) rfl ?_); refine xe_ 4 43 #[.int .i64 a1_0, .int .i64 a1_1, .int .i64 a1_2] ?_; intro gb121 hg w7 hbox hb; have BK121 := am (hbox); have GW121 := am ((by rw [hg]; exact (bz HB) : w.heap.size ≤ gb121)); have GE121 := am ((by rw [hg]; exact (bz HB) : w.heap.size ≤ gb121)); replace HB := bq HB hb; clear hb hbox hg) | ((with_reducible refine q6 (N := 5) rfl ?_); refine xe_ 5 43 #[.int .i64 a2_0, .int .i64 a2_1, .int .i64 a2_2] ?_; intro gb122 hg w8 hbox hb; have BK122 := am (hbox); have GW122 := am ((by rw [hg]; exact (q4 (bx_ HB)) : w.heap.size ≤ gb122)); have GE122 := am ((by rw [hg]; exact (q4 (bx_ HB)) : w.heap.size ≤ gb122)); replace HB := am (qo (bx_ HB) hb); have NB121_122 := am ((by rw [hg]; exact Nat.ne_of_lt (ju (g := gb121) (o := .cells #[.int .i64 a1_0, .int .i64 a1_1, .int .i64 a1_2] 43 (0, 0)) (pk_ BK121)) : gb121 ≠ gb122)); have NB122_121 := am ((by rw [hg]; exact Nat.ne_of_gt (ju (g := gb121) (o := .cells #[.int .i64 a1_0, .int .i64 a1_1, .int .i64 a1_2] 43 (0, 0)) (pk_ BK121)) : gb122 ≠ gb121)); replace BK121 := am (qp (g := gb121) (o := .cells #[.int .i64 a1_0, .int .i64 a1_1, .int .i64 a1_2] 43 (0, 0)) (pk_ BK121) hb); clear hb hbox hg))
 replace BK121 := am (qh BK121.out)
 replace BK122 := am (qh BK122.out)
 replace HB := am (zc HB.out)
 refine st 53 (fun w' => w'.cell? ⟨gb121, 0, none⟩ = some (.int .i64 a1_0) ∧ w'.cell? ⟨gb121, 1, none⟩ = some (.int .i64 a1_1) ∧ w'.cell? ⟨gb121, 2, none⟩ = some (.int .i64 a1_2) ∧ w'.cell? ⟨gb122, 0, none⟩ = some (.int .i64 a2_0) ∧ w'.cell? ⟨gb122, 1, none⟩ = some (.int .i64 a2_1) ∧ w'.cell? ⟨gb122, 2, none⟩ = some (.int .i64 a2_2)) [] j6.tab1 j6.bits1 (⟨(qa BK121.out 0).trans rfl, (qa BK121.out 1).trans rfl, (qa BK121.out 2).trans rfl, (qa BK122.out 0).trans rfl, (qa BK122.out 1).trans rfl, (qa BK122.out 2).trans rfl⟩) fun hHeld HT_ HW_ => ?_
 generalize w8.drew = w9 at BK121 BK122 HB hHeld ⊢
 refine pz 0 7 HT_ ?_; refine pz 1 8 HT_ ?_; refine pz 2 9 HT_ ?_; refine pz 4 11 HT_ ?_; refine pz 5 12 HT_ ?_; refine pz 8 15 HT_ ?_; refine pz 9 16 HT_ ?_; refine pz 11 18 HT_ ?_; refine pz 12 19 HT_ ?_; refine pz 17 24 HT_ ?_; refine pz 18 25 HT_ ?_
 refine pz 19 26 HT_ ?_; refine pz 21 28 HT_ ?_; refine pz 22 29 HT_ ?_; refine pz 25 32 HT_ ?_; refine pz 26 33 HT_ ?_; refine pz 28 35 HT_ ?_; refine pz 29 36 HT_ ?_; refine pz 34 41 HT_ ?_; refine pz 35 42 HT_ ?_; refine pz 36 43 HT_ ?_; refine pz 38 45 HT_ ?_
 refine pz 39 46 HT_ ?_; refine pz 42 49 HT_ ?_; refine pz 43 50 HT_ ?_; refine pz 45 52 HT_ ?_; refine pz 46 53 HT_ ?_; refine tk 3 10 HT_ HW_ hHeld ?_; refine tk 6 13 HT_ HW_ hHeld ?_; refine pz 7 14 HT_ ?_; refine tk 10 17 HT_ HW_ hHeld ?_
 refine tk 13 20 HT_ HW_ hHeld ?_; refine pz 14 21 HT_ ?_; refine pz 15 22 HT_ ?_; refine tk 20 27 HT_ HW_ hHeld ?_; refine tk 23 30 HT_ HW_ hHeld ?_; refine pz 24 31 HT_ ?_; refine tk 27 34 HT_ HW_ hHeld ?_; refine tk 30 37 HT_ HW_ hHeld ?_
 refine pz 31 38 HT_ ?_; refine pz 32 39 HT_ ?_; refine tk 37 44 HT_ HW_ hHeld ?_; refine tk 40 47 HT_ HW_ hHeld ?_; refine pz 41 48 HT_ ?_; refine tk 44 51 HT_ HW_ hHeld ?_; refine tk 47 54 HT_ HW_ hHeld ?_; refine pz 48 55 HT_ ?_; refine pz 49 56 HT_ ?_
 refine on 16 (some 23) HT_ fun K hK => ?_
 refine gs_ Try.func158 #[.int .i64 a0, .int .i64 (wrap64 ((wrap64 (a1_1 * a2_2)) - (wrap64 (a1_2 * a2_1))))] ?_
 with_reducible refine (jo.calls a0 (wrap64 ((wrap64 (a1_1 * a2_2)) - (wrap64 (a1_2 * a2_1)))) t123 _ A4.out).mono ?_
 rintro e w' ⟨rfl, ⟨nd, rfl⟩⟩
 refine ⟨_, rfl, ?_⟩
 refine hK.out _ _ ⟨(qa BK121.out 0).trans rfl, (qa BK121.out 1).trans rfl, (qa BK121.out 2).trans rfl, (qa BK122.out 0).trans rfl, (qa BK122.out 1).trans rfl, (qa BK122.out 2).trans rfl⟩ fun hHeld => nz ?_
 clear hK K
 refine on 33 (some 40) HT_ fun K hK => ?_
 refine gs_ Try.func158 #[.int .i64 a0, .int .i64 (wrap64 ((wrap64 (a1_2 * a2_0)) - (wrap64 (a1_0 * a2_2))))] ?_
 with_reducible refine (jo.calls a0 (wrap64 ((wrap64 (a1_2 * a2_0)) - (wrap64 (a1_0 * a2_2)))) t124 _ A5.out).mono ?_
 rintro e w' ⟨rfl, ⟨nd, rfl⟩⟩
 refine ⟨_, rfl, ?_⟩
 refine hK.out _ _ ⟨(qa BK121.out 0).trans rfl, (qa BK121.out 1).trans rfl, (qa BK121.out 2).trans rfl, (qa BK122.out 0).trans rfl, (qa BK122.out 1).trans rfl, (qa BK122.out 2).trans rfl⟩ fun hHeld => nz ?_
 clear hK K
 refine on 50 (some 57) HT_ fun K hK => ?_
 refine gs_ Try.func158 #[.int .i64 a0, .int .i64 (wrap64 ((wrap64 (a1_0 * a2_1)) - (wrap64 (a1_1 * a2_0))))] ?_
 with_reducible refine (jo.calls a0 (wrap64 ((wrap64 (a1_0 * a2_1)) - (wrap64 (a1_1 * a2_0)))) t125 _ A6.out).mono ?_
 rintro e w' ⟨rfl, ⟨nd, rfl⟩⟩
 refine ⟨_, rfl, ?_⟩
 refine hK.out _ _ ⟨(qa BK121.out 0).trans rfl, (qa BK121.out 1).trans rfl, (qa BK121.out 2).trans rfl, (qa BK122.out 0).trans rfl, (qa BK122.out 1).trans rfl, (qa BK122.out 2).trans rfl⟩ fun hHeld => nz ?_
 clear hK K
 refine on 51 (some 58) HT_ fun K hK => ?_
 refine Kd.R_lit_step (Kd.int .i64) _ 3 ?hg (N := 58) ?hd (xs := ([t123, t124, t125] : List Int)) (inner := [.int .i64 t123, .int .i64 t124, .int .i64 t125]) (ok := fun _ => True) (okp := fun _ => True) ?hr ?hp (fun _ hk => hk) trivial (Below.refl _ _) (Nat.le_refl _) (by simp) ?_; (case hd => rfl); (case hg => rfl); (case hr => first | (go_simp; done) | (go_simp; rfl)); (case hp => exact (Reps.one (show Kd.M (Kd.int .i64) _ _ _ t123 [.int .i64 t123] from rfl) (Reps.one (show Kd.M (Kd.int .i64) _ _ _ t124 [.int .i64 t124] from rfl) (Reps.one (show Kd.M (Kd.int .i64) _ _ _ t125 [.int .i64 t125] from rfl) (Reps.none _ _)))))
 intro v127 w10 ho11 hb hg_ hnew_
 clear hg_ hnew_
 (first | rw [← Ny126.out] at ho11 | (simp only [Int.reduceToNat] at ho11; rw [← Ny126.out] at ho11))
 have HO128 := am (Kd.R_lower ho11 (q4 (bx_ HB)))
 replace BK121 := am (qp (g := gb121) (o := .cells #[.int .i64 a1_0, .int .i64 a1_1, .int .i64 a1_2] 43 (0, 0)) (pk_ BK121) hb)
 replace BK122 := am (qp (g := gb122) (o := .cells #[.int .i64 a2_0, .int .i64 a2_1, .int .i64 a2_2] 43 (0, 0)) (pk_ BK122) hb)
 replace HB := am (qo (bx_ HB) hb)
 clear hb ho11
 refine hK.out _ _ ⟨(qa BK121.out 0).trans rfl, (qa BK121.out 1).trans rfl, (qa BK121.out 2).trans rfl, (qa BK122.out 0).trans rfl, (qa BK122.out 1).trans rfl, (qa BK122.out 2).trans rfl⟩ fun hHeld => nz ?_
 clear hK K; refine pz 52 6 HT_ ?_
 refine Q4 (Qg HT_.out (by kernel_rfl)) ?_
 try go_wp2
 go_ret
 exact ⟨_, fq, wR HO128, bx_ HB⟩
def Z8.f (a0 : Int) (a1_0 : Int) (a1_1 : Int) (a1_2 : Int) (l2 : List Int) : Option (Bool) := if 0 < (l2.length : Int) then (if 1 < (l2.length : Int) then (if 2 < (l2.length : Int) then (if a0 = 0 then (none) else (some ((Int.tmod (wrap64 ((wrap64 ((wrap64 (a1_0 * (rd l2 0))) + (wrap64 (a1_1 * (rd l2 1))))) + (wrap64 (a1_2 * (rd l2 2))))) a0) == 0))) else (none)) else (none)) else (none)
theorem Z8.calls (a0 : Int) (a1_0 : Int) (a1_1 : Int) (a1_2 : Int) (A2 : Option Addr) (c2 : Nat) (l2 : List Int) (r : Bool) (w : World) (hr2 : Kd.C (Kd.int .i64) w A2 l2.length l2) (hc2 : l2.length ≤ c2) (h : Z8.f a0 a1_0 a1_1 a1_2 l2 = some r) :
  Calls Try.prog 131 #[.int .i64 a0, .agg #[.int .i64 a1_0, .int .i64 a1_1, .int .i64 a1_2], .slice A2 l2.length c2] w fun e w' => e = .returned (.bool r) ∧ Below w.heap.size w w' := by
 have hu43 := Try.underlying43
 have HR2 := am hr2
 have HC2 := am hc2
 clear hr2 hc2
 have HB := am (Below.refl w.heap.size w)
 have H : (if 0 < (l2.length : Int) then (if 1 < (l2.length : Int) then (if 2 < (l2.length : Int) then (if a0 = 0 then (none) else (some ((Int.tmod (wrap64 ((wrap64 ((wrap64 (a1_0 * (rd l2 0))) + (wrap64 (a1_1 * (rd l2 1))))) + (wrap64 (a1_2 * (rd l2 2))))) a0) == 0))) else (none)) else (none)) else (none)) = some r := h
 clear h
 by_cases c4 : 0 < (l2.length : Int)
 ·rw [if_pos c4] at H
  have c4b0 := decide_eq_true c4
  have c4b1 : decide (0 < l2.length) = true := decide_eq_true (by omega)
  clear c4; replace H := ifn H; obtain ⟨c5, H⟩ := H; have c5b0 := decide_eq_true c5
  have c5b1 : decide (1 < l2.length) = true := decide_eq_true (by omega)
  clear c5; replace H := ifn H; obtain ⟨c6, H⟩ := H; have c6b0 := decide_eq_true c6
  have c6b1 : decide (2 < l2.length) = true := decide_eq_true (by omega)
  clear c6; replace H := ifm H; obtain ⟨c7, H⟩ := H; have c7b0 := beq_eq_false_iff_ne.mpr c7; have c7b1 := bne_iff_ne.mpr c7; obtain rfl := Option.some.inj H
  go_enter Try.func131, Try.ntmps131
  go_wp2_with (first | ((with_reducible refine q6 (N := 4) rfl ?_); refine xe_ 4 43 #[.int .i64 a1_0, .int .i64 a1_1, .int .i64 a1_2] ?_; intro gb129 hg w8 hbox hb; have BK129 := am (hbox); have GW129 := am ((by rw [hg]; exact (bz HB) : w.heap.size ≤ gb129)); have GE129 := am ((by rw [hg]; exact (bz HB) : w.heap.size ≤ gb129)); replace HB := bq HB hb; clear hb hbox hg; have hcz9_0 : w8.cell? ⟨gb129, 0, none⟩ = some (.int .i64 a1_0) := (qa BK129.out 0).trans rfl; have hcz9_1 : w8.cell? ⟨gb129, 1, none⟩ = some (.int .i64 a1_1) := (qa BK129.out 1).trans rfl; have hcz9_2 : w8.cell? ⟨gb129, 2, none⟩ = some (.int .i64 a1_2) := (qa BK129.out 2).trans rfl; have hfz9_0 := qg BK129.out 0; have hfz9_1 := qg BK129.out 1; have hfz9_2 := qg BK129.out 2; have p130 : 0 ≤ (0 : Int) := (by omega); have q130 : 0 < (l2.length : Int) := od; obtain ⟨ad130, e130, hx130_0⟩ := Kd.at_int HR2.out 0 p130 q130; cases e130; have qi130 : (0 < l2.length) = True := eq_true (by omega); (try rw [show ((0 : Int)).toNat = 0 from rfl] at hx130_0); (try rw [Addr.add_zero'] at hx130_0); replace hx130_0 := wcl HB hx130_0; replace p130 := eq_true p130; replace q130 := eq_true q130; have p131 : 0 ≤ (1 : Int) := (by omega); have q131 : 1 < (l2.length : Int) := od; obtain ⟨ad131, e131, hx131_0⟩ := Kd.at_int HR2.out 1 p131 q131; obtain rfl : ad130 = ad131 := (by injection e131); (try simp only [show (1 : Int).toNat = 1 from rfl, Nat.reduceMul, Nat.reduceEqDiff, Go.Addr.add, ↓reduceIte] at hx131_0); have qi131 : (1 < l2.length) = True := eq_true (by omega); (try rw [show ((1 : Int)).toNat = 1 from rfl] at hx131_0); replace hx131_0 := wcl HB hx131_0; replace p131 := eq_true p131; replace q131 := eq_true q131; have p132 : 0 ≤ (2 : Int) := (by omega); have q132 : 2 < (l2.length : Int) := od; obtain ⟨ad132, e132, hx132_0⟩ := Kd.at_int HR2.out 2 p132 q132; obtain rfl : ad130 = ad132 := (by injection e132); (try simp only [show (2 : Int).toNat = 2 from rfl, Nat.reduceMul, Nat.reduceEqDiff, Go.Addr.add, ↓reduceIte] at hx132_0); have qi132 : (2 < l2.length) = True := eq_true (by omega); (try rw [show ((2 : Int)).toNat = 2 from rfl] at hx132_0); replace hx132_0 := wcl HB hx132_0; replace p132 := eq_true p132; replace q132 := eq_true q132))
  repeat (go_quiet (first | ((with_reducible refine q6 (N := 4) rfl ?_); refine xe_ 4 43 #[.int .i64 a1_0, .int .i64 a1_1, .int .i64 a1_2] ?_; intro gb129 hg w8 hbox hb; have n0_ := bq HB hb; have n1_ := am (hbox); have n2_ := am ((by rw [hg]; exact (bz HB) : w.heap.size ≤ gb129)); have n3_ := am ((by rw [hg]; exact (bz HB) : w.heap.size ≤ gb129)); clear HB; have HB := n0_; have BK129 := n1_; have GW129 := n2_; have GE129 := n3_; clear n0_ n1_ n2_ n3_; clear hb hbox hg; have hcz9_0 : w8.cell? ⟨gb129, 0, none⟩ = some (.int .i64 a1_0) := (qa BK129.out 0).trans rfl; have hcz9_1 : w8.cell? ⟨gb129, 1, none⟩ = some (.int .i64 a1_1) := (qa BK129.out 1).trans rfl; have hcz9_2 : w8.cell? ⟨gb129, 2, none⟩ = some (.int .i64 a1_2) := (qa BK129.out 2).trans rfl; have hfz9_0 := qg BK129.out 0; have hfz9_1 := qg BK129.out 1; have hfz9_2 := qg BK129.out 2; have p130 : 0 ≤ (0 : Int) := (by omega); have q130 : 0 < (l2.length : Int) := od; obtain ⟨ad130, e130, hx130_0⟩ := Kd.at_int HR2.out 0 p130 q130; cases e130; have qi130 : (0 < l2.length) = True := eq_true (by omega); (try rw [show ((0 : Int)).toNat = 0 from rfl] at hx130_0); (try rw [Addr.add_zero'] at hx130_0); replace hx130_0 := wcl HB hx130_0; replace p130 := eq_true p130; replace q130 := eq_true q130; have p131 : 0 ≤ (1 : Int) := (by omega); have q131 : 1 < (l2.length : Int) := od; obtain ⟨ad131, e131, hx131_0⟩ := Kd.at_int HR2.out 1 p131 q131; obtain rfl : ad130 = ad131 := (by injection e131); (try simp only [show (1 : Int).toNat = 1 from rfl, Nat.reduceMul, Nat.reduceEqDiff, Go.Addr.add, ↓reduceIte] at hx131_0); have qi131 : (1 < l2.length) = True := eq_true (by omega); (try rw [show ((1 : Int)).toNat = 1 from rfl] at hx131_0); replace hx131_0 := wcl HB hx131_0; replace p131 := eq_true p131; replace q131 := eq_true q131; have p132 : 0 ≤ (2 : Int) := (by omega); have q132 : 2 < (l2.length : Int) := od; obtain ⟨ad132, e132, hx132_0⟩ := Kd.at_int HR2.out 2 p132 q132; obtain rfl : ad130 = ad132 := (by injection e132); (try simp only [show (2 : Int).toNat = 2 from rfl, Nat.reduceMul, Nat.reduceEqDiff, Go.Addr.add, ↓reduceIte] at hx132_0); have qi132 : (2 < l2.length) = True := eq_true (by omega); (try rw [show ((2 : Int)).toNat = 2 from rfl] at hx132_0); replace hx132_0 := wcl HB hx132_0; replace p132 := eq_true p132; replace q132 := eq_true q132)); try go_wp2_with (first | ((with_reducible refine q6 (N := 4) rfl ?_); refine xe_ 4 43 #[.int .i64 a1_0, .int .i64 a1_1, .int .i64 a1_2] ?_; intro gb129 hg w8 hbox hb; have n0_ := bq HB hb; have n1_ := am (hbox); have n2_ := am ((by rw [hg]; exact (bz HB) : w.heap.size ≤ gb129)); have n3_ := am ((by rw [hg]; exact (bz HB) : w.heap.size ≤ gb129)); clear HB; have HB := n0_; have BK129 := n1_; have GW129 := n2_; have GE129 := n3_; clear n0_ n1_ n2_ n3_; clear hb hbox hg; have hcz9_0 : w8.cell? ⟨gb129, 0, none⟩ = some (.int .i64 a1_0) := (qa BK129.out 0).trans rfl; have hcz9_1 : w8.cell? ⟨gb129, 1, none⟩ = some (.int .i64 a1_1) := (qa BK129.out 1).trans rfl; have hcz9_2 : w8.cell? ⟨gb129, 2, none⟩ = some (.int .i64 a1_2) := (qa BK129.out 2).trans rfl; have hfz9_0 := qg BK129.out 0; have hfz9_1 := qg BK129.out 1; have hfz9_2 := qg BK129.out 2; have p130 : 0 ≤ (0 : Int) := (by omega); have q130 : 0 < (l2.length : Int) := od; obtain ⟨ad130, e130, hx130_0⟩ := Kd.at_int HR2.out 0 p130 q130; cases e130; have qi130 : (0 < l2.length) = True := eq_true (by omega); (try rw [show ((0 : Int)).toNat = 0 from rfl] at hx130_0); (try rw [Addr.add_zero'] at hx130_0); replace hx130_0 := wcl HB hx130_0; replace p130 := eq_true p130; replace q130 := eq_true q130; have p131 : 0 ≤ (1 : Int) := (by omega); have q131 : 1 < (l2.length : Int) := od; obtain ⟨ad131, e131, hx131_0⟩ := Kd.at_int HR2.out 1 p131 q131; obtain rfl : ad130 = ad131 := (by injection e131); (try simp only [show (1 : Int).toNat = 1 from rfl, Nat.reduceMul, Nat.reduceEqDiff, Go.Addr.add, ↓reduceIte] at hx131_0); have qi131 : (1 < l2.length) = True := eq_true (by omega); (try rw [show ((1 : Int)).toNat = 1 from rfl] at hx131_0); replace hx131_0 := wcl HB hx131_0; replace p131 := eq_true p131; replace q131 := eq_true q131; have p132 : 0 ≤ (2 : Int) := (by omega); have q132 : 2 < (l2.length : Int) := od; obtain ⟨ad132, e132, hx132_0⟩ := Kd.at_int HR2.out 2 p132 q132; obtain rfl : ad130 = ad132 := (by injection e132); (try simp only [show (2 : Int).toNat = 2 from rfl, Nat.reduceMul, Nat.reduceEqDiff, Go.Addr.add, ↓reduceIte] at hx132_0); have qi132 : (2 < l2.length) = True := eq_true (by omega); (try rw [show ((2 : Int)).toNat = 2 from rfl] at hx132_0); replace hx132_0 := wcl HB hx132_0; replace p132 := eq_true p132; replace q132 := eq_true q132)))
  go_ret
  exact ⟨fq, bx_ HB⟩
 ·rw [if_neg c4] at H
  exact absurd H (by simp)
end Go.Proofs.Ytmgbpmihbljngaa.PA

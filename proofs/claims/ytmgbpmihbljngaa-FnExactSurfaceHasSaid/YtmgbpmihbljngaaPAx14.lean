-- Written by xprint.py, a program of this claim's own (over the kit's print.py)
import Derived.Test.YtmgbpmihbljngaaPAx0
import Derived.Test.YtmgbpmihbljngaaPAx12
import Derived.Test.YtmgbpmihbljngaaPAx13
namespace Go.Proofs.Ytmgbpmihbljngaa.PA
open Go.RowKit Go.Proofs.YtmgbpmihbljngaaW.PrintWords Go.Proofs.YtmgbpmihbljngaaW.PrintLast Go.Proofs.YtmgbpmihbljngaaW.PrintMore
attribute [local go_sem] max2_int min2_int max_two min_two max_three min_three max_four min_four   -- for this text's walks alone
set_option linter.unusedVariables false
set_option linter.unusedSimpArgs false

/-! ### spec_l4Apart: function 105 -/
mutual
def spec_l4Apart.l0 : Nat → Int → List (S43) → Int → Option (Bool)
 | 0, _, _, _ => none
 | k + 1, x0, x1, x5 => if x5 < (x1.length : Int) then (if 0 ≤ x5 then ((spec_PointIn.f k x0 ((rd_T43 x1 x5).f0.f0) ((rd_T43 x1 x5).f0.f1) ((rd_T43 x1 x5).f0.f2)).bind fun t277 => (if t277 = true then (spec_l4Apart.l1 k x0 x1 x5 0) else (some false))) else (none)) else (some true)
def spec_l4Apart.l1 : Nat → Int → List (S43) → Int → Int → Option (Bool)
 | 0, _, _, _, _ => none
 | k + 1, x0, x1, x5, x6 => if x6 < x5 then (spec_l4Apart.l2 k x0 x1 x5 x6 0) else (spec_l4Apart.l0 k x0 x1 (wrap64 (x5 + 1)))
def spec_l4Apart.l2 : Nat → Int → List (S43) → Int → Int → Int → Option (Bool)
 | 0, _, _, _, _, _ => none
 | k + 1, x0, x1, x5, x6, x7 => if x7 < x6 then (if 0 ≤ x5 then (if x5 < (x1.length : Int) then (if 0 ≤ x6 then (if x6 < (x1.length : Int) then (if 0 ≤ x7 then (if x7 < (x1.length : Int) then ((spec_l4Cross.f x0 ((rd_T43 x1 x6).f0.f0) ((rd_T43 x1 x6).f0.f1) ((rd_T43 x1 x6).f0.f2) ((rd_T43 x1 x7).f0.f0) ((rd_T43 x1 x7).f0.f1) ((rd_T43 x1 x7).f0.f2)).bind fun t281 => ((spec_l4On.f x0 ((rd_T43 x1 x5).f0.f0) ((rd_T43 x1 x5).f0.f1) ((rd_T43 x1 x5).f0.f2) t281).bind fun t284 => (if t284 = true then (some false) else (spec_l4Apart.l2 k x0 x1 x5 x6 (wrap64 (x7 + 1)))))) else (none)) else (none)) else (none)) else (none)) else (none)) else (none)) else (spec_l4Apart.l1 k x0 x1 x5 (wrap64 (x6 + 1)))
end
def spec_l4Apart.f (k : Nat) (a0 : Int) (l1 : List (S43)) : Option (Bool) := spec_l4Apart.l0 k a0 l1 0
theorem spec_l4Apart.mono_l : ∀ k, (∀ y0 y1 y2, LeO (spec_l4Apart.l0 k y0 y1 y2) (spec_l4Apart.l0 (k + 1) y0 y1 y2)) ∧ (∀ y0 y1 y2 y3, LeO (spec_l4Apart.l1 k y0 y1 y2 y3) (spec_l4Apart.l1 (k + 1) y0 y1 y2 y3)) ∧ (∀ y0 y1 y2 y3 y4, LeO (spec_l4Apart.l2 k y0 y1 y2 y3 y4) (spec_l4Apart.l2 (k + 1) y0 y1 y2 y3 y4))
 | 0 => ⟨fun _ _ _ r h => by simp [spec_l4Apart.l0] at h, fun _ _ _ _ r h => by simp [spec_l4Apart.l1] at h, fun _ _ _ _ _ r h => by simp [spec_l4Apart.l2] at h⟩
 | k + 1 => by
  obtain ⟨ih0, ih1, ih2⟩ := spec_l4Apart.mono_l k
  refine ⟨?_, ?_, ?_⟩
  ·intro y0 y1 y2
   unfold spec_l4Apart.l0
   repeat' first | (with_reducible first | apply ih0 | apply ih1 | apply ih2 | apply spec_PointIn.mono | exact LeO.refl _ | exact LeO.none _ | refine LeO.ite ?_ ?_ | refine LeO.bind ?_ (fun _ => ?_)) | (first | apply ih0 | apply ih1 | apply ih2 | apply spec_PointIn.mono | exact LeO.none _ | refine LeO.ite ?_ ?_ | refine LeO.bind ?_ (fun _ => ?_))
  ·intro y0 y1 y2 y3
   unfold spec_l4Apart.l1
   repeat' first | (with_reducible first | apply ih0 | apply ih1 | apply ih2 | apply spec_PointIn.mono | exact LeO.refl _ | exact LeO.none _ | refine LeO.ite ?_ ?_ | refine LeO.bind ?_ (fun _ => ?_)) | (first | apply ih0 | apply ih1 | apply ih2 | apply spec_PointIn.mono | exact LeO.none _ | refine LeO.ite ?_ ?_ | refine LeO.bind ?_ (fun _ => ?_))
  ·intro y0 y1 y2 y3 y4
   unfold spec_l4Apart.l2
   repeat' first | (with_reducible first | apply ih0 | apply ih1 | apply ih2 | apply spec_PointIn.mono | exact LeO.refl _ | exact LeO.none _ | refine LeO.ite ?_ ?_ | refine LeO.bind ?_ (fun _ => ?_)) | (first | apply ih0 | apply ih1 | apply ih2 | apply spec_PointIn.mono | exact LeO.none _ | refine LeO.ite ?_ ?_ | refine LeO.bind ?_ (fun _ => ?_))
theorem spec_l4Apart.mono : ∀ a0 a1 k, LeO (spec_l4Apart.f k a0 a1) (spec_l4Apart.f (k + 1) a0 a1) := by
 intro a0 a1 k
 obtain ⟨ih0, ih1, ih2⟩ := spec_l4Apart.mono_l k
 unfold spec_l4Apart.f
 repeat' first | (with_reducible first | apply ih0 | apply ih1 | apply ih2 | apply spec_PointIn.mono | exact LeO.refl _ | exact LeO.none _ | refine LeO.ite ?_ ?_ | refine LeO.bind ?_ (fun _ => ?_)) | (first | apply ih0 | apply ih1 | apply ih2 | apply spec_PointIn.mono | exact LeO.none _ | refine LeO.ite ?_ ?_ | refine LeO.bind ?_ (fun _ => ?_))
def spec_l4Apart.T12 : Bool × List (List Nat × List Nat) := (true, [([], []), ([], []), ([], []), ([1, 2], [1, 2]), ([3], [3]), ([], []), ([], []), ([], []), ([6, 7], [6, 7]), ([8], [8]), ([], []), ([], []), ([10, 11], [10, 11]), ([12], [12]), ([5, 9, 13], [5, 9, 13]), ([0, 4, 14, 14], [0, 4, 14])])
def spec_l4Apart.B12 : List Nat := [0, 0, 0, 6, 14, 0, 0, 0, 192, 448, 0, 0, 3072, 7168, 16352, 32767]
theorem spec_l4Apart.tab12 : rtab .any (opsOf Try.f105 12) = spec_l4Apart.T12 := by kernel_rfl
theorem spec_l4Apart.bits12 : waitsOk spec_l4Apart.T12.2 spec_l4Apart.B12 = true := by kernel_rfl
set_option maxHeartbeats 8000000 in
set_option maxRecDepth 100000 in
theorem spec_l4Apart.calls (k : Nat) (a0 : Int) (A1 : Option Addr) (c1 : Nat) (l1 : List (S43)) (r : Bool) (w : World) (hr1 : Kd.C k43 w A1 l1.length l1) (hc1 : l1.length ≤ c1) (h : spec_l4Apart.f k a0 l1 = some r) :
  Calls Try.prog 105 #[.int .i64 a0, .slice A1 l1.length c1] w fun e w' => e = .returned (.bool r) ∧ Below w.heap.size w w' := by
 have hu43 := Try.underlying43
 have HR1 := am hr1
 have HC1 := am hc1
 clear hr1 hc1
 have HB := am (Below.refl w.heap.size w)
 have H : (spec_l4Apart.l0 k a0 l1 0) = some r := h
 clear h; have H' := am H; clear H
 go_enter Try.func105, Try.ntmps105
 go_wp2
 go_loopg [5] k (fun kq v5 w' => ∃ (x5_1 : Int), v5 = .int .i64 x5_1 ∧ Aside0 (spec_l4Apart.l0 kq a0 l1 x5_1 = some r) ∧ Aside0 (kq ≤ k) ∧ Aside0 (Below w.heap.size w w'))
 case atStart => exact ⟨(0), fr, H', ⟨Nat.le_refl _⟩, ⟨bw HB⟩⟩
 case round =>
  clear H'; try clear c1; try clear p2
  obtain ⟨x5_1, rfl, HA, HK1, HB⟩ := hrel
  cases gk with
  | zero => exact absurd HA.out (by simp [spec_l4Apart.l0])
  | succ k1 =>
   have H := HA.out; clear HA
   simp only [spec_l4Apart.l0] at H
   by_cases c3 : x5_1 < (l1.length : Int)
   ·rw [if_pos c3] at H
    have c3b0 := decide_eq_true c3; clear c3; replace H := ifn H; obtain ⟨c4, H⟩ := H; have c4b0 := decide_eq_true c4; clear c4; replace H := bs H; obtain ⟨t277, A5, H⟩ := H
    by_cases c6 : t277 = true
    ·subst c6
     rw [if_pos rfl] at H
     have H' := am H; clear H
     have p276 : 0 ≤ (x5_1 : Int) := od
     have q276 : x5_1 < (l1.length : Int) := od
     obtain ⟨ad276, e276, hx276_0, hx276_1, hx276_2⟩ := at_T43 HR1.out x5_1 p276 q276
     cases e276
     replace hx276_0 := wcl HB hx276_0
     replace hx276_1 := wcl HB hx276_1
     replace hx276_2 := wcl HB hx276_2
     replace p276 := eq_true p276; replace q276 := eq_true q276
     go_wp2_with (first | ((with_reducible refine gate_callee (f := 76) rfl ?_); refine gl 19 Try.func76 #[.int .i64 a0, .agg #[.int .i64 ((rd_T43 l1 x5_1).f0.f0), .int .i64 ((rd_T43 l1 x5_1).f0.f1), .int .i64 ((rd_T43 l1 x5_1).f0.f2)]] ?_; (with_reducible refine (spec_PointIn.calls k1 a0 ((rd_T43 l1 x5_1).f0.f0) ((rd_T43 l1 x5_1).f0.f1) ((rd_T43 l1 x5_1).f0.f2) true _ A5.out).mono ?_); rintro e w7 ⟨rfl, hb⟩; refine ⟨_, rfl, ?_⟩; replace HB := bq HB hb; (try clear hb)))
     go_loopg [6] k1 (fun kq v6 w' => ∃ (x6_2 : Int), v6 = .int .i64 x6_2 ∧ Aside0 (spec_l4Apart.l1 kq a0 l1 x5_1 x6_2 = some r) ∧ Aside0 (kq ≤ k1) ∧ Aside0 (Below w.heap.size w w'))
     case atStart => exact ⟨(0), fr, H', ⟨Nat.le_refl _⟩, ⟨bw HB⟩⟩
     case round =>
      clear H'; try clear c1; try clear p2; try clear q2; try clear hx2; try clear c3; try clear c3b0; try clear c4; try clear c4b0; try clear c6; try clear c7; try clear hx276_0; try clear hx276_1; try clear hx276_2; try clear p2; try clear p276
      try clear q276
      obtain ⟨x6_2, rfl, HA, HK2, HB⟩ := hrel
      cases gk with
      | zero => exact absurd HA.out (by simp [spec_l4Apart.l1])
      | succ k2 =>
       have H := HA.out; clear HA
       simp only [spec_l4Apart.l1] at H
       by_cases c8 : x6_2 < x5_1
       ·rw [if_pos c8] at H
        have c8b0 := decide_eq_true c8; clear c8; have H' := am H; clear H; go_wp2
        go_loopg [7] k2 (fun kq v7 w' => ∃ (x7_3 : Int), v7 = .int .i64 x7_3 ∧ Aside0 (spec_l4Apart.l2 kq a0 l1 x5_1 x6_2 x7_3 = some r) ∧ Aside0 (kq ≤ k2) ∧ Aside0 (Below w.heap.size w w'))
        case atStart => exact ⟨(0), fr, H', ⟨Nat.le_refl _⟩, ⟨bw HB⟩⟩
        case round =>
         clear H'; try clear c1; try clear p2; try clear q2; try clear hx2; try clear c3; try clear c3b0; try clear c4; try clear c4b0; try clear c6; try clear c7; try clear c8; try clear c8b0; try clear hx276_0; try clear hx276_1; try clear hx276_2
         try clear p2; try clear p276; try clear q2; try clear q276
         obtain ⟨x7_3, rfl, HA, HK3, HB⟩ := hrel
         cases gk with
         | zero => exact absurd HA.out (by simp [spec_l4Apart.l2])
         | succ k3 =>
          have H := HA.out; clear HA
          simp only [spec_l4Apart.l2] at H
          by_cases c9 : x7_3 < x6_2
          ·rw [if_pos c9] at H
           have c9b0 := decide_eq_true c9; clear c9; replace H := ifn H; obtain ⟨c10, H⟩ := H; have c10b0 := decide_eq_true c10; clear c10; replace H := ifn H; obtain ⟨c11, H⟩ := H; have c11b0 := decide_eq_true c11; clear c11; replace H := ifn H; obtain ⟨c12, H⟩ := H
           have c12b0 := decide_eq_true c12; clear c12; replace H := ifn H; obtain ⟨c13, H⟩ := H; have c13b0 := decide_eq_true c13; clear c13; replace H := ifn H; obtain ⟨c14, H⟩ := H; have c14b0 := decide_eq_true c14; clear c14; replace H := ifn H; obtain ⟨c15, H⟩ := H
           have c15b0 := decide_eq_true c15; clear c15; replace H := bs H; obtain ⟨t281, A16, H⟩ := H; replace H := bs H; obtain ⟨t284, A17, H⟩ := H
           by_cases c18 : t284 = true
           ·subst c18
            rw [if_pos rfl] at H
            obtain rfl := Option.some.inj H
            try go_wp2
            replace HB := am (below_drew1 HB.out)
            have p278 : 0 ≤ (x5_1 : Int) := od
            have q278 : x5_1 < (l1.length : Int) := od
            obtain ⟨ad278, e278, hx278_0, hx278_1, hx278_2⟩ := at_T43 HR1.out x5_1 p278 q278
            have hw278_2 := hx278_2
            have hw278_1 := hx278_1
            have hw278_0 := hx278_0
            obtain rfl : ad276 = ad278 := (by injection e278)
            replace hx278_0 := wcl HB hx278_0
            replace hx278_1 := wcl HB hx278_1
            replace hx278_2 := wcl HB hx278_2
            replace p278 := eq_true p278; replace q278 := eq_true q278
            have p279 : 0 ≤ (x6_2 : Int) := od
            have q279 : x6_2 < (l1.length : Int) := od
            obtain ⟨ad279, e279, hx279_0, hx279_1, hx279_2⟩ := at_T43 HR1.out x6_2 p279 q279
            have hw279_2 := hx279_2
            have hw279_1 := hx279_1
            have hw279_0 := hx279_0
            obtain rfl : ad276 = ad279 := (by injection e279)
            replace hx279_0 := wcl HB hx279_0
            replace hx279_1 := wcl HB hx279_1
            replace hx279_2 := wcl HB hx279_2
            replace p279 := eq_true p279; replace q279 := eq_true q279
            have p280 : 0 ≤ (x7_3 : Int) := od
            have q280 : x7_3 < (l1.length : Int) := od
            obtain ⟨ad280, e280, hx280_0, hx280_1, hx280_2⟩ := at_T43 HR1.out x7_3 p280 q280
            have hw280_2 := hx280_2
            have hw280_1 := hx280_1
            have hw280_0 := hx280_0
            obtain rfl : ad276 = ad280 := (by injection e280)
            replace hx280_0 := wcl HB hx280_0
            replace hx280_1 := wcl HB hx280_1
            replace hx280_2 := wcl HB hx280_2
            replace p280 := eq_true p280; replace q280 := eq_true q280
            refine st 16 (fun w' => w'.cell? (ad276.add ((x5_1).toNat * 3)) = some (.int .i64 ((rd_T43 l1 x5_1).f0.f0)) ∧ w'.cell? ⟨(ad276.add ((x5_1).toNat * 3)).block, (ad276.add ((x5_1).toNat * 3)).off + 1, none⟩ = some (.int .i64 ((rd_T43 l1 x5_1).f0.f1)) ∧ w'.cell? ⟨(ad276.add ((x5_1).toNat * 3)).block, (ad276.add ((x5_1).toNat * 3)).off + 2, none⟩ = some (.int .i64 ((rd_T43 l1 x5_1).f0.f2)) ∧ w'.cell? (ad276.add ((x6_2).toNat * 3)) = some (.int .i64 ((rd_T43 l1 x6_2).f0.f0)) ∧ w'.cell? ⟨(ad276.add ((x6_2).toNat * 3)).block, (ad276.add ((x6_2).toNat * 3)).off + 1, none⟩ = some (.int .i64 ((rd_T43 l1 x6_2).f0.f1)) ∧ w'.cell? ⟨(ad276.add ((x6_2).toNat * 3)).block, (ad276.add ((x6_2).toNat * 3)).off + 2, none⟩ = some (.int .i64 ((rd_T43 l1 x6_2).f0.f2)) ∧ w'.cell? (ad276.add ((x7_3).toNat * 3)) = some (.int .i64 ((rd_T43 l1 x7_3).f0.f0)) ∧ w'.cell? ⟨(ad276.add ((x7_3).toNat * 3)).block, (ad276.add ((x7_3).toNat * 3)).off + 1, none⟩ = some (.int .i64 ((rd_T43 l1 x7_3).f0.f1)) ∧ w'.cell? ⟨(ad276.add ((x7_3).toNat * 3)).block, (ad276.add ((x7_3).toNat * 3)).off + 2, none⟩ = some (.int .i64 ((rd_T43 l1 x7_3).f0.f2))) [] spec_l4Apart.tab12 spec_l4Apart.bits12 (⟨(wcl HB hw278_0), (wcl HB hw278_1), (wcl HB hw278_2), (wcl HB hw279_0), (wcl HB hw279_1), (wcl HB hw279_2), (wcl HB hw280_0), (wcl HB hw280_1), (wcl HB hw280_2)⟩) fun hHeld HT_ HW_ => ?_
            generalize wr.drew = w19 at HB hx278_0 hx278_1 hx278_2 hx279_0 hx279_1 hx279_2 hx280_0 hx280_1 hx280_2 hHeld ⊢
            refine pz 0 31 HT_ ?_; refine pz 1 32 HT_ ?_; refine pz 2 33 HT_ ?_; refine pz 3 34 HT_ ?_; refine pz 5 36 HT_ ?_; refine pz 6 37 HT_ ?_; refine pz 7 38 HT_ ?_; refine pz 8 39 HT_ ?_; refine pz 10 41 HT_ ?_; refine pz 11 42 HT_ ?_; refine pz 12 43 HT_ ?_
            refine tk 4 35 HT_ HW_ hHeld ?_; refine tk 9 40 HT_ HW_ hHeld ?_; refine tk 13 44 HT_ HW_ hHeld ?_
            refine on 14 (some 45) HT_ fun K hK => ?_
            refine gs_ Try.func130 #[.int .i64 a0, .agg #[.int .i64 ((rd_T43 l1 x6_2).f0.f0), .int .i64 ((rd_T43 l1 x6_2).f0.f1), .int .i64 ((rd_T43 l1 x6_2).f0.f2)], .agg #[.int .i64 ((rd_T43 l1 x7_3).f0.f0), .int .i64 ((rd_T43 l1 x7_3).f0.f1), .int .i64 ((rd_T43 l1 x7_3).f0.f2)]] ?_
            with_reducible refine (spec_l4Cross.calls a0 ((rd_T43 l1 x6_2).f0.f0) ((rd_T43 l1 x6_2).f0.f1) ((rd_T43 l1 x6_2).f0.f2) ((rd_T43 l1 x7_3).f0.f0) ((rd_T43 l1 x7_3).f0.f1) ((rd_T43 l1 x7_3).f0.f2) t281 _ A16.out).mono ?_
            rintro e w20 ⟨v282, rfl, ho0, hb⟩
            refine ⟨_, rfl, ?_⟩
            have HO283 := am (Kd.R_lower ho0 (bz HB))
            replace HB := bq HB hb
            (try clear hb)
            (try clear hb2)
            (try clear hk)
            (try clear hi)
            (try clear ho0)
            obtain ⟨Ao21, co21, eo21⟩ := Kd.R_slice HO283.out
            (first | subst eo21 | (injection eo21 with f1_ f2_ f3_; have f4_ := f1_.symm; have f5_ := f3_.symm; clear f1_ f2_ f3_; subst f4_; subst f5_))
            refine hK.out _ _ ⟨(wcl HB hw278_0), (wcl HB hw278_1), (wcl HB hw278_2), (wcl HB hw279_0), (wcl HB hw279_1), (wcl HB hw279_2), (wcl HB hw280_0), (wcl HB hw280_1), (wcl HB hw280_2)⟩ fun hHeld => nz ?_
            clear hK K
            refine on 15 (some 46) HT_ fun K hK => ?_
            refine gs_ Try.func131 #[.int .i64 a0, .agg #[.int .i64 ((rd_T43 l1 x5_1).f0.f0), .int .i64 ((rd_T43 l1 x5_1).f0.f1), .int .i64 ((rd_T43 l1 x5_1).f0.f2)], .slice Ao21 t281.length co21] ?_
            with_reducible refine (spec_l4On.calls a0 ((rd_T43 l1 x5_1).f0.f0) ((rd_T43 l1 x5_1).f0.f1) ((rd_T43 l1 x5_1).f0.f2) _ _ t281 true _ ?side1 ?side2 A17.out).mono ?_
            (case side1 => exact Kd.C_below (Kd.R_reads' HO283.out).2.2 gs)
            (case side2 => exact (Kd.R_reads' HO283.out).2.1)
            rintro e w22 ⟨rfl, hb⟩
            refine ⟨_, rfl, ?_⟩
            replace HO283 := am (Kd.R_below (wR HO283) hb)
            replace HB := bq HB hb
            (try clear hb)
            (try clear hb2)
            (try clear hk)
            (try clear hi)
            refine hK.out _ _ ⟨(wcl HB hw278_0), (wcl HB hw278_1), (wcl HB hw278_2), (wcl HB hw279_0), (wcl HB hw279_1), (wcl HB hw279_2), (wcl HB hw280_0), (wcl HB hw280_1), (wcl HB hw280_2)⟩ fun hHeld => nz ?_
            clear hK K
            refine done_ (done_of HT_.out (by kernel_rfl)) ?_
            try go_wp2
            go_ret
            exact ⟨fq, bw HB⟩
           ·replace c18 := Bool.eq_false_iff.mpr c18
            subst c18
            rw [if_neg (show ¬ (false = true) by decide)] at H
            have H' := am H; clear H
            try go_wp2
            replace HB := am (below_drew1 HB.out)
            have p278 : 0 ≤ (x5_1 : Int) := od
            have q278 : x5_1 < (l1.length : Int) := od
            obtain ⟨ad278, e278, hx278_0, hx278_1, hx278_2⟩ := at_T43 HR1.out x5_1 p278 q278
            have hw278_2 := hx278_2
            have hw278_1 := hx278_1
            have hw278_0 := hx278_0
            obtain rfl : ad276 = ad278 := (by injection e278)
            replace hx278_0 := wcl HB hx278_0
            replace hx278_1 := wcl HB hx278_1
            replace hx278_2 := wcl HB hx278_2
            replace p278 := eq_true p278; replace q278 := eq_true q278
            have p279 : 0 ≤ (x6_2 : Int) := od
            have q279 : x6_2 < (l1.length : Int) := od
            obtain ⟨ad279, e279, hx279_0, hx279_1, hx279_2⟩ := at_T43 HR1.out x6_2 p279 q279
            have hw279_2 := hx279_2
            have hw279_1 := hx279_1
            have hw279_0 := hx279_0
            obtain rfl : ad276 = ad279 := (by injection e279)
            replace hx279_0 := wcl HB hx279_0
            replace hx279_1 := wcl HB hx279_1
            replace hx279_2 := wcl HB hx279_2
            replace p279 := eq_true p279; replace q279 := eq_true q279
            have p280 : 0 ≤ (x7_3 : Int) := od
            have q280 : x7_3 < (l1.length : Int) := od
            obtain ⟨ad280, e280, hx280_0, hx280_1, hx280_2⟩ := at_T43 HR1.out x7_3 p280 q280
            have hw280_2 := hx280_2
            have hw280_1 := hx280_1
            have hw280_0 := hx280_0
            obtain rfl : ad276 = ad280 := (by injection e280)
            replace hx280_0 := wcl HB hx280_0
            replace hx280_1 := wcl HB hx280_1
            replace hx280_2 := wcl HB hx280_2
            replace p280 := eq_true p280; replace q280 := eq_true q280
            refine st 16 (fun w' => w'.cell? (ad276.add ((x5_1).toNat * 3)) = some (.int .i64 ((rd_T43 l1 x5_1).f0.f0)) ∧ w'.cell? ⟨(ad276.add ((x5_1).toNat * 3)).block, (ad276.add ((x5_1).toNat * 3)).off + 1, none⟩ = some (.int .i64 ((rd_T43 l1 x5_1).f0.f1)) ∧ w'.cell? ⟨(ad276.add ((x5_1).toNat * 3)).block, (ad276.add ((x5_1).toNat * 3)).off + 2, none⟩ = some (.int .i64 ((rd_T43 l1 x5_1).f0.f2)) ∧ w'.cell? (ad276.add ((x6_2).toNat * 3)) = some (.int .i64 ((rd_T43 l1 x6_2).f0.f0)) ∧ w'.cell? ⟨(ad276.add ((x6_2).toNat * 3)).block, (ad276.add ((x6_2).toNat * 3)).off + 1, none⟩ = some (.int .i64 ((rd_T43 l1 x6_2).f0.f1)) ∧ w'.cell? ⟨(ad276.add ((x6_2).toNat * 3)).block, (ad276.add ((x6_2).toNat * 3)).off + 2, none⟩ = some (.int .i64 ((rd_T43 l1 x6_2).f0.f2)) ∧ w'.cell? (ad276.add ((x7_3).toNat * 3)) = some (.int .i64 ((rd_T43 l1 x7_3).f0.f0)) ∧ w'.cell? ⟨(ad276.add ((x7_3).toNat * 3)).block, (ad276.add ((x7_3).toNat * 3)).off + 1, none⟩ = some (.int .i64 ((rd_T43 l1 x7_3).f0.f1)) ∧ w'.cell? ⟨(ad276.add ((x7_3).toNat * 3)).block, (ad276.add ((x7_3).toNat * 3)).off + 2, none⟩ = some (.int .i64 ((rd_T43 l1 x7_3).f0.f2))) [] spec_l4Apart.tab12 spec_l4Apart.bits12 (⟨(wcl HB hw278_0), (wcl HB hw278_1), (wcl HB hw278_2), (wcl HB hw279_0), (wcl HB hw279_1), (wcl HB hw279_2), (wcl HB hw280_0), (wcl HB hw280_1), (wcl HB hw280_2)⟩) fun hHeld HT_ HW_ => ?_
            generalize wr.drew = w23 at HB hx278_0 hx278_1 hx278_2 hx279_0 hx279_1 hx279_2 hx280_0 hx280_1 hx280_2 hHeld ⊢
            refine pz 0 31 HT_ ?_; refine pz 1 32 HT_ ?_; refine pz 2 33 HT_ ?_; refine pz 3 34 HT_ ?_; refine pz 5 36 HT_ ?_; refine pz 6 37 HT_ ?_; refine pz 7 38 HT_ ?_; refine pz 8 39 HT_ ?_; refine pz 10 41 HT_ ?_; refine pz 11 42 HT_ ?_; refine pz 12 43 HT_ ?_
            refine tk 4 35 HT_ HW_ hHeld ?_; refine tk 9 40 HT_ HW_ hHeld ?_; refine tk 13 44 HT_ HW_ hHeld ?_
            refine on 14 (some 45) HT_ fun K hK => ?_
            refine gs_ Try.func130 #[.int .i64 a0, .agg #[.int .i64 ((rd_T43 l1 x6_2).f0.f0), .int .i64 ((rd_T43 l1 x6_2).f0.f1), .int .i64 ((rd_T43 l1 x6_2).f0.f2)], .agg #[.int .i64 ((rd_T43 l1 x7_3).f0.f0), .int .i64 ((rd_T43 l1 x7_3).f0.f1), .int .i64 ((rd_T43 l1 x7_3).f0.f2)]] ?_
            with_reducible refine (spec_l4Cross.calls a0 ((rd_T43 l1 x6_2).f0.f0) ((rd_T43 l1 x6_2).f0.f1) ((rd_T43 l1 x6_2).f0.f2) ((rd_T43 l1 x7_3).f0.f0) ((rd_T43 l1 x7_3).f0.f1) ((rd_T43 l1 x7_3).f0.f2) t281 _ A16.out).mono ?_
            rintro e w24 ⟨v282, rfl, ho0, hb⟩
            refine ⟨_, rfl, ?_⟩
            have HO283 := am (Kd.R_lower ho0 (bz HB))
            replace HB := bq HB hb
            (try clear hb)
            (try clear hb2)
            (try clear hk)
            (try clear hi)
            (try clear ho0)
            obtain ⟨Ao25, co25, eo25⟩ := Kd.R_slice HO283.out
            (first | subst eo25 | (injection eo25 with f1_ f2_ f3_; have f4_ := f1_.symm; have f5_ := f3_.symm; clear f1_ f2_ f3_; subst f4_; subst f5_))
            refine hK.out _ _ ⟨(wcl HB hw278_0), (wcl HB hw278_1), (wcl HB hw278_2), (wcl HB hw279_0), (wcl HB hw279_1), (wcl HB hw279_2), (wcl HB hw280_0), (wcl HB hw280_1), (wcl HB hw280_2)⟩ fun hHeld => nz ?_
            clear hK K
            refine on 15 (some 46) HT_ fun K hK => ?_
            refine gs_ Try.func131 #[.int .i64 a0, .agg #[.int .i64 ((rd_T43 l1 x5_1).f0.f0), .int .i64 ((rd_T43 l1 x5_1).f0.f1), .int .i64 ((rd_T43 l1 x5_1).f0.f2)], .slice Ao25 t281.length co25] ?_
            with_reducible refine (spec_l4On.calls a0 ((rd_T43 l1 x5_1).f0.f0) ((rd_T43 l1 x5_1).f0.f1) ((rd_T43 l1 x5_1).f0.f2) _ _ t281 false _ ?side1 ?side2 A17.out).mono ?_
            (case side1 => exact Kd.C_below (Kd.R_reads' HO283.out).2.2 gs)
            (case side2 => exact (Kd.R_reads' HO283.out).2.1)
            rintro e w26 ⟨rfl, hb⟩
            refine ⟨_, rfl, ?_⟩
            replace HO283 := am (Kd.R_below (wR HO283) hb)
            replace HB := bq HB hb
            (try clear hb)
            (try clear hb2)
            (try clear hk)
            (try clear hi)
            refine hK.out _ _ ⟨(wcl HB hw278_0), (wcl HB hw278_1), (wcl HB hw278_2), (wcl HB hw279_0), (wcl HB hw279_1), (wcl HB hw279_2), (wcl HB hw280_0), (wcl HB hw280_1), (wcl HB hw280_2)⟩ fun hHeld => nz ?_
            clear hK K
            refine done_ (done_of HT_.out (by kernel_rfl)) ?_
            try go_wp2
            go_roundg k3
            case measure => have := HK1.out; have := HK2.out; have := HK3.out; omega
            case rel => exact ⟨(wrap64 (x7_3 + 1)), fr, H', ⟨by have := HK1.out; have := HK2.out; have := HK3.out; omega⟩, ⟨bw HB⟩⟩
          ·rw [if_neg c9] at H
           have c9b0 := decide_eq_false c9; clear c9; have H' := am H; clear H; go_wp2
           go_roundg k3
           case measure => have := HK1.out; have := HK2.out; have := HK3.out; omega
           case rel => exact ⟨(wrap64 (x6_2 + 1)), fr, H', ⟨by have := HK1.out; have := HK2.out; have := HK3.out; omega⟩, ⟨bw HB⟩⟩
       ·rw [if_neg c8] at H
        have c8b0 := decide_eq_false c8; clear c8; have H' := am H; clear H; go_wp2
        go_roundg k2
        case measure => have := HK1.out; have := HK2.out; omega
        case rel => exact ⟨(wrap64 (x5_1 + 1)), fr, H', ⟨by have := HK1.out; have := HK2.out; omega⟩, ⟨bw HB⟩⟩
    ·replace c6 := Bool.eq_false_iff.mpr c6
     subst c6
     rw [if_neg (show ¬ (false = true) by decide)] at H
     obtain rfl := Option.some.inj H
     have p276 : 0 ≤ (x5_1 : Int) := od
     have q276 : x5_1 < (l1.length : Int) := od
     obtain ⟨ad276, e276, hx276_0, hx276_1, hx276_2⟩ := at_T43 HR1.out x5_1 p276 q276
     cases e276
     replace hx276_0 := wcl HB hx276_0
     replace hx276_1 := wcl HB hx276_1
     replace hx276_2 := wcl HB hx276_2
     replace p276 := eq_true p276; replace q276 := eq_true q276
     go_wp2_with (first | ((with_reducible refine gate_callee (f := 76) rfl ?_); refine gl 19 Try.func76 #[.int .i64 a0, .agg #[.int .i64 ((rd_T43 l1 x5_1).f0.f0), .int .i64 ((rd_T43 l1 x5_1).f0.f1), .int .i64 ((rd_T43 l1 x5_1).f0.f2)]] ?_; (with_reducible refine (spec_PointIn.calls k1 a0 ((rd_T43 l1 x5_1).f0.f0) ((rd_T43 l1 x5_1).f0.f1) ((rd_T43 l1 x5_1).f0.f2) false _ A5.out).mono ?_); rintro e w27 ⟨rfl, hb⟩; refine ⟨_, rfl, ?_⟩; replace HB := bq HB hb; (try clear hb)))
     go_ret
     exact ⟨fq, bw HB⟩
   ·rw [if_neg c3] at H
    have c3b0 := decide_eq_false c3; clear c3; obtain rfl := Option.some.inj H; go_wp2; go_ret
    exact ⟨fq, bw HB⟩
end Go.Proofs.Ytmgbpmihbljngaa.PA

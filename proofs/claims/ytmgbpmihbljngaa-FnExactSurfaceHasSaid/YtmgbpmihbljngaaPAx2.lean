-- Written by xprint.py, a program of this claim's own (over the kit's print.py)
import Derived.Test.YtmgbpmihbljngaaPAx0
import Derived.Test.YtmgbpmihbljngaaPAx1
import Derived.BigQuiet
import Derived.Deep.QuietTactic
namespace Go.Proofs.Ytmgbpmihbljngaa.PA
open Go.RowKit Go.Proofs.YtmgbpmihbljngaaW.PrintWords Go.Proofs.YtmgbpmihbljngaaW.PrintLast Go.Proofs.YtmgbpmihbljngaaW.PrintMore
attribute [local go_sem] max2_int min2_int max_two min_two max_three min_three max_four min_four   -- for this text's walks alone
set_option linter.unusedVariables false
set_option linter.unusedSimpArgs false

/-! ### laws_eqPointS: function 24 -/
def laws_eqPointS.l0 : Nat → List (S43) → List (S43) → Int → Option (Bool)
 | 0, _, _, _ => none
 | k + 1, x0, x1, x5 => if x5 < (x0.length : Int) then (if 0 ≤ x5 then (if x5 < (x1.length : Int) then ((laws_eqPoint.f ((rd_T43 x0 x5).f0.f0) ((rd_T43 x0 x5).f0.f1) ((rd_T43 x0 x5).f0.f2) ((rd_T43 x1 x5).f0.f0) ((rd_T43 x1 x5).f0.f1) ((rd_T43 x1 x5).f0.f2)).bind fun t122 => (if t122 = true then (laws_eqPointS.l0 k x0 x1 (wrap64 (x5 + 1))) else (some false))) else (none)) else (none)) else (some true)
def laws_eqPointS.f (k : Nat) (l0 : List (S43)) (l1 : List (S43)) : Option (Bool) := if (l0.length : Int) = (l1.length : Int) then (laws_eqPointS.l0 k l0 l1 0) else (some false)
theorem laws_eqPointS.mono_l : ∀ k, (∀ y0 y1 y2, LeO (laws_eqPointS.l0 k y0 y1 y2) (laws_eqPointS.l0 (k + 1) y0 y1 y2))
 | 0 => fun _ _ _ r h => by simp [laws_eqPointS.l0] at h
 | k + 1 => by
  have ih0 := laws_eqPointS.mono_l k
  ·intro y0 y1 y2
   unfold laws_eqPointS.l0
   repeat' first | (with_reducible first | apply ih0 | exact LeO.refl _ | exact LeO.none _ | refine LeO.ite ?_ ?_ | refine LeO.bind ?_ (fun _ => ?_)) | (first | apply ih0 | exact LeO.none _ | refine LeO.ite ?_ ?_ | refine LeO.bind ?_ (fun _ => ?_))
theorem laws_eqPointS.mono : ∀ a0 a1 k, LeO (laws_eqPointS.f k a0 a1) (laws_eqPointS.f (k + 1) a0 a1) := by
 intro a0 a1 k
 have ih0 := laws_eqPointS.mono_l k
 unfold laws_eqPointS.f
 repeat' first | (with_reducible first | apply ih0 | exact LeO.refl _ | exact LeO.none _ | refine LeO.ite ?_ ?_ | refine LeO.bind ?_ (fun _ => ?_)) | (first | apply ih0 | exact LeO.none _ | refine LeO.ite ?_ ?_ | refine LeO.bind ?_ (fun _ => ?_))
def laws_eqPointS.T6 : Bool × List (List Nat × List Nat) := (true, [([], []), ([], []), ([0, 1], [0, 1]), ([2], [2]), ([], []), ([], []), ([4, 5], [4, 5]), ([6], [6]), ([3, 7], [3, 7]), ([8], [8])])
def laws_eqPointS.B6 : List Nat := [0, 0, 3, 7, 0, 0, 48, 112, 255, 511]
theorem laws_eqPointS.tab6 : rtab .any (opsOf Try.f24 6) = laws_eqPointS.T6 := by kernel_rfl
theorem laws_eqPointS.bits6 : waitsOk laws_eqPointS.T6.2 laws_eqPointS.B6 = true := by kernel_rfl
set_option maxHeartbeats 8000000 in
set_option maxRecDepth 100000 in
theorem laws_eqPointS.calls (k : Nat) (A0 : Option Addr) (c0 : Nat) (l0 : List (S43)) (A1 : Option Addr) (c1 : Nat) (l1 : List (S43)) (r : Bool) (w : World) (hr0 : Kd.C k43 w A0 l0.length l0) (hc0 : l0.length ≤ c0) (hr1 : Kd.C k43 w A1 l1.length l1) (hc1 : l1.length ≤ c1) (h : laws_eqPointS.f k l0 l1 = some r) :
  Calls Try.prog 24 #[.slice A0 l0.length c0, .slice A1 l1.length c1] w fun e w' => e = .returned (.bool r) ∧ Below w.heap.size w w' := by
 have hu43 := Try.underlying43
 have HR0 := am hr0
 have HC0 := am hc0
 clear hr0 hc0
 have HR1 := am hr1
 have HC1 := am hc1
 clear hr1 hc1
 have HB := am (Below.refl w.heap.size w)
 have H : (if (l0.length : Int) = (l1.length : Int) then (laws_eqPointS.l0 k l0 l1 0) else (some false)) = some r := h
 clear h
 by_cases c3 : (l0.length : Int) = (l1.length : Int)
 ·rw [if_pos c3] at H
  have c3b0 := beq_iff_eq.mpr c3; have c3b1 := bne_eq_false_iff_eq.mpr c3
  have c3b2 : (l0.length == l1.length) = true := by first | simpa using c3 | (simp at c3 ⊢; omega)
  clear c3; have H' := am H; clear H
  go_enter Try.func24, Try.ntmps24
  go_wp2
  go_loopg [5] k (fun kq v5 w' => ∃ (x5_1 : Int), v5 = .int .i64 x5_1 ∧ Aside0 (laws_eqPointS.l0 kq l0 l1 x5_1 = some r) ∧ Aside0 (kq ≤ k) ∧ Aside0 (Below w.heap.size w w'))
  case atStart => exact ⟨(0), fr, H', ⟨Nat.le_refl _⟩, ⟨bw HB⟩⟩
  case round =>
   clear H'; try clear c1; try clear c2; try clear p2; try clear c3; try clear c3b0; try clear c3b1; try clear c3b2
   obtain ⟨x5_1, rfl, HA, HK1, HB⟩ := hrel
   cases gk with
   | zero => exact absurd HA.out (by simp [laws_eqPointS.l0])
   | succ k1 =>
    have H := HA.out; clear HA
    simp only [laws_eqPointS.l0] at H
    by_cases c4 : x5_1 < (l0.length : Int)
    ·rw [if_pos c4] at H
     have c4b0 := decide_eq_true c4; clear c4; replace H := ifn H; obtain ⟨c5, H⟩ := H; have c5b0 := decide_eq_true c5; clear c5; replace H := ifn H; obtain ⟨c6, H⟩ := H; have c6b0 := decide_eq_true c6; clear c6; replace H := bs H; obtain ⟨t122, A7, H⟩ := H
     by_cases c8 : t122 = true
     ·subst c8
      rw [if_pos rfl] at H
      have H' := am H; clear H
      try go_wp2
      replace HB := am (below_drew1 HB.out)
      have p120 : 0 ≤ (x5_1 : Int) := od
      have q120 : x5_1 < (l0.length : Int) := od
      obtain ⟨ad120, e120, hx120_0, hx120_1, hx120_2⟩ := at_T43 HR0.out x5_1 p120 q120
      have hw120_2 := hx120_2
      have hw120_1 := hx120_1
      have hw120_0 := hx120_0
      cases e120
      replace hx120_0 := wcl HB hx120_0
      replace hx120_1 := wcl HB hx120_1
      replace hx120_2 := wcl HB hx120_2
      replace p120 := eq_true p120; replace q120 := eq_true q120
      have p121 : 0 ≤ (x5_1 : Int) := od
      have q121 : x5_1 < (l1.length : Int) := od
      obtain ⟨ad121, e121, hx121_0, hx121_1, hx121_2⟩ := at_T43 HR1.out x5_1 p121 q121
      have hw121_2 := hx121_2
      have hw121_1 := hx121_1
      have hw121_0 := hx121_0
      cases e121
      replace hx121_0 := wcl HB hx121_0
      replace hx121_1 := wcl HB hx121_1
      replace hx121_2 := wcl HB hx121_2
      replace p121 := eq_true p121; replace q121 := eq_true q121
      refine st 10 (fun w' => w'.cell? (ad120.add ((x5_1).toNat * 3)) = some (.int .i64 ((rd_T43 l0 x5_1).f0.f0)) ∧ w'.cell? ⟨(ad120.add ((x5_1).toNat * 3)).block, (ad120.add ((x5_1).toNat * 3)).off + 1, none⟩ = some (.int .i64 ((rd_T43 l0 x5_1).f0.f1)) ∧ w'.cell? ⟨(ad120.add ((x5_1).toNat * 3)).block, (ad120.add ((x5_1).toNat * 3)).off + 2, none⟩ = some (.int .i64 ((rd_T43 l0 x5_1).f0.f2)) ∧ w'.cell? (ad121.add ((x5_1).toNat * 3)) = some (.int .i64 ((rd_T43 l1 x5_1).f0.f0)) ∧ w'.cell? ⟨(ad121.add ((x5_1).toNat * 3)).block, (ad121.add ((x5_1).toNat * 3)).off + 1, none⟩ = some (.int .i64 ((rd_T43 l1 x5_1).f0.f1)) ∧ w'.cell? ⟨(ad121.add ((x5_1).toNat * 3)).block, (ad121.add ((x5_1).toNat * 3)).off + 2, none⟩ = some (.int .i64 ((rd_T43 l1 x5_1).f0.f2))) [] laws_eqPointS.tab6 laws_eqPointS.bits6 (⟨(wcl HB hw120_0), (wcl HB hw120_1), (wcl HB hw120_2), (wcl HB hw121_0), (wcl HB hw121_1), (wcl HB hw121_2)⟩) fun hHeld HT_ HW_ => ?_
      generalize wr.drew = w9 at HB hx120_0 hx120_1 hx120_2 hx121_0 hx121_1 hx121_2 hHeld ⊢
      refine pz 0 17 HT_ ?_; refine pz 1 18 HT_ ?_; refine pz 2 19 HT_ ?_; refine pz 4 21 HT_ ?_; refine pz 5 22 HT_ ?_; refine pz 6 23 HT_ ?_; refine tk 3 20 HT_ HW_ hHeld ?_; refine tk 7 24 HT_ HW_ hHeld ?_
      refine on 8 (some 25) HT_ fun K hK => ?_
      refine gs_ Try.func68 #[.agg #[.int .i64 ((rd_T43 l0 x5_1).f0.f0), .int .i64 ((rd_T43 l0 x5_1).f0.f1), .int .i64 ((rd_T43 l0 x5_1).f0.f2)], .agg #[.int .i64 ((rd_T43 l1 x5_1).f0.f0), .int .i64 ((rd_T43 l1 x5_1).f0.f1), .int .i64 ((rd_T43 l1 x5_1).f0.f2)]] ?_
      with_reducible refine (laws_eqPoint.calls ((rd_T43 l0 x5_1).f0.f0) ((rd_T43 l0 x5_1).f0.f1) ((rd_T43 l0 x5_1).f0.f2) ((rd_T43 l1 x5_1).f0.f0) ((rd_T43 l1 x5_1).f0.f1) ((rd_T43 l1 x5_1).f0.f2) true _ A7.out).mono ?_
      rintro e w10 ⟨rfl, hb⟩
      refine ⟨_, rfl, ?_⟩
      replace HB := bq HB hb
      (try clear hb)
      (try clear hb2)
      (try clear hk)
      (try clear hi)
      refine hK.out _ _ ⟨(wcl HB hw120_0), (wcl HB hw120_1), (wcl HB hw120_2), (wcl HB hw121_0), (wcl HB hw121_1), (wcl HB hw121_2)⟩ fun hHeld => nz ?_
      clear hK K; refine pz 9 26 HT_ ?_
      refine done_ (done_of HT_.out (by kernel_rfl)) ?_
      try go_wp2
      go_roundg k1
      case measure => have := HK1.out; omega
      case rel => exact ⟨(wrap64 (x5_1 + 1)), fr, H', ⟨by have := HK1.out; omega⟩, ⟨bw HB⟩⟩
     ·replace c8 := Bool.eq_false_iff.mpr c8
      subst c8
      rw [if_neg (show ¬ (false = true) by decide)] at H
      obtain rfl := Option.some.inj H
      try go_wp2
      replace HB := am (below_drew1 HB.out)
      have p120 : 0 ≤ (x5_1 : Int) := od
      have q120 : x5_1 < (l0.length : Int) := od
      obtain ⟨ad120, e120, hx120_0, hx120_1, hx120_2⟩ := at_T43 HR0.out x5_1 p120 q120
      have hw120_2 := hx120_2
      have hw120_1 := hx120_1
      have hw120_0 := hx120_0
      cases e120
      replace hx120_0 := wcl HB hx120_0
      replace hx120_1 := wcl HB hx120_1
      replace hx120_2 := wcl HB hx120_2
      replace p120 := eq_true p120; replace q120 := eq_true q120
      have p121 : 0 ≤ (x5_1 : Int) := od
      have q121 : x5_1 < (l1.length : Int) := od
      obtain ⟨ad121, e121, hx121_0, hx121_1, hx121_2⟩ := at_T43 HR1.out x5_1 p121 q121
      have hw121_2 := hx121_2
      have hw121_1 := hx121_1
      have hw121_0 := hx121_0
      cases e121
      replace hx121_0 := wcl HB hx121_0
      replace hx121_1 := wcl HB hx121_1
      replace hx121_2 := wcl HB hx121_2
      replace p121 := eq_true p121; replace q121 := eq_true q121
      refine st 10 (fun w' => w'.cell? (ad120.add ((x5_1).toNat * 3)) = some (.int .i64 ((rd_T43 l0 x5_1).f0.f0)) ∧ w'.cell? ⟨(ad120.add ((x5_1).toNat * 3)).block, (ad120.add ((x5_1).toNat * 3)).off + 1, none⟩ = some (.int .i64 ((rd_T43 l0 x5_1).f0.f1)) ∧ w'.cell? ⟨(ad120.add ((x5_1).toNat * 3)).block, (ad120.add ((x5_1).toNat * 3)).off + 2, none⟩ = some (.int .i64 ((rd_T43 l0 x5_1).f0.f2)) ∧ w'.cell? (ad121.add ((x5_1).toNat * 3)) = some (.int .i64 ((rd_T43 l1 x5_1).f0.f0)) ∧ w'.cell? ⟨(ad121.add ((x5_1).toNat * 3)).block, (ad121.add ((x5_1).toNat * 3)).off + 1, none⟩ = some (.int .i64 ((rd_T43 l1 x5_1).f0.f1)) ∧ w'.cell? ⟨(ad121.add ((x5_1).toNat * 3)).block, (ad121.add ((x5_1).toNat * 3)).off + 2, none⟩ = some (.int .i64 ((rd_T43 l1 x5_1).f0.f2))) [] laws_eqPointS.tab6 laws_eqPointS.bits6 (⟨(wcl HB hw120_0), (wcl HB hw120_1), (wcl HB hw120_2), (wcl HB hw121_0), (wcl HB hw121_1), (wcl HB hw121_2)⟩) fun hHeld HT_ HW_ => ?_
      generalize wr.drew = w11 at HB hx120_0 hx120_1 hx120_2 hx121_0 hx121_1 hx121_2 hHeld ⊢
      refine pz 0 17 HT_ ?_; refine pz 1 18 HT_ ?_; refine pz 2 19 HT_ ?_; refine pz 4 21 HT_ ?_; refine pz 5 22 HT_ ?_; refine pz 6 23 HT_ ?_; refine tk 3 20 HT_ HW_ hHeld ?_; refine tk 7 24 HT_ HW_ hHeld ?_
      refine on 8 (some 25) HT_ fun K hK => ?_
      refine gs_ Try.func68 #[.agg #[.int .i64 ((rd_T43 l0 x5_1).f0.f0), .int .i64 ((rd_T43 l0 x5_1).f0.f1), .int .i64 ((rd_T43 l0 x5_1).f0.f2)], .agg #[.int .i64 ((rd_T43 l1 x5_1).f0.f0), .int .i64 ((rd_T43 l1 x5_1).f0.f1), .int .i64 ((rd_T43 l1 x5_1).f0.f2)]] ?_
      with_reducible refine (laws_eqPoint.calls ((rd_T43 l0 x5_1).f0.f0) ((rd_T43 l0 x5_1).f0.f1) ((rd_T43 l0 x5_1).f0.f2) ((rd_T43 l1 x5_1).f0.f0) ((rd_T43 l1 x5_1).f0.f1) ((rd_T43 l1 x5_1).f0.f2) false _ A7.out).mono ?_
      rintro e w12 ⟨rfl, hb⟩
      refine ⟨_, rfl, ?_⟩
      replace HB := bq HB hb
      (try clear hb)
      (try clear hb2)
      (try clear hk)
      (try clear hi)
      refine hK.out _ _ ⟨(wcl HB hw120_0), (wcl HB hw120_1), (wcl HB hw120_2), (wcl HB hw121_0), (wcl HB hw121_1), (wcl HB hw121_2)⟩ fun hHeld => nz ?_
      clear hK K; refine pz 9 26 HT_ ?_
      refine done_ (done_of HT_.out (by kernel_rfl)) ?_
      try go_wp2
      go_ret
      exact ⟨fq, bw HB⟩
    ·rw [if_neg c4] at H
     have c4b0 := decide_eq_false c4; clear c4; obtain rfl := Option.some.inj H; go_wp2; go_ret
     exact ⟨fq, bw HB⟩
 ·rw [if_neg c3] at H
  have c3b0 := beq_eq_false_iff_ne.mpr c3; have c3b1 := bne_iff_ne.mpr c3
  have c3b2 : (l0.length == l1.length) = false := by first | simpa using c3 | (simp at c3 ⊢; omega)
  obtain rfl := Option.some.inj H
  go_enter Try.func24, Try.ntmps24
  go_wp2; go_ret
  exact ⟨fq, bw HB⟩/-! ### impl_valueAt: function 55 -/
mutual
def impl_valueAt.l0 : Nat → Int → List Int → List Int → Int → Int → Int → Option (Int)
 | 0, _, _, _, _, _, _ => none
 | k + 1, x0, x1, x2, x7, x8, x13 => if x13 < 4 then (impl_valueAt.l1 k x0 x1 x2 x7 x8 x13 x13 x13) else (if x0 = 0 then (none) else (some (Int.tmod x7 x0)))
def impl_valueAt.l1 : Nat → Int → List Int → List Int → Int → Int → Int → Int → Int → Option (Int)
 | 0, _, _, _, _, _, _, _, _ => none
 | k + 1, x0, x1, x2, x7, x8, x9, x10, x13 => if x10 < 4 then (if 0 ≤ x9 then (if x9 < (x2.length : Int) then (if 0 ≤ x10 then (if x10 < (x2.length : Int) then (impl_valueAt.l2 k x0 x1 x2 x7 x8 x9 x10 (wrap64 ((rd x2 x9) * (rd x2 x10))) x10 x13) else (none)) else (none)) else (none)) else (none)) else (impl_valueAt.l0 k x0 x1 x2 x7 x8 (wrap64 (x13 + 1)))
def impl_valueAt.l2 : Nat → Int → List Int → List Int → Int → Int → Int → Int → Int → Int → Int → Option (Int)
 | 0, _, _, _, _, _, _, _, _, _, _ => none
 | k + 1, x0, x1, x2, x7, x8, x9, x10, x11, x12, x13 => if x12 < 4 then (if 0 ≤ x8 then (if x8 < (x1.length : Int) then (if 0 ≤ x12 then (if x12 < (x2.length : Int) then (impl_valueAt.l2 k x0 x1 x2 (wrap64 (x7 + (wrap64 ((wrap64 ((rd x1 x8) * x11)) * (rd x2 x12))))) (wrap64 (x8 + 1)) x9 x10 x11 (wrap64 (x12 + 1)) x13) else (none)) else (none)) else (none)) else (none)) else (impl_valueAt.l1 k x0 x1 x2 x7 x8 x9 (wrap64 (x10 + 1)) x13)
end
def impl_valueAt.f (k : Nat) (a0 : Int) (l1 : List Int) (l2 : List Int) : Option (Int) := impl_valueAt.l0 k a0 l1 l2 0 0 0
theorem impl_valueAt.mono_l : ∀ k, (∀ y0 y1 y2 y3 y4 y5, LeO (impl_valueAt.l0 k y0 y1 y2 y3 y4 y5) (impl_valueAt.l0 (k + 1) y0 y1 y2 y3 y4 y5)) ∧ (∀ y0 y1 y2 y3 y4 y5 y6 y7, LeO (impl_valueAt.l1 k y0 y1 y2 y3 y4 y5 y6 y7) (impl_valueAt.l1 (k + 1) y0 y1 y2 y3 y4 y5 y6 y7)) ∧ (∀ y0 y1 y2 y3 y4 y5 y6 y7 y8 y9, LeO (impl_valueAt.l2 k y0 y1 y2 y3 y4 y5 y6 y7 y8 y9) (impl_valueAt.l2 (k + 1) y0 y1 y2 y3 y4 y5 y6 y7 y8 y9))
 | 0 => ⟨fun _ _ _ _ _ _ r h => by simp [impl_valueAt.l0] at h, fun _ _ _ _ _ _ _ _ r h => by simp [impl_valueAt.l1] at h, fun _ _ _ _ _ _ _ _ _ _ r h => by simp [impl_valueAt.l2] at h⟩
 | k + 1 => by
  obtain ⟨ih0, ih1, ih2⟩ := impl_valueAt.mono_l k
  refine ⟨?_, ?_, ?_⟩
  ·intro y0 y1 y2 y3 y4 y5
   unfold impl_valueAt.l0
   repeat' first | (with_reducible first | apply ih0 | apply ih1 | apply ih2 | exact LeO.refl _ | exact LeO.none _ | refine LeO.ite ?_ ?_ | refine LeO.bind ?_ (fun _ => ?_)) | (first | apply ih0 | apply ih1 | apply ih2 | exact LeO.none _ | refine LeO.ite ?_ ?_ | refine LeO.bind ?_ (fun _ => ?_))
  ·intro y0 y1 y2 y3 y4 y5 y6 y7
   unfold impl_valueAt.l1
   repeat' first | (with_reducible first | apply ih0 | apply ih1 | apply ih2 | exact LeO.refl _ | exact LeO.none _ | refine LeO.ite ?_ ?_ | refine LeO.bind ?_ (fun _ => ?_)) | (first | apply ih0 | apply ih1 | apply ih2 | exact LeO.none _ | refine LeO.ite ?_ ?_ | refine LeO.bind ?_ (fun _ => ?_))
  ·intro y0 y1 y2 y3 y4 y5 y6 y7 y8 y9
   unfold impl_valueAt.l2
   repeat' first | (with_reducible first | apply ih0 | apply ih1 | apply ih2 | exact LeO.refl _ | exact LeO.none _ | refine LeO.ite ?_ ?_ | refine LeO.bind ?_ (fun _ => ?_)) | (first | apply ih0 | apply ih1 | apply ih2 | exact LeO.none _ | refine LeO.ite ?_ ?_ | refine LeO.bind ?_ (fun _ => ?_))
theorem impl_valueAt.mono : ∀ a0 a1 a2 k, LeO (impl_valueAt.f k a0 a1 a2) (impl_valueAt.f (k + 1) a0 a1 a2) := by
 intro a0 a1 a2 k
 obtain ⟨ih0, ih1, ih2⟩ := impl_valueAt.mono_l k
 unfold impl_valueAt.f
 repeat' first | (with_reducible first | apply ih0 | apply ih1 | apply ih2 | exact LeO.refl _ | exact LeO.none _ | refine LeO.ite ?_ ?_ | refine LeO.bind ?_ (fun _ => ?_)) | (first | apply ih0 | apply ih1 | apply ih2 | exact LeO.none _ | refine LeO.ite ?_ ?_ | refine LeO.bind ?_ (fun _ => ?_))
set_option maxHeartbeats 8000000 in
set_option maxRecDepth 100000 in
theorem impl_valueAt.calls (k : Nat) (a0 : Int) (A1 : Option Addr) (c1 : Nat) (l1 : List Int) (A2 : Option Addr) (c2 : Nat) (l2 : List Int) (r : Int) (w : World) (hr1 : Kd.C (Kd.int .i64) w A1 l1.length l1) (hc1 : l1.length ≤ c1) (hr2 : Kd.C (Kd.int .i64) w A2 l2.length l2) (hc2 : l2.length ≤ c2) (h : impl_valueAt.f k a0 l1 l2 = some r) :
  Calls Try.prog 55 #[.int .i64 a0, .slice A1 l1.length c1, .slice A2 l2.length c2] w fun e w' => e = .returned (.int .i64 r) ∧ Drawn0 w w' := by
 have HR1 := am hr1
 have HC1 := am hc1
 clear hr1 hc1
 have HR2 := am hr2
 have HC2 := am hc2
 clear hr2 hc2
 have H : (impl_valueAt.l0 k a0 l1 l2 0 0 0) = some r := h
 clear h; have H' := am H; clear H
 go_enter Try.func55, Try.ntmps55
 go_wp2
 repeat (go_quiet (fail); try go_wp2)
 go_loopg [7, 8, 13] k (fun kq v7 v8 v13 w' => ∃ (x7_1 : Int) (x8_1 : Int) (x13_1 : Int), v7 = .int .i64 x7_1 ∧ v8 = .int .i64 x8_1 ∧ v13 = .int .i64 x13_1 ∧ Aside0 (impl_valueAt.l0 kq a0 l1 l2 x7_1 x8_1 x13_1 = some r) ∧ Aside0 (kq ≤ k) ∧ Drawn0 w w')
 case atStart => exact ⟨(0), (0), (0), fr, fr, fr, H', ⟨Nat.le_refl _⟩, df⟩
 case round =>
  clear H'; try clear c1; try clear c2; try clear p2
  obtain ⟨x7_1, x8_1, x13_1, rfl, rfl, rfl, HA, HK1, ⟨m1, rfl⟩⟩ := hrel
  cases gk with
  | zero => exact absurd HA.out (by simp [impl_valueAt.l0])
  | succ k1 =>
   have H := HA.out; clear HA
   simp only [impl_valueAt.l0] at H
   by_cases c4 : x13_1 < 4
   ·rw [if_pos c4] at H
    have c4b0 := decide_eq_true c4; clear c4; have H' := am H; clear H; go_wp2
    repeat (go_quiet (fail); try go_wp2)
    go_loopg [7, 8, 10] k1 (fun kq v7 v8 v10 w' => ∃ (x7_2 : Int) (x8_2 : Int) (x10_2 : Int), v7 = .int .i64 x7_2 ∧ v8 = .int .i64 x8_2 ∧ v10 = .int .i64 x10_2 ∧ Aside0 (impl_valueAt.l1 kq a0 l1 l2 x7_2 x8_2 x13_1 x10_2 x13_1 = some r) ∧ Aside0 (kq ≤ k1) ∧ Drawn0 w w')
    case atStart => exact ⟨(x7_1), (x8_1), (x13_1), fr, fr, fr, H', ⟨Nat.le_refl _⟩, df⟩
    case round =>
     clear H'; try clear c1; try clear c2; try clear p2; try clear c4; try clear c4b0; try clear p2
     obtain ⟨x7_2, x8_2, x10_2, rfl, rfl, rfl, HA, HK2, ⟨m2, rfl⟩⟩ := hrel
     cases gk with
     | zero => exact absurd HA.out (by simp [impl_valueAt.l1])
     | succ k2 =>
      have H := HA.out; clear HA
      simp only [impl_valueAt.l1] at H
      by_cases c5 : x10_2 < 4
      ·rw [if_pos c5] at H
       have c5b0 := decide_eq_true c5; clear c5; replace H := ifn H; obtain ⟨c6, H⟩ := H; have c6b0 := decide_eq_true c6; clear c6; replace H := ifn H; obtain ⟨c7, H⟩ := H; have c7b0 := decide_eq_true c7; clear c7; replace H := ifn H; obtain ⟨c8, H⟩ := H
       have c8b0 := decide_eq_true c8; clear c8; replace H := ifn H; obtain ⟨c9, H⟩ := H; have c9b0 := decide_eq_true c9; clear c9; have H' := am H; clear H
       have p123 : 0 ≤ (x13_1 : Int) := od
       have q123 : x13_1 < (l2.length : Int) := od
       obtain ⟨ad123, e123, hx123_0⟩ := Kd.at_int HR2.out x13_1 p123 q123
       cases e123; replace p123 := eq_true p123; replace q123 := eq_true q123
       have p124 : 0 ≤ (x10_2 : Int) := od
       have q124 : x10_2 < (l2.length : Int) := od
       obtain ⟨ad124, e124, hx124_0⟩ := Kd.at_int HR2.out x10_2 p124 q124
       obtain rfl : ad123 = ad124 := (by injection e124)
       replace p124 := eq_true p124; replace q124 := eq_true q124; go_wp2
       repeat (go_quiet (fail); try go_wp2)
       go_loopg [7, 8, 12] k2 (fun kq v7 v8 v12 w' => ∃ (x7_3 : Int) (x8_3 : Int) (x12_3 : Int), v7 = .int .i64 x7_3 ∧ v8 = .int .i64 x8_3 ∧ v12 = .int .i64 x12_3 ∧ Aside0 (impl_valueAt.l2 kq a0 l1 l2 x7_3 x8_3 x13_1 x10_2 (wrap64 ((rd l2 x13_1) * (rd l2 x10_2))) x12_3 x13_1 = some r) ∧ Aside0 (kq ≤ k2) ∧ Drawn0 w w')
       case atStart => exact ⟨(x7_2), (x8_2), (x10_2), fr, fr, fr, H', ⟨Nat.le_refl _⟩, df⟩
       case round =>
        clear H'; try clear c1; try clear p1; try clear q1; try clear hx1; try clear c2; try clear p2; try clear c4; try clear c4b0; try clear c5; try clear c5b0; try clear c6; try clear c6b0; try clear p6; try clear c7; try clear c7b0; try clear c8
        try clear c8b0; try clear c9; try clear c9b0; try clear hx123_0; try clear hx124_0; try clear p123; try clear p124; try clear p2; try clear q123; try clear q124
        obtain ⟨x7_3, x8_3, x12_3, rfl, rfl, rfl, HA, HK3, ⟨m3, rfl⟩⟩ := hrel
        cases gk with
        | zero => exact absurd HA.out (by simp [impl_valueAt.l2])
        | succ k3 =>
         have H := HA.out; clear HA
         simp only [impl_valueAt.l2] at H
         by_cases c10 : x12_3 < 4
         ·rw [if_pos c10] at H
          have c10b0 := decide_eq_true c10; clear c10; replace H := ifn H; obtain ⟨c11, H⟩ := H; have c11b0 := decide_eq_true c11; clear c11; replace H := ifn H; obtain ⟨c12, H⟩ := H; have c12b0 := decide_eq_true c12; clear c12; replace H := ifn H; obtain ⟨c13, H⟩ := H
          have c13b0 := decide_eq_true c13; clear c13; replace H := ifn H; obtain ⟨c14, H⟩ := H; have c14b0 := decide_eq_true c14; clear c14; have H' := am H; clear H
          have p125 : 0 ≤ (x8_3 : Int) := od
          have q125 : x8_3 < (l1.length : Int) := od
          obtain ⟨ad125, e125, hx125_0⟩ := Kd.at_int HR1.out x8_3 p125 q125
          cases e125; replace p125 := eq_true p125; replace q125 := eq_true q125
          have p126 : 0 ≤ (x12_3 : Int) := od
          have q126 : x12_3 < (l2.length : Int) := od
          obtain ⟨ad126, e126, hx126_0⟩ := Kd.at_int HR2.out x12_3 p126 q126
          obtain rfl : ad123 = ad126 := (by injection e126)
          replace p126 := eq_true p126; replace q126 := eq_true q126; go_wp2
          repeat (go_quiet (fail); try go_wp2)
          go_roundg k3
          case measure => have := HK1.out; have := HK2.out; have := HK3.out; omega
          case rel => exact ⟨(wrap64 (x7_3 + (wrap64 ((wrap64 ((rd l1 x8_3) * (wrap64 ((rd l2 x13_1) * (rd l2 x10_2))))) * (rd l2 x12_3))))), (wrap64 (x8_3 + 1)), (wrap64 (x12_3 + 1)), fr, fr, fr, H', ⟨by have := HK1.out; have := HK2.out; have := HK3.out; omega⟩, df⟩
         ·rw [if_neg c10] at H
          have c10b0 := decide_eq_false c10; clear c10; have H' := am H; clear H; go_wp2
          repeat (go_quiet (fail); try go_wp2)
          go_roundg k3
          case measure => have := HK1.out; have := HK2.out; have := HK3.out; omega
          case rel => exact ⟨(x7_3), (x8_3), (wrap64 (x10_2 + 1)), fr, fr, fr, H', ⟨by have := HK1.out; have := HK2.out; have := HK3.out; omega⟩, df⟩
      ·rw [if_neg c5] at H
       have c5b0 := decide_eq_false c5; clear c5; have H' := am H; clear H; go_wp2
       repeat (go_quiet (fail); try go_wp2)
       go_roundg k2
       case measure => have := HK1.out; have := HK2.out; omega
       case rel => exact ⟨(x7_2), (x8_2), (wrap64 (x13_1 + 1)), fr, fr, fr, H', ⟨by have := HK1.out; have := HK2.out; omega⟩, df⟩
   ·rw [if_neg c4] at H
    have c4b0 := decide_eq_false c4; clear c4; replace H := ifm H; obtain ⟨c15, H⟩ := H; have c15b0 := beq_eq_false_iff_ne.mpr c15; have c15b1 := bne_iff_ne.mpr c15; obtain rfl := Option.some.inj H; go_wp2
    repeat (go_quiet (fail); try go_wp2)
    go_ret
    exact ⟨fr, df⟩
theorem wrap_small {i : Int} (h0 : 0 ≤ i) (h : i ≤ 1000000000) : wrap64 (i + 1) = i + 1 := by unfold wrap64; omega
/-- the innermost sums of a form's value, as the program wraps them -/
def vs2 (f a : List Int) (two : Int) : Nat → Int → Int → Int → Int
 | 0, s, _, _ => s
 | d + 1, s, n, l => vs2 f a two d (wrap64 (s + (wrap64 ((wrap64 ((rd f n) * two)) * (rd a l))))) (n + 1) (l + 1)
def vs1 (f a : List Int) (i : Int) : Nat → Int → Int → Int → Int × Int
 | 0, s, n, _ => (s, n)
 | d + 1, s, n, j => vs1 f a i d (vs2 f a (wrap64 ((rd a i) * (rd a j))) (d + 1) s n j) (n + (d + 1 : Nat)) (j + 1)
def vs0 (f a : List Int) : Nat → Int → Int → Int → Int
 | 0, s, _, _ => s
 | d + 1, s, n, i => vs0 f a d (vs1 f a i (d + 1) s n i).1 (vs1 f a i (d + 1) s n i).2 (i + 1)
/-- the value of a form at a place, as the program reckons it -/
def valI (p : Int) (f a : List Int) : Int := Int.tmod (vs0 f a 4 0 0 0) p
theorem valueAt_l2 (p : Int) (f a : List Int) (i j two i' : Int) (hf : f.length = 20) (ha : a.length = 4) (r : Int) : ∀ (d : Nat) (s n l : Int), 0 ≤ n → n + d ≤ 20 → 0 ≤ l → l + d = 4 →
  Ev (fun k => impl_valueAt.l1 k p f a (vs2 f a two d s n l) (n + d) i (wrap64 (j + 1)) i') r → Ev (fun k => impl_valueAt.l2 k p f a s n i j two l i') r
 | 0, s, n, l, h1, h2, h3, h4, h => by
  refine Ev.step (f := fun k => impl_valueAt.l1 k p f a s n i (wrap64 (j + 1)) i') (fun k => ?_) (by simpa [vs2] using h)
  rw [impl_valueAt.l2, if_neg (by omega)]
 | d + 1, s, n, l, h1, h2, h3, h4, h => by
  refine Ev.step (f := fun k => impl_valueAt.l2 k p f a (wrap64 (s + (wrap64 ((wrap64 ((rd f n) * two)) * (rd a l))))) (n + 1) i j two (l + 1) i') (fun k => ?_) ?_
  ·rw [impl_valueAt.l2, if_pos (by omega), if_pos h1, if_pos (by omega), if_pos h3, if_pos (by omega), wrap_small h1 (by omega), wrap_small h3 (by omega)]
  ·refine valueAt_l2 p f a i j two i' hf ha r d _ _ _ (by omega) (by omega) (by omega) (by omega) ?_
   rw [show n + 1 + (d : Int) = n + ((d + 1 : Nat) : Int) from by omega]
   exact h
def tri : Nat → Nat
 | 0 => 0
 | d + 1 => d + 1 + tri d
theorem vs1_n (f a : List Int) (i : Int) : ∀ (d : Nat) (s n j : Int), (vs1 f a i d s n j).2 = n + tri d
 | 0, s, n, j => by simp [vs1, tri]
 | d + 1, s, n, j => by rw [vs1, vs1_n f a i d, tri]; omega
theorem valueAt_l1 (p : Int) (f a : List Int) (i i' : Int) (hf : f.length = 20) (ha : a.length = 4) (hi : 0 ≤ i ∧ i < 4) (r : Int) : ∀ (d : Nat) (s n j : Int), 0 ≤ n → n + tri d ≤ 20 → 0 ≤ j → j + d = 4 →
  Ev (fun k => impl_valueAt.l0 k p f a (vs1 f a i d s n j).1 (vs1 f a i d s n j).2 (wrap64 (i' + 1))) r → Ev (fun k => impl_valueAt.l1 k p f a s n i j i') r
 | 0, s, n, j, h1, h2, h3, h4, h => by
  refine Ev.step (f := fun k => impl_valueAt.l0 k p f a s n (wrap64 (i' + 1))) (fun k => ?_) (by simpa [vs1] using h)
  rw [impl_valueAt.l1, if_neg (by omega)]
 | d + 1, s, n, j, h1, h2, h3, h4, h => by
  rw [tri] at h2
  refine Ev.step (f := fun k => impl_valueAt.l2 k p f a s n i j (wrap64 ((rd a i) * (rd a j))) j i') (fun k => ?_) ?_
  ·rw [impl_valueAt.l1, if_pos (by omega), if_pos hi.1, if_pos (by omega), if_pos h3, if_pos (by omega)]
  ·refine valueAt_l2 p f a i j _ i' hf ha r (d + 1) _ _ _ (by omega) (by omega) (by omega) (by omega) ?_
   rw [wrap_small h3 (by omega)]
   exact valueAt_l1 p f a i i' hf ha hi r d _ _ _ (by omega) (by omega) (by omega) (by omega) h
theorem valueAt_ev (p : Int) (f a : List Int) (hp : p ≠ 0) (hf : f.length = 20) (ha : a.length = 4) : Ev (fun k => impl_valueAt.f k p f a) (valI p f a) := by
 have step : ∀ (i s n : Int) (d : Nat), i + (d + 1 : Nat) = 4 → 0 ≤ i → 0 ≤ n → n + tri (d + 1) ≤ 20 → Ev (fun k => impl_valueAt.l0 k p f a (vs1 f a i (d + 1) s n i).1 (vs1 f a i (d + 1) s n i).2 (i + 1)) (valI p f a) → Ev (fun k => impl_valueAt.l0 k p f a s n i) (valI p f a) := by
  intro i s n d h1 h2 h3 h4 h
  refine Ev.step (f := fun k => impl_valueAt.l1 k p f a s n i i i) (fun k => ?_) ?_
  ·rw [impl_valueAt.l0, if_pos (by omega)]
  ·refine valueAt_l1 p f a i i hf ha (by omega) _ (d + 1) _ _ _ h3 h4 h2 (by omega) ?_
   rw [wrap_small h2 (by omega)]
   exact h
 unfold impl_valueAt.f
 refine step 0 0 0 3 (by omega) (by omega) (by omega) (by simp [tri]) ?_
 refine step 1 _ _ 2 (by omega) (by omega) (by rw [vs1_n]; omega) (by rw [vs1_n]; simp [tri]) ?_
 refine step 2 _ _ 1 (by omega) (by omega) (by simp only [vs1_n]; omega) (by simp only [vs1_n]; simp [tri]) ?_
 refine step 3 _ _ 0 (by omega) (by omega) (by simp only [vs1_n]; omega) (by simp only [vs1_n]; simp [tri]) ?_
 refine Ev.step (f := fun _ => some (valI p f a)) (fun k => ?_) (Ev.now _)
 rw [impl_valueAt.l0, if_neg (by omega), if_neg hp]
 rfl/-! ### slices_Index_int_int: function 159 -/
def slices_Index_int_int.l0 : Nat → List Int → Int → Int → Int → Option (Int)
 | 0, _, _, _, _ => none
 | k + 1, x0, x1, x7, x8 => if x8 < x7 then (if 0 ≤ x8 then (if x8 < (x0.length : Int) then (if x1 = (rd x0 x8) then (some x8) else (slices_Index_int_int.l0 k x0 x1 x7 (wrap64 (x8 + 1)))) else (none)) else (none)) else (some (-1))
def slices_Index_int_int.f (k : Nat) (l0 : List Int) (a1 : Int) : Option (Int) := slices_Index_int_int.l0 k l0 a1 (l0.length : Int) 0
theorem slices_Index_int_int.mono_l : ∀ k, (∀ y0 y1 y2 y3, LeO (slices_Index_int_int.l0 k y0 y1 y2 y3) (slices_Index_int_int.l0 (k + 1) y0 y1 y2 y3))
 | 0 => fun _ _ _ _ r h => by simp [slices_Index_int_int.l0] at h
 | k + 1 => by
  have ih0 := slices_Index_int_int.mono_l k
  ·intro y0 y1 y2 y3
   unfold slices_Index_int_int.l0
   repeat' first | (with_reducible first | apply ih0 | exact LeO.refl _ | exact LeO.none _ | refine LeO.ite ?_ ?_ | refine LeO.bind ?_ (fun _ => ?_)) | (first | apply ih0 | exact LeO.none _ | refine LeO.ite ?_ ?_ | refine LeO.bind ?_ (fun _ => ?_))
theorem slices_Index_int_int.mono : ∀ a0 a1 k, LeO (slices_Index_int_int.f k a0 a1) (slices_Index_int_int.f (k + 1) a0 a1) := by
 intro a0 a1 k
 have ih0 := slices_Index_int_int.mono_l k
 unfold slices_Index_int_int.f
 repeat' first | (with_reducible first | apply ih0 | exact LeO.refl _ | exact LeO.none _ | refine LeO.ite ?_ ?_ | refine LeO.bind ?_ (fun _ => ?_)) | (first | apply ih0 | exact LeO.none _ | refine LeO.ite ?_ ?_ | refine LeO.bind ?_ (fun _ => ?_))
set_option maxHeartbeats 8000000 in
set_option maxRecDepth 100000 in
theorem slices_Index_int_int.calls (k : Nat) (A0 : Option Addr) (c0 : Nat) (l0 : List Int) (a1 : Int) (r : Int) (w : World) (hr0 : Kd.C (Kd.int .i64) w A0 l0.length l0) (hc0 : l0.length ≤ c0) (h : slices_Index_int_int.f k l0 a1 = some r) :
  Calls Try.prog 159 #[.slice A0 l0.length c0, .int .i64 a1] w fun e w' => e = .returned (.int .i64 r) ∧ Drawn0 w w' := by
 have HR0 := am hr0
 have HC0 := am hc0
 clear hr0 hc0
 have H : (slices_Index_int_int.l0 k l0 a1 (l0.length : Int) 0) = some r := h
 clear h; have H' := am H; clear H
 go_enter Try.func159, Try.ntmps159
 go_wp2
 go_loopg [8] k (fun kq v8 w' => ∃ (x8_1 : Int), v8 = .int .i64 x8_1 ∧ Aside0 (slices_Index_int_int.l0 kq l0 a1 (l0.length : Int) x8_1 = some r) ∧ Aside0 (kq ≤ k) ∧ Drawn0 w w')
 case atStart => exact ⟨(0), fr, H', ⟨Nat.le_refl _⟩, df⟩
 case round =>
  clear H'; try clear c1; try clear p2
  obtain ⟨x8_1, rfl, HA, HK1, ⟨m1, rfl⟩⟩ := hrel
  cases gk with
  | zero => exact absurd HA.out (by simp [slices_Index_int_int.l0])
  | succ k1 =>
   have H := HA.out; clear HA
   simp only [slices_Index_int_int.l0] at H
   by_cases c3 : x8_1 < (l0.length : Int)
   ·rw [if_pos c3] at H
    have c3b0 := decide_eq_true c3; clear c3; replace H := ifn H; obtain ⟨c4, H⟩ := H; have c4b0 := decide_eq_true c4; clear c4; replace H := ifn H; obtain ⟨c5, H⟩ := H; have c5b0 := decide_eq_true c5; clear c5
    by_cases c6 : a1 = (rd l0 x8_1)
    ·rw [if_pos c6] at H
     have c6b0 := beq_iff_eq.mpr c6; have c6b1 := bne_eq_false_iff_eq.mpr c6; clear c6; obtain rfl := Option.some.inj H
     have p127 : 0 ≤ (x8_1 : Int) := od
     have q127 : x8_1 < (l0.length : Int) := od
     obtain ⟨ad127, e127, hx127_0⟩ := Kd.at_int HR0.out x8_1 p127 q127
     cases e127; replace p127 := eq_true p127; replace q127 := eq_true q127; go_wp2; go_ret
     exact ⟨fr, df⟩
    ·rw [if_neg c6] at H
     have c6b0 := beq_eq_false_iff_ne.mpr c6; have c6b1 := bne_iff_ne.mpr c6; have H' := am H; clear H
     have p127 : 0 ≤ (x8_1 : Int) := od
     have q127 : x8_1 < (l0.length : Int) := od
     obtain ⟨ad127, e127, hx127_0⟩ := Kd.at_int HR0.out x8_1 p127 q127
     cases e127; replace p127 := eq_true p127; replace q127 := eq_true q127; go_wp2
     go_roundg k1
     case measure => have := HK1.out; omega
     case rel => exact ⟨(wrap64 (x8_1 + 1)), fr, H', ⟨by have := HK1.out; omega⟩, df⟩
   ·rw [if_neg c3] at H
    have c3b0 := decide_eq_false c3; clear c3; obtain rfl := Option.some.inj H; go_wp2; go_ret
    exact ⟨fr, df⟩
end Go.Proofs.Ytmgbpmihbljngaa.PA

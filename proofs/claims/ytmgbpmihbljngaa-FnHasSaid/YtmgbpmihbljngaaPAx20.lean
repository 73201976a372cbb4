-- Written by xprint.py, a program of this claim's own (over the kit's print.py)
import Derived.Test.YtmgbpmihbljngaaPAx18
import Derived.Test.YtmgbpmihbljngaaPAx19
namespace Go.Proofs.Ytmgbpmihbljngaa.PA
open Go.RowKit Go.Proofs.YtmgbpmihbljngaaW.PrintWords Go.Proofs.YtmgbpmihbljngaaW.PrintLast Go.Proofs.YtmgbpmihbljngaaW.PrintMore
attribute [local go_sem] j9 j8 Qf Qg js jr j6 j7
set_option linter.unusedVariables false
set_option linter.unusedSimpArgs false
mutual
def ql.l0 : Nat → Int → List (List Int) → List (List Int) → Int → Option (List Int)
 | 0, _, _, _, _ => none
 | k + 1, x0, x5, x6, x7 => if x7 < 4 then (if 0 ≤ x7 then (if x7 < (x5.length : Int) then ((qw.f k (zz x5 x7)).bind fun t422 => (if x6.length < 5864062014805 then (ql.l0 k x0 x5 (x6 ++ [t422]) (wrap64 (x7 + 1))) else (none))) else (none)) else (none)) else (ql.l1 k x0 x6 (([] : List (List Int))) 0)
def ql.l1 : Nat → Int → List (List Int) → List (List Int) → Int → Option (List Int)
 | 0, _, _, _, _ => none
 | k + 1, x0, x6, x8, x9 => if x9 < 4 then (ql.l2 k x0 x6 x8 x9 x9) else (ql.l4 k x0 x8 (([] : List (List Int))) 0)
def ql.l2 : Nat → Int → List (List Int) → List (List Int) → Int → Int → Option (List Int)
 | 0, _, _, _, _, _ => none
 | k + 1, x0, x6, x8, x9, x10 => if x10 < 4 then (if 0 ≤ x9 then (if x9 < (x6.length : Int) then (if 0 ≤ x10 then (if x10 < (x6.length : Int) then ((qn.f k x0 (zz x6 x9) (zz x6 x10)).bind fun t433 => (ql.l3 k x0 x6 x8 x9 x10 t433 x10)) else (none)) else (none)) else (none)) else (none)) else (ql.l1 k x0 x6 x8 (wrap64 (x9 + 1)))
def ql.l3 : Nat → Int → List (List Int) → List (List Int) → Int → Int → List Int → Int → Option (List Int)
 | 0, _, _, _, _, _, _, _ => none
 | k + 1, x0, x6, x8, x9, x10, x11, x12 => if x12 < 4 then (if 0 ≤ x12 then (if x12 < (x6.length : Int) then ((qn.f k x0 x11 (zz x6 x12)).bind fun t437 => (if x8.length < 5864062014805 then (ql.l3 k x0 x6 (x8 ++ [t437]) x9 x10 x11 (wrap64 (x12 + 1))) else (none))) else (none)) else (none)) else (ql.l2 k x0 x6 x8 x9 (wrap64 (x10 + 1)))
def ql.l4 : Nat → Int → List (List Int) → List (List Int) → Int → Option (List Int)
 | 0, _, _, _, _ => none
 | k + 1, x0, x8, x13, x14 => if x14 < 100 then (ql.l5 k x0 x8 x13 x14 (([] : List Int)) 0) else ((qm.f k x0 x13 20).bind fun t446 => (if 0 < (t446.length : Int) then (some (zz t446 0)) else (none)))
def ql.l5 : Nat → Int → List (List Int) → List (List Int) → Int → List Int → Int → Option (List Int)
 | 0, _, _, _, _, _, _ => none
 | k + 1, x0, x8, x13, x14, x15, x16 => if x16 < 20 then (if 0 ≤ x16 then (if x16 < (x8.length : Int) then (if 0 ≤ x14 then (if x14 < ((zz x8 x16).length : Int) then (if x15.length < 17592186044416 then (ql.l5 k x0 x8 x13 x14 (x15 ++ [rd (zz x8 x16) x14]) (wrap64 (x16 + 1))) else (none)) else (none)) else (none)) else (none)) else (none)) else (if x13.length < 5864062014805 then (ql.l4 k x0 x8 (x13 ++ [x15]) (wrap64 (x14 + 1))) else (none))
end
def ql.f (k : Nat) (a0 : Int) (l1 : List (S43)) : Option (List Int) := (zh.f k a0 l1).bind fun t415 => (ql.l0 k a0 t415 (([] : List (List Int))) 0)
theorem ql.mono_l : ∀ k, (∀ y0 y1 y2 y3, LeO (ql.l0 k y0 y1 y2 y3) (ql.l0 (k + 1) y0 y1 y2 y3)) ∧ (∀ y0 y1 y2 y3, LeO (ql.l1 k y0 y1 y2 y3) (ql.l1 (k + 1) y0 y1 y2 y3)) ∧ (∀ y0 y1 y2 y3 y4, LeO (ql.l2 k y0 y1 y2 y3 y4) (ql.l2 (k + 1) y0 y1 y2 y3 y4)) ∧ (∀ y0 y1 y2 y3 y4 y5 y6, LeO (ql.l3 k y0 y1 y2 y3 y4 y5 y6) (ql.l3 (k + 1) y0 y1 y2 y3 y4 y5 y6)) ∧ (∀ y0 y1 y2 y3, LeO (ql.l4 k y0 y1 y2 y3) (ql.l4 (k + 1) y0 y1 y2 y3)) ∧ (∀ y0 y1 y2 y3 y4 y5, LeO (ql.l5 k y0 y1 y2 y3 y4 y5) (ql.l5 (k + 1) y0 y1 y2 y3 y4 y5))
 | 0 => ⟨fun _ _ _ _ r h => by simp [ql.l0] at h, fun _ _ _ _ r h => by simp [ql.l1] at h, fun _ _ _ _ _ r h => by simp [ql.l2] at h, fun _ _ _ _ _ _ _ r h => by simp [ql.l3] at h, fun _ _ _ _ r h => by simp [ql.l4] at h, fun _ _ _ _ _ _ r h => by simp [ql.l5] at h⟩
 | k + 1 => by
  obtain ⟨ih0, ih1, ih2, ih3, ih4, ih5⟩ := ql.mono_l k
  refine ⟨?_, ?_, ?_, ?_, ?_, ?_⟩
  ·intro y0 y1 y2 y3
   unfold ql.l0
   repeat' first | (with_reducible first | apply ih0 | apply ih1 | apply ih2 | apply ih3 | apply ih4 | apply ih5 | apply qm.mono | apply zh.mono | apply qw.mono | apply qn.mono | exact LeO.refl _ | exact LeO.none _ | refine LeO.ite ?_ ?_ | refine LeO.bind ?_ (fun _ => ?_)) | (first | apply ih0 | apply ih1 | apply ih2 | apply ih3 | apply ih4 | apply ih5 | apply qm.mono | apply zh.mono | apply qw.mono | apply qn.mono | exact LeO.none _ | refine LeO.ite ?_ ?_ | refine LeO.bind ?_ (fun _ => ?_))
  ·intro y0 y1 y2 y3
   unfold ql.l1
   repeat' first | (with_reducible first | apply ih0 | apply ih1 | apply ih2 | apply ih3 | apply ih4 | apply ih5 | apply qm.mono | apply zh.mono | apply qw.mono | apply qn.mono | exact LeO.refl _ | exact LeO.none _ | refine LeO.ite ?_ ?_ | refine LeO.bind ?_ (fun _ => ?_)) | (first | apply ih0 | apply ih1 | apply ih2 | apply ih3 | apply ih4 | apply ih5 | apply qm.mono | apply zh.mono | apply qw.mono | apply qn.mono | exact LeO.none _ | refine LeO.ite ?_ ?_ | refine LeO.bind ?_ (fun _ => ?_))
  ·intro y0 y1 y2 y3 y4
   unfold ql.l2
   repeat' first | (with_reducible first | apply ih0 | apply ih1 | apply ih2 | apply ih3 | apply ih4 | apply ih5 | apply qm.mono | apply zh.mono | apply qw.mono | apply qn.mono | exact LeO.refl _ | exact LeO.none _ | refine LeO.ite ?_ ?_ | refine LeO.bind ?_ (fun _ => ?_)) | (first | apply ih0 | apply ih1 | apply ih2 | apply ih3 | apply ih4 | apply ih5 | apply qm.mono | apply zh.mono | apply qw.mono | apply qn.mono | exact LeO.none _ | refine LeO.ite ?_ ?_ | refine LeO.bind ?_ (fun _ => ?_))
  ·intro y0 y1 y2 y3 y4 y5 y6
   unfold ql.l3
   repeat' first | (with_reducible first | apply ih0 | apply ih1 | apply ih2 | apply ih3 | apply ih4 | apply ih5 | apply qm.mono | apply zh.mono | apply qw.mono | apply qn.mono | exact LeO.refl _ | exact LeO.none _ | refine LeO.ite ?_ ?_ | refine LeO.bind ?_ (fun _ => ?_)) | (first | apply ih0 | apply ih1 | apply ih2 | apply ih3 | apply ih4 | apply ih5 | apply qm.mono | apply zh.mono | apply qw.mono | apply qn.mono | exact LeO.none _ | refine LeO.ite ?_ ?_ | refine LeO.bind ?_ (fun _ => ?_))
  ·intro y0 y1 y2 y3
   unfold ql.l4
   repeat' first | (with_reducible first | apply ih0 | apply ih1 | apply ih2 | apply ih3 | apply ih4 | apply ih5 | apply qm.mono | apply zh.mono | apply qw.mono | apply qn.mono | exact LeO.refl _ | exact LeO.none _ | refine LeO.ite ?_ ?_ | refine LeO.bind ?_ (fun _ => ?_)) | (first | apply ih0 | apply ih1 | apply ih2 | apply ih3 | apply ih4 | apply ih5 | apply qm.mono | apply zh.mono | apply qw.mono | apply qn.mono | exact LeO.none _ | refine LeO.ite ?_ ?_ | refine LeO.bind ?_ (fun _ => ?_))
  ·intro y0 y1 y2 y3 y4 y5
   unfold ql.l5
   repeat' first | (with_reducible first | apply ih0 | apply ih1 | apply ih2 | apply ih3 | apply ih4 | apply ih5 | apply qm.mono | apply zh.mono | apply qw.mono | apply qn.mono | exact LeO.refl _ | exact LeO.none _ | refine LeO.ite ?_ ?_ | refine LeO.bind ?_ (fun _ => ?_)) | (first | apply ih0 | apply ih1 | apply ih2 | apply ih3 | apply ih4 | apply ih5 | apply qm.mono | apply zh.mono | apply qw.mono | apply qn.mono | exact LeO.none _ | refine LeO.ite ?_ ?_ | refine LeO.bind ?_ (fun _ => ?_))
theorem ql.mono : ∀ a0 a1 k, LeO (ql.f k a0 a1) (ql.f (k + 1) a0 a1) := by
 intro a0 a1 k
 obtain ⟨ih0, ih1, ih2, ih3, ih4, ih5⟩ := ql.mono_l k
 unfold ql.f
 repeat' first | (with_reducible first | apply ih0 | apply ih1 | apply ih2 | apply ih3 | apply ih4 | apply ih5 | apply qm.mono | apply zh.mono | apply qw.mono | apply qn.mono | exact LeO.refl _ | exact LeO.none _ | refine LeO.ite ?_ ?_ | refine LeO.bind ?_ (fun _ => ?_)) | (first | apply ih0 | apply ih1 | apply ih2 | apply ih3 | apply ih4 | apply ih5 | apply qm.mono | apply zh.mono | apply qw.mono | apply qn.mono | exact LeO.none _ | refine LeO.ite ?_ ?_ | refine LeO.bind ?_ (fun _ => ?_))
def ql.T14 : Bool × List (List Nat × List Nat) := (true, [([], []), ([], []), ([], []), ([1, 2], [1, 2]), ([3], [3]), ([], []), ([], []), ([5, 6], [5, 6]), ([7], [7]), ([0, 4, 8], [0, 4, 8]), ([9, 9, 0, 1, 2, 3, 4, 5, 6, 7, 8, 9], [9])])
def ql.B14 : List Nat := [0, 0, 0, 6, 14, 0, 0, 96, 224, 511, 1023]
theorem ql.tab14 : rtab .any (Zu Try.f63 14) = ql.T14 := by kernel_rfl
theorem ql.bits14 : Qe ql.T14.2 ql.B14 = true := by kernel_rfl
set_option maxHeartbeats 8000000 in
set_option maxRecDepth 100000 in
theorem ql.calls (k : Nat) (a0 : Int) (A1 : Option Addr) (c1 : Nat) (l1 : List (S43)) (r : List Int) (w : World) (hr1 : Kd.C k43 w A1 l1.length l1) (hc1 : l1.length ≤ c1) (h : ql.f k a0 l1 = some r) :
  Calls Try.prog 63 #[.int .i64 a0, .slice A1 l1.length c1] w fun e w' => ∃ v0_ : Value, e = .returned (v0_) ∧ Kd.V (Kd.int .i64) 3 w' w.heap.size (fun k_ => (w.heap.size ≤ k_)) v0_ r ∧ Below w.heap.size w w' := by
 have HR1 := am hr1
 have HC1 := am hc1
 clear hr1 hc1
 have HB := am (Below.refl w.heap.size w)
 have H : ((zh.f k a0 l1).bind fun t415 => (ql.l0 k a0 t415 (([] : List (List Int))) 0)) = some r := h
 clear h; replace H := bs H; obtain ⟨t415, A3, H⟩ := H
 generalize hy418 : (([] : List (List Int))) = y418 at H
 have Ny418 := am hy418.symm; clear hy418; have H' := am H; clear H
 go_enter Try.func63, Try.ntmps63
 go_wp2_with (first | ((with_reducible refine qf (f := 78) rfl ?_); refine gl 19 Try.func78 #[.int .i64 a0, .slice A1 l1.length c1] ?_; (with_reducible refine (zh.calls k a0 _ _ l1 t415 _ ?_ ?_ A3.out).mono ?_); exact wC HR1; exact HC1.out; rintro e w4 ⟨v416, rfl, ho0, hb⟩; refine ⟨_, rfl, ?_⟩; have HO417 := am (Kd.N_lower (Kd.N_mono (ok' := fun k_ => (w.heap.size ≤ k_)) ho0 (fun k_ hk_ => (Nat.le_trans (bz HB) hk_))) (bz HB)); replace HB := bq HB hb; (try clear hb); (try clear ho0)) | ((with_reducible refine za (N := 20) rfl ?_); refine Kd.N_lit (Kd.slice 3 (Kd.int .i64)) _ 23 ?hg (N' := 20) ?hd (xs := ([] : List (List Int))) (inner := []) (ok := (fun k_ => (w.heap.size ≤ k_) ∧ some k_ ≠ (v416 : Value).ownBlock)) (okp := (fun k_ => (w.heap.size ≤ k_) ∧ some k_ ≠ (v416 : Value).ownBlock)) ?hr ?hp (fun _ hk => hk) ((show ∀ k_, w4.heap.size ≤ k_ → (fun k_ => (w.heap.size ≤ k_) ∧ some k_ ≠ (v416 : Value).ownBlock) k_ from fun k_ hk => ⟨(Nat.le_trans (bz HB) hk), Kd.fresh' (Kd.N_lt (wN HO417)) k_ hk⟩) _ (Nat.le_refl _)) (Below.refl _ _) (Nat.le_refl _) (by simp) ?_; (case hd => rfl); (case hg => rfl); (case hr => first | (go_simp; done) | (go_simp; rfl)); (case hp => exact (Reps.none _ _)); intro v419 w5 ho6 hb hg_ hnew_; clear hg_ hnew_; (first | rw [← Ny418.out] at ho6 | (simp only [Int.reduceToNat] at ho6; rw [← Ny418.out] at ho6)); replace HO417 := eN HO417 (Kd.N_base ho6) hb; have HO420 := am (Kd.N_lower ho6 (bz HB)); replace HB := bq HB hb; clear hb ho6))
 go_loopg [6, 7] k (fun kq v6 v7 w' => ∃ (x6_1 : List (List Int)) (x7_1 : Int), v7 = .int .i64 x7_1 ∧ qb (ql.l0 kq a0 t415 x6_1 x7_1 = some r) ∧ qb (kq ≤ k) ∧ qb (Kd.N (Kd.slice 3 (Kd.int .i64)) 23 w' w.heap.size (fun k_ => (w.heap.size ≤ k_) ∧ some k_ ≠ (v6 : Value).ownBlock) v416 t415) ∧ qb (Kd.N (Kd.slice 3 (Kd.int .i64)) 23 w' w.heap.size (fun k_ => (w.heap.size ≤ k_) ∧ some k_ ≠ (v416 : Value).ownBlock) v6 x6_1) ∧ qb (Below w.heap.size w w'))
 case atStart => exact ⟨(y418), (0), fr, H', ⟨Nat.le_refl _⟩, ⟨wN HO417⟩, ⟨wN HO420⟩, ⟨bw HB⟩⟩
 case round =>
  clear H'; try clear c1; try clear p2; try clear c6
  obtain ⟨x6_1, x7_1, rfl, HA, HK1, HO_5, HO_6, HB⟩ := hrel
  cases gk with
  | zero => exact absurd HA.out (by simp [ql.l0])
  | succ k1 =>
   have H := HA.out; clear HA
   simp only [ql.l0] at H
   by_cases c7 : x7_1 < 4
   ·rw [if_pos c7] at H
    have c7b0 := decide_eq_true c7; clear c7; replace H := ifn H; obtain ⟨c8, H⟩ := H; have c8b0 := decide_eq_true c8; clear c8; replace H := ifn H; obtain ⟨c9, H⟩ := H; have c9b0 := decide_eq_true c9; clear c9; replace H := bs H; obtain ⟨t422, A10, H⟩ := H
    replace H := ifn H; obtain ⟨c11, H⟩ := H; have LMc11 := am c11; clear c11
    generalize hy425 : (x6_1 ++ [t422] : List (List Int)) = y425 at H
    have Ny425 := am hy425.symm; clear hy425; have H' := am H; clear H
    obtain ⟨Ao12, co12, eo12⟩ := Kd.N_slice HO_5.out
    subst eo12
    have p421 : 0 ≤ (x7_1 : Int) := od
    have q421 : x7_1 < (t415.length : Int) := od
    obtain ⟨ad421, A421_0, c421_0, e421, hx421_0, hl421_0, hi421_0⟩ := Jr (Kd.N_reads' HO_5.out).2.2 x7_1 p421 q421
    cases e421
    obtain ⟨ce421, hce421, hMe421, hcc421⟩ := Kd.N_get HO_5.out [] x7_1 p421 (by first | exact q421 | exact od | (have e_ := (Kd.N_reads' HO_5.out).1; omega))
    obtain ⟨ua421_0, uc421_0, rfl, ul421_0, ge421_0⟩ := Kd.FK_slice_open hMe421
    have hv421_0 := hcc421 0 _ rfl
    rw [Nat.add_zero, show ((Kd.slice 3 (Kd.int .i64))).sz = 1 from rfl, Nat.mul_one] at hv421_0
    replace hv421_0 := Option.some.inj (hv421_0.symm.trans hx421_0)
    injection hv421_0 with hva_ hvn_ hvc_
    rw [hva_] at ge421_0
    rw [hvc_] at ul421_0
    have HL421_0 := am (show Kd.V (Kd.int .i64) 3 _ w.heap.size _ _ (zz t415 x7_1) from Kd.V_mk ul421_0 ge421_0)
    clear hva_ hvn_ hvc_ ge421_0 ul421_0; clear hcc421 hce421
    have HR421_0 := am hi421_0
    have HC421_0 := am hl421_0
    clear hi421_0 hl421_0; replace p421 := eq_true p421; replace q421 := eq_true q421
    go_wp2_with (first | ((with_reducible refine qf (f := 107) rfl ?_); refine gl 30 Try.func107 #[.slice A421_0 (zz t415 x7_1).length c421_0] ?_; (with_reducible refine (qw.calls k1 _ _ (zz t415 x7_1) t422 _ ?_ ?_ A10.out).mono ?_); exact wC HR421_0; exact HC421_0.out; rintro e w13 ⟨v423, rfl, ho0, hb⟩; refine ⟨_, rfl, ?_⟩; replace HO_5 := eN HO_5 (Kd.R_base ho0) hb; replace HO_6 := eN HO_6 (Kd.R_base ho0) hb; replace HL421_0 := eV HL421_0 (Kd.R_base ho0) hb; have HO424 := am (mR ho0 HB); replace HR421_0 := am (Kd.C_below (wC HR421_0) hb); replace HB := bq HB hb; (try clear hb); (try clear ho0); obtain ⟨Ao15, co15, eo15⟩ := Kd.R_slice HO424.out; subst eo15) | ((with_reducible refine jh (b := .append) (xs := #[.tmp 25, .tmp 31]) rfl ?_); at_builtin; refine Kd.N_append (Kd.slice 3 (Kd.int .i64)) (w0 := w) w.heap.size rfl (.tmp 25) (.tmp 31) 47 23 (.slice none 0 0) 24 rfl Try.underlying47 Zb rfl (by decide) (by omega) u6 x6_1 t422 [.slice Ao15 t422.length co15] (fun k_ => (w.heap.size ≤ k_) ∧ some k_ ≠ (.slice (some ad421) t415.length co12 : Value).ownBlock) (fun k_ => ((fun k_ => (w.heap.size ≤ k_) ∧ some k_ ≠ (.slice (some ad421) t415.length co12 : Value).ownBlock)) k_ ∧ some k_ ≠ (u6 : Value).ownBlock) rfl rfl ?aP (fun _ hk => hk) ?aF ?aO ?aB ?aS ?aL ?_; (case aP => exact (Kd.FK_slice_mk (Kd.R_reads' (Kd.R_mono (ok' := (fun k_ => ((fun k_ => (w.heap.size ≤ k_) ∧ some k_ ≠ (.slice (some ad421) t415.length co12 : Value).ownBlock)) k_ ∧ some k_ ≠ (u6 : Value).ownBlock)) (Kd.R_apart' (Kd.R_apart' (HO424.out) (Kd.N_typed HO_5.out) (by decide)) (Kd.N_typed HO_6.out) (by decide)) (fun k_ hk => ⟨⟨hk.1.1.1, hk.1.2⟩, hk.2⟩))).2.1 (Kd.R_F (Kd.R_mono (ok' := (fun k_ => ((fun k_ => (w.heap.size ≤ k_) ∧ some k_ ≠ (.slice (some ad421) t415.length co12 : Value).ownBlock)) k_ ∧ some k_ ≠ (u6 : Value).ownBlock)) (Kd.R_apart' (Kd.R_apart' (HO424.out) (Kd.N_typed HO_5.out) (by decide)) (Kd.N_typed HO_6.out) (by decide)) (fun k_ hk => ⟨⟨hk.1.1.1, hk.1.2⟩, hk.2⟩))))); (case aB => exact (bw HB)); (case aF => exact (fun k_ hk => ⟨(Nat.le_trans (bz HB) hk), Kd.fresh' (Kd.N_lt (wN HO_5)) k_ hk⟩)); (case aO => exact (oN_ HO_6 (fun _ hk => ⟨hk.1.1, hk.1.2⟩))); (case aS => exact (bz HB)); (case aL => have := LMc11.out; omega); intro v426 w14 ho hb hg hat; rw [← Ny425.out] at ho; replace HO_5 := am (Kd.N_afterv (ok := (fun k_ => (w.heap.size ≤ k_) ∧ some k_ ≠ (.slice Ao15 t422.length co15 : Value).ownBlock)) (oN_ HO_5 (fun _ hk => ⟨⟨hk.1.1, hk.2⟩, hk.1.2⟩)) hg hat); replace HL421_0 := am (Kd.V_afterv (ok := (fun k_ => (w.heap.size ≤ k_) ∧ some k_ ≠ (.slice (some ad421) t415.length co12 : Value).ownBlock ∧ some k_ ≠ (.slice Ao15 t422.length co15 : Value).ownBlock)) (oV_ HL421_0 (fun _ hk => ⟨⟨hk.1.1.1, ⟨hk.1.2, hk.2⟩⟩, hk.1.1.2⟩)) hg hat); replace HB := am (hb); have HO427 := am (ho); clear HO_6 HO424; clear ho hb hg hat))
    go_roundg k1
    case measure => have := HK1.out; omega
    case rel => exact ⟨(y425), (wrap64 (x7_1 + 1)), fr, H', ⟨by have := HK1.out; omega⟩, ⟨Kd.N_below (Kd.N_mono HO_5.out (fun _ hk => ⟨hk.1.1, hk.2⟩)) gs⟩, ⟨wN HO427⟩, ⟨bw HB⟩⟩
   ·rw [if_neg c7] at H
    have c7b0 := decide_eq_false c7; clear c7
    generalize hy428 : (([] : List (List Int))) = y428 at H
    have Ny428 := am hy428.symm; clear hy428; have H' := am H; clear H
    go_wp2_with (first | ((with_reducible refine za (N := 33) rfl ?_); refine Kd.N_lit (Kd.slice 3 (Kd.int .i64)) _ 23 ?hg (N' := 33) ?hd (xs := ([] : List (List Int))) (inner := []) (ok := (fun k_ => (w.heap.size ≤ k_) ∧ some k_ ≠ (v416 : Value).ownBlock ∧ some k_ ≠ (u6 : Value).ownBlock)) (okp := (fun k_ => (w.heap.size ≤ k_) ∧ some k_ ≠ (v416 : Value).ownBlock ∧ some k_ ≠ (u6 : Value).ownBlock)) ?hr ?hp (fun _ hk => hk) ((show ∀ k_, wr.heap.size ≤ k_ → (fun k_ => (w.heap.size ≤ k_) ∧ some k_ ≠ (v416 : Value).ownBlock ∧ some k_ ≠ (u6 : Value).ownBlock) k_ from fun k_ hk => ⟨(Nat.le_trans (bz HB) hk), Kd.fresh' (Kd.N_lt (wN HO_5)) k_ hk, Kd.fresh' (Kd.N_lt (wN HO_6)) k_ hk⟩) _ (Nat.le_refl _)) (Below.refl _ _) (Nat.le_refl _) (by simp) ?_; (case hd => rfl); (case hg => rfl); (case hr => first | (go_simp; done) | (go_simp; rfl)); (case hp => exact (Reps.none _ _)); intro v429 w16 ho17 hb hg_ hnew_; clear hg_ hnew_; (first | rw [← Ny428.out] at ho17 | (simp only [Int.reduceToNat] at ho17; rw [← Ny428.out] at ho17)); replace HO_5 := eN HO_5 (Kd.N_base ho17) hb; replace HO_6 := eN HO_6 (Kd.N_base ho17) hb; have HO430 := am (Kd.N_lower ho17 (bz HB)); replace HB := bq HB hb; clear hb ho17))
    go_loopg [8, 9] k1 (fun kq v8 v9 w' => ∃ (x8_2 : List (List Int)) (x9_2 : Int), v9 = .int .i64 x9_2 ∧ qb (ql.l1 kq a0 x6_1 x8_2 x9_2 = some r) ∧ qb (kq ≤ k1) ∧ qb (Kd.N (Kd.slice 3 (Kd.int .i64)) 23 w' w.heap.size (fun k_ => (w.heap.size ≤ k_) ∧ some k_ ≠ (v8 : Value).ownBlock) u6 x6_1) ∧ qb (Kd.N (Kd.slice 3 (Kd.int .i64)) 23 w' w.heap.size (fun k_ => (w.heap.size ≤ k_) ∧ some k_ ≠ (u6 : Value).ownBlock) v8 x8_2) ∧ qb (Below w.heap.size w w'))
    case atStart => exact ⟨(y428), (0), fr, H', ⟨Nat.le_refl _⟩, ⟨Kd.N_below (Kd.N_mono HO_6.out (fun _ hk => ⟨hk.1.1, hk.2⟩)) gs⟩, ⟨Kd.N_below (Kd.N_mono HO430.out (fun _ hk => ⟨hk.1, hk.2.2⟩)) gs⟩, ⟨bw HB⟩⟩
    case round =>
     clear H'; try clear c1; try clear p2; try clear c4; try clear p4; try clear q4; try clear hx4; try clear c6; try clear p6; try clear c7; try clear c7b0; try clear c8; try clear c8b0; try clear c9; try clear c9b0; try clear c10; try clear c11
     try clear hx421_0; try clear p2; try clear p421; try clear q421
     obtain ⟨x8_2, x9_2, rfl, HA, HK2, HO_6, HO_8, HB⟩ := hrel
     cases gk with
     | zero => exact absurd HA.out (by simp [ql.l1])
     | succ k2 =>
      have H := HA.out; clear HA
      simp only [ql.l1] at H
      by_cases c18 : x9_2 < 4
      ·rw [if_pos c18] at H
       have c18b0 := decide_eq_true c18; clear c18; have H' := am H; clear H; go_wp2
       go_loopg [8, 10] k2 (fun kq v8 v10 w' => ∃ (x8_3 : List (List Int)) (x10_3 : Int), v10 = .int .i64 x10_3 ∧ qb (ql.l2 kq a0 x6_1 x8_3 x9_2 x10_3 = some r) ∧ qb (kq ≤ k2) ∧ qb (Kd.N (Kd.slice 3 (Kd.int .i64)) 23 w' w.heap.size (fun k_ => (w.heap.size ≤ k_) ∧ some k_ ≠ (v8 : Value).ownBlock) u6 x6_1) ∧ qb (Kd.N (Kd.slice 3 (Kd.int .i64)) 23 w' w.heap.size (fun k_ => (w.heap.size ≤ k_) ∧ some k_ ≠ (u6 : Value).ownBlock) v8 x8_3) ∧ qb (Below w.heap.size w w'))
       case atStart => exact ⟨(x8_2), (x9_2), fr, H', ⟨Nat.le_refl _⟩, ⟨wN HO_6⟩, ⟨wN HO_8⟩, ⟨bw HB⟩⟩
       case round =>
        clear H'; try clear c1; try clear p2; try clear c4; try clear p4; try clear q4; try clear hx4; try clear c6; try clear p6; try clear c7; try clear c7b0; try clear c8; try clear c8b0; try clear c9; try clear c9b0; try clear c10; try clear c11
        try clear c18; try clear c18b0; try clear hx421_0; try clear p2; try clear p4; try clear p421; try clear p6; try clear q4; try clear q421
        obtain ⟨x8_3, x10_3, rfl, HA, HK3, HO_6, HO_8, HB⟩ := hrel
        cases gk with
        | zero => exact absurd HA.out (by simp [ql.l2])
        | succ k3 =>
         have H := HA.out; clear HA
         simp only [ql.l2] at H
         by_cases c19 : x10_3 < 4
         ·rw [if_pos c19] at H
          have c19b0 := decide_eq_true c19; clear c19; replace H := ifn H; obtain ⟨c20, H⟩ := H; have c20b0 := decide_eq_true c20; clear c20; replace H := ifn H; obtain ⟨c21, H⟩ := H; have c21b0 := decide_eq_true c21; clear c21; replace H := ifn H; obtain ⟨c22, H⟩ := H
          have c22b0 := decide_eq_true c22; clear c22; replace H := ifn H; obtain ⟨c23, H⟩ := H; have c23b0 := decide_eq_true c23; clear c23; replace H := bs H; obtain ⟨t433, A24, H⟩ := H; have H' := am H; clear H
          try go_wp2
          replace HO_6 := am (Kd.N_drew HO_6.out)
          replace HO_8 := am (Kd.N_drew HO_8.out)
          replace HB := am (qx HB.out)
          obtain ⟨Ao26, co26, eo26⟩ := Kd.N_slice HO_6.out
          (first | subst eo26 | (injection eo26 with f1_ f2_ f3_; have f4_ := f1_.symm; have f5_ := f3_.symm; clear f1_ f2_ f3_; subst f4_; subst f5_))
          have p431 : 0 ≤ (x9_2 : Int) := od
          have q431 : x9_2 < (x6_1.length : Int) := od
          obtain ⟨ad431, A431_0, c431_0, e431, hx431_0, hl431_0, hi431_0⟩ := Jr (Kd.N_reads' HO_6.out).2.2 x9_2 p431 q431
          cases e431
          obtain ⟨ce431, hce431, hMe431, hcc431⟩ := Kd.N_get HO_6.out [] x9_2 p431 (by first | exact q431 | exact od | (have e_ := (Kd.N_reads' HO_6.out).1; omega))
          obtain ⟨ua431_0, uc431_0, rfl, ul431_0, ge431_0⟩ := Kd.FK_slice_open hMe431
          have hv431_0 := hcc431 0 _ rfl
          rw [Nat.add_zero, show ((Kd.slice 3 (Kd.int .i64))).sz = 1 from rfl, Nat.mul_one] at hv431_0
          replace hv431_0 := Option.some.inj (hv431_0.symm.trans hx431_0)
          injection hv431_0 with hva_ hvn_ hvc_
          rw [hva_] at ge431_0
          rw [hvc_] at ul431_0
          have HL431_0 := am (show Kd.V (Kd.int .i64) 3 _ w.heap.size _ _ (zz x6_1 x9_2) from Kd.V_mk ul431_0 ge431_0)
          clear hva_ hvn_ hvc_ ge431_0 ul431_0; clear hcc431 hce431
          have HR431_0 := am hi431_0
          have HC431_0 := am hl431_0
          clear hi431_0 hl431_0; replace p431 := eq_true p431; replace q431 := eq_true q431
          have p432 : 0 ≤ (x10_3 : Int) := od
          have q432 : x10_3 < (x6_1.length : Int) := od
          obtain ⟨ad432, A432_0, c432_0, e432, hx432_0, hl432_0, hi432_0⟩ := Jr (Kd.N_reads' HO_6.out).2.2 x10_3 p432 q432
          obtain rfl : ad431 = ad432 := (by injection e432)
          obtain ⟨ce432, hce432, hMe432, hcc432⟩ := Kd.N_get HO_6.out [] x10_3 p432 (by first | exact q432 | exact od | (have e_ := (Kd.N_reads' HO_6.out).1; omega))
          obtain ⟨ua432_0, uc432_0, rfl, ul432_0, ge432_0⟩ := Kd.FK_slice_open hMe432
          have hv432_0 := hcc432 0 _ rfl
          rw [Nat.add_zero, show ((Kd.slice 3 (Kd.int .i64))).sz = 1 from rfl, Nat.mul_one] at hv432_0
          replace hv432_0 := Option.some.inj (hv432_0.symm.trans hx432_0)
          injection hv432_0 with hva_ hvn_ hvc_
          rw [hva_] at ge432_0
          rw [hvc_] at ul432_0
          have HL432_0 := am (show Kd.V (Kd.int .i64) 3 _ w.heap.size _ _ (zz x6_1 x10_3) from Kd.V_mk ul432_0 ge432_0)
          clear hva_ hvn_ hvc_ ge432_0 ul432_0; clear hcc432 hce432
          have HR432_0 := am hi432_0
          have HC432_0 := am hl432_0
          clear hi432_0 hl432_0; replace p432 := eq_true p432; replace q432 := eq_true q432
          refine st 11 (fun w' => w'.cell? (ad431.add (x9_2).toNat) = some (.slice A431_0 (zz x6_1 x9_2).length c431_0) ∧ w'.cell? (ad431.add (x10_3).toNat) = some (.slice A432_0 (zz x6_1 x10_3).length c432_0)) [] ql.tab14 ql.bits14 (⟨hx431_0, hx432_0⟩) fun hHeld HT_ HW_ => ?_
          generalize wr.drew = w25 at HO_6 HO_8 HB HL431_0 HL432_0 HR431_0 HR432_0 hx431_0 hx432_0 hHeld ⊢
          refine pz 0 43 HT_ ?_; refine pz 1 44 HT_ ?_; refine pz 2 45 HT_ ?_; refine pz 3 46 HT_ ?_; refine pz 5 48 HT_ ?_; refine pz 6 49 HT_ ?_; refine pz 7 50 HT_ ?_; refine tk 4 47 HT_ HW_ hHeld ?_; refine tk 8 51 HT_ HW_ hHeld ?_
          refine on 9 (some 52) HT_ fun K hK => ?_
          refine gs_ Try.func108 #[.int .i64 a0, .slice A431_0 (zz x6_1 x9_2).length c431_0, .slice A432_0 (zz x6_1 x10_3).length c432_0] ?_
          with_reducible refine (qn.calls k3 a0 _ _ (zz x6_1 x9_2) _ _ (zz x6_1 x10_3) t433 _ ?side1 ?side2 ?side3 ?side4 A24.out).mono ?_
          (case side1 => exact wC HR431_0)
          (case side2 => exact HC431_0.out)
          (case side3 => exact wC HR432_0)
          (case side4 => exact HC432_0.out)
          rintro e w27 ⟨v434, rfl, ho0, hb⟩
          have HS0_ := (hb.cell (World.block_lt_of_cell? _ _ (hHeld.1))).trans (hHeld.1)
          have HS1_ := (hb.cell (World.block_lt_of_cell? _ _ (hHeld.2))).trans (hHeld.2)
          refine ⟨_, rfl, ?_⟩
          replace HO_6 := eN HO_6 (Kd.R_base ho0) hb
          replace HO_8 := eN HO_8 (Kd.R_base ho0) hb
          replace HL431_0 := eV HL431_0 (Kd.R_base ho0) hb
          replace HL432_0 := eV HL432_0 (Kd.R_base ho0) hb
          have HO435 := am (mR ho0 HB)
          replace HR431_0 := am (Kd.C_below (wC HR431_0) hb)
          replace HR432_0 := am (Kd.C_below (wC HR432_0) hb)
          replace HB := bq HB hb
          (try clear hb)
          (try clear hb2)
          (try clear hk)
          (try clear hi)
          (try clear ho0)
          refine hK.out _ _ ⟨HS0_, HS1_⟩ fun hHeld => nz ?_
          clear hK K; refine pz 10 11 HT_ ?_
          refine Q8 (Qj HT_.out (by kernel_rfl)) ?_
          try go_wp2
          go_loopg [8, 12] k3 (fun kq v8 v12 w' => ∃ (x8_4 : List (List Int)) (x12_4 : Int), v12 = .int .i64 x12_4 ∧ qb (ql.l3 kq a0 x6_1 x8_4 x9_2 x10_3 t433 x12_4 = some r) ∧ qb (kq ≤ k3) ∧ qb (Kd.N (Kd.slice 3 (Kd.int .i64)) 23 w' w.heap.size (fun k_ => (w.heap.size ≤ k_) ∧ some k_ ≠ (v8 : Value).ownBlock ∧ some k_ ≠ (v434 : Value).ownBlock) (.slice (some ad431) x6_1.length co26) x6_1) ∧ qb (Kd.N (Kd.slice 3 (Kd.int .i64)) 23 w' w.heap.size (fun k_ => (w.heap.size ≤ k_) ∧ some k_ ≠ ((.slice (some ad431) x6_1.length co26) : Value).ownBlock ∧ some k_ ≠ (v434 : Value).ownBlock) v8 x8_4) ∧ qb (Kd.R (Kd.int .i64) 3 w' w.heap.size (fun k_ => (w.heap.size ≤ k_)) v434 t433) ∧ qb (Below w.heap.size w w'))
          case atStart => exact ⟨(x8_3), (x10_3), fr, H', ⟨Nat.le_refl _⟩, ⟨Kd.N_below (Kd.N_mono HO_6.out (fun _ hk => ⟨hk.1.1, ⟨hk.1.2, hk.2⟩⟩)) gs⟩, ⟨Kd.N_below (Kd.N_mono HO_8.out (fun _ hk => ⟨hk.1.1, ⟨hk.1.2, hk.2⟩⟩)) gs⟩, ⟨Kd.R_below (Kd.R_mono HO435.out (fun _ hk => hk.1)) gs⟩, ⟨bw HB⟩⟩
          case round =>
           clear H'; try clear c1; try clear c2; try clear p2; try clear c4; try clear p4; try clear q4; try clear hx4; try clear c6; try clear p6; try clear c7; try clear c7b0; try clear c8; try clear c8b0; try clear c9; try clear c9b0; try clear c10
           try clear c11; try clear c18; try clear c18b0; try clear c19; try clear c19b0; try clear c20; try clear c20b0; try clear c21; try clear c21b0; try clear c22; try clear c22b0; try clear c23; try clear c23b0; try clear hx421_0; try clear hx431_0
           try clear hx432_0; try clear p2; try clear p4; try clear p421; try clear p431; try clear p432; try clear p6; try clear q4; try clear q421; try clear q431; try clear q432
           obtain ⟨x8_4, x12_4, rfl, HA, HK4, HO_6, HO_8, HO_11, HB⟩ := hrel
           cases gk with
           | zero => exact absurd HA.out (by simp [ql.l3])
           | succ k4 =>
            have H := HA.out; clear HA
            simp only [ql.l3] at H
            by_cases c28 : x12_4 < 4
            ·rw [if_pos c28] at H
             have c28b0 := decide_eq_true c28; clear c28; replace H := ifn H; obtain ⟨c29, H⟩ := H; have c29b0 := decide_eq_true c29; clear c29; replace H := ifn H; obtain ⟨c30, H⟩ := H; have c30b0 := decide_eq_true c30; clear c30; replace H := bs H; obtain ⟨t437, A31, H⟩ := H
             replace H := ifn H; obtain ⟨c32, H⟩ := H; have LMc32 := am c32; clear c32
             generalize hy440 : (x8_4 ++ [t437] : List (List Int)) = y440 at H
             have Ny440 := am hy440.symm; clear hy440; have H' := am H; clear H
             have p436 : 0 ≤ (x12_4 : Int) := od
             have q436 : x12_4 < (x6_1.length : Int) := od
             obtain ⟨ad436, A436_0, c436_0, e436, hx436_0, hl436_0, hi436_0⟩ := Jr (Kd.N_reads' HO_6.out).2.2 x12_4 p436 q436
             obtain rfl : ad431 = ad436 := (by injection e436)
             obtain ⟨ce436, hce436, hMe436, hcc436⟩ := Kd.N_get HO_6.out [] x12_4 p436 (by first | exact q436 | exact od | (have e_ := (Kd.N_reads' HO_6.out).1; omega))
             obtain ⟨ua436_0, uc436_0, rfl, ul436_0, ge436_0⟩ := Kd.FK_slice_open hMe436
             have hv436_0 := hcc436 0 _ rfl
             rw [Nat.add_zero, show ((Kd.slice 3 (Kd.int .i64))).sz = 1 from rfl, Nat.mul_one] at hv436_0
             replace hv436_0 := Option.some.inj (hv436_0.symm.trans hx436_0)
             injection hv436_0 with hva_ hvn_ hvc_
             rw [hva_] at ge436_0
             rw [hvc_] at ul436_0
             have HL436_0 := am (show Kd.V (Kd.int .i64) 3 _ w.heap.size _ _ (zz x6_1 x12_4) from Kd.V_mk ul436_0 ge436_0)
             clear hva_ hvn_ hvc_ ge436_0 ul436_0; clear hcc436 hce436
             have HR436_0 := am hi436_0
             have HC436_0 := am hl436_0
             clear hi436_0 hl436_0; replace p436 := eq_true p436; replace q436 := eq_true q436
             obtain ⟨Ao33, co33, eo33⟩ := Kd.R_slice HO_11.out
             subst eo33
             go_wp2_with (first | ((with_reducible refine qf (f := 108) rfl ?_); refine gl 65 Try.func108 #[.int .i64 a0, .slice Ao33 t433.length co33, .slice A436_0 (zz x6_1 x12_4).length c436_0] ?_; (with_reducible refine (qn.calls k4 a0 _ _ t433 _ _ (zz x6_1 x12_4) t437 _ ?_ ?_ ?_ ?_ A31.out).mono ?_); exact Kd.C_below (Kd.R_reads' HO_11.out).2.2 gs; exact (Kd.R_reads' HO_11.out).2.1; exact wC HR436_0; exact HC436_0.out; rintro e w34 ⟨v438, rfl, ho0, hb⟩; refine ⟨_, rfl, ?_⟩; replace HO_6 := eN HO_6 (Kd.R_base ho0) hb; replace HO_8 := eN HO_8 (Kd.R_base ho0) hb; replace HL436_0 := eV HL436_0 (Kd.R_base ho0) hb; have HO439 := am (Kd.R_lower (Kd.R_new' (Kd.R_newM (M := fun k_ => (w.heap.size ≤ k_)) ho0 (bz HB) (fun k_ h_ => h_)) (Kd.R_lt (wR HO_11))) (bz HB)); replace HO_11 := eR HO_11 (Kd.R_base ho0) hb; replace HR436_0 := am (Kd.C_below (wC HR436_0) hb); replace HB := bq HB hb; (try clear hb); (try clear ho0); obtain ⟨Ao36, co36, eo36⟩ := Kd.R_slice HO439.out; subst eo36) | ((with_reducible refine jh (b := .append) (xs := #[.tmp 58, .tmp 66]) rfl ?_); at_builtin; refine Kd.N_append (Kd.slice 3 (Kd.int .i64)) (w0 := w) w.heap.size rfl (.tmp 58) (.tmp 66) 47 23 (.slice none 0 0) 24 rfl Try.underlying47 Zb rfl (by decide) (by omega) u8 x8_4 t437 [.slice Ao36 t437.length co36] (fun k_ => (w.heap.size ≤ k_) ∧ some k_ ≠ (.slice (some ad431) x6_1.length co26 : Value).ownBlock ∧ some k_ ≠ (.slice Ao33 t433.length co33 : Value).ownBlock) (fun k_ => ((fun k_ => (w.heap.size ≤ k_) ∧ some k_ ≠ (.slice (some ad431) x6_1.length co26 : Value).ownBlock ∧ some k_ ≠ (.slice Ao33 t433.length co33 : Value).ownBlock)) k_ ∧ some k_ ≠ (u8 : Value).ownBlock) rfl rfl ?aP (fun _ hk => hk) ?aF ?aO ?aB ?aS ?aL ?_; (case aP => exact (Kd.FK_slice_mk (Kd.R_reads' (Kd.R_mono (ok' := (fun k_ => ((fun k_ => (w.heap.size ≤ k_) ∧ some k_ ≠ (.slice (some ad431) x6_1.length co26 : Value).ownBlock ∧ some k_ ≠ (.slice Ao33 t433.length co33 : Value).ownBlock)) k_ ∧ some k_ ≠ (u8 : Value).ownBlock)) (Kd.R_apart' (Kd.R_apart' (HO439.out) (Kd.N_typed HO_6.out) (by decide)) (Kd.N_typed HO_8.out) (by decide)) (fun k_ hk => ⟨⟨hk.1.1.1.1, ⟨hk.1.2, hk.1.1.2⟩⟩, hk.2⟩))).2.1 (Kd.R_F (Kd.R_mono (ok' := (fun k_ => ((fun k_ => (w.heap.size ≤ k_) ∧ some k_ ≠ (.slice (some ad431) x6_1.length co26 : Value).ownBlock ∧ some k_ ≠ (.slice Ao33 t433.length co33 : Value).ownBlock)) k_ ∧ some k_ ≠ (u8 : Value).ownBlock)) (Kd.R_apart' (Kd.R_apart' (HO439.out) (Kd.N_typed HO_6.out) (by decide)) (Kd.N_typed HO_8.out) (by decide)) (fun k_ hk => ⟨⟨hk.1.1.1.1, ⟨hk.1.2, hk.1.1.2⟩⟩, hk.2⟩))))); (case aB => exact (bw HB)); (case aF => exact (fun k_ hk => ⟨(Nat.le_trans (bz HB) hk), Kd.fresh' (Kd.N_lt (wN HO_6)) k_ hk, Kd.fresh' (Kd.R_lt (wR HO_11)) k_ hk⟩)); (case aO => exact (oN_ HO_8 (fun _ hk => ⟨hk.1.1, ⟨hk.1.2.1, hk.1.2.2⟩⟩))); (case aS => exact (bz HB)); (case aL => have := LMc32.out; omega); intro v441 w35 ho hb hg hat; rw [← Ny440.out] at ho; replace HO_6 := am (Kd.N_afterv (ok := (fun k_ => (w.heap.size ≤ k_) ∧ some k_ ≠ (.slice Ao33 t433.length co33 : Value).ownBlock ∧ some k_ ≠ (.slice Ao36 t437.length co36 : Value).ownBlock)) (oN_ HO_6 (fun _ hk => ⟨⟨hk.1.1, ⟨hk.1.2.2, hk.2⟩⟩, hk.1.2.1⟩)) hg hat); replace HO_11 := am (Kd.R_over' (wR HO_11) (Kd.N_typed (wN HO_8)) (by decide) hg); replace HL436_0 := am (Kd.V_afterv (ok := (fun k_ => (w.heap.size ≤ k_) ∧ some k_ ≠ (.slice (some ad431) x6_1.length co26 : Value).ownBlock ∧ some k_ ≠ (.slice Ao33 t433.length co33 : Value).ownBlock ∧ some k_ ≠ (.slice Ao36 t437.length co36 : Value).ownBlock)) (oV_ HL436_0 (fun _ hk => ⟨⟨hk.1.1.1, ⟨hk.1.2, ⟨hk.1.1.2.2, hk.2⟩⟩⟩, hk.1.1.2.1⟩)) hg hat); replace HB := am (hb); have HO442 := am (ho); clear HO_8 HO439; clear ho hb hg hat))
             go_roundg k4
             case measure => have := HK1.out; have := HK2.out; have := HK3.out; have := HK4.out; omega
             case rel => exact ⟨(y440), (wrap64 (x12_4 + 1)), fr, H', ⟨by have := HK1.out; have := HK2.out; have := HK3.out; have := HK4.out; omega⟩, ⟨Kd.N_below (Kd.N_mono HO_6.out (fun _ hk => ⟨hk.1.1, ⟨hk.2, hk.1.2.1⟩⟩)) gs⟩, ⟨wN HO442⟩, ⟨Kd.R_below (Kd.R_mono HO_11.out (fun _ hk => hk.1)) gs⟩, ⟨bw HB⟩⟩
            ·rw [if_neg c28] at H
             have c28b0 := decide_eq_false c28; clear c28; have H' := am H; clear H; go_wp2
             go_roundg k4
             case measure => have := HK1.out; have := HK2.out; have := HK3.out; have := HK4.out; omega
             case rel => exact ⟨(x8_4), (wrap64 (x10_3 + 1)), fr, H', ⟨by have := HK1.out; have := HK2.out; have := HK3.out; have := HK4.out; omega⟩, ⟨Kd.N_below (Kd.N_mono HO_6.out (fun _ hk => ⟨hk.1, hk.2.1⟩)) gs⟩, ⟨Kd.N_below (Kd.N_mono HO_8.out (fun _ hk => ⟨hk.1, hk.2.1⟩)) gs⟩, ⟨bw HB⟩⟩
         ·rw [if_neg c19] at H
          have c19b0 := decide_eq_false c19; clear c19; have H' := am H; clear H; go_wp2
          go_roundg k3
          case measure => have := HK1.out; have := HK2.out; have := HK3.out; omega
          case rel => exact ⟨(x8_3), (wrap64 (x9_2 + 1)), fr, H', ⟨by have := HK1.out; have := HK2.out; have := HK3.out; omega⟩, ⟨wN HO_6⟩, ⟨wN HO_8⟩, ⟨bw HB⟩⟩
      ·rw [if_neg c18] at H
       have c18b0 := decide_eq_false c18; clear c18
       generalize hy443 : (([] : List (List Int))) = y443 at H
       have Ny443 := am hy443.symm; clear hy443; have H' := am H; clear H
       go_wp2_with (first | ((with_reducible refine za (N := 68) rfl ?_); refine Kd.N_lit (Kd.slice 3 (Kd.int .i64)) _ 23 ?hg (N' := 68) ?hd (xs := ([] : List (List Int))) (inner := []) (ok := (fun k_ => (w.heap.size ≤ k_) ∧ some k_ ≠ (u6 : Value).ownBlock ∧ some k_ ≠ (u8 : Value).ownBlock)) (okp := (fun k_ => (w.heap.size ≤ k_) ∧ some k_ ≠ (u6 : Value).ownBlock ∧ some k_ ≠ (u8 : Value).ownBlock)) ?hr ?hp (fun _ hk => hk) ((show ∀ k_, wr.heap.size ≤ k_ → (fun k_ => (w.heap.size ≤ k_) ∧ some k_ ≠ (u6 : Value).ownBlock ∧ some k_ ≠ (u8 : Value).ownBlock) k_ from fun k_ hk => ⟨(Nat.le_trans (bz HB) hk), Kd.fresh' (Kd.N_lt (wN HO_6)) k_ hk, Kd.fresh' (Kd.N_lt (wN HO_8)) k_ hk⟩) _ (Nat.le_refl _)) (Below.refl _ _) (Nat.le_refl _) (by simp) ?_; (case hd => rfl); (case hg => rfl); (case hr => first | (go_simp; done) | (go_simp; rfl)); (case hp => exact (Reps.none _ _)); intro v444 w37 ho38 hb hg_ hnew_; clear hg_ hnew_; (first | rw [← Ny443.out] at ho38 | (simp only [Int.reduceToNat] at ho38; rw [← Ny443.out] at ho38)); replace HO_6 := eN HO_6 (Kd.N_base ho38) hb; replace HO_8 := eN HO_8 (Kd.N_base ho38) hb; have HO445 := am (Kd.N_lower ho38 (bz HB)); replace HB := bq HB hb; clear hb ho38))
       go_loopg [13, 14] k2 (fun kq v13 v14 w' => ∃ (x13_3 : List (List Int)) (x14_3 : Int), v14 = .int .i64 x14_3 ∧ qb (ql.l4 kq a0 x8_2 x13_3 x14_3 = some r) ∧ qb (kq ≤ k2) ∧ qb (Kd.N (Kd.slice 3 (Kd.int .i64)) 23 w' w.heap.size (fun k_ => (w.heap.size ≤ k_) ∧ some k_ ≠ (v13 : Value).ownBlock) u8 x8_2) ∧ qb (Kd.N (Kd.slice 3 (Kd.int .i64)) 23 w' w.heap.size (fun k_ => (w.heap.size ≤ k_) ∧ some k_ ≠ (u8 : Value).ownBlock) v13 x13_3) ∧ qb (Below w.heap.size w w'))
       case atStart => exact ⟨(y443), (0), fr, H', ⟨Nat.le_refl _⟩, ⟨Kd.N_below (Kd.N_mono HO_8.out (fun _ hk => ⟨hk.1.1, hk.2⟩)) gs⟩, ⟨Kd.N_below (Kd.N_mono HO445.out (fun _ hk => ⟨hk.1, hk.2.2⟩)) gs⟩, ⟨bw HB⟩⟩
       case round =>
        clear H'; try clear c1; try clear c2; try clear p2; try clear c3; try clear c4; try clear p4; try clear q4; try clear hx4; try clear c6; try clear p6; try clear c7; try clear c7b0; try clear c8; try clear c8b0; try clear c9; try clear c9b0; try clear c10
        try clear c11; try clear c18; try clear c18b0; try clear c19; try clear c19b0; try clear c20; try clear c20b0; try clear c21; try clear c21b0; try clear c22; try clear c22b0; try clear c23; try clear c23b0; try clear c28; try clear c28b0; try clear c29
        try clear c29b0; try clear c30; try clear c30b0; try clear c32; try clear hx421_0; try clear hx431_0; try clear hx432_0; try clear hx436_0; try clear p2; try clear p4; try clear p421; try clear p431; try clear p432; try clear p436; try clear p6
        try clear q4; try clear q421; try clear q431; try clear q432; try clear q436
        obtain ⟨x13_3, x14_3, rfl, HA, HK3, HO_8, HO_13, HB⟩ := hrel
        cases gk with
        | zero => exact absurd HA.out (by simp [ql.l4])
        | succ k3 =>
         have H := HA.out; clear HA
         simp only [ql.l4] at H
         by_cases c39 : x14_3 < 100
         ·rw [if_pos c39] at H
          have c39b0 := decide_eq_true c39; clear c39
          generalize hy450 : (([] : List Int)) = y450 at H
          have Ny450 := am hy450.symm; clear hy450; have H' := am H; clear H
          go_wp2_with (first | ((with_reducible refine za (N := 73) rfl ?_); refine li 3 ([] : List Int) ?_; intro v451 w40 ho41 hb; (first | rw [← Ny450.out] at ho41 | (simp only [Int.reduceToNat] at ho41; rw [← Ny450.out] at ho41)); replace HO_8 := eN HO_8 (Kd.R_base ho41) hb; replace HO_13 := eN HO_13 (Kd.R_base ho41) hb; have HO452 := am (mR ho41 HB); replace HB := bq HB hb; clear hb ho41))
          go_loopg [15, 16] k3 (fun kq v15 v16 w' => ∃ (x15_4 : List Int) (x16_4 : Int), v16 = .int .i64 x16_4 ∧ qb (ql.l5 kq a0 x8_2 x13_3 x14_3 x15_4 x16_4 = some r) ∧ qb (kq ≤ k3) ∧ qb (Kd.N (Kd.slice 3 (Kd.int .i64)) 23 w' w.heap.size (fun k_ => (w.heap.size ≤ k_) ∧ some k_ ≠ (u13 : Value).ownBlock ∧ some k_ ≠ (v15 : Value).ownBlock) u8 x8_2) ∧ qb (Kd.N (Kd.slice 3 (Kd.int .i64)) 23 w' w.heap.size (fun k_ => (w.heap.size ≤ k_) ∧ some k_ ≠ (u8 : Value).ownBlock ∧ some k_ ≠ (v15 : Value).ownBlock) u13 x13_3) ∧ qb (Kd.R (Kd.int .i64) 3 w' w.heap.size (fun k_ => (w.heap.size ≤ k_)) v15 x15_4) ∧ qb (Below w.heap.size w w'))
          case atStart => exact ⟨(y450), (0), fr, H', ⟨Nat.le_refl _⟩, ⟨Kd.N_below (Kd.N_mono HO_8.out (fun _ hk => ⟨hk.1.1, ⟨hk.1.2, hk.2⟩⟩)) gs⟩, ⟨Kd.N_below (Kd.N_mono HO_13.out (fun _ hk => ⟨hk.1.1, ⟨hk.1.2, hk.2⟩⟩)) gs⟩, ⟨Kd.R_below (Kd.R_mono HO452.out (fun _ hk => hk.1)) gs⟩, ⟨bw HB⟩⟩
          case round =>
           clear H'; try clear c1; try clear c2; try clear p2; try clear c3; try clear c4; try clear p4; try clear q4; try clear hx4; try clear c6; try clear p6; try clear c7; try clear c7b0; try clear c8; try clear c8b0; try clear c9; try clear c9b0; try clear c10
           try clear c11; try clear c18; try clear c18b0; try clear c19; try clear c19b0; try clear c20; try clear c20b0; try clear c21; try clear c21b0; try clear c22; try clear c22b0; try clear c23; try clear c23b0; try clear c28; try clear c28b0; try clear c29
           try clear c29b0; try clear c30; try clear c30b0; try clear c32; try clear c39; try clear c39b0; try clear hx421_0; try clear hx431_0; try clear hx432_0; try clear hx436_0; try clear p2; try clear p4; try clear p421; try clear p431; try clear p432
           try clear p436; try clear p6; try clear q4; try clear q421; try clear q431; try clear q432; try clear q436
           obtain ⟨x15_4, x16_4, rfl, HA, HK4, HO_8, HO_13, HO_15, HB⟩ := hrel
           cases gk with
           | zero => exact absurd HA.out (by simp [ql.l5])
           | succ k4 =>
            have H := HA.out; clear HA
            simp only [ql.l5] at H
            by_cases c42 : x16_4 < 20
            ·rw [if_pos c42] at H
             have c42b0 := decide_eq_true c42; clear c42; replace H := ifn H; obtain ⟨c43, H⟩ := H; have c43b0 := decide_eq_true c43; clear c43; replace H := ifn H; obtain ⟨c44, H⟩ := H; have c44b0 := decide_eq_true c44; clear c44; replace H := ifn H; obtain ⟨c45, H⟩ := H
             have c45b0 := decide_eq_true c45; clear c45; replace H := ifn H; obtain ⟨c46, H⟩ := H; have c46b0 := decide_eq_true c46; clear c46; replace H := ifn H; obtain ⟨c47, H⟩ := H; have LMc47 := am c47; clear c47
             generalize hy455 : (x15_4 ++ [rd (zz x8_2 x16_4) x14_3] : List Int) = y455 at H
             have Ny455 := am hy455.symm; clear hy455; have H' := am H; clear H
             obtain ⟨Ao48, co48, eo48⟩ := Kd.N_slice HO_8.out
             subst eo48
             have p453 : 0 ≤ (x16_4 : Int) := od
             have q453 : x16_4 < (x8_2.length : Int) := od
             obtain ⟨ad453, A453_0, c453_0, e453, hx453_0, hl453_0, hi453_0⟩ := Jr (Kd.N_reads' HO_8.out).2.2 x16_4 p453 q453
             cases e453
             obtain ⟨ce453, hce453, hMe453, hcc453⟩ := Kd.N_get HO_8.out [] x16_4 p453 (by first | exact q453 | exact od | (have e_ := (Kd.N_reads' HO_8.out).1; omega))
             obtain ⟨ua453_0, uc453_0, rfl, ul453_0, ge453_0⟩ := Kd.FK_slice_open hMe453
             have hv453_0 := hcc453 0 _ rfl
             rw [Nat.add_zero, show ((Kd.slice 3 (Kd.int .i64))).sz = 1 from rfl, Nat.mul_one] at hv453_0
             replace hv453_0 := Option.some.inj (hv453_0.symm.trans hx453_0)
             injection hv453_0 with hva_ hvn_ hvc_
             rw [hva_] at ge453_0
             rw [hvc_] at ul453_0
             have HL453_0 := am (show Kd.V (Kd.int .i64) 3 _ w.heap.size _ _ (zz x8_2 x16_4) from Kd.V_mk ul453_0 ge453_0)
             clear hva_ hvn_ hvc_ ge453_0 ul453_0; clear hcc453 hce453
             have HR453_0 := am hi453_0
             have HC453_0 := am hl453_0
             clear hi453_0 hl453_0; replace p453 := eq_true p453; replace q453 := eq_true q453
             have p454 : 0 ≤ (x14_3 : Int) := od
             have q454 : x14_3 < ((zz x8_2 x16_4).length : Int) := od
             obtain ⟨ad454, e454, hx454_0⟩ := Kd.at_int HR453_0.out x14_3 p454 q454
             cases e454; replace p454 := eq_true p454; replace q454 := eq_true q454
             go_wp2_with (first | ((with_reducible refine jh (b := .append) (xs := #[.tmp 78, .tmp 86]) rfl ?_); at_builtin; refine Kd.R_append (Kd.int .i64) (w0 := w) w.heap.size rfl (.tmp 78) (.tmp 86) 23 3 (.int .i64 0) 8 rfl Try.underlying23 Ju rfl (by decide) (by omega) u15 x15_4 (rd (zz x8_2 x16_4) x14_3) [.int .i64 (rd (zz x8_2 x16_4) x14_3)] (fun k_ => (w.heap.size ≤ k_)) (fun _ => False) rfl rfl ?aP (fun _ hk => hk.elim) ?aF ?aO ?aB ?aS ?aL ?_; (case aP => exact rfl); (case aB => exact (bw HB)); (case aF => exact (fun k_ hk => (Nat.le_trans (bz HB) hk))); (case aO => exact (wR HO_15)); (case aS => exact (bz HB)); (case aL => have := LMc47.out; omega); intro v456 w49 ho hb hg hat; rw [← Ny455.out] at ho; replace HO_8 := am (Kd.N_afterv (ok := (fun k_ => (w.heap.size ≤ k_) ∧ some k_ ≠ (u13 : Value).ownBlock)) (oN_ HO_8 (fun _ hk => ⟨⟨hk.1, hk.2.1⟩, hk.2.2⟩)) hg hat); replace HO_13 := am (Kd.N_afterv (ok := (fun k_ => (w.heap.size ≤ k_) ∧ some k_ ≠ (.slice (some ad453) x8_2.length co48 : Value).ownBlock)) (oN_ HO_13 (fun _ hk => ⟨⟨hk.1, hk.2.1⟩, hk.2.2⟩)) hg hat); replace HL453_0 := am (Kd.V_afterv (ok := (fun k_ => (w.heap.size ≤ k_) ∧ some k_ ≠ (.slice (some ad453) x8_2.length co48 : Value).ownBlock ∧ some k_ ≠ (u13 : Value).ownBlock)) (oV_ HL453_0 (fun _ hk => ⟨⟨hk.1.1, ⟨hk.2, hk.1.2.1⟩⟩, hk.1.2.2⟩)) hg hat); replace HB := am (hb); have HO457 := am (ho); clear HO_15; clear ho hb hg hat))
             go_roundg k4
             case measure => have := HK1.out; have := HK2.out; have := HK3.out; have := HK4.out; omega
             case rel => exact ⟨(y455), (wrap64 (x16_4 + 1)), fr, H', ⟨by have := HK1.out; have := HK2.out; have := HK3.out; have := HK4.out; omega⟩, ⟨Kd.N_below (Kd.N_mono HO_8.out (fun _ hk => ⟨hk.1.1, ⟨hk.1.2, hk.2⟩⟩)) gs⟩, ⟨Kd.N_below (Kd.N_mono HO_13.out (fun _ hk => ⟨hk.1.1, ⟨hk.1.2, hk.2⟩⟩)) gs⟩, ⟨wR HO457⟩, ⟨bw HB⟩⟩
            ·rw [if_neg c42] at H
             have c42b0 := decide_eq_false c42; clear c42; replace H := ifn H; obtain ⟨c50, H⟩ := H; have LMc50 := am c50; clear c50
             generalize hy458 : (x13_3 ++ [x15_4] : List (List Int)) = y458 at H
             have Ny458 := am hy458.symm; clear hy458; have H' := am H; clear H
             obtain ⟨Ao52, co52, eo52⟩ := Kd.R_slice HO_15.out
             subst eo52
             go_wp2_with (first | ((with_reducible refine jh (b := .append) (xs := #[.tmp 88, .tmp 90]) rfl ?_); at_builtin; refine Kd.N_append (Kd.slice 3 (Kd.int .i64)) (w0 := w) w.heap.size rfl (.tmp 88) (.tmp 90) 47 23 (.slice none 0 0) 24 rfl Try.underlying47 Zb rfl (by decide) (by omega) u13 x13_3 x15_4 [.slice Ao52 x15_4.length co52] (fun k_ => (w.heap.size ≤ k_) ∧ some k_ ≠ (u8 : Value).ownBlock) (fun k_ => ((fun k_ => (w.heap.size ≤ k_) ∧ some k_ ≠ (u8 : Value).ownBlock)) k_ ∧ some k_ ≠ (u13 : Value).ownBlock) rfl rfl ?aP (fun _ hk => hk) ?aF ?aO ?aB ?aS ?aL ?_; (case aP => exact (Kd.FK_slice_mk (Kd.R_reads' (Kd.R_mono (ok' := (fun k_ => ((fun k_ => (w.heap.size ≤ k_) ∧ some k_ ≠ (u8 : Value).ownBlock)) k_ ∧ some k_ ≠ (u13 : Value).ownBlock)) (Kd.R_apart' (Kd.R_apart' (HO_15.out) (Kd.N_typed HO_8.out) (by decide)) (Kd.N_typed HO_13.out) (by decide)) (fun k_ hk => ⟨⟨hk.1.1, hk.1.2⟩, hk.2⟩))).2.1 (Kd.R_F (Kd.R_mono (ok' := (fun k_ => ((fun k_ => (w.heap.size ≤ k_) ∧ some k_ ≠ (u8 : Value).ownBlock)) k_ ∧ some k_ ≠ (u13 : Value).ownBlock)) (Kd.R_apart' (Kd.R_apart' (HO_15.out) (Kd.N_typed HO_8.out) (by decide)) (Kd.N_typed HO_13.out) (by decide)) (fun k_ hk => ⟨⟨hk.1.1, hk.1.2⟩, hk.2⟩))))); (case aB => exact (bw HB)); (case aF => exact (fun k_ hk => ⟨(Nat.le_trans (bz HB) hk), Kd.fresh' (Kd.N_lt (wN HO_8)) k_ hk⟩)); (case aO => exact (oN_ HO_13 (fun _ hk => ⟨hk.1, hk.2.1⟩))); (case aS => exact (bz HB)); (case aL => have := LMc50.out; omega); intro v459 w51 ho hb hg hat; rw [← Ny458.out] at ho; replace HO_8 := am (Kd.N_afterv (ok := (fun k_ => (w.heap.size ≤ k_) ∧ some k_ ≠ (.slice Ao52 x15_4.length co52 : Value).ownBlock)) (oN_ HO_8 (fun _ hk => ⟨⟨hk.1, hk.2.2⟩, hk.2.1⟩)) hg hat); replace HB := am (hb); have HO460 := am (ho); clear HO_13 HO_15; clear ho hb hg hat))
             go_roundg k4
             case measure => have := HK1.out; have := HK2.out; have := HK3.out; have := HK4.out; omega
             case rel => exact ⟨(y458), (wrap64 (x14_3 + 1)), fr, H', ⟨by have := HK1.out; have := HK2.out; have := HK3.out; have := HK4.out; omega⟩, ⟨Kd.N_below (Kd.N_mono HO_8.out (fun _ hk => ⟨hk.1.1, hk.2⟩)) gs⟩, ⟨wN HO460⟩, ⟨bw HB⟩⟩
         ·rw [if_neg c39] at H
          have c39b0 := decide_eq_false c39; clear c39; replace H := bs H; obtain ⟨t446, A53, H⟩ := H
          by_cases c54 : 0 < (t446.length : Int)
          ·rw [if_pos c54] at H
           have c54b0 := decide_eq_true c54
           have c54b1 : decide (0 < t446.length) = true := decide_eq_true (by omega)
           clear c54; obtain rfl := Option.some.inj H
           obtain ⟨Ao55, co55, eo55⟩ := Kd.N_slice HO_13.out
           subst eo55
           go_wp2_with (first | ((with_reducible refine qf (f := 109) rfl ?_); refine gl 94 Try.func109 #[.int .i64 a0, .slice Ao55 x13_3.length co55, .int .i64 20] ?_; (with_reducible refine (qm.calls k3 a0 (fun k_ => ((w.heap.size ≤ k_) ∧ some k_ ≠ (u8 : Value).ownBlock)) _ _ x13_3 20 t446 _ ?_ A53.out).mono ?_); exact Kd.N_V (HO_13.out); rintro e w56 ⟨v447, rfl, ho0, hb⟩; refine ⟨_, rfl, ?_⟩; replace HO_13 := eN HO_13 (Kd.N_base ho0) hb; have HO448 := am (Kd.N_lower (Kd.N_mono (ok' := fun k_ => (w.heap.size ≤ k_) ∧ some k_ ≠ (u8 : Value).ownBlock) ho0 (fun k_ hk_ => ⟨Or.elim hk_ (fun hs_ => hs_.1) (fun hn_ => (Nat.le_trans (bz HB) hn_)), Or.elim hk_ (fun hs_ => hs_.2) (fun hn_ => (Kd.fresh' (Kd.N_lt (wN HO_8)) k_ hn_))⟩)) (bz HB)); replace HO_8 := eN HO_8 (Kd.N_base ho0) hb; replace HB := bq HB hb; (try clear hb); (try clear ho0); obtain ⟨Ao57, co57, eo57⟩ := Kd.N_slice HO448.out; subst eo57; have p449 : 0 ≤ (0 : Int) := (by omega); have q449 : 0 < (t446.length : Int) := od; obtain ⟨ad449, A449_0, c449_0, e449, hx449_0, hl449_0, hi449_0⟩ := Jr (Kd.N_reads' HO448.out).2.2 0 p449 q449; cases e449; obtain ⟨ce449, hce449, hMe449, hcc449⟩ := Kd.N_get HO448.out [] 0 p449 (by first | exact q449 | exact od | (have e_ := (Kd.N_reads' HO448.out).1; omega)); obtain ⟨ua449_0, uc449_0, rfl, ul449_0, ge449_0⟩ := Kd.FK_slice_open hMe449; have hv449_0 := hcc449 0 _ rfl; rw [Nat.add_zero, show ((Kd.slice 3 (Kd.int .i64))).sz = 1 from rfl, Nat.mul_one] at hv449_0; replace hv449_0 := Option.some.inj (hv449_0.symm.trans hx449_0); injection hv449_0 with hva_ hvn_ hvc_; rw [hva_] at ge449_0; rw [hvc_] at ul449_0; have HL449_0 := am (show Kd.V (Kd.int .i64) 3 _ w.heap.size _ _ (zz t446 0) from Kd.V_mk ul449_0 ge449_0); clear hva_ hvn_ hvc_ ge449_0 ul449_0; clear hcc449 hce449; have qi449 : (0 < t446.length) = True := eq_true (by omega); (try rw [show ((0 : Int)).toNat = 0 from rfl] at hx449_0); (try rw [Addr.add_zero'] at hx449_0); have HR449_0 := am hi449_0; have HC449_0 := am hl449_0; clear hi449_0 hl449_0; replace p449 := eq_true p449; replace q449 := eq_true q449))
           go_ret
           exact ⟨_, fq, Kd.V_below (Kd.V_mono HL449_0.out (fun _ hk => hk.1.1)) gs, bw HB⟩
          ·rw [if_neg c54] at H
           exact absurd H (by simp)
end Go.Proofs.Ytmgbpmihbljngaa.PA

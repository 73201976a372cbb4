-- Written by xprint.py, a program of this claim's own (over the kit's print.py)
import Derived.Test.YtmgbpmihbljngaaPAx3
namespace Go.Proofs.Ytmgbpmihbljngaa.PA
open Go.RowKit Go.Proofs.YtmgbpmihbljngaaW.PrintWords Go.Proofs.YtmgbpmihbljngaaW.PrintLast Go.Proofs.YtmgbpmihbljngaaW.PrintMore
attribute [local go_sem] j9 j8 Qf Qg js jr j6 j7
set_option linter.unusedVariables false
set_option linter.unusedSimpArgs false
mutual
def qh.l0 : Nat → Int → Int → List (List Int) → List Int → List (List Int) → Int → Int → Option ((List (List Int)))
 | 0, _, _, _, _, _, _, _ => none
 | k + 1, x0, x2, x7, x8, x20, x21, x22 => if x22 < x21 then (if 0 ≤ x22 then (if x22 < (x20.length : Int) then ((qk.f k (zz x20 x22) 1).bind fun t124 => (if x8.length < 17592186044416 then (qh.l0 k x0 x2 x7 (x8 ++ [t124]) x20 x21 (wrap64 (x22 + 1))) else (none))) else (none)) else (none)) else (qh.l1 k x0 x2 x7 x8 (([] : List (List Int))) x2 0)
def qh.l1 : Nat → Int → Int → List (List Int) → List Int → List (List Int) → Int → Int → Option ((List (List Int)))
 | 0, _, _, _, _, _, _, _ => none
 | k + 1, x0, x2, x7, x8, x11, x33, x34 => if x34 < x33 then ((q7.f k x8 x34).bind fun t134 => (if t134 = true then (qh.l1 k x0 x2 x7 x8 x11 x33 (wrap64 (x34 + 1))) else (if 0 ≤ x2 then (if (x2 : Int).toNat ≤ 35184372088832 then ((some (List.replicate (x2 : Int).toNat 0 : List Int)).bind fun y135 => (if 0 ≤ x34 then (if x34 < (y135.length : Int) then (qh.l2 k x0 x2 x7 x8 x11 x34 (y135.set (x34 : Int).toNat 1) x33 x34 x7 (x7.length : Int) 0) else (none)) else (none))) else (none)) else (none)))) else ((jf.f k x0 x11).bind fun t131 => (some t131))
def qh.l2 : Nat → Int → Int → List (List Int) → List Int → List (List Int) → Int → List Int → Int → Int → List (List Int) → Int → Int → Option ((List (List Int)))
 | 0, _, _, _, _, _, _, _, _, _, _, _, _ => none
 | k + 1, x0, x2, x7, x8, x11, x12, x13, x33, x34, x45, x46, x47 => if x47 < x46 then (if 0 ≤ x47 then (if x47 < (x45.length : Int) then (if x47 < (x8.length : Int) then (if 0 ≤ x12 then (if x12 < ((zz x45 x47).length : Int) then ((Zv.f (wrap64 (-(rd (zz x45 x47) x12))) x0).bind fun t142 => (if 0 ≤ (rd x8 x47) then (if (rd x8 x47) < (x13.length : Int) then (qh.l2 k x0 x2 x7 x8 x11 x12 (x13.set ((rd x8 x47) : Int).toNat t142) x33 x34 x45 x46 (wrap64 (x47 + 1))) else (none)) else (none))) else (none)) else (none)) else (none)) else (none)) else (none)) else (if x11.length < 5864062014805 then (qh.l1 k x0 x2 x7 x8 (x11 ++ [x13]) x33 (wrap64 (x34 + 1))) else (none))
end
def qh.f (k : Nat) (a0 : Int) (l1 : List (List Int)) (a2 : Int) : Option ((List (List Int))) := (jf.f k a0 l1).bind fun t117 => (qh.l0 k a0 a2 t117 (([] : List Int)) t117 (t117.length : Int) 0)
theorem qh.mono_l : ∀ k, (∀ y0 y1 y2 y3 y4 y5 y6, LeO (qh.l0 k y0 y1 y2 y3 y4 y5 y6) (qh.l0 (k + 1) y0 y1 y2 y3 y4 y5 y6)) ∧ (∀ y0 y1 y2 y3 y4 y5 y6, LeO (qh.l1 k y0 y1 y2 y3 y4 y5 y6) (qh.l1 (k + 1) y0 y1 y2 y3 y4 y5 y6)) ∧ (∀ y0 y1 y2 y3 y4 y5 y6 y7 y8 y9 y10 y11, LeO (qh.l2 k y0 y1 y2 y3 y4 y5 y6 y7 y8 y9 y10 y11) (qh.l2 (k + 1) y0 y1 y2 y3 y4 y5 y6 y7 y8 y9 y10 y11))
 | 0 => ⟨fun _ _ _ _ _ _ _ r h => by simp [qh.l0] at h, fun _ _ _ _ _ _ _ r h => by simp [qh.l1] at h, fun _ _ _ _ _ _ _ _ _ _ _ _ r h => by simp [qh.l2] at h⟩
 | k + 1 => by
  obtain ⟨ih0, ih1, ih2⟩ := qh.mono_l k
  refine ⟨?_, ?_, ?_⟩
  ·intro y0 y1 y2 y3 y4 y5 y6
   unfold qh.l0
   repeat' first | (with_reducible first | apply ih0 | apply ih1 | apply ih2 | apply jf.mono | apply q7.mono | apply qk.mono | exact LeO.refl _ | exact LeO.none _ | refine LeO.ite ?_ ?_ | refine LeO.bind ?_ (fun _ => ?_)) | (first | apply ih0 | apply ih1 | apply ih2 | apply jf.mono | apply q7.mono | apply qk.mono | exact LeO.none _ | refine LeO.ite ?_ ?_ | refine LeO.bind ?_ (fun _ => ?_))
  ·intro y0 y1 y2 y3 y4 y5 y6
   unfold qh.l1
   repeat' first | (with_reducible first | apply ih0 | apply ih1 | apply ih2 | apply jf.mono | apply q7.mono | apply qk.mono | exact LeO.refl _ | exact LeO.none _ | refine LeO.ite ?_ ?_ | refine LeO.bind ?_ (fun _ => ?_)) | (first | apply ih0 | apply ih1 | apply ih2 | apply jf.mono | apply q7.mono | apply qk.mono | exact LeO.none _ | refine LeO.ite ?_ ?_ | refine LeO.bind ?_ (fun _ => ?_))
  ·intro y0 y1 y2 y3 y4 y5 y6 y7 y8 y9 y10 y11
   unfold qh.l2
   repeat' first | (with_reducible first | apply ih0 | apply ih1 | apply ih2 | apply jf.mono | apply q7.mono | apply qk.mono | exact LeO.refl _ | exact LeO.none _ | refine LeO.ite ?_ ?_ | refine LeO.bind ?_ (fun _ => ?_)) | (first | apply ih0 | apply ih1 | apply ih2 | apply jf.mono | apply q7.mono | apply qk.mono | exact LeO.none _ | refine LeO.ite ?_ ?_ | refine LeO.bind ?_ (fun _ => ?_))
theorem qh.mono : ∀ a0 a1 a2 k, LeO (qh.f k a0 a1 a2) (qh.f (k + 1) a0 a1 a2) := by
 intro a0 a1 a2 k
 obtain ⟨ih0, ih1, ih2⟩ := qh.mono_l k
 unfold qh.f
 repeat' first | (with_reducible first | apply ih0 | apply ih1 | apply ih2 | apply jf.mono | apply q7.mono | apply qk.mono | exact LeO.refl _ | exact LeO.none _ | refine LeO.ite ?_ ?_ | refine LeO.bind ?_ (fun _ => ?_)) | (first | apply ih0 | apply ih1 | apply ih2 | apply jf.mono | apply q7.mono | apply qk.mono | exact LeO.none _ | refine LeO.ite ?_ ?_ | refine LeO.bind ?_ (fun _ => ?_))
def qh.T18 : Bool × List (List Nat × List Nat) := (true, [([], []), ([], []), ([], []), ([1, 2], [1, 2]), ([3], [3]), ([], []), ([], []), ([5, 6], [5, 6]), ([7], [7]), ([8], [8]), ([], []), ([9, 10], [9, 10]), ([0, 4, 0, 1, 2, 3, 4, 5, 6, 7, 8, 9, 10, 11], [0, 4]), ([12, 11, 11, 0, 1, 2, 3, 4, 5, 6, 7, 8, 9, 10, 11], [11, 12])])
def qh.B18 : List Nat := [0, 0, 0, 6, 14, 0, 0, 96, 224, 480, 0, 2016, 4095, 8191]
theorem qh.tab18 : rtab .any (Zu Try.f112 18) = qh.T18 := by kernel_rfl
theorem qh.bits18 : Qe qh.T18.2 qh.B18 = true := by kernel_rfl
set_option maxHeartbeats 8000000 in
set_option maxRecDepth 100000 in
theorem qh.calls (k : Nat) (a0 : Int) (A1 : Option Addr) (c1 : Nat) (l1 : List (List Int)) (a2 : Int) (r : List (List Int)) (w : World) (hr1 : Kd.C (Kd.slice 3 (Kd.int .i64)) w A1 l1.length l1) (hc1 : l1.length ≤ c1) (h : qh.f k a0 l1 a2 = some r) :
  Calls Try.prog 112 #[.int .i64 a0, .slice A1 l1.length c1, .int .i64 a2] w fun e w' => ∃ v0_ : Value, e = .returned (v0_) ∧ Kd.S (Kd.slice 3 (Kd.int .i64)) 23 w' w.heap.size (fun _ => True) v0_ r ∧ Below w.heap.size w w' := by
 have HR1 := am hr1
 have HC1 := am hc1
 clear hr1 hc1
 have HB := am (Below.refl w.heap.size w)
 have H : ((jf.f k a0 l1).bind fun t117 => (qh.l0 k a0 a2 t117 (([] : List Int)) t117 (t117.length : Int) 0)) = some r := h
 clear h; replace H := bs H; obtain ⟨t117, A4, H⟩ := H
 generalize hy120 : (([] : List Int)) = y120 at H
 have Ny120 := am hy120.symm; clear hy120; have H' := am H; clear H
 go_enter Try.func112, Try.ntmps112
 go_wp2_with (first | ((with_reducible refine qf (f := 152) rfl ?_); refine gl 18 Try.func152 #[.int .i64 a0, .slice A1 l1.length c1] ?_; (with_reducible refine (jf.calls k a0 _ _ l1 t117 _ ?_ ?_ A4.out).mono ?_); exact wC HR1; exact HC1.out; rintro e w5 ⟨v118, rfl, ho0, hb⟩; refine ⟨_, rfl, ?_⟩; have HO119 := am (Kd.S_lower ho0 (bz HB)); replace HB := bq HB hb; (try clear hb); (try clear ho0)) | ((with_reducible refine za (N := 19) rfl ?_); refine li 3 ([] : List Int) ?_; intro v121 w6 ho7 hb; (first | rw [← Ny120.out] at ho7 | (simp only [Int.reduceToNat] at ho7; rw [← Ny120.out] at ho7)); replace HO119 := eS HO119 (Kd.R_base ho7) hb; have HO122 := am (Kd.R_lower ho7 (bz HB)); replace HB := bq HB hb; clear hb ho7; obtain ⟨Ao8, co8, eo8⟩ := Kd.S_slice HO119.out; subst eo8))
 go_loopg [8, 22] k (fun kq v8 v22 w' => ∃ (x8_1 : List Int) (x22_1 : Int), v22 = .int .i64 x22_1 ∧ qb (qh.l0 kq a0 a2 t117 x8_1 t117 (t117.length : Int) x22_1 = some r) ∧ qb (kq ≤ k) ∧ qb (Kd.S (Kd.slice 3 (Kd.int .i64)) 23 w' w.heap.size (fun k_ => some k_ ≠ (v8 : Value).ownBlock) (.slice Ao8 t117.length co8) t117) ∧ qb (Kd.R (Kd.int .i64) 3 w' w.heap.size (fun _ => True) v8 x8_1) ∧ qb (Kd.S (Kd.slice 3 (Kd.int .i64)) 23 w' w.heap.size (fun k_ => some k_ ≠ (v8 : Value).ownBlock) (.slice Ao8 t117.length co8) t117) ∧ qb (Below w.heap.size w w'))
 case atStart => exact ⟨(y120), (0), fr, H', ⟨Nat.le_refl _⟩, ⟨Kd.S_below (Kd.S_mono HO119.out (fun _ hk => hk.2)) gs⟩, ⟨wR HO122⟩, ⟨Kd.S_below (Kd.S_mono HO119.out (fun _ hk => hk.2)) gs⟩, ⟨bw HB⟩⟩
 case round =>
  clear H'; try clear c1; try clear p2
  obtain ⟨x8_1, x22_1, rfl, HA, HK1, HO_7, HO_8, HO_20, HB⟩ := hrel
  cases gk with
  | zero => exact absurd HA.out (by simp [qh.l0])
  | succ k1 =>
   have H := HA.out; clear HA
   simp only [qh.l0] at H
   by_cases c9 : x22_1 < (t117.length : Int)
   ·rw [if_pos c9] at H
    have c9b0 := decide_eq_true c9; clear c9; replace H := ifn H; obtain ⟨c10, H⟩ := H; have c10b0 := decide_eq_true c10; clear c10; replace H := ifn H; obtain ⟨c11, H⟩ := H; have c11b0 := decide_eq_true c11; clear c11; replace H := bs H; obtain ⟨t124, A12, H⟩ := H
    replace H := ifn H; obtain ⟨c13, H⟩ := H; have LMc13 := am c13; clear c13
    generalize hy125 : (x8_1 ++ [t124] : List Int) = y125 at H
    have Ny125 := am hy125.symm; clear hy125; have H' := am H; clear H
    have p123 : 0 ≤ (x22_1 : Int) := od
    have q123 : x22_1 < (t117.length : Int) := od
    obtain ⟨ad123, A123_0, c123_0, e123, hx123_0, hl123_0, hi123_0⟩ := Jr (Kd.S_reads' HO_20.out).2.2 x22_1 p123 q123
    cases e123
    obtain ⟨ce123, hce123, hMe123, hcc123⟩ := Kd.S_get HO_20.out [] x22_1 p123 (by first | exact q123 | exact od | (have e_ := (Kd.S_reads' HO_20.out).1; omega))
    obtain ⟨ve123_0, rfl, ge123_0⟩ := hMe123
    have hv123_0 := hcc123 0 _ rfl
    rw [Nat.add_zero, show ((Kd.slice 3 (Kd.int .i64))).sz = 1 from rfl, Nat.mul_one] at hv123_0
    replace hv123_0 := Option.some.inj (hv123_0.symm.trans hx123_0)
    rw [hv123_0] at ge123_0
    have HL123_0 := am (show Kd.R (Kd.int .i64) 3 _ _ _ _ (zz t117 x22_1) from ge123_0)
    clear hv123_0 ge123_0; clear hcc123 hce123
    have HR123_0 := am hi123_0
    have HC123_0 := am hl123_0
    clear hi123_0 hl123_0; replace p123 := eq_true p123; replace q123 := eq_true q123
    go_wp2_with (first | ((with_reducible refine qf (f := 159) rfl ?_); refine gl 28 Try.func159 #[.slice A123_0 (zz t117 x22_1).length c123_0, .int .i64 1] ?_; (with_reducible refine (qk.calls k1 _ _ (zz t117 x22_1) 1 t124 _ ?_ ?_ A12.out).mono ?_); exact wC HR123_0; exact HC123_0.out; rintro e w' ⟨rfl, ⟨nd, rfl⟩⟩; refine ⟨_, rfl, ?_⟩) | ((with_reducible refine jh (b := .append) (xs := #[.tmp 26, .tmp 29]) rfl ?_); at_builtin; refine Kd.R_append (Kd.int .i64) (w0 := w) w.heap.size rfl (.tmp 26) (.tmp 29) 23 3 (.int .i64 0) 8 rfl Try.underlying23 Ju rfl (by decide) (by omega) u8 x8_1 t124 [.int .i64 t124] (fun _ => True) (fun _ => False) rfl rfl ?aP (fun _ hk => hk.elim) ?aF ?aO ?aB ?aS ?aL ?_; (case aP => exact rfl); (case aB => exact (bw HB)); (case aF => exact (fun _ _ => trivial)); (case aO => exact (wR HO_8)); (case aS => exact (bz HB)); (case aL => have := LMc13.out; omega); intro v126 w14 ho hb hg hat; rw [← Ny125.out] at ho; replace HO_7 := am (Kd.S_after (ok := (fun _ => True)) (oS_ HO_7 (fun _ hk => ⟨trivial, hk⟩)) hg hat); replace HO_20 := am (Kd.S_after (ok := (fun _ => True)) (oS_ HO_20 (fun _ hk => ⟨trivial, hk⟩)) hg hat); replace HL123_0 := am (Kd.R_after (ok := (fun k_ => some k_ ≠ (.slice (some ad123) t117.length co8 : Value).ownBlock)) (oR_ HL123_0 (fun _ hk => ⟨hk.2, hk.1⟩)) hg hat); replace HB := am (hb); have HO127 := am (ho); clear HO_8; clear ho hb hg hat))
    go_roundg k1
    case measure => have := HK1.out; omega
    case rel => exact ⟨(y125), (wrap64 (x22_1 + 1)), fr, H', ⟨by have := HK1.out; omega⟩, ⟨Kd.S_below (Kd.S_mono HO_7.out (fun _ hk => hk.2)) gs⟩, ⟨wR HO127⟩, ⟨Kd.S_below (Kd.S_mono HO_20.out (fun _ hk => hk.2)) gs⟩, ⟨bw HB⟩⟩
   ·rw [if_neg c9] at H
    have c9b0 := decide_eq_false c9; clear c9
    generalize hy128 : (([] : List (List Int))) = y128 at H
    have Ny128 := am hy128.symm; clear hy128; have H' := am H; clear H
    go_wp2_with (first | ((with_reducible refine za (N := 32) rfl ?_); refine Kd.S_lit (Kd.slice 3 (Kd.int .i64)) _ 23 ?hg (N := 32) ?hd (xs := ([] : List (List Int))) (inner := []) (ok := fun _ => True) (okp := fun _ => True) ?hr ?hp (fun _ hk => hk) trivial (Below.refl _ _) (Nat.le_refl _) (by simp) ?_; (case hd => rfl); (case hg => rfl); (case hr => first | (go_simp; done) | (go_simp; rfl)); (case hp => exact (Reps.none _ _)); intro v129 w15 ho16 hb hg_ hnew_; clear hg_ hnew_; (first | rw [← Ny128.out] at ho16 | (simp only [Int.reduceToNat] at ho16; rw [← Ny128.out] at ho16)); have HO130 := am (Kd.S_lower (Kd.S_new' (Kd.S_new' (Kd.S_new' ho16 (Kd.S_lt (wS HO_7))) (Kd.R_lt (wR HO_8))) (Kd.S_lt (wS HO_20))) (bz HB)); replace HO_7 := eS HO_7 (Kd.S_base ho16) hb; replace HO_8 := am (Kd.R_below (wR HO_8) hb); replace HO_20 := eS HO_20 (Kd.S_base ho16) hb; replace HB := bq HB hb; clear hb ho16))
    go_loopg [11, 34] k1 (fun kq v11 v34 w' => ∃ (x8_2 : List Int) (x11_2 : List (List Int)) (x34_2 : Int), v34 = .int .i64 x34_2 ∧ qb (qh.l1 kq a0 a2 t117 x8_2 x11_2 a2 x34_2 = some r) ∧ qb (kq ≤ k1) ∧ qb (Kd.S (Kd.slice 3 (Kd.int .i64)) 23 w' w.heap.size (fun k_ => some k_ ≠ (u8 : Value).ownBlock ∧ some k_ ≠ (v11 : Value).ownBlock) (.slice Ao8 t117.length co8) t117) ∧ qb (Kd.R (Kd.int .i64) 3 w' w.heap.size (fun _ => True) u8 x8_2) ∧ qb (Kd.S (Kd.slice 3 (Kd.int .i64)) 23 w' w.heap.size (fun k_ => some k_ ≠ ((.slice Ao8 t117.length co8) : Value).ownBlock ∧ some k_ ≠ (u8 : Value).ownBlock) v11 x11_2) ∧ qb (Below w.heap.size w w'))
    case atStart => exact ⟨(x8_1), (y128), (0), fr, H', ⟨Nat.le_refl _⟩, ⟨wS HO_7⟩, ⟨wR HO_8⟩, ⟨Kd.S_below (Kd.S_mono HO130.out (fun _ hk => ⟨hk.1.1.2, hk.1.2⟩)) gs⟩, ⟨bw HB⟩⟩
    case round =>
     clear H'; try clear c1; try clear p1; try clear q1; try clear hx1; try clear p2; try clear p6; try clear c9; try clear c9b0; try clear c10; try clear c10b0; try clear c11; try clear c11b0; try clear c12; try clear p12; try clear q12; try clear hx12
     try clear c13; try clear c15; try clear hx123_0; try clear p123; try clear p2; try clear q123
     obtain ⟨x8_2, x11_2, x34_2, rfl, HA, HK2, HO_7, HO_8, HO_11, HB⟩ := hrel
     cases gk with
     | zero => exact absurd HA.out (by simp [qh.l1])
     | succ k2 =>
      have H := HA.out; clear HA
      simp only [qh.l1] at H
      by_cases c17 : x34_2 < a2
      ·rw [if_pos c17] at H
       have c17b0 := decide_eq_true c17; clear c17; replace H := bs H; obtain ⟨t134, A18, H⟩ := H
       by_cases c19 : t134 = true
       ·subst c19
        rw [if_pos rfl] at H
        have H' := am H; clear H
        obtain ⟨Ao20, co20, eo20⟩ := Kd.R_slice HO_8.out
        subst eo20
        go_wp2_with (first | ((with_reducible refine qf (f := 155) rfl ?_); refine gl 39 Try.func155 #[.slice Ao20 x8_2.length co20, .int .i64 x34_2] ?_; (with_reducible refine (q7.calls k2 _ _ x8_2 x34_2 true _ ?_ ?_ A18.out).mono ?_); exact Kd.C_below (Kd.R_reads' HO_8.out).2.2 gs; exact (Kd.R_reads' HO_8.out).2.1; rintro e w' ⟨rfl, ⟨nd, rfl⟩⟩; refine ⟨_, rfl, ?_⟩))
        go_roundg k2
        case measure => have := HK1.out; have := HK2.out; omega
        case rel => exact ⟨(x8_2), (x11_2), (wrap64 (x34_2 + 1)), fr, H', ⟨by have := HK1.out; have := HK2.out; omega⟩, ⟨wS HO_7⟩, ⟨wR HO_8⟩, ⟨wS HO_11⟩, ⟨bw HB⟩⟩
       ·replace c19 := Bool.eq_false_iff.mpr c19
        subst c19
        rw [if_neg (show ¬ (false = true) by decide)] at H
        replace H := ifn H; obtain ⟨c21, H⟩ := H; have c21b0 := eq_true c21; have c21b1 := decide_eq_true c21; clear c21; replace H := ifn H; obtain ⟨c22, H⟩ := H; have c22b0 := eq_true c22; have c22b1 := decide_eq_true c22; clear c22; replace H := bsy H
        obtain ⟨y135, Ny135, H⟩ := H; replace H := ifn H; obtain ⟨c23, H⟩ := H; have c23b0 := decide_eq_true c23; clear c23; replace H := ifn H; obtain ⟨c24, H⟩ := H; have c24b0 := decide_eq_true c24; clear c24
        generalize hy138 : (y135.set (x34_2 : Int).toNat 1 : List Int) = y138 at H
        have Ny138 := am hy138.symm; clear hy138; have H' := am H; clear H
        obtain ⟨Ao26, co26, eo26⟩ := Kd.R_slice HO_8.out
        subst eo26
        go_wp2_with (first | ((with_reducible refine qf (f := 155) rfl ?_); refine gl 39 Try.func155 #[.slice Ao26 x8_2.length co26, .int .i64 x34_2] ?_; (with_reducible refine (q7.calls k2 _ _ x8_2 x34_2 false _ ?_ ?_ A18.out).mono ?_); exact Kd.C_below (Kd.R_reads' HO_8.out).2.2 gs; exact (Kd.R_reads' HO_8.out).2.1; rintro e w' ⟨rfl, ⟨nd, rfl⟩⟩; refine ⟨_, rfl, ?_⟩; (try (rw [Zc wr]; generalize hq_ : World.drewN wr _ = wr; have n0_ : qb (Kd.S (Kd.slice 3 (Kd.int .i64)) 23 wr w.heap.size (fun k_ => some k_ ≠ (.slice Ao8 t117.length co8 : Value).ownBlock ∧ some k_ ≠ (.slice Ao26 x8_2.length co26 : Value).ownBlock) u11 x11_2) := ⟨by rw [← hq_]; exact (wS HO_11)⟩; have n1_ : qb (Kd.S (Kd.slice 3 (Kd.int .i64)) 23 wr w.heap.size (fun k_ => some k_ ≠ (u11 : Value).ownBlock ∧ some k_ ≠ (.slice Ao26 x8_2.length co26 : Value).ownBlock) (.slice Ao8 t117.length co8) t117) := ⟨by rw [← hq_]; exact (oS_ HO_7 (fun _ hk => ⟨hk.2, hk.1⟩))⟩; have n2_ : qb (Kd.R (Kd.int .i64) 3 wr w.heap.size (fun _ => True) (.slice Ao26 x8_2.length co26) x8_2) := ⟨by rw [← hq_]; exact (wR HO_8)⟩; have n3_ : qb (Below w.heap.size w wr) := ⟨by rw [← hq_]; exact (bw HB)⟩; clear HO_11 HO_7 HO_8 HB hq_; have HO_11 := n0_; have HO_7 := n1_; have HO_8 := n2_; have HB := n3_; clear n0_ n1_ n2_ n3_))) | ((with_reducible refine za (N := 41) rfl ?_); refine Kd.R_make (Kd.int .i64) _ 3 rfl (N := 41) rfl 23 _ _ rfl a2 rfl rfl Try.underlying23 (.int .i64 0) 8 Ju rfl (by decide) (by omega) 0 (ok := fun _ => True) (okp := fun _ => True) rfl (fun _ hk => hk) trivial (od) (Nat.le_trans (Nat.mul_le_mul_right _ (od : a2.toNat ≤ 35184372088832)) (by omega)) (Below.refl _ _) (Nat.le_refl _) ?_; intro v136 w27 ho28 hb hg_ hnew_; clear hg_ hnew_; (first | rw [← Ny135.out] at ho28 | (simp only [Int.reduceToNat] at ho28; rw [← Ny135.out] at ho28)); replace HO_7 := eS HO_7 (Kd.R_base ho28) hb; replace HO_11 := eS HO_11 (Kd.R_base ho28) hb; have HO137 := am (Kd.R_lower (Kd.R_new' ho28 (Kd.R_lt (wR HO_8))) (bz HB)); replace HO_8 := eR HO_8 (Kd.R_base ho28) hb; replace HB := bq HB hb; clear hb ho28; have p25 : 0 ≤ (x34_2 : Int) := od; have q25 : (x34_2 : Int) < ((y135.length : Int) : Int) := od; obtain ⟨go25, co25, eo25, gb25, gl25, cl25, HG25⟩ := Kd.R_form HO137.out (by omega); (first | cases eo25 | (injection eo25 with ea_ en_ ec_; (first | subst ea_ | (injection ea_ with ea_; subst ea_)); subst ec_; clear en_)); have GB25 := am gb25; have GG25 := am HG25; clear gb25 gl25 HG25; obtain ⟨hx25_0, hf25_0⟩ := Kd.R_celln 0 HO137.out (x34_2 : Int) p25 q25; replace p25 := eq_true p25; replace q25 := eq_true q25; have n_ := am (Kd.R_mono (ok' := (fun k_ => some k_ ≠ (.slice Ao26 x8_2.length co26 : Value).ownBlock)) HO137.out (fun k_ hk => hk.2)); clear HO137; have HO137 := n_; clear n_; obtain ⟨hy29_, hz29_⟩ := Kd.R_celln 0 HO137.out (x34_2 : Int) (od) (od); have HP29 := Kd.R_putg HO137.out (x34_2 : Int) 1))
        obtain ⟨w30, hw⟩ : ∃ w_, w_ = (w27.setCell ⟨go25, (x34_2 : Int).toNat, none⟩ (.int .i64 1)) := ⟨_, rfl⟩
        rw [← hw]
        (have hg : w27.grownBy w30 (some go25) := (by rw [hw]; exact HP29.2); have hp_ : Kd.R (Kd.int .i64) 3 w30 w.heap.size (fun k_ => some k_ ≠ (.slice Ao26 x8_2.length co26 : Value).ownBlock) (.slice (some ⟨go25, 0, none⟩) y135.length co25) y138 := (by rw [hw, Ny138.out]; exact HP29.1); clear HP29; have n0_ := am (Kd.S_after (v := (.slice (some ⟨go25, 0, none⟩) y135.length co25)) (v1 := (.slice (some ⟨go25, 0, none⟩) y135.length co25)) (ok := (fun k_ => some k_ ≠ (.slice Ao26 x8_2.length co26 : Value).ownBlock ∧ some k_ ≠ (u11 : Value).ownBlock)) (by (with_reducible repeat (first | apply Kd.S_alloc | apply Kd.S_drewN | apply Kd.S_drew)); first | exact HO_7.out | exact Kd.S_mono HO_7.out (fun _ h => ⟨⟨h.1.2, h.1.1⟩, h.2⟩)) hg (.inl rfl)); have n1_ := am (Kd.R_after (v := (.slice (some ⟨go25, 0, none⟩) y135.length co25)) (v1 := (.slice (some ⟨go25, 0, none⟩) y135.length co25)) (ok := (fun _ => True)) (by (with_reducible repeat (first | apply Kd.R_alloc | apply Kd.R_drewN | apply Kd.R_drew)); first | exact HO_8.out | exact Kd.S_mono HO_8.out (fun _ h => ⟨⟨h.1.2, h.1.1⟩, h.2⟩)) hg (.inl rfl)); have n2_ := am (Kd.S_after (v := (.slice (some ⟨go25, 0, none⟩) y135.length co25)) (v1 := (.slice (some ⟨go25, 0, none⟩) y135.length co25)) (ok := (fun k_ => some k_ ≠ (.slice Ao8 t117.length co8 : Value).ownBlock ∧ some k_ ≠ (.slice Ao26 x8_2.length co26 : Value).ownBlock)) (by (with_reducible repeat (first | apply Kd.S_alloc | apply Kd.S_drewN | apply Kd.S_drew)); first | exact HO_11.out | exact Kd.S_mono HO_11.out (fun _ h => ⟨⟨h.1.2, h.1.1⟩, h.2⟩)) hg (.inl rfl)); have n3_ := am (hp_); have n4_ := am ((by rw [hw]; exact zl (HB.out) GB25.out : Below w.heap.size w w30)); clear HO_7; clear HO_8; clear HO_11; clear HO137; clear HB; have HO_7 := n0_; have HO_8 := n1_; have HO_11 := n2_; have HO137 := n3_; have HB := n4_; clear n0_ n1_ n2_ n3_ n4_; clear hg hw hp_)
        go_loopg [47] k2 (fun kq v47 w' => ∃ (x13_3 : List Int) (x47_3 : Int), v47 = .int .i64 x47_3 ∧ qb (qh.l2 kq a0 a2 t117 x8_2 x11_2 x34_2 x13_3 a2 x34_2 t117 (t117.length : Int) x47_3 = some r) ∧ qb (kq ≤ k2) ∧ qb (Kd.S (Kd.slice 3 (Kd.int .i64)) 23 w' w.heap.size (fun k_ => some k_ ≠ ((.slice Ao26 x8_2.length co26) : Value).ownBlock ∧ some k_ ≠ (u11 : Value).ownBlock ∧ some k_ ≠ ((.slice (some ⟨go25, 0, none⟩) y135.length co25) : Value).ownBlock) (.slice Ao8 t117.length co8) t117) ∧ qb (Kd.R (Kd.int .i64) 3 w' w.heap.size (fun k_ => some k_ ≠ ((.slice (some ⟨go25, 0, none⟩) y135.length co25) : Value).ownBlock) (.slice Ao26 x8_2.length co26) x8_2) ∧ qb (Kd.S (Kd.slice 3 (Kd.int .i64)) 23 w' w.heap.size (fun k_ => some k_ ≠ ((.slice Ao8 t117.length co8) : Value).ownBlock ∧ some k_ ≠ ((.slice Ao26 x8_2.length co26) : Value).ownBlock ∧ some k_ ≠ ((.slice (some ⟨go25, 0, none⟩) y135.length co25) : Value).ownBlock ∧ some k_ ≠ ((.slice Ao8 t117.length co8) : Value).ownBlock) u11 x11_2) ∧ qb (Kd.R (Kd.int .i64) 3 w' w.heap.size (fun k_ => some k_ ≠ ((.slice Ao26 x8_2.length co26) : Value).ownBlock) (.slice (some ⟨go25, 0, none⟩) y135.length co25) x13_3) ∧ qb (Kd.S (Kd.slice 3 (Kd.int .i64)) 23 w' w.heap.size (fun k_ => some k_ ≠ ((.slice Ao26 x8_2.length co26) : Value).ownBlock ∧ some k_ ≠ (u11 : Value).ownBlock ∧ some k_ ≠ ((.slice (some ⟨go25, 0, none⟩) y135.length co25) : Value).ownBlock) (.slice Ao8 t117.length co8) t117) ∧ qb (Below w.heap.size w w'))
        case atStart => exact ⟨(y138), (0), fr, H', ⟨Nat.le_refl _⟩, ⟨Kd.S_below (Kd.S_mono HO_7.out (fun _ hk => ⟨hk.1.1, ⟨hk.1.2, hk.2⟩⟩)) gs⟩, ⟨Kd.R_below (Kd.R_mono HO_8.out (fun _ hk => hk.2)) gs⟩, ⟨Kd.S_below (Kd.S_mono HO_11.out (fun _ hk => ⟨hk.1.1, ⟨hk.1.2, ⟨hk.2, hk.1.1⟩⟩⟩)) gs⟩, ⟨wR HO137⟩, ⟨Kd.S_below (Kd.S_mono HO_7.out (fun _ hk => ⟨hk.1.1, ⟨hk.1.2, hk.2⟩⟩)) gs⟩, ⟨bw HB⟩⟩
        case round =>
         clear H'; try clear c1; try clear p1; try clear q1; try clear hx1; try clear c2; try clear p2; try clear q2; try clear hx2; try clear p6; try clear c9; try clear c9b0; try clear c10; try clear c10b0; try clear c11; try clear c11b0; try clear c12
         try clear p12; try clear q12; try clear hx12; try clear c13; try clear c15; try clear c17; try clear c17b0; try clear c19; try clear c21; try clear c21b0; try clear c21b1; try clear c22; try clear c22b0; try clear c22b1; try clear c23; try clear c23b0
         try clear c24; try clear c24b0; try clear p25; try clear q25; try clear hx25; try clear hf25; try clear hx123_0; try clear hx25_0; try clear p1; try clear p12; try clear p123; try clear p2; try clear p25; try clear p6; try clear q1; try clear q12
         try clear q123; try clear q25
         obtain ⟨x13_3, x47_3, rfl, HA, HK3, HO_7, HO_8, HO_11, HO_13, HO_45, HB⟩ := hrel
         have hl13_3 := (Kd.R_reads' HO_13.out).1
         rw [hl13_3] at HO_13
         (try simp only [hl13_3])
         (try simp only [hl13_3] at HO_7)
         (try simp only [hl13_3] at HO_8)
         (try simp only [hl13_3] at HO_11)
         (try simp only [hl13_3] at HO_45)
         cases gk with
         | zero => exact absurd HA.out (by simp [qh.l2])
         | succ k3 =>
          have H := HA.out; clear HA
          simp only [qh.l2] at H
          by_cases c31 : x47_3 < (t117.length : Int)
          ·rw [if_pos c31] at H
           have c31b0 := decide_eq_true c31; clear c31; replace H := ifn H; obtain ⟨c32, H⟩ := H; have c32b0 := decide_eq_true c32; clear c32; replace H := ifn H; obtain ⟨c33, H⟩ := H; have c33b0 := decide_eq_true c33; clear c33; replace H := ifn H; obtain ⟨c34, H⟩ := H
           have c34b0 := decide_eq_true c34; clear c34; replace H := ifn H; obtain ⟨c35, H⟩ := H; have c35b0 := decide_eq_true c35; clear c35; replace H := ifn H; obtain ⟨c36, H⟩ := H; have c36b0 := decide_eq_true c36; clear c36; replace H := bs H; obtain ⟨t142, A37, H⟩ := H
           replace H := ifn H; obtain ⟨c38, H⟩ := H; have c38b0 := decide_eq_true c38; clear c38; replace H := ifn H; obtain ⟨c39, H⟩ := H; have c39b0 := decide_eq_true c39; clear c39
           generalize hy143 : (x13_3.set ((rd x8_2 x47_3) : Int).toNat t142 : List Int) = y143 at H
           have Ny143 := am hy143.symm; clear hy143; have H' := am H; clear H
           have p139 : 0 ≤ (x47_3 : Int) := od
           have q139 : x47_3 < (t117.length : Int) := od
           obtain ⟨ad139, A139_0, c139_0, e139, hx139_0, hl139_0, hi139_0⟩ := Jr (Kd.S_reads' HO_45.out).2.2 x47_3 p139 q139
           cases e139
           obtain ⟨ce139, hce139, hMe139, hcc139⟩ := Kd.S_get HO_45.out [] x47_3 p139 (by first | exact q139 | exact od | (have e_ := (Kd.S_reads' HO_45.out).1; omega))
           obtain ⟨ve139_0, rfl, ge139_0⟩ := hMe139
           have hv139_0 := hcc139 0 _ rfl
           rw [Nat.add_zero, show ((Kd.slice 3 (Kd.int .i64))).sz = 1 from rfl, Nat.mul_one] at hv139_0
           replace hv139_0 := Option.some.inj (hv139_0.symm.trans hx139_0)
           rw [hv139_0] at ge139_0
           have HL139_0 := am (show Kd.R (Kd.int .i64) 3 _ _ _ _ (zz t117 x47_3) from ge139_0)
           clear hv139_0 ge139_0; clear hcc139 hce139
           have HR139_0 := am hi139_0
           have HC139_0 := am hl139_0
           clear hi139_0 hl139_0; replace p139 := eq_true p139; replace q139 := eq_true q139
           try go_wp2
           replace HO_7 := am (Kd.S_drew HO_7.out)
           replace HO_8 := am (Kd.R_drew HO_8.out)
           replace HO_11 := am (Kd.S_drew HO_11.out)
           replace HO_13 := am (Kd.R_drew HO_13.out)
           replace HO_45 := am (Kd.S_drew HO_45.out)
           replace HL139_0 := am (Kd.R_drew HL139_0.out)
           replace HR139_0 := am (Kd.C_drew HR139_0.out)
           replace HB := am (qx HB.out)
           have p140 : 0 ≤ (x47_3 : Int) := od
           have q140 : x47_3 < (x8_2.length : Int) := od
           obtain ⟨ad140, e140, hx140_0⟩ := Kd.at_int (Kd.R_reads' HO_8.out).2.2 x47_3 p140 q140
           cases e140; replace p140 := eq_true p140; replace q140 := eq_true q140
           have p141 : 0 ≤ (x34_2 : Int) := od
           have q141 : x34_2 < ((zz t117 x47_3).length : Int) := od
           obtain ⟨ad141, e141, hx141_0⟩ := Kd.at_int HR139_0.out x34_2 p141 q141
           cases e141; replace p141 := eq_true p141; replace q141 := eq_true q141
           refine st 14 (fun w' => w'.cell? (ad140.add (x47_3).toNat) = some (.int .i64 (rd x8_2 x47_3)) ∧ w'.cell? (ad141.add (x34_2).toNat) = some (.int .i64 (rd (zz t117 x47_3) x34_2))) [13] qh.tab18 qh.bits18 (⟨hx140_0, hx141_0⟩) fun hHeld HT_ HW_ => ?_
           generalize wr.drew = w41 at HO_7 HO_8 HO_11 HO_13 HO_45 HL139_0 HR139_0 HB hx140_0 hx141_0 hHeld ⊢
           refine pz 0 52 HT_ ?_; refine pz 1 53 HT_ ?_; refine pz 2 54 HT_ ?_; refine pz 3 55 HT_ ?_; refine pz 5 57 HT_ ?_; refine pz 6 58 HT_ ?_; refine pz 7 59 HT_ ?_; refine pz 10 62 HT_ ?_; refine tk 4 56 HT_ HW_ hHeld ?_; refine tk 8 60 HT_ HW_ hHeld ?_
           refine pz 9 61 HT_ ?_
           refine on 11 (some 63) HT_ fun K hK => ?_
           refine gs_ Try.func126 #[.int .i64 (wrap64 (-(rd (zz t117 x47_3) x34_2))), .int .i64 a0] ?_
           with_reducible refine (Zv.calls (wrap64 (-(rd (zz t117 x47_3) x34_2))) a0 t142 _ A37.out).mono ?_
           rintro e w' ⟨rfl, ⟨nd, rfl⟩⟩
           refine ⟨_, rfl, ?_⟩
           have p40 : 0 ≤ ((rd x8_2 x47_3) : Int) := od
           have q40 : ((rd x8_2 x47_3) : Int) < ((x13_3.length : Int) : Int) := od
           obtain ⟨hx40_0, hf40_0⟩ := Kd.R_celln 0 HO_13.out ((rd x8_2 x47_3) : Int) p40 q40
           replace p40 := eq_true p40; replace q40 := eq_true q40
           have HP42 := Kd.R_putn HO_13.out ((rd x8_2 x47_3) : Int) t142
           rw [← Ny143.out] at HP42
           have HQ42 := am HP42
           clear HP42
           refine hK.out _ _ ⟨hHeld.1, hHeld.2⟩ fun hHeld => nz ?_
           clear hK K; refine pz 12 64 HT_ ?_
           refine la 13 none HT_ fun K hK => ?_
           refine qb6 (w1 := ?_) (by rfl) rfl ?_ ?_
           rotate_left
           ·go_simp
            rfl
           refine hK.out _ _ ?_
           clear hK K
           refine Q8 (Qj HT_.out (by kernel_rfl)) ?_
           try go_wp2
           (try simp only [← hl13_3])
           go_roundg k3
           case measure => have := HK1.out; have := HK2.out; have := HK3.out; omega
           case rel => exact ⟨(y143), (wrap64 (x47_3 + 1)), fr, H', ⟨by have := HK1.out; have := HK2.out; have := HK3.out; omega⟩, ⟨by (try simp only [hl13_3]); (with_reducible repeat (first | apply Kd.S_alloc | apply Kd.S_drewN | apply Kd.S_drew)); exact Kd.S_mono (Kd.S_far (p := ⟨go25, ((rd x8_2 x47_3) : Int).toNat, none⟩) (Kd.S_mono HO_7.out (fun k_ hk => (⟨hk, fun e_ => hk.2.2 (by rw [e_]; rfl)⟩ : _ ∧ k_ ≠ go25))) (fun _ hk => hk.2) (.int .i64 t142)) (fun _ hk => ⟨hk.1.1, ⟨hk.1.2.1, hk.1.2.2⟩⟩)⟩, ⟨by (try simp only [hl13_3]); (with_reducible repeat (first | apply Kd.R_alloc | apply Kd.R_drewN | apply Kd.R_drew)); exact Kd.R_mono (Kd.R_far (p := ⟨go25, ((rd x8_2 x47_3) : Int).toNat, none⟩) (Kd.R_mono HO_8.out (fun k_ hk => (⟨hk, fun e_ => hk (by rw [e_]; rfl)⟩ : _ ∧ k_ ≠ go25))) (fun _ hk => hk.2) (.int .i64 t142)) (fun _ hk => hk.1)⟩, ⟨by (try simp only [hl13_3]); (with_reducible repeat (first | apply Kd.S_alloc | apply Kd.S_drewN | apply Kd.S_drew)); exact Kd.S_mono (Kd.S_far (p := ⟨go25, ((rd x8_2 x47_3) : Int).toNat, none⟩) (Kd.S_mono HO_11.out (fun k_ hk => (⟨hk, fun e_ => hk.2.2.1 (by rw [e_]; rfl)⟩ : _ ∧ k_ ≠ go25))) (fun _ hk => hk.2) (.int .i64 t142)) (fun _ hk => ⟨hk.1.1, ⟨hk.1.2.1, ⟨hk.1.2.2.1, hk.1.2.2.2⟩⟩⟩)⟩, ⟨by (try simp only [hl13_3]); (with_reducible repeat (first | apply Kd.R_alloc | apply Kd.R_drewN | apply Kd.R_drew)); exact HQ42.out⟩, ⟨by (try simp only [hl13_3]); (with_reducible repeat (first | apply Kd.S_alloc | apply Kd.S_drewN | apply Kd.S_drew)); exact Kd.S_mono (Kd.S_far (p := ⟨go25, ((rd x8_2 x47_3) : Int).toNat, none⟩) (Kd.S_mono HO_45.out (fun k_ hk => (⟨hk, fun e_ => hk.2.2 (by rw [e_]; rfl)⟩ : _ ∧ k_ ≠ go25))) (fun _ hk => hk.2) (.int .i64 t142)) (fun _ hk => ⟨hk.1.1, ⟨hk.1.2.1, hk.1.2.2⟩⟩)⟩, ⟨bx_ HB⟩⟩
          ·rw [if_neg c31] at H
           have c31b0 := decide_eq_false c31; clear c31; replace H := ifn H; obtain ⟨c43, H⟩ := H; have LMc43 := am c43; clear c43
           generalize hy144 : (x11_2 ++ [x13_3] : List (List Int)) = y144 at H
           have Ny144 := am hy144.symm; clear hy144; have H' := am H; clear H
           go_wp2_with (first | ((with_reducible refine jh (b := .append) (xs := #[.tmp 66, .tmp 68]) rfl ?_); at_builtin; refine Kd.S_append (Kd.slice 3 (Kd.int .i64)) (w0 := w) w.heap.size rfl (.tmp 66) (.tmp 68) 47 23 (.slice none 0 0) 24 rfl Try.underlying47 Zb rfl (by decide) (by omega) u11 x11_2 x13_3 [.slice (some ⟨go25, 0, none⟩) x13_3.length co25] (fun k_ => some k_ ≠ (.slice Ao8 t117.length co8 : Value).ownBlock ∧ some k_ ≠ (.slice Ao26 x8_2.length co26 : Value).ownBlock ∧ some k_ ≠ (.slice Ao8 t117.length co8 : Value).ownBlock) (fun k_ => some k_ = (.slice (some ⟨go25, 0, none⟩) x13_3.length co25 : Value).ownBlock) rfl rfl ?aP (fun k_ hk_ => ((Kd.R_mono (ok' := fun k_ => ((fun k_ => some k_ ≠ (.slice Ao8 t117.length co8 : Value).ownBlock ∧ some k_ ≠ (.slice Ao26 x8_2.length co26 : Value).ownBlock ∧ some k_ ≠ (.slice Ao8 t117.length co8 : Value).ownBlock)) k_ ∧ some k_ ≠ (u11 : Value).ownBlock) (Kd.R_apart' (Kd.R_apart' (Kd.R_apart' (HO_13.out) (Kd.S_typed HO_7.out) (by decide)) (Kd.S_typed HO_45.out) (by decide)) (Kd.S_typed HO_11.out) (by decide)) (fun k_ hk => ⟨⟨hk.1.1.2, ⟨hk.1.1.1, hk.1.2⟩⟩, hk.2⟩))).1 k_ hk_.symm) ?aF ?aO ?aB ?aS ?aL ?_; (case aP => exact Kd.M_row (Kd.R_mono (Kd.R_tight rfl (Kd.R_mono (ok' := fun k_ => ((fun k_ => some k_ ≠ (.slice Ao8 t117.length co8 : Value).ownBlock ∧ some k_ ≠ (.slice Ao26 x8_2.length co26 : Value).ownBlock ∧ some k_ ≠ (.slice Ao8 t117.length co8 : Value).ownBlock)) k_ ∧ some k_ ≠ (u11 : Value).ownBlock) (Kd.R_apart' (Kd.R_apart' (Kd.R_apart' (HO_13.out) (Kd.S_typed HO_7.out) (by decide)) (Kd.S_typed HO_45.out) (by decide)) (Kd.S_typed HO_11.out) (by decide)) (fun k_ hk => ⟨⟨hk.1.1.2, ⟨hk.1.1.1, hk.1.2⟩⟩, hk.2⟩))) (fun _ h_ => h_))); (case aB => exact (bw HB)); (case aF => exact (fun k_ hk => ⟨Kd.fresh' (Kd.S_lt (wS HO_7)) k_ hk, Kd.fresh' (Kd.R_lt (wR HO_8)) k_ hk, Kd.fresh' (Kd.S_lt (wS HO_45)) k_ hk⟩)); (case aO => exact (oS_ HO_11 (fun k_ hk => ⟨⟨hk.1, ⟨hk.2.1, hk.2.2.2⟩⟩, fun e_ => hk.2.2.1 e_⟩))); (case aS => exact (bz HB)); (case aL => have := LMc43.out; omega); intro v145 w44 ho hb hg hat; rw [← Ny144.out] at ho; replace HO_7 := am (Kd.S_after (ok := (fun k_ => some k_ ≠ (.slice Ao26 x8_2.length co26 : Value).ownBlock ∧ some k_ ≠ (.slice (some ⟨go25, 0, none⟩) x13_3.length co25 : Value).ownBlock)) (oS_ HO_7 (fun _ hk => ⟨⟨hk.1, hk.2.2⟩, hk.2.1⟩)) hg hat); replace HO_8 := am (Kd.R_over' (wR HO_8) (Kd.S_typed (wS HO_11)) (by decide) hg); replace HO_45 := am (Kd.S_after (ok := (fun k_ => some k_ ≠ (.slice Ao26 x8_2.length co26 : Value).ownBlock ∧ some k_ ≠ (.slice (some ⟨go25, 0, none⟩) x13_3.length co25 : Value).ownBlock)) (oS_ HO_45 (fun _ hk => ⟨⟨hk.1, hk.2.2⟩, hk.2.1⟩)) hg hat); replace HB := am (hb); have HO146 := am (ho); clear HO_11 HO_13; clear ho hb hg hat))
           (try simp only [← hl13_3])
           go_roundg k3
           case measure => have := HK1.out; have := HK2.out; have := HK3.out; omega
           case rel => exact ⟨(x8_2), (y144), (wrap64 (x34_2 + 1)), fr, H', ⟨by have := HK1.out; have := HK2.out; have := HK3.out; omega⟩, ⟨by (try simp only [hl13_3]); (with_reducible repeat (first | apply Kd.S_alloc | apply Kd.S_drewN | apply Kd.S_drew)); exact Kd.S_mono HO_7.out (fun _ hk => ⟨hk.1.1, hk.2⟩)⟩, ⟨by (try simp only [hl13_3]); (with_reducible repeat (first | apply Kd.R_alloc | apply Kd.R_drewN | apply Kd.R_drew)); exact Kd.R_mono HO_8.out (fun _ hk => trivial)⟩, ⟨by (try simp only [hl13_3]); (with_reducible repeat (first | apply Kd.S_alloc | apply Kd.S_drewN | apply Kd.S_drew)); exact Kd.S_mono HO146.out (fun _ hk => ⟨hk.1, hk.2.1⟩)⟩, ⟨bw HB⟩⟩
      ·rw [if_neg c17] at H
       have c17b0 := decide_eq_false c17; clear c17; replace H := bs H; obtain ⟨t131, A45, H⟩ := H; obtain rfl := Option.some.inj H
       obtain ⟨Ao46, co46, eo46⟩ := Kd.S_slice HO_11.out
       subst eo46
       go_wp2_with (first | ((with_reducible refine qf (f := 152) rfl ?_); refine gl 73 Try.func152 #[.int .i64 a0, .slice Ao46 x11_2.length co46] ?_; (with_reducible refine (jf.calls k2 a0 _ _ x11_2 t131 _ ?_ ?_ A45.out).mono ?_); exact Kd.C_below (Kd.S_reads' HO_11.out).2.2 gs; exact (Kd.S_reads' HO_11.out).2.1; rintro e w47 ⟨v132, rfl, ho0, hb⟩; refine ⟨_, rfl, ?_⟩; have HO133 := am (Kd.S_lower (Kd.S_new' (Kd.S_new' (Kd.S_new' ho0 (Kd.S_lt (wS HO_7))) (Kd.R_lt (wR HO_8))) (Kd.S_lt (wS HO_11))) (bz HB)); replace HO_7 := eS HO_7 (Kd.S_base ho0) hb; replace HO_8 := am (Kd.R_below (wR HO_8) hb); replace HO_11 := eS HO_11 (Kd.S_base ho0) hb; replace HB := bq HB hb; (try clear hb); (try clear ho0)))
       go_ret
       exact ⟨_, fq, Kd.S_below (Kd.S_mono HO133.out (fun _ hk => trivial)) gs, bw HB⟩
end Go.Proofs.Ytmgbpmihbljngaa.PA

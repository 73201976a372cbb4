-- Written by xprint.py, a program of this claim's own (over the kit's print.py)
import Derived.Test.YtmgbpmihbljngaaPAx14
namespace Go.Proofs.Ytmgbpmihbljngaa.PA
open Go.RowKit Go.Proofs.YtmgbpmihbljngaaW.PrintWords Go.Proofs.YtmgbpmihbljngaaW.PrintLast Go.Proofs.YtmgbpmihbljngaaW.PrintMore
attribute [local go_sem] j8 j9 Qi Qj jw jy Qa Qb
set_option linter.unusedVariables false
set_option linter.unusedSimpArgs false
mutual
def qi.l0 : Nat → Int → Int → List (List Int) → List Int → List (List Int) → Int → Int → Option ((List (List Int)))
 | 0, _, _, _, _, _, _, _ => none
 | k + 1, x0, x2, x7, x8, x20, x21, x22 => if x22 < x21 then (if 0 ≤ x22 then (if x22 < (x20.length : Int) then ((qk.f k (jl x20 x22) 1).bind fun t365 => (if x8.length < 17592186044416 then (qi.l0 k x0 x2 x7 (x8 ++ [t365]) x20 x21 (wrap64 (x22 + 1))) else (none))) else (none)) else (none)) else (qi.l1 k x0 x2 x7 x8 (([] : List (List Int))) x2 0)
def qi.l1 : Nat → Int → Int → List (List Int) → List Int → List (List Int) → Int → Int → Option ((List (List Int)))
 | 0, _, _, _, _, _, _, _ => none
 | k + 1, x0, x2, x7, x8, x11, x33, x34 => if x34 < x33 then ((qt.f k x8 x34).bind fun t375 => (if t375 = true then (qi.l1 k x0 x2 x7 x8 x11 x33 (wrap64 (x34 + 1))) else (if 0 ≤ x2 then (if (x2 : Int).toNat ≤ 35184372088832 then ((some (List.replicate (x2 : Int).toNat 0 : List Int)).bind fun y376 => (if 0 ≤ x34 then (if x34 < (y376.length : Int) then (qi.l2 k x0 x2 x7 x8 x11 x34 (y376.set (x34 : Int).toNat 1) x33 x34 x7 (x7.length : Int) 0) else (none)) else (none))) else (none)) else (none)))) else ((z9.f k x0 x11).bind fun t372 => (some t372))
def qi.l2 : Nat → Int → Int → List (List Int) → List Int → List (List Int) → Int → List Int → Int → Int → List (List Int) → Int → Int → Option ((List (List Int)))
 | 0, _, _, _, _, _, _, _, _, _, _, _, _ => none
 | k + 1, x0, x2, x7, x8, x11, x12, x13, x33, x34, x45, x46, x47 => if x47 < x46 then (if 0 ≤ x47 then (if x47 < (x45.length : Int) then (if x47 < (x8.length : Int) then (if 0 ≤ x12 then (if x12 < ((jl x45 x47).length : Int) then ((Zt.f (wrap64 (-(rd (jl x45 x47) x12))) x0).bind fun t383 => (if 0 ≤ (rd x8 x47) then (if (rd x8 x47) < (x13.length : Int) then (qi.l2 k x0 x2 x7 x8 x11 x12 (x13.set ((rd x8 x47) : Int).toNat t383) x33 x34 x45 x46 (wrap64 (x47 + 1))) else (none)) else (none))) else (none)) else (none)) else (none)) else (none)) else (none)) else (if x11.length < 5864062014805 then (qi.l1 k x0 x2 x7 x8 (x11 ++ [x13]) x33 (wrap64 (x34 + 1))) else (none))
end
def qi.f (k : Nat) (a0 : Int) (l1 : List (List Int)) (a2 : Int) : Option ((List (List Int))) := (z9.f k a0 l1).bind fun t358 => (qi.l0 k a0 a2 t358 (([] : List Int)) t358 (t358.length : Int) 0)
theorem qi.mono_l : ∀ k, (∀ y0 y1 y2 y3 y4 y5 y6, LeO (qi.l0 k y0 y1 y2 y3 y4 y5 y6) (qi.l0 (k + 1) y0 y1 y2 y3 y4 y5 y6)) ∧ (∀ y0 y1 y2 y3 y4 y5 y6, LeO (qi.l1 k y0 y1 y2 y3 y4 y5 y6) (qi.l1 (k + 1) y0 y1 y2 y3 y4 y5 y6)) ∧ (∀ y0 y1 y2 y3 y4 y5 y6 y7 y8 y9 y10 y11, LeO (qi.l2 k y0 y1 y2 y3 y4 y5 y6 y7 y8 y9 y10 y11) (qi.l2 (k + 1) y0 y1 y2 y3 y4 y5 y6 y7 y8 y9 y10 y11))
 | 0 => ⟨fun _ _ _ _ _ _ _ r h => by simp [qi.l0] at h, fun _ _ _ _ _ _ _ r h => by simp [qi.l1] at h, fun _ _ _ _ _ _ _ _ _ _ _ _ r h => by simp [qi.l2] at h⟩
 | k + 1 => by
  obtain ⟨ih0, ih1, ih2⟩ := qi.mono_l k
  refine ⟨?_, ?_, ?_⟩
  ·intro y0 y1 y2 y3 y4 y5 y6
   unfold qi.l0
   repeat' first | (with_reducible first | apply ih0 | apply ih1 | apply ih2 | apply z9.mono | apply qt.mono | apply qk.mono | exact LeO.refl _ | exact LeO.none _ | refine LeO.ite ?_ ?_ | refine LeO.bind ?_ (fun _ => ?_)) | (first | apply ih0 | apply ih1 | apply ih2 | apply z9.mono | apply qt.mono | apply qk.mono | exact LeO.none _ | refine LeO.ite ?_ ?_ | refine LeO.bind ?_ (fun _ => ?_))
  ·intro y0 y1 y2 y3 y4 y5 y6
   unfold qi.l1
   repeat' first | (with_reducible first | apply ih0 | apply ih1 | apply ih2 | apply z9.mono | apply qt.mono | apply qk.mono | exact LeO.refl _ | exact LeO.none _ | refine LeO.ite ?_ ?_ | refine LeO.bind ?_ (fun _ => ?_)) | (first | apply ih0 | apply ih1 | apply ih2 | apply z9.mono | apply qt.mono | apply qk.mono | exact LeO.none _ | refine LeO.ite ?_ ?_ | refine LeO.bind ?_ (fun _ => ?_))
  ·intro y0 y1 y2 y3 y4 y5 y6 y7 y8 y9 y10 y11
   unfold qi.l2
   repeat' first | (with_reducible first | apply ih0 | apply ih1 | apply ih2 | apply z9.mono | apply qt.mono | apply qk.mono | exact LeO.refl _ | exact LeO.none _ | refine LeO.ite ?_ ?_ | refine LeO.bind ?_ (fun _ => ?_)) | (first | apply ih0 | apply ih1 | apply ih2 | apply z9.mono | apply qt.mono | apply qk.mono | exact LeO.none _ | refine LeO.ite ?_ ?_ | refine LeO.bind ?_ (fun _ => ?_))
theorem qi.mono : ∀ a0 a1 a2 k, LeO (qi.f k a0 a1 a2) (qi.f (k + 1) a0 a1 a2) := by
 intro a0 a1 a2 k
 obtain ⟨ih0, ih1, ih2⟩ := qi.mono_l k
 unfold qi.f
 repeat' first | (with_reducible first | apply ih0 | apply ih1 | apply ih2 | apply z9.mono | apply qt.mono | apply qk.mono | exact LeO.refl _ | exact LeO.none _ | refine LeO.ite ?_ ?_ | refine LeO.bind ?_ (fun _ => ?_)) | (first | apply ih0 | apply ih1 | apply ih2 | apply z9.mono | apply qt.mono | apply qk.mono | exact LeO.none _ | refine LeO.ite ?_ ?_ | refine LeO.bind ?_ (fun _ => ?_))
def qi.T18 : Bool × List (List Nat × List Nat) := (true, [([], []), ([], []), ([], []), ([1, 2], [1, 2]), ([3], [3]), ([], []), ([], []), ([5, 6], [5, 6]), ([7], [7]), ([8], [8]), ([], []), ([9, 10], [9, 10]), ([0, 4, 0, 1, 2, 3, 4, 5, 6, 7, 8, 9, 10, 11], [0, 4]), ([12, 11, 11, 0, 1, 2, 3, 4, 5, 6, 7, 8, 9, 10, 11], [11, 12])])
def qi.B18 : List Nat := [0, 0, 0, 6, 14, 0, 0, 96, 224, 480, 0, 2016, 4095, 8191]
theorem qi.tab18 : rtab .any (Zp Try.f112 18) = qi.T18 := by kernel_rfl
theorem qi.bits18 : Qd qi.T18.2 qi.B18 = true := by kernel_rfl
set_option maxHeartbeats 8000000 in
set_option maxRecDepth 100000 in
theorem qi.calls (k : Nat) (a0 : Int) (A1 : Option Addr) (c1 : Nat) (l1 : List (List Int)) (a2 : Int) (r : List (List Int)) (w : World) (hr1 : Kd.C (Kd.slice 3 (Kd.int .i64)) w A1 l1.length l1) (hc1 : l1.length ≤ c1) (h : qi.f k a0 l1 a2 = some r) :
  Calls Try.prog 112 #[.int .i64 a0, .slice A1 l1.length c1, .int .i64 a2] w fun e w' => ∃ v0_ : Value, e = .returned (v0_) ∧ Kd.S (Kd.slice 3 (Kd.int .i64)) 23 w' w.heap.size (fun _ => True) v0_ r ∧ Below w.heap.size w w' := by
 have HR1 := am hr1
 have HC1 := am hc1
 clear hr1 hc1
 have HB := am (Below.refl w.heap.size w)
 have H : ((z9.f k a0 l1).bind fun t358 => (qi.l0 k a0 a2 t358 (([] : List Int)) t358 (t358.length : Int) 0)) = some r := h
 clear h; replace H := bs H; obtain ⟨t358, A4, H⟩ := H
 generalize hy361 : (([] : List Int)) = y361 at H
 have Ny361 := am hy361.symm; clear hy361; have H' := am H; clear H
 go_enter Try.func112, Try.ntmps112
 go_wp2_with (first | ((with_reducible refine qj (f := 152) rfl ?_); refine gl 18 Try.func152 #[.int .i64 a0, .slice A1 l1.length c1] ?_; (with_reducible refine (z9.calls k a0 _ _ l1 t358 _ ?_ ?_ A4.out).mono ?_); exact wC HR1; exact HC1.out; rintro e w5 ⟨v359, rfl, ho0, hb⟩; refine ⟨_, rfl, ?_⟩; have HO360 := am (Kd.S_lower ho0 (bz HB)); replace HB := bq HB hb; (try clear hb); (try clear ho0)) | ((with_reducible refine q6 (N := 19) rfl ?_); refine li 3 ([] : List Int) ?_; intro v362 w6 ho7 hb; (first | rw [← Ny361.out] at ho7 | (simp only [Int.reduceToNat] at ho7; rw [← Ny361.out] at ho7)); replace HO360 := eS HO360 (Kd.R_base ho7) hb; have HO363 := am (Kd.R_lower ho7 (bz HB)); replace HB := bq HB hb; clear hb ho7; obtain ⟨Ao8, co8, eo8⟩ := Kd.S_slice HO360.out; subst eo8))
 go_loopg [8, 22] k (fun kq v8 v22 w' => ∃ (x8_1 : List Int) (x22_1 : Int), v22 = .int .i64 x22_1 ∧ qb (qi.l0 kq a0 a2 t358 x8_1 t358 (t358.length : Int) x22_1 = some r) ∧ qb (kq ≤ k) ∧ qb (Kd.S (Kd.slice 3 (Kd.int .i64)) 23 w' w.heap.size (fun k_ => some k_ ≠ (v8 : Value).ownBlock) (.slice Ao8 t358.length co8) t358) ∧ qb (Kd.R (Kd.int .i64) 3 w' w.heap.size (fun _ => True) v8 x8_1) ∧ qb (Kd.S (Kd.slice 3 (Kd.int .i64)) 23 w' w.heap.size (fun k_ => some k_ ≠ (v8 : Value).ownBlock) (.slice Ao8 t358.length co8) t358) ∧ qb (Below w.heap.size w w'))
 case atStart => exact ⟨(y361), (0), fr, H', ⟨Nat.le_refl _⟩, ⟨Kd.S_below (Kd.S_mono HO360.out (fun _ hk => hk.2)) gs⟩, ⟨wR HO363⟩, ⟨Kd.S_below (Kd.S_mono HO360.out (fun _ hk => hk.2)) gs⟩, ⟨bw HB⟩⟩
 case round =>
  clear H'; try clear c1; try clear p2
  obtain ⟨x8_1, x22_1, rfl, HA, HK1, HO_7, HO_8, HO_20, HB⟩ := hrel
  cases gk with
  | zero => exact absurd HA.out (by simp [qi.l0])
  | succ k1 =>
   have H := HA.out; clear HA
   simp only [qi.l0] at H
   by_cases c9 : x22_1 < (t358.length : Int)
   ·rw [if_pos c9] at H
    have c9b0 := decide_eq_true c9; clear c9; replace H := ifn H; obtain ⟨c10, H⟩ := H; have c10b0 := decide_eq_true c10; clear c10; replace H := ifn H; obtain ⟨c11, H⟩ := H; have c11b0 := decide_eq_true c11; clear c11; replace H := bs H; obtain ⟨t365, A12, H⟩ := H
    replace H := ifn H; obtain ⟨c13, H⟩ := H; have LMc13 := am c13; clear c13
    generalize hy366 : (x8_1 ++ [t365] : List Int) = y366 at H
    have Ny366 := am hy366.symm; clear hy366; have H' := am H; clear H
    have p364 : 0 ≤ (x22_1 : Int) := od
    have q364 : x22_1 < (t358.length : Int) := od
    obtain ⟨ad364, A364_0, c364_0, e364, hx364_0, hl364_0, hi364_0⟩ := qad (Kd.S_reads' HO_20.out).2.2 x22_1 p364 q364
    cases e364
    obtain ⟨ce364, hce364, hMe364, hcc364⟩ := Kd.S_get HO_20.out [] x22_1 p364 (by first | exact q364 | exact od | (have e_ := (Kd.S_reads' HO_20.out).1; omega))
    obtain ⟨ve364_0, rfl, ge364_0⟩ := hMe364
    have hv364_0 := hcc364 0 _ rfl
    rw [Nat.add_zero, show ((Kd.slice 3 (Kd.int .i64))).sz = 1 from rfl, Nat.mul_one] at hv364_0
    replace hv364_0 := Option.some.inj (hv364_0.symm.trans hx364_0)
    rw [hv364_0] at ge364_0
    have HL364_0 := am (show Kd.R (Kd.int .i64) 3 _ _ _ _ (jl t358 x22_1) from ge364_0)
    clear hv364_0 ge364_0; clear hcc364 hce364
    have HR364_0 := am hi364_0
    have HC364_0 := am hl364_0
    clear hi364_0 hl364_0; replace p364 := eq_true p364; replace q364 := eq_true q364
    go_wp2_with (first | ((with_reducible refine qj (f := 159) rfl ?_); refine gl 28 Try.func159 #[.slice A364_0 (jl t358 x22_1).length c364_0, .int .i64 1] ?_; (with_reducible refine (qk.calls k1 _ _ (jl t358 x22_1) 1 t365 _ ?_ ?_ A12.out).mono ?_); exact wC HR364_0; exact HC364_0.out; rintro e w' ⟨rfl, ⟨nd, rfl⟩⟩; refine ⟨_, rfl, ?_⟩) | ((with_reducible refine jp (b := .append) (xs := #[.tmp 26, .tmp 29]) rfl ?_); at_builtin; refine Kd.R_append (Kd.int .i64) (w0 := w) w.heap.size rfl (.tmp 26) (.tmp 29) 23 3 (.int .i64 0) 8 rfl Try.underlying23 qag rfl (by decide) (by omega) u8 x8_1 t365 [.int .i64 t365] (fun _ => True) (fun _ => False) rfl rfl ?aP (fun _ hk => hk.elim) ?aF ?aO ?aB ?aS ?aL ?_; (case aP => exact rfl); (case aB => exact (bw HB)); (case aF => exact (fun _ _ => trivial)); (case aO => exact (wR HO_8)); (case aS => exact (bz HB)); (case aL => have := LMc13.out; omega); intro v367 w14 ho hb hg hat; rw [← Ny366.out] at ho; replace HO_7 := am (Kd.S_after (ok := (fun _ => True)) (oS_ HO_7 (fun _ hk => ⟨trivial, hk⟩)) hg hat); replace HO_20 := am (Kd.S_after (ok := (fun _ => True)) (oS_ HO_20 (fun _ hk => ⟨trivial, hk⟩)) hg hat); replace HL364_0 := am (Kd.R_after (ok := (fun k_ => some k_ ≠ (.slice (some ad364) t358.length co8 : Value).ownBlock)) (oR_ HL364_0 (fun _ hk => ⟨hk.2, hk.1⟩)) hg hat); replace HB := am (hb); have HO368 := am (ho); clear HO_8; clear ho hb hg hat))
    go_roundg k1
    case measure => have := HK1.out; omega
    case rel => exact ⟨(y366), (wrap64 (x22_1 + 1)), fr, H', ⟨by have := HK1.out; omega⟩, ⟨Kd.S_below (Kd.S_mono HO_7.out (fun _ hk => hk.2)) gs⟩, ⟨wR HO368⟩, ⟨Kd.S_below (Kd.S_mono HO_20.out (fun _ hk => hk.2)) gs⟩, ⟨bw HB⟩⟩
   ·rw [if_neg c9] at H
    have c9b0 := decide_eq_false c9; clear c9
    generalize hy369 : (([] : List (List Int))) = y369 at H
    have Ny369 := am hy369.symm; clear hy369; have H' := am H; clear H
    go_wp2_with (first | ((with_reducible refine q6 (N := 32) rfl ?_); refine Kd.S_lit (Kd.slice 3 (Kd.int .i64)) _ 23 ?hg (N := 32) ?hd (xs := ([] : List (List Int))) (inner := []) (ok := fun _ => True) (okp := fun _ => True) ?hr ?hp (fun _ hk => hk) trivial (Below.refl _ _) (Nat.le_refl _) (by simp) ?_; (case hd => rfl); (case hg => rfl); (case hr => first | (go_simp; done) | (go_simp; rfl)); (case hp => exact (Reps.none _ _)); intro v370 w15 ho16 hb hg_ hnew_; clear hg_ hnew_; (first | rw [← Ny369.out] at ho16 | (simp only [Int.reduceToNat] at ho16; rw [← Ny369.out] at ho16)); have HO371 := am (Kd.S_lower (Kd.S_new' (Kd.S_new' (Kd.S_new' ho16 (Kd.S_lt (wS HO_7))) (Kd.R_lt (wR HO_8))) (Kd.S_lt (wS HO_20))) (bz HB)); replace HO_7 := eS HO_7 (Kd.S_base ho16) hb; replace HO_8 := am (Kd.R_below (wR HO_8) hb); replace HO_20 := eS HO_20 (Kd.S_base ho16) hb; replace HB := bq HB hb; clear hb ho16))
    go_loopg [11, 34] k1 (fun kq v11 v34 w' => ∃ (x8_2 : List Int) (x11_2 : List (List Int)) (x34_2 : Int), v34 = .int .i64 x34_2 ∧ qb (qi.l1 kq a0 a2 t358 x8_2 x11_2 a2 x34_2 = some r) ∧ qb (kq ≤ k1) ∧ qb (Kd.S (Kd.slice 3 (Kd.int .i64)) 23 w' w.heap.size (fun k_ => some k_ ≠ (u8 : Value).ownBlock ∧ some k_ ≠ (v11 : Value).ownBlock) (.slice Ao8 t358.length co8) t358) ∧ qb (Kd.R (Kd.int .i64) 3 w' w.heap.size (fun _ => True) u8 x8_2) ∧ qb (Kd.S (Kd.slice 3 (Kd.int .i64)) 23 w' w.heap.size (fun k_ => some k_ ≠ ((.slice Ao8 t358.length co8) : Value).ownBlock ∧ some k_ ≠ (u8 : Value).ownBlock) v11 x11_2) ∧ qb (Below w.heap.size w w'))
    case atStart => exact ⟨(x8_1), (y369), (0), fr, H', ⟨Nat.le_refl _⟩, ⟨wS HO_7⟩, ⟨wR HO_8⟩, ⟨Kd.S_below (Kd.S_mono HO371.out (fun _ hk => ⟨hk.1.1.2, hk.1.2⟩)) gs⟩, ⟨bw HB⟩⟩
    case round =>
     clear H'; try clear c1; try clear p2; try clear c3; try clear p3; try clear q3; try clear hx3; try clear p6; try clear c9; try clear c9b0; try clear c10; try clear c10b0; try clear c11; try clear c11b0; try clear c13; try clear c15; try clear hx364_0
     try clear p2; try clear p364; try clear q364
     obtain ⟨x8_2, x11_2, x34_2, rfl, HA, HK2, HO_7, HO_8, HO_11, HB⟩ := hrel
     cases gk with
     | zero => exact absurd HA.out (by simp [qi.l1])
     | succ k2 =>
      have H := HA.out; clear HA
      simp only [qi.l1] at H
      by_cases c17 : x34_2 < a2
      ·rw [if_pos c17] at H
       have c17b0 := decide_eq_true c17; clear c17; replace H := bs H; obtain ⟨t375, A18, H⟩ := H
       by_cases c19 : t375 = true
       ·subst c19
        rw [if_pos rfl] at H
        have H' := am H; clear H
        obtain ⟨Ao20, co20, eo20⟩ := Kd.R_slice HO_8.out
        subst eo20
        go_wp2_with (first | ((with_reducible refine qj (f := 155) rfl ?_); refine gl 39 Try.func155 #[.slice Ao20 x8_2.length co20, .int .i64 x34_2] ?_; (with_reducible refine (qt.calls k2 _ _ x8_2 x34_2 true _ ?_ ?_ A18.out).mono ?_); exact Kd.C_below (Kd.R_reads' HO_8.out).2.2 gs; exact (Kd.R_reads' HO_8.out).2.1; rintro e w' ⟨rfl, ⟨nd, rfl⟩⟩; refine ⟨_, rfl, ?_⟩))
        go_roundg k2
        case measure => have := HK1.out; have := HK2.out; omega
        case rel => exact ⟨(x8_2), (x11_2), (wrap64 (x34_2 + 1)), fr, H', ⟨by have := HK1.out; have := HK2.out; omega⟩, ⟨wS HO_7⟩, ⟨wR HO_8⟩, ⟨wS HO_11⟩, ⟨bw HB⟩⟩
       ·replace c19 := Bool.eq_false_iff.mpr c19
        subst c19
        rw [if_neg (show ¬ (false = true) by decide)] at H
        replace H := ifn H; obtain ⟨c21, H⟩ := H; have c21b0 := eq_true c21; have c21b1 := decide_eq_true c21; clear c21; replace H := ifn H; obtain ⟨c22, H⟩ := H; have c22b0 := eq_true c22; have c22b1 := decide_eq_true c22; clear c22; replace H := bsy H
        obtain ⟨y376, Ny376, H⟩ := H; replace H := ifn H; obtain ⟨c23, H⟩ := H; have c23b0 := decide_eq_true c23; clear c23; replace H := ifn H; obtain ⟨c24, H⟩ := H; have c24b0 := decide_eq_true c24; clear c24
        generalize hy379 : (y376.set (x34_2 : Int).toNat 1 : List Int) = y379 at H
        have Ny379 := am hy379.symm; clear hy379; have H' := am H; clear H
        obtain ⟨Ao26, co26, eo26⟩ := Kd.R_slice HO_8.out
        subst eo26
        go_wp2_with (first | ((with_reducible refine qj (f := 155) rfl ?_); refine gl 39 Try.func155 #[.slice Ao26 x8_2.length co26, .int .i64 x34_2] ?_; (with_reducible refine (qt.calls k2 _ _ x8_2 x34_2 false _ ?_ ?_ A18.out).mono ?_); exact Kd.C_below (Kd.R_reads' HO_8.out).2.2 gs; exact (Kd.R_reads' HO_8.out).2.1; rintro e w' ⟨rfl, ⟨nd, rfl⟩⟩; refine ⟨_, rfl, ?_⟩; (try (rw [Zb wr]; generalize hq_ : World.drewN wr _ = wr; have n0_ : qb (Kd.S (Kd.slice 3 (Kd.int .i64)) 23 wr w.heap.size (fun k_ => some k_ ≠ (.slice Ao8 t358.length co8 : Value).ownBlock ∧ some k_ ≠ (.slice Ao26 x8_2.length co26 : Value).ownBlock) u11 x11_2) := ⟨by rw [← hq_]; exact (wS HO_11)⟩; have n1_ : qb (Kd.S (Kd.slice 3 (Kd.int .i64)) 23 wr w.heap.size (fun k_ => some k_ ≠ (u11 : Value).ownBlock ∧ some k_ ≠ (.slice Ao26 x8_2.length co26 : Value).ownBlock) (.slice Ao8 t358.length co8) t358) := ⟨by rw [← hq_]; exact (oS_ HO_7 (fun _ hk => ⟨hk.2, hk.1⟩))⟩; have n2_ : qb (Kd.R (Kd.int .i64) 3 wr w.heap.size (fun _ => True) (.slice Ao26 x8_2.length co26) x8_2) := ⟨by rw [← hq_]; exact (wR HO_8)⟩; have n3_ : qb (Below w.heap.size w wr) := ⟨by rw [← hq_]; exact (bw HB)⟩; clear HO_11 HO_7 HO_8 HB hq_; have HO_11 := n0_; have HO_7 := n1_; have HO_8 := n2_; have HB := n3_; clear n0_ n1_ n2_ n3_))) | ((with_reducible refine q6 (N := 41) rfl ?_); refine Kd.R_make (Kd.int .i64) _ 3 rfl (N := 41) rfl 23 _ _ rfl a2 rfl rfl Try.underlying23 (.int .i64 0) 8 qag rfl (by decide) (by omega) 0 (ok := fun _ => True) (okp := fun _ => True) rfl (fun _ hk => hk) trivial (od) (Nat.le_trans (Nat.mul_le_mul_right _ (od : a2.toNat ≤ 35184372088832)) (by omega)) (Below.refl _ _) (Nat.le_refl _) ?_; intro v377 w27 ho28 hb hg_ hnew_; clear hg_ hnew_; (first | rw [← Ny376.out] at ho28 | (simp only [Int.reduceToNat] at ho28; rw [← Ny376.out] at ho28)); replace HO_7 := eS HO_7 (Kd.R_base ho28) hb; replace HO_11 := eS HO_11 (Kd.R_base ho28) hb; have HO378 := am (Kd.R_lower (Kd.R_new' ho28 (Kd.R_lt (wR HO_8))) (bz HB)); replace HO_8 := eR HO_8 (Kd.R_base ho28) hb; replace HB := bq HB hb; clear hb ho28; have p25 : 0 ≤ (x34_2 : Int) := od; have q25 : (x34_2 : Int) < ((y376.length : Int) : Int) := od; obtain ⟨go25, co25, eo25, gb25, gl25, cl25, HG25⟩ := Kd.R_form HO378.out (by omega); (first | cases eo25 | (injection eo25 with ea_ en_ ec_; (first | subst ea_ | (injection ea_ with ea_; subst ea_)); subst ec_; clear en_)); have GB25 := am gb25; have GG25 := am HG25; clear gb25 gl25 HG25; obtain ⟨hx25_0, hf25_0⟩ := Kd.R_celln 0 HO378.out (x34_2 : Int) p25 q25; replace p25 := eq_true p25; replace q25 := eq_true q25; have n_ := am (Kd.R_mono (ok' := (fun k_ => some k_ ≠ (.slice Ao26 x8_2.length co26 : Value).ownBlock)) HO378.out (fun k_ hk => hk.2)); clear HO378; have HO378 := n_; clear n_; obtain ⟨hy29_, hz29_⟩ := Kd.R_celln 0 HO378.out (x34_2 : Int) (od) (od); have HP29 := Kd.R_putg HO378.out (x34_2 : Int) 1))
        obtain ⟨w30, hw⟩ : ∃ w_, w_ = (w27.setCell ⟨go25, (x34_2 : Int).toNat, none⟩ (.int .i64 1)) := ⟨_, rfl⟩
        rw [← hw]
        (have hg : w27.grownBy w30 (some go25) := (by rw [hw]; exact HP29.2); have hp_ : Kd.R (Kd.int .i64) 3 w30 w.heap.size (fun k_ => some k_ ≠ (.slice Ao26 x8_2.length co26 : Value).ownBlock) (.slice (some ⟨go25, 0, none⟩) y376.length co25) y379 := (by rw [hw, Ny379.out]; exact HP29.1); clear HP29; have n0_ := am (Kd.S_after (v := (.slice (some ⟨go25, 0, none⟩) y376.length co25)) (v1 := (.slice (some ⟨go25, 0, none⟩) y376.length co25)) (ok := (fun k_ => some k_ ≠ (.slice Ao26 x8_2.length co26 : Value).ownBlock ∧ some k_ ≠ (u11 : Value).ownBlock)) (by (with_reducible repeat (first | apply Kd.S_alloc | apply Kd.S_drewN | apply Kd.S_drew)); first | exact HO_7.out | exact Kd.S_mono HO_7.out (fun _ h => ⟨⟨h.1.2, h.1.1⟩, h.2⟩)) hg (.inl rfl)); have n1_ := am (Kd.R_after (v := (.slice (some ⟨go25, 0, none⟩) y376.length co25)) (v1 := (.slice (some ⟨go25, 0, none⟩) y376.length co25)) (ok := (fun _ => True)) (by (with_reducible repeat (first | apply Kd.R_alloc | apply Kd.R_drewN | apply Kd.R_drew)); first | exact HO_8.out | exact Kd.S_mono HO_8.out (fun _ h => ⟨⟨h.1.2, h.1.1⟩, h.2⟩)) hg (.inl rfl)); have n2_ := am (Kd.S_after (v := (.slice (some ⟨go25, 0, none⟩) y376.length co25)) (v1 := (.slice (some ⟨go25, 0, none⟩) y376.length co25)) (ok := (fun k_ => some k_ ≠ (.slice Ao8 t358.length co8 : Value).ownBlock ∧ some k_ ≠ (.slice Ao26 x8_2.length co26 : Value).ownBlock)) (by (with_reducible repeat (first | apply Kd.S_alloc | apply Kd.S_drewN | apply Kd.S_drew)); first | exact HO_11.out | exact Kd.S_mono HO_11.out (fun _ h => ⟨⟨h.1.2, h.1.1⟩, h.2⟩)) hg (.inl rfl)); have n3_ := am (hp_); have n4_ := am ((by rw [hw]; exact z6 (HB.out) GB25.out : Below w.heap.size w w30)); clear HO_7; clear HO_8; clear HO_11; clear HO378; clear HB; have HO_7 := n0_; have HO_8 := n1_; have HO_11 := n2_; have HO378 := n3_; have HB := n4_; clear n0_ n1_ n2_ n3_ n4_; clear hg hw hp_)
        go_loopg [47] k2 (fun kq v47 w' => ∃ (x13_3 : List Int) (x47_3 : Int), v47 = .int .i64 x47_3 ∧ qb (qi.l2 kq a0 a2 t358 x8_2 x11_2 x34_2 x13_3 a2 x34_2 t358 (t358.length : Int) x47_3 = some r) ∧ qb (kq ≤ k2) ∧ qb (Kd.S (Kd.slice 3 (Kd.int .i64)) 23 w' w.heap.size (fun k_ => some k_ ≠ ((.slice Ao26 x8_2.length co26) : Value).ownBlock ∧ some k_ ≠ (u11 : Value).ownBlock ∧ some k_ ≠ ((.slice (some ⟨go25, 0, none⟩) y376.length co25) : Value).ownBlock) (.slice Ao8 t358.length co8) t358) ∧ qb (Kd.R (Kd.int .i64) 3 w' w.heap.size (fun k_ => some k_ ≠ ((.slice (some ⟨go25, 0, none⟩) y376.length co25) : Value).ownBlock) (.slice Ao26 x8_2.length co26) x8_2) ∧ qb (Kd.S (Kd.slice 3 (Kd.int .i64)) 23 w' w.heap.size (fun k_ => some k_ ≠ ((.slice Ao8 t358.length co8) : Value).ownBlock ∧ some k_ ≠ ((.slice Ao26 x8_2.length co26) : Value).ownBlock ∧ some k_ ≠ ((.slice (some ⟨go25, 0, none⟩) y376.length co25) : Value).ownBlock ∧ some k_ ≠ ((.slice Ao8 t358.length co8) : Value).ownBlock) u11 x11_2) ∧ qb (Kd.R (Kd.int .i64) 3 w' w.heap.size (fun k_ => some k_ ≠ ((.slice Ao26 x8_2.length co26) : Value).ownBlock) (.slice (some ⟨go25, 0, none⟩) y376.length co25) x13_3) ∧ qb (Kd.S (Kd.slice 3 (Kd.int .i64)) 23 w' w.heap.size (fun k_ => some k_ ≠ ((.slice Ao26 x8_2.length co26) : Value).ownBlock ∧ some k_ ≠ (u11 : Value).ownBlock ∧ some k_ ≠ ((.slice (some ⟨go25, 0, none⟩) y376.length co25) : Value).ownBlock) (.slice Ao8 t358.length co8) t358) ∧ qb (Below w.heap.size w w'))
        case atStart => exact ⟨(y379), (0), fr, H', ⟨Nat.le_refl _⟩, ⟨Kd.S_below (Kd.S_mono HO_7.out (fun _ hk => ⟨hk.1.1, ⟨hk.1.2, hk.2⟩⟩)) gs⟩, ⟨Kd.R_below (Kd.R_mono HO_8.out (fun _ hk => hk.2)) gs⟩, ⟨Kd.S_below (Kd.S_mono HO_11.out (fun _ hk => ⟨hk.1.1, ⟨hk.1.2, ⟨hk.2, hk.1.1⟩⟩⟩)) gs⟩, ⟨wR HO378⟩, ⟨Kd.S_below (Kd.S_mono HO_7.out (fun _ hk => ⟨hk.1.1, ⟨hk.1.2, hk.2⟩⟩)) gs⟩, ⟨bw HB⟩⟩
        case round =>
         clear H'; try clear c1; try clear c2; try clear p2; try clear q2; try clear hx2; try clear c3; try clear p3; try clear q3; try clear hx3; try clear p6; try clear c9; try clear c9b0; try clear c10; try clear c10b0; try clear c11; try clear c11b0
         try clear c13; try clear c15; try clear c17; try clear c17b0; try clear c19; try clear c21; try clear c21b0; try clear c21b1; try clear c22; try clear c22b0; try clear c22b1; try clear c23; try clear c23b0; try clear c24; try clear c24b0; try clear p25
         try clear q25; try clear hx25; try clear hf25; try clear hx25_0; try clear hx364_0; try clear p2; try clear p25; try clear p3; try clear p364; try clear p6; try clear q25; try clear q3; try clear q364
         obtain ⟨x13_3, x47_3, rfl, HA, HK3, HO_7, HO_8, HO_11, HO_13, HO_45, HB⟩ := hrel
         have hl13_3 := (Kd.R_reads' HO_13.out).1
         rw [hl13_3] at HO_13
         (try simp only [hl13_3])
         (try simp only [hl13_3] at HO_7)
         (try simp only [hl13_3] at HO_8)
         (try simp only [hl13_3] at HO_11)
         (try simp only [hl13_3] at HO_45)
         cases gk with
         | zero => exact absurd HA.out (by simp [qi.l2])
         | succ k3 =>
          have H := HA.out; clear HA
          simp only [qi.l2] at H
          by_cases c31 : x47_3 < (t358.length : Int)
          ·rw [if_pos c31] at H
           have c31b0 := decide_eq_true c31; clear c31; replace H := ifn H; obtain ⟨c32, H⟩ := H; have c32b0 := decide_eq_true c32; clear c32; replace H := ifn H; obtain ⟨c33, H⟩ := H; have c33b0 := decide_eq_true c33; clear c33; replace H := ifn H; obtain ⟨c34, H⟩ := H
           have c34b0 := decide_eq_true c34; clear c34; replace H := ifn H; obtain ⟨c35, H⟩ := H; have c35b0 := decide_eq_true c35; clear c35; replace H := ifn H; obtain ⟨c36, H⟩ := H; have c36b0 := decide_eq_true c36; clear c36; replace H := bs H; obtain ⟨t383, A37, H⟩ := H
           replace H := ifn H; obtain ⟨c38, H⟩ := H; have c38b0 := decide_eq_true c38; clear c38; replace H := ifn H; obtain ⟨c39, H⟩ := H; have c39b0 := decide_eq_true c39; clear c39
           generalize hy384 : (x13_3.set ((rd x8_2 x47_3) : Int).toNat t383 : List Int) = y384 at H
           have Ny384 := am hy384.symm; clear hy384; have H' := am H; clear H
           have p380 : 0 ≤ (x47_3 : Int) := od
           have q380 : x47_3 < (t358.length : Int) := od
           obtain ⟨ad380, A380_0, c380_0, e380, hx380_0, hl380_0, hi380_0⟩ := qad (Kd.S_reads' HO_45.out).2.2 x47_3 p380 q380
           cases e380
           obtain ⟨ce380, hce380, hMe380, hcc380⟩ := Kd.S_get HO_45.out [] x47_3 p380 (by first | exact q380 | exact od | (have e_ := (Kd.S_reads' HO_45.out).1; omega))
           obtain ⟨ve380_0, rfl, ge380_0⟩ := hMe380
           have hv380_0 := hcc380 0 _ rfl
           rw [Nat.add_zero, show ((Kd.slice 3 (Kd.int .i64))).sz = 1 from rfl, Nat.mul_one] at hv380_0
           replace hv380_0 := Option.some.inj (hv380_0.symm.trans hx380_0)
           rw [hv380_0] at ge380_0
           have HL380_0 := am (show Kd.R (Kd.int .i64) 3 _ _ _ _ (jl t358 x47_3) from ge380_0)
           clear hv380_0 ge380_0; clear hcc380 hce380
           have HR380_0 := am hi380_0
           have HC380_0 := am hl380_0
           clear hi380_0 hl380_0; replace p380 := eq_true p380; replace q380 := eq_true q380
           try go_wp2
           replace HO_7 := am (Kd.S_drew HO_7.out)
           replace HO_8 := am (Kd.R_drew HO_8.out)
           replace HO_11 := am (Kd.S_drew HO_11.out)
           replace HO_13 := am (Kd.R_drew HO_13.out)
           replace HO_45 := am (Kd.S_drew HO_45.out)
           replace HL380_0 := am (Kd.R_drew HL380_0.out)
           replace HR380_0 := am (Kd.C_drew HR380_0.out)
           replace HB := am (zc HB.out)
           have p381 : 0 ≤ (x47_3 : Int) := od
           have q381 : x47_3 < (x8_2.length : Int) := od
           obtain ⟨ad381, e381, hx381_0⟩ := Kd.at_int (Kd.R_reads' HO_8.out).2.2 x47_3 p381 q381
           cases e381; replace p381 := eq_true p381; replace q381 := eq_true q381
           have p382 : 0 ≤ (x34_2 : Int) := od
           have q382 : x34_2 < ((jl t358 x47_3).length : Int) := od
           obtain ⟨ad382, e382, hx382_0⟩ := Kd.at_int HR380_0.out x34_2 p382 q382
           cases e382; replace p382 := eq_true p382; replace q382 := eq_true q382
           refine st 14 (fun w' => w'.cell? (ad381.add (x47_3).toNat) = some (.int .i64 (rd x8_2 x47_3)) ∧ w'.cell? (ad382.add (x34_2).toNat) = some (.int .i64 (rd (jl t358 x47_3) x34_2))) [13] qi.tab18 qi.bits18 (⟨hx381_0, hx382_0⟩) fun hHeld HT_ HW_ => ?_
           generalize wr.drew = w41 at HO_7 HO_8 HO_11 HO_13 HO_45 HL380_0 HR380_0 HB hx381_0 hx382_0 hHeld ⊢
           refine pz 0 52 HT_ ?_; refine pz 1 53 HT_ ?_; refine pz 2 54 HT_ ?_; refine pz 3 55 HT_ ?_; refine pz 5 57 HT_ ?_; refine pz 6 58 HT_ ?_; refine pz 7 59 HT_ ?_; refine pz 10 62 HT_ ?_; refine tk 4 56 HT_ HW_ hHeld ?_; refine tk 8 60 HT_ HW_ hHeld ?_
           refine pz 9 61 HT_ ?_
           refine on 11 (some 63) HT_ fun K hK => ?_
           refine gs_ Try.func126 #[.int .i64 (wrap64 (-(rd (jl t358 x47_3) x34_2))), .int .i64 a0] ?_
           with_reducible refine (Zt.calls (wrap64 (-(rd (jl t358 x47_3) x34_2))) a0 t383 _ A37.out).mono ?_
           rintro e w' ⟨rfl, ⟨nd, rfl⟩⟩
           refine ⟨_, rfl, ?_⟩
           have p40 : 0 ≤ ((rd x8_2 x47_3) : Int) := od
           have q40 : ((rd x8_2 x47_3) : Int) < ((x13_3.length : Int) : Int) := od
           obtain ⟨hx40_0, hf40_0⟩ := Kd.R_celln 0 HO_13.out ((rd x8_2 x47_3) : Int) p40 q40
           replace p40 := eq_true p40; replace q40 := eq_true q40
           have HP42 := Kd.R_putn HO_13.out ((rd x8_2 x47_3) : Int) t383
           rw [← Ny384.out] at HP42
           have HQ42 := am HP42
           clear HP42
           refine hK.out _ _ ⟨hHeld.1, hHeld.2⟩ fun hHeld => nz ?_
           clear hK K; refine pz 12 64 HT_ ?_
           refine la 13 none HT_ fun K hK => ?_
           refine qcu (w1 := ?_) (by rfl) rfl ?_ ?_
           rotate_left
           ·go_simp
            rfl
           refine hK.out _ _ ?_
           clear hK K
           refine Q4 (Qg HT_.out (by kernel_rfl)) ?_
           try go_wp2
           (try simp only [← hl13_3])
           go_roundg k3
           case measure => have := HK1.out; have := HK2.out; have := HK3.out; omega
           case rel => exact ⟨(y384), (wrap64 (x47_3 + 1)), fr, H', ⟨by have := HK1.out; have := HK2.out; have := HK3.out; omega⟩, ⟨by (try simp only [hl13_3]); (with_reducible repeat (first | apply Kd.S_alloc | apply Kd.S_drewN | apply Kd.S_drew)); exact Kd.S_mono (Kd.S_far (p := ⟨go25, ((rd x8_2 x47_3) : Int).toNat, none⟩) (Kd.S_mono HO_7.out (fun k_ hk => (⟨hk, fun e_ => hk.2.2 (by rw [e_]; rfl)⟩ : _ ∧ k_ ≠ go25))) (fun _ hk => hk.2) (.int .i64 t383)) (fun _ hk => ⟨hk.1.1, ⟨hk.1.2.1, hk.1.2.2⟩⟩)⟩, ⟨by (try simp only [hl13_3]); (with_reducible repeat (first | apply Kd.R_alloc | apply Kd.R_drewN | apply Kd.R_drew)); exact Kd.R_mono (Kd.R_far (p := ⟨go25, ((rd x8_2 x47_3) : Int).toNat, none⟩) (Kd.R_mono HO_8.out (fun k_ hk => (⟨hk, fun e_ => hk (by rw [e_]; rfl)⟩ : _ ∧ k_ ≠ go25))) (fun _ hk => hk.2) (.int .i64 t383)) (fun _ hk => hk.1)⟩, ⟨by (try simp only [hl13_3]); (with_reducible repeat (first | apply Kd.S_alloc | apply Kd.S_drewN | apply Kd.S_drew)); exact Kd.S_mono (Kd.S_far (p := ⟨go25, ((rd x8_2 x47_3) : Int).toNat, none⟩) (Kd.S_mono HO_11.out (fun k_ hk => (⟨hk, fun e_ => hk.2.2.1 (by rw [e_]; rfl)⟩ : _ ∧ k_ ≠ go25))) (fun _ hk => hk.2) (.int .i64 t383)) (fun _ hk => ⟨hk.1.1, ⟨hk.1.2.1, ⟨hk.1.2.2.1, hk.1.2.2.2⟩⟩⟩)⟩, ⟨by (try simp only [hl13_3]); (with_reducible repeat (first | apply Kd.R_alloc | apply Kd.R_drewN | apply Kd.R_drew)); exact HQ42.out⟩, ⟨by (try simp only [hl13_3]); (with_reducible repeat (first | apply Kd.S_alloc | apply Kd.S_drewN | apply Kd.S_drew)); exact Kd.S_mono (Kd.S_far (p := ⟨go25, ((rd x8_2 x47_3) : Int).toNat, none⟩) (Kd.S_mono HO_45.out (fun k_ hk => (⟨hk, fun e_ => hk.2.2 (by rw [e_]; rfl)⟩ : _ ∧ k_ ≠ go25))) (fun _ hk => hk.2) (.int .i64 t383)) (fun _ hk => ⟨hk.1.1, ⟨hk.1.2.1, hk.1.2.2⟩⟩)⟩, ⟨bx_ HB⟩⟩
          ·rw [if_neg c31] at H
           have c31b0 := decide_eq_false c31; clear c31; replace H := ifn H; obtain ⟨c43, H⟩ := H; have LMc43 := am c43; clear c43
           generalize hy385 : (x11_2 ++ [x13_3] : List (List Int)) = y385 at H
           have Ny385 := am hy385.symm; clear hy385; have H' := am H; clear H
           go_wp2_with (first | ((with_reducible refine jp (b := .append) (xs := #[.tmp 66, .tmp 68]) rfl ?_); at_builtin; refine Kd.S_append (Kd.slice 3 (Kd.int .i64)) (w0 := w) w.heap.size rfl (.tmp 66) (.tmp 68) 47 23 (.slice none 0 0) 24 rfl Try.underlying47 Zq rfl (by decide) (by omega) u11 x11_2 x13_3 [.slice (some ⟨go25, 0, none⟩) x13_3.length co25] (fun k_ => some k_ ≠ (.slice Ao8 t358.length co8 : Value).ownBlock ∧ some k_ ≠ (.slice Ao26 x8_2.length co26 : Value).ownBlock ∧ some k_ ≠ (.slice Ao8 t358.length co8 : Value).ownBlock) (fun k_ => some k_ = (.slice (some ⟨go25, 0, none⟩) x13_3.length co25 : Value).ownBlock) rfl rfl ?aP (fun k_ hk_ => ((Kd.R_mono (ok' := fun k_ => ((fun k_ => some k_ ≠ (.slice Ao8 t358.length co8 : Value).ownBlock ∧ some k_ ≠ (.slice Ao26 x8_2.length co26 : Value).ownBlock ∧ some k_ ≠ (.slice Ao8 t358.length co8 : Value).ownBlock)) k_ ∧ some k_ ≠ (u11 : Value).ownBlock) (Kd.R_apart' (Kd.R_apart' (Kd.R_apart' (HO_13.out) (Kd.S_typed HO_7.out) (by decide)) (Kd.S_typed HO_45.out) (by decide)) (Kd.S_typed HO_11.out) (by decide)) (fun k_ hk => ⟨⟨hk.1.1.2, ⟨hk.1.1.1, hk.1.2⟩⟩, hk.2⟩))).1 k_ hk_.symm) ?aF ?aO ?aB ?aS ?aL ?_; (case aP => exact Kd.M_row (Kd.R_mono (Kd.R_tight rfl (Kd.R_mono (ok' := fun k_ => ((fun k_ => some k_ ≠ (.slice Ao8 t358.length co8 : Value).ownBlock ∧ some k_ ≠ (.slice Ao26 x8_2.length co26 : Value).ownBlock ∧ some k_ ≠ (.slice Ao8 t358.length co8 : Value).ownBlock)) k_ ∧ some k_ ≠ (u11 : Value).ownBlock) (Kd.R_apart' (Kd.R_apart' (Kd.R_apart' (HO_13.out) (Kd.S_typed HO_7.out) (by decide)) (Kd.S_typed HO_45.out) (by decide)) (Kd.S_typed HO_11.out) (by decide)) (fun k_ hk => ⟨⟨hk.1.1.2, ⟨hk.1.1.1, hk.1.2⟩⟩, hk.2⟩))) (fun _ h_ => h_))); (case aB => exact (bw HB)); (case aF => exact (fun k_ hk => ⟨Kd.fresh' (Kd.S_lt (wS HO_7)) k_ hk, Kd.fresh' (Kd.R_lt (wR HO_8)) k_ hk, Kd.fresh' (Kd.S_lt (wS HO_45)) k_ hk⟩)); (case aO => exact (oS_ HO_11 (fun k_ hk => ⟨⟨hk.1, ⟨hk.2.1, hk.2.2.2⟩⟩, fun e_ => hk.2.2.1 e_⟩))); (case aS => exact (bz HB)); (case aL => have := LMc43.out; omega); intro v386 w44 ho hb hg hat; rw [← Ny385.out] at ho; replace HO_7 := am (Kd.S_after (ok := (fun k_ => some k_ ≠ (.slice Ao26 x8_2.length co26 : Value).ownBlock ∧ some k_ ≠ (.slice (some ⟨go25, 0, none⟩) x13_3.length co25 : Value).ownBlock)) (oS_ HO_7 (fun _ hk => ⟨⟨hk.1, hk.2.2⟩, hk.2.1⟩)) hg hat); replace HO_8 := am (Kd.R_over' (wR HO_8) (Kd.S_typed (wS HO_11)) (by decide) hg); replace HO_45 := am (Kd.S_after (ok := (fun k_ => some k_ ≠ (.slice Ao26 x8_2.length co26 : Value).ownBlock ∧ some k_ ≠ (.slice (some ⟨go25, 0, none⟩) x13_3.length co25 : Value).ownBlock)) (oS_ HO_45 (fun _ hk => ⟨⟨hk.1, hk.2.2⟩, hk.2.1⟩)) hg hat); replace HB := am (hb); have HO387 := am (ho); clear HO_11 HO_13; clear ho hb hg hat))
           (try simp only [← hl13_3])
           go_roundg k3
           case measure => have := HK1.out; have := HK2.out; have := HK3.out; omega
           case rel => exact ⟨(x8_2), (y385), (wrap64 (x34_2 + 1)), fr, H', ⟨by have := HK1.out; have := HK2.out; have := HK3.out; omega⟩, ⟨by (try simp only [hl13_3]); (with_reducible repeat (first | apply Kd.S_alloc | apply Kd.S_drewN | apply Kd.S_drew)); exact Kd.S_mono HO_7.out (fun _ hk => ⟨hk.1.1, hk.2⟩)⟩, ⟨by (try simp only [hl13_3]); (with_reducible repeat (first | apply Kd.R_alloc | apply Kd.R_drewN | apply Kd.R_drew)); exact Kd.R_mono HO_8.out (fun _ hk => trivial)⟩, ⟨by (try simp only [hl13_3]); (with_reducible repeat (first | apply Kd.S_alloc | apply Kd.S_drewN | apply Kd.S_drew)); exact Kd.S_mono HO387.out (fun _ hk => ⟨hk.1, hk.2.1⟩)⟩, ⟨bw HB⟩⟩
      ·rw [if_neg c17] at H
       have c17b0 := decide_eq_false c17; clear c17; replace H := bs H; obtain ⟨t372, A45, H⟩ := H; obtain rfl := Option.some.inj H
       obtain ⟨Ao46, co46, eo46⟩ := Kd.S_slice HO_11.out
       subst eo46
       go_wp2_with (first | ((with_reducible refine qj (f := 152) rfl ?_); refine gl 73 Try.func152 #[.int .i64 a0, .slice Ao46 x11_2.length co46] ?_; (with_reducible refine (z9.calls k2 a0 _ _ x11_2 t372 _ ?_ ?_ A45.out).mono ?_); exact Kd.C_below (Kd.S_reads' HO_11.out).2.2 gs; exact (Kd.S_reads' HO_11.out).2.1; rintro e w47 ⟨v373, rfl, ho0, hb⟩; refine ⟨_, rfl, ?_⟩; have HO374 := am (Kd.S_lower (Kd.S_new' (Kd.S_new' (Kd.S_new' ho0 (Kd.S_lt (wS HO_7))) (Kd.R_lt (wR HO_8))) (Kd.S_lt (wS HO_11))) (bz HB)); replace HO_7 := eS HO_7 (Kd.S_base ho0) hb; replace HO_8 := am (Kd.R_below (wR HO_8) hb); replace HO_11 := eS HO_11 (Kd.S_base ho0) hb; replace HB := bq HB hb; (try clear hb); (try clear ho0)))
       go_ret
       exact ⟨_, fq, Kd.S_below (Kd.S_mono HO374.out (fun _ hk => trivial)) gs, bw HB⟩
end Go.Proofs.Ytmgbpmihbljngaa.PA

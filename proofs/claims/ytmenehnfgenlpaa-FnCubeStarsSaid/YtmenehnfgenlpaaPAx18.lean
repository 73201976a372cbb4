-- Written by xprint.py, a program of this claim's own (over the kit's print.py)
import Derived.Test.YtmenehnfgenlpaaPAx0
import Derived.Test.YtmenehnfgenlpaaPAx6
import Derived.Test.YtmenehnfgenlpaaPAx7
import Derived.Test.YtmenehnfgenlpaaPAx8
namespace Go.Proofs.Ytmenehnfgenlpaa.PA
open Go.RowKit Go.Proofs.YtmenehnfgenlpaaW.PrintWords Go.Proofs.YtmenehnfgenlpaaW.PrintLast Go.Proofs.YtmenehnfgenlpaaW.PrintMore
attribute [local go_sem] max2_int min2_int max_two min_two max_three min_three max_four min_four   -- for this text's walks alone
set_option linter.unusedVariables false
set_option linter.unusedSimpArgs false

/-! ### impl_solutions: function 83 -/
mutual
def impl_solutions.l0 : Nat → Int → Int → List (List Int) → List Int → List (List Int) → Int → Int → Option ((List (List Int)))
 | 0, _, _, _, _, _, _, _ => none
 | k + 1, x0, x2, x7, x8, x20, x21, x22 => if x22 < x21 then (if 0 ≤ x22 then (if x22 < (x20.length : Int) then ((slices_Index_int_int.f k (rd_L1 x20 x22) 1).bind fun t551 => (if x8.length < 17592186044416 then (impl_solutions.l0 k x0 x2 x7 (x8 ++ [t551]) x20 x21 (wrap64 (x22 + 1))) else (none))) else (none)) else (none)) else (impl_solutions.l1 k x0 x2 x7 x8 (([] : List (List Int))) x2 0)
def impl_solutions.l1 : Nat → Int → Int → List (List Int) → List Int → List (List Int) → Int → Int → Option ((List (List Int)))
 | 0, _, _, _, _, _, _, _ => none
 | k + 1, x0, x2, x7, x8, x11, x33, x34 => if x34 < x33 then ((slices_Contains_int_int.f k x8 x34).bind fun t561 => (if t561 = true then (impl_solutions.l1 k x0 x2 x7 x8 x11 x33 (wrap64 (x34 + 1))) else (if 0 ≤ x2 then (if (x2 : Int).toNat ≤ 35184372088832 then ((some (List.replicate (x2 : Int).toNat 0 : List Int)).bind fun y562 => (if 0 ≤ x34 then (if x34 < (y562.length : Int) then (impl_solutions.l2 k x0 x2 x7 x8 x11 x34 (y562.set (x34 : Int).toNat 1) x33 x34 x7 (x7.length : Int) 0) else (none)) else (none))) else (none)) else (none)))) else ((impl_reduced.f k x0 x11).bind fun t558 => (some t558))
def impl_solutions.l2 : Nat → Int → Int → List (List Int) → List Int → List (List Int) → Int → List Int → Int → Int → List (List Int) → Int → Int → Option ((List (List Int)))
 | 0, _, _, _, _, _, _, _, _, _, _, _, _ => none
 | k + 1, x0, x2, x7, x8, x11, x12, x13, x33, x34, x45, x46, x47 => if x47 < x46 then (if 0 ≤ x47 then (if x47 < (x45.length : Int) then (if x47 < (x8.length : Int) then (if 0 ≤ x12 then (if x12 < ((rd_L1 x45 x47).length : Int) then ((impl_mod.f (wrap64 (-(rd (rd_L1 x45 x47) x12))) x0).bind fun t569 => (if 0 ≤ (rd x8 x47) then (if (rd x8 x47) < (x13.length : Int) then (impl_solutions.l2 k x0 x2 x7 x8 x11 x12 (x13.set ((rd x8 x47) : Int).toNat t569) x33 x34 x45 x46 (wrap64 (x47 + 1))) else (none)) else (none))) else (none)) else (none)) else (none)) else (none)) else (none)) else (if x11.length < 5864062014805 then (impl_solutions.l1 k x0 x2 x7 x8 (x11 ++ [x13]) x33 (wrap64 (x34 + 1))) else (none))
end
def impl_solutions.f (k : Nat) (a0 : Int) (l1 : List (List Int)) (a2 : Int) : Option ((List (List Int))) := (impl_reduced.f k a0 l1).bind fun t544 => (impl_solutions.l0 k a0 a2 t544 (([] : List Int)) t544 (t544.length : Int) 0)
theorem impl_solutions.mono_l : ∀ k, (∀ y0 y1 y2 y3 y4 y5 y6, LeO (impl_solutions.l0 k y0 y1 y2 y3 y4 y5 y6) (impl_solutions.l0 (k + 1) y0 y1 y2 y3 y4 y5 y6)) ∧ (∀ y0 y1 y2 y3 y4 y5 y6, LeO (impl_solutions.l1 k y0 y1 y2 y3 y4 y5 y6) (impl_solutions.l1 (k + 1) y0 y1 y2 y3 y4 y5 y6)) ∧ (∀ y0 y1 y2 y3 y4 y5 y6 y7 y8 y9 y10 y11, LeO (impl_solutions.l2 k y0 y1 y2 y3 y4 y5 y6 y7 y8 y9 y10 y11) (impl_solutions.l2 (k + 1) y0 y1 y2 y3 y4 y5 y6 y7 y8 y9 y10 y11))
 | 0 => ⟨fun _ _ _ _ _ _ _ r h => by simp [impl_solutions.l0] at h, fun _ _ _ _ _ _ _ r h => by simp [impl_solutions.l1] at h, fun _ _ _ _ _ _ _ _ _ _ _ _ r h => by simp [impl_solutions.l2] at h⟩
 | k + 1 => by
  obtain ⟨ih0, ih1, ih2⟩ := impl_solutions.mono_l k
  refine ⟨?_, ?_, ?_⟩
  ·intro y0 y1 y2 y3 y4 y5 y6
   unfold impl_solutions.l0
   repeat' first | (with_reducible first | apply ih0 | apply ih1 | apply ih2 | apply impl_reduced.mono | apply slices_Contains_int_int.mono | apply slices_Index_int_int.mono | exact LeO.refl _ | exact LeO.none _ | refine LeO.ite ?_ ?_ | refine LeO.bind ?_ (fun _ => ?_)) | (first | apply ih0 | apply ih1 | apply ih2 | apply impl_reduced.mono | apply slices_Contains_int_int.mono | apply slices_Index_int_int.mono | exact LeO.none _ | refine LeO.ite ?_ ?_ | refine LeO.bind ?_ (fun _ => ?_))
  ·intro y0 y1 y2 y3 y4 y5 y6
   unfold impl_solutions.l1
   repeat' first | (with_reducible first | apply ih0 | apply ih1 | apply ih2 | apply impl_reduced.mono | apply slices_Contains_int_int.mono | apply slices_Index_int_int.mono | exact LeO.refl _ | exact LeO.none _ | refine LeO.ite ?_ ?_ | refine LeO.bind ?_ (fun _ => ?_)) | (first | apply ih0 | apply ih1 | apply ih2 | apply impl_reduced.mono | apply slices_Contains_int_int.mono | apply slices_Index_int_int.mono | exact LeO.none _ | refine LeO.ite ?_ ?_ | refine LeO.bind ?_ (fun _ => ?_))
  ·intro y0 y1 y2 y3 y4 y5 y6 y7 y8 y9 y10 y11
   unfold impl_solutions.l2
   repeat' first | (with_reducible first | apply ih0 | apply ih1 | apply ih2 | apply impl_reduced.mono | apply slices_Contains_int_int.mono | apply slices_Index_int_int.mono | exact LeO.refl _ | exact LeO.none _ | refine LeO.ite ?_ ?_ | refine LeO.bind ?_ (fun _ => ?_)) | (first | apply ih0 | apply ih1 | apply ih2 | apply impl_reduced.mono | apply slices_Contains_int_int.mono | apply slices_Index_int_int.mono | exact LeO.none _ | refine LeO.ite ?_ ?_ | refine LeO.bind ?_ (fun _ => ?_))
theorem impl_solutions.mono : ∀ a0 a1 a2 k, LeO (impl_solutions.f k a0 a1 a2) (impl_solutions.f (k + 1) a0 a1 a2) := by
 intro a0 a1 a2 k
 obtain ⟨ih0, ih1, ih2⟩ := impl_solutions.mono_l k
 unfold impl_solutions.f
 repeat' first | (with_reducible first | apply ih0 | apply ih1 | apply ih2 | apply impl_reduced.mono | apply slices_Contains_int_int.mono | apply slices_Index_int_int.mono | exact LeO.refl _ | exact LeO.none _ | refine LeO.ite ?_ ?_ | refine LeO.bind ?_ (fun _ => ?_)) | (first | apply ih0 | apply ih1 | apply ih2 | apply impl_reduced.mono | apply slices_Contains_int_int.mono | apply slices_Index_int_int.mono | exact LeO.none _ | refine LeO.ite ?_ ?_ | refine LeO.bind ?_ (fun _ => ?_))
def impl_solutions.T18 : Bool × List (List Nat × List Nat) := (true, [([], []), ([], []), ([], []), ([1, 2], [1, 2]), ([3], [3]), ([], []), ([], []), ([5, 6], [5, 6]), ([7], [7]), ([8], [8]), ([], []), ([9, 10], [9, 10]), ([0, 4, 0, 1, 2, 3, 4, 5, 6, 7, 8, 9, 10, 11], [0, 4]), ([12, 11, 11, 0, 1, 2, 3, 4, 5, 6, 7, 8, 9, 10, 11], [11, 12])])
def impl_solutions.B18 : List Nat := [0, 0, 0, 6, 14, 0, 0, 96, 224, 480, 0, 2016, 4095, 8191]
theorem impl_solutions.tab18 : rtab .any (opsOf Try.f83 18) = impl_solutions.T18 := by kernel_rfl
theorem impl_solutions.bits18 : waitsOk impl_solutions.T18.2 impl_solutions.B18 = true := by kernel_rfl
set_option maxHeartbeats 8000000 in
set_option maxRecDepth 100000 in
theorem impl_solutions.calls (k : Nat) (a0 : Int) (A1 : Option Addr) (c1 : Nat) (l1 : List (List Int)) (a2 : Int) (r : List (List Int)) (w : World) (hr1 : Kd.C (Kd.slice 3 (Kd.int .i64)) w A1 l1.length l1) (hc1 : l1.length ≤ c1) (h : impl_solutions.f k a0 l1 a2 = some r) :
  Calls Try.prog 83 #[.int .i64 a0, .slice A1 l1.length c1, .int .i64 a2] w fun e w' => ∃ v0_ : Value, e = .returned (v0_) ∧ Kd.S (Kd.slice 3 (Kd.int .i64)) 22 w' w.heap.size (fun _ => True) v0_ r ∧ Below w.heap.size w w' := by
 have HR1 := am hr1
 have HC1 := am hc1
 clear hr1 hc1
 have HB := am (Below.refl w.heap.size w)
 have H : ((impl_reduced.f k a0 l1).bind fun t544 => (impl_solutions.l0 k a0 a2 t544 (([] : List Int)) t544 (t544.length : Int) 0)) = some r := h
 clear h; replace H := bs H; obtain ⟨t544, A4, H⟩ := H
 generalize hy547 : (([] : List Int)) = y547 at H
 have Ny547 := am hy547.symm; clear hy547; have H' := am H; clear H
 go_enter Try.func83, Try.ntmps83
 go_wp2_with (first | ((with_reducible refine gate_callee (f := 82) rfl ?_); refine gl 18 Try.func82 #[.int .i64 a0, .slice A1 l1.length c1] ?_; (with_reducible refine (impl_reduced.calls k a0 _ _ l1 t544 _ ?_ ?_ A4.out).mono ?_); exact wC HR1; exact HC1.out; rintro e w5 ⟨v545, rfl, ho0, hb⟩; refine ⟨_, rfl, ?_⟩; have HO546 := am (Kd.S_lower ho0 (bz HB)); replace HB := bq HB hb; (try clear hb); (try clear ho0)) | ((with_reducible refine gate_dst (N := 19) rfl ?_); refine li 3 ([] : List Int) ?_; intro v548 w6 ho7 hb; (first | rw [← Ny547.out] at ho7 | (simp only [Int.reduceToNat] at ho7; rw [← Ny547.out] at ho7)); replace HO546 := eS HO546 (Kd.R_base ho7) hb; have HO549 := am (Kd.R_lower ho7 (bz HB)); replace HB := bq HB hb; clear hb ho7; obtain ⟨Ao8, co8, eo8⟩ := Kd.S_slice HO546.out; subst eo8))
 go_loopg [8, 22] k (fun kq v8 v22 w' => ∃ (x8_1 : List Int) (x22_1 : Int), v22 = .int .i64 x22_1 ∧ Aside0 (impl_solutions.l0 kq a0 a2 t544 x8_1 t544 (t544.length : Int) x22_1 = some r) ∧ Aside0 (kq ≤ k) ∧ Aside0 (Kd.S (Kd.slice 3 (Kd.int .i64)) 22 w' w.heap.size (fun k_ => some k_ ≠ (v8 : Value).ownBlock) (.slice Ao8 t544.length co8) t544) ∧ Aside0 (Kd.R (Kd.int .i64) 3 w' w.heap.size (fun _ => True) v8 x8_1) ∧ Aside0 (Kd.S (Kd.slice 3 (Kd.int .i64)) 22 w' w.heap.size (fun k_ => some k_ ≠ (v8 : Value).ownBlock) (.slice Ao8 t544.length co8) t544) ∧ Aside0 (Below w.heap.size w w'))
 case atStart => exact ⟨(y547), (0), fr, H', ⟨Nat.le_refl _⟩, ⟨Kd.S_below (Kd.S_mono HO546.out (fun _ hk => hk.2)) gs⟩, ⟨wR HO549⟩, ⟨Kd.S_below (Kd.S_mono HO546.out (fun _ hk => hk.2)) gs⟩, ⟨bw HB⟩⟩
 case round =>
  clear H'; try clear c1; try clear p2; try clear c8
  obtain ⟨x8_1, x22_1, rfl, HA, HK1, HO_7, HO_8, HO_20, HB⟩ := hrel
  cases gk with
  | zero => exact absurd HA.out (by simp [impl_solutions.l0])
  | succ k1 =>
   have H := HA.out; clear HA
   simp only [impl_solutions.l0] at H
   by_cases c9 : x22_1 < (t544.length : Int)
   ·rw [if_pos c9] at H
    have c9b0 := decide_eq_true c9; clear c9; replace H := ifn H; obtain ⟨c10, H⟩ := H; have c10b0 := decide_eq_true c10; clear c10; replace H := ifn H; obtain ⟨c11, H⟩ := H; have c11b0 := decide_eq_true c11; clear c11; replace H := bs H; obtain ⟨t551, A12, H⟩ := H
    replace H := ifn H; obtain ⟨c13, H⟩ := H; have LMc13 := am c13; clear c13
    generalize hy552 : (x8_1 ++ [t551] : List Int) = y552 at H
    have Ny552 := am hy552.symm; clear hy552; have H' := am H; clear H
    have p550 : 0 ≤ (x22_1 : Int) := od
    have q550 : x22_1 < (t544.length : Int) := od
    obtain ⟨ad550, A550_0, c550_0, e550, hx550_0, hl550_0, hi550_0⟩ := at_L1 (Kd.S_reads' HO_20.out).2.2 x22_1 p550 q550
    cases e550
    obtain ⟨ce550, hce550, hMe550, hcc550⟩ := Kd.S_get HO_20.out [] x22_1 p550 (by first | exact q550 | exact od | (have e_ := (Kd.S_reads' HO_20.out).1; omega))
    obtain ⟨ve550_0, rfl, ge550_0⟩ := hMe550
    have hv550_0 := hcc550 0 _ rfl
    rw [Nat.add_zero, show ((Kd.slice 3 (Kd.int .i64))).sz = 1 from rfl, Nat.mul_one] at hv550_0
    replace hv550_0 := Option.some.inj (hv550_0.symm.trans hx550_0)
    rw [hv550_0] at ge550_0
    have HL550_0 := am (show Kd.R (Kd.int .i64) 3 _ _ _ _ (rd_L1 t544 x22_1) from ge550_0)
    clear hv550_0 ge550_0; clear hcc550 hce550
    have HR550_0 := am hi550_0
    have HC550_0 := am hl550_0
    clear hi550_0 hl550_0; replace p550 := eq_true p550; replace q550 := eq_true q550
    go_wp2_with (first | ((with_reducible refine gate_callee (f := 100) rfl ?_); refine gl 28 Try.func100 #[.slice A550_0 (rd_L1 t544 x22_1).length c550_0, .int .i64 1] ?_; (with_reducible refine (slices_Index_int_int.calls k1 _ _ (rd_L1 t544 x22_1) 1 t551 _ ?_ ?_ A12.out).mono ?_); exact wC HR550_0; exact HC550_0.out; rintro e w' ⟨rfl, ⟨nd, rfl⟩⟩; refine ⟨_, rfl, ?_⟩) | ((with_reducible refine gate_builtin (b := .append) (xs := #[.tmp 26, .tmp 29]) rfl ?_); at_builtin; refine Kd.R_append (Kd.int .i64) (w0 := w) w.heap.size rfl (.tmp 26) (.tmp 29) 22 3 (.int .i64 0) 8 rfl Try.underlying22 info3 rfl (by decide) (by omega) u8 x8_1 t551 [.int .i64 t551] (fun _ => True) (fun _ => False) rfl rfl ?aP (fun _ hk => hk.elim) ?aF ?aO ?aB ?aS ?aL ?_; (case aP => exact rfl); (case aB => exact (bw HB)); (case aF => exact (fun _ _ => trivial)); (case aO => exact (wR HO_8)); (case aS => exact (bz HB)); (case aL => have := LMc13.out; omega); intro v553 w14 ho hb hg hat; rw [← Ny552.out] at ho; replace HO_7 := am (Kd.S_after (ok := (fun _ => True)) (by (with_reducible repeat (first | apply Kd.S_alloc | apply Kd.S_drewN | apply Kd.S_drew)); exact Kd.S_mono HO_7.out (fun _ hk => ⟨trivial, hk⟩)) hg hat); replace HO_20 := am (Kd.S_after (ok := (fun _ => True)) (by (with_reducible repeat (first | apply Kd.S_alloc | apply Kd.S_drewN | apply Kd.S_drew)); exact Kd.S_mono HO_20.out (fun _ hk => ⟨trivial, hk⟩)) hg hat); replace HL550_0 := am (Kd.R_after (ok := (fun k_ => some k_ ≠ (.slice (some ad550) t544.length co8 : Value).ownBlock)) (by (with_reducible repeat (first | apply Kd.R_alloc | apply Kd.R_drewN | apply Kd.R_drew)); exact Kd.R_mono HL550_0.out (fun _ hk => ⟨hk.2, hk.1⟩)) hg hat); replace HB := am (hb); have HO554 := am (ho); clear HO_8; clear ho hb hg hat))
    go_roundg k1
    case measure => have := HK1.out; omega
    case rel => exact ⟨(y552), (wrap64 (x22_1 + 1)), fr, H', ⟨by have := HK1.out; omega⟩, ⟨Kd.S_below (Kd.S_mono HO_7.out (fun _ hk => hk.2)) gs⟩, ⟨wR HO554⟩, ⟨Kd.S_below (Kd.S_mono HO_20.out (fun _ hk => hk.2)) gs⟩, ⟨bw HB⟩⟩
   ·rw [if_neg c9] at H
    have c9b0 := decide_eq_false c9; clear c9
    generalize hy555 : (([] : List (List Int))) = y555 at H
    have Ny555 := am hy555.symm; clear hy555; have H' := am H; clear H
    go_wp2_with (first | ((with_reducible refine gate_dst (N := 32) rfl ?_); refine Kd.S_lit (Kd.slice 3 (Kd.int .i64)) _ 22 ?hg (N := 32) ?hd (xs := ([] : List (List Int))) (inner := []) (ok := fun _ => True) (okp := fun _ => True) ?hr ?hp (fun _ hk => hk) trivial (Below.refl _ _) (Nat.le_refl _) (by simp) ?_; (case hd => rfl); (case hg => rfl); (case hr => first | (go_simp; done) | (go_simp; rfl)); (case hp => exact (Reps.none _ _)); intro v556 w15 ho16 hb hg_ hnew_; clear hg_ hnew_; (first | rw [← Ny555.out] at ho16 | (simp only [Int.reduceToNat] at ho16; rw [← Ny555.out] at ho16)); have HO557 := am (Kd.S_lower (Kd.S_new' (Kd.S_new' (Kd.S_new' ho16 (Kd.S_lt (wS HO_7))) (Kd.R_lt (wR HO_8))) (Kd.S_lt (wS HO_20))) (bz HB)); replace HO_7 := eS HO_7 (Kd.S_base ho16) hb; replace HO_8 := am (Kd.R_below (wR HO_8) hb); replace HO_20 := eS HO_20 (Kd.S_base ho16) hb; replace HB := bq HB hb; clear hb ho16))
    go_loopg [11, 34] k1 (fun kq v11 v34 w' => ∃ (x8_2 : List Int) (x11_2 : List (List Int)) (x34_2 : Int), v34 = .int .i64 x34_2 ∧ Aside0 (impl_solutions.l1 kq a0 a2 t544 x8_2 x11_2 a2 x34_2 = some r) ∧ Aside0 (kq ≤ k1) ∧ Aside0 (Kd.S (Kd.slice 3 (Kd.int .i64)) 22 w' w.heap.size (fun k_ => some k_ ≠ (u8 : Value).ownBlock ∧ some k_ ≠ (v11 : Value).ownBlock) (.slice Ao8 t544.length co8) t544) ∧ Aside0 (Kd.R (Kd.int .i64) 3 w' w.heap.size (fun _ => True) u8 x8_2) ∧ Aside0 (Kd.S (Kd.slice 3 (Kd.int .i64)) 22 w' w.heap.size (fun k_ => some k_ ≠ ((.slice Ao8 t544.length co8) : Value).ownBlock ∧ some k_ ≠ (u8 : Value).ownBlock) v11 x11_2) ∧ Aside0 (Below w.heap.size w w'))
    case atStart => exact ⟨(x8_1), (y555), (0), fr, H', ⟨Nat.le_refl _⟩, ⟨wS HO_7⟩, ⟨wR HO_8⟩, ⟨Kd.S_below (Kd.S_mono HO557.out (fun _ hk => ⟨hk.1.1.2, hk.1.2⟩)) gs⟩, ⟨bw HB⟩⟩
    case round =>
     clear H'; try clear c1; try clear p2; try clear c5; try clear p5; try clear q5; try clear hx5; try clear p6; try clear c8; try clear c9; try clear c9b0; try clear c10; try clear c10b0; try clear c11; try clear c11b0; try clear c13; try clear hx550_0
     try clear p2; try clear p550; try clear q550
     obtain ⟨x8_2, x11_2, x34_2, rfl, HA, HK2, HO_7, HO_8, HO_11, HB⟩ := hrel
     cases gk with
     | zero => exact absurd HA.out (by simp [impl_solutions.l1])
     | succ k2 =>
      have H := HA.out; clear HA
      simp only [impl_solutions.l1] at H
      by_cases c17 : x34_2 < a2
      ·rw [if_pos c17] at H
       have c17b0 := decide_eq_true c17; clear c17; replace H := bs H; obtain ⟨t561, A18, H⟩ := H
       by_cases c19 : t561 = true
       ·subst c19
        rw [if_pos rfl] at H
        have H' := am H; clear H
        obtain ⟨Ao20, co20, eo20⟩ := Kd.R_slice HO_8.out
        subst eo20
        go_wp2_with (first | ((with_reducible refine gate_callee (f := 92) rfl ?_); refine gl 39 Try.func92 #[.slice Ao20 x8_2.length co20, .int .i64 x34_2] ?_; (with_reducible refine (slices_Contains_int_int.calls k2 _ _ x8_2 x34_2 true _ ?_ ?_ A18.out).mono ?_); exact Kd.C_below (Kd.R_reads' HO_8.out).2.2 gs; exact (Kd.R_reads' HO_8.out).2.1; rintro e w' ⟨rfl, ⟨nd, rfl⟩⟩; refine ⟨_, rfl, ?_⟩))
        go_roundg k2
        case measure => have := HK1.out; have := HK2.out; omega
        case rel => exact ⟨(x8_2), (x11_2), (wrap64 (x34_2 + 1)), fr, H', ⟨by have := HK1.out; have := HK2.out; omega⟩, ⟨wS HO_7⟩, ⟨wR HO_8⟩, ⟨wS HO_11⟩, ⟨bw HB⟩⟩
       ·replace c19 := Bool.eq_false_iff.mpr c19
        subst c19
        rw [if_neg (show ¬ (false = true) by decide)] at H
        replace H := ifn H; obtain ⟨c21, H⟩ := H; have c21b0 := eq_true c21; have c21b1 := decide_eq_true c21; clear c21; replace H := ifn H; obtain ⟨c22, H⟩ := H; have c22b0 := eq_true c22; have c22b1 := decide_eq_true c22; clear c22; replace H := bsy H
        obtain ⟨y562, Ny562, H⟩ := H; replace H := ifn H; obtain ⟨c23, H⟩ := H; have c23b0 := decide_eq_true c23; clear c23; replace H := ifn H; obtain ⟨c24, H⟩ := H; have c24b0 := decide_eq_true c24; clear c24
        generalize hy565 : (y562.set (x34_2 : Int).toNat 1 : List Int) = y565 at H
        have Ny565 := am hy565.symm; clear hy565; have H' := am H; clear H
        obtain ⟨Ao26, co26, eo26⟩ := Kd.R_slice HO_8.out
        subst eo26
        go_wp2_with (first | ((with_reducible refine gate_callee (f := 92) rfl ?_); refine gl 39 Try.func92 #[.slice Ao26 x8_2.length co26, .int .i64 x34_2] ?_; (with_reducible refine (slices_Contains_int_int.calls k2 _ _ x8_2 x34_2 false _ ?_ ?_ A18.out).mono ?_); exact Kd.C_below (Kd.R_reads' HO_8.out).2.2 gs; exact (Kd.R_reads' HO_8.out).2.1; rintro e w' ⟨rfl, ⟨nd, rfl⟩⟩; refine ⟨_, rfl, ?_⟩; (try (rw [drewN_self wr]; generalize hq_ : World.drewN wr _ = wr; have n0_ : Aside0 (Kd.S (Kd.slice 3 (Kd.int .i64)) 22 wr w.heap.size (fun k_ => some k_ ≠ (.slice Ao8 t544.length co8 : Value).ownBlock ∧ some k_ ≠ (.slice Ao26 x8_2.length co26 : Value).ownBlock) u11 x11_2) := ⟨by rw [← hq_]; exact (wS HO_11)⟩; have n1_ : Aside0 (Kd.S (Kd.slice 3 (Kd.int .i64)) 22 wr w.heap.size (fun k_ => some k_ ≠ (u11 : Value).ownBlock ∧ some k_ ≠ (.slice Ao26 x8_2.length co26 : Value).ownBlock) (.slice Ao8 t544.length co8) t544) := ⟨by rw [← hq_]; exact (by (with_reducible repeat (first | apply Kd.S_alloc | apply Kd.S_drewN | apply Kd.S_drew)); exact Kd.S_mono HO_7.out (fun _ hk => ⟨hk.2, hk.1⟩))⟩; have n2_ : Aside0 (Kd.R (Kd.int .i64) 3 wr w.heap.size (fun _ => True) (.slice Ao26 x8_2.length co26) x8_2) := ⟨by rw [← hq_]; exact (wR HO_8)⟩; have n3_ : Aside0 (Below w.heap.size w wr) := ⟨by rw [← hq_]; exact (bw HB)⟩; clear HO_11 HO_7 HO_8 HB hq_; have HO_11 := n0_; have HO_7 := n1_; have HO_8 := n2_; have HB := n3_; clear n0_ n1_ n2_ n3_))) | ((with_reducible refine gate_dst (N := 41) rfl ?_); refine Kd.R_make (Kd.int .i64) _ 3 rfl (N := 41) rfl 22 _ _ rfl a2 rfl rfl Try.underlying22 (.int .i64 0) 8 info3 rfl (by decide) (by omega) 0 (ok := fun _ => True) (okp := fun _ => True) rfl (fun _ hk => hk) trivial (od) (Nat.le_trans (Nat.mul_le_mul_right _ (od : a2.toNat ≤ 35184372088832)) (by omega)) (Below.refl _ _) (Nat.le_refl _) ?_; intro v563 w27 ho28 hb hg_ hnew_; clear hg_ hnew_; (first | rw [← Ny562.out] at ho28 | (simp only [Int.reduceToNat] at ho28; rw [← Ny562.out] at ho28)); replace HO_7 := eS HO_7 (Kd.R_base ho28) hb; replace HO_11 := eS HO_11 (Kd.R_base ho28) hb; have HO564 := am (Kd.R_lower (Kd.R_new' ho28 (Kd.R_lt (wR HO_8))) (bz HB)); replace HO_8 := eR HO_8 (Kd.R_base ho28) hb; replace HB := bq HB hb; clear hb ho28; have p25 : 0 ≤ (x34_2 : Int) := od; have q25 : (x34_2 : Int) < ((y562.length : Int) : Int) := od; obtain ⟨go25, co25, eo25, gb25, gl25, cl25, HG25⟩ := Kd.R_form HO564.out (by omega); (first | cases eo25 | (injection eo25 with ea_ en_ ec_; (first | subst ea_ | (injection ea_ with ea_; subst ea_)); subst ec_; clear en_)); have GB25 := am gb25; have GG25 := am HG25; clear gb25 gl25 HG25; obtain ⟨hx25_0, hf25_0⟩ := Kd.R_celln 0 HO564.out (x34_2 : Int) p25 q25; replace p25 := eq_true p25; replace q25 := eq_true q25; have n_ := am (Kd.R_mono (ok' := (fun k_ => some k_ ≠ (.slice Ao26 x8_2.length co26 : Value).ownBlock)) HO564.out (fun k_ hk => hk.2)); clear HO564; have HO564 := n_; clear n_; obtain ⟨hy29_, hz29_⟩ := Kd.R_celln 0 HO564.out (x34_2 : Int) (od) (od); have HP29 := Kd.R_putg HO564.out (x34_2 : Int) 1))
        obtain ⟨w30, hw⟩ : ∃ w_, w_ = (w27.setCell ⟨go25, (x34_2 : Int).toNat, none⟩ (.int .i64 1)) := ⟨_, rfl⟩
        rw [← hw]
        (have hg : w27.grownBy w30 (some go25) := (by rw [hw]; exact HP29.2); have hp_ : Kd.R (Kd.int .i64) 3 w30 w.heap.size (fun k_ => some k_ ≠ (.slice Ao26 x8_2.length co26 : Value).ownBlock) (.slice (some ⟨go25, 0, none⟩) y562.length co25) y565 := (by rw [hw, Ny565.out]; exact HP29.1); clear HP29; have n0_ := am (Kd.S_after (v := (.slice (some ⟨go25, 0, none⟩) y562.length co25)) (v1 := (.slice (some ⟨go25, 0, none⟩) y562.length co25)) (ok := (fun k_ => some k_ ≠ (.slice Ao26 x8_2.length co26 : Value).ownBlock ∧ some k_ ≠ (u11 : Value).ownBlock)) (by (with_reducible repeat (first | apply Kd.S_alloc | apply Kd.S_drewN | apply Kd.S_drew)); first | exact HO_7.out | exact Kd.S_mono HO_7.out (fun _ h => ⟨⟨h.1.2, h.1.1⟩, h.2⟩)) hg (.inl rfl)); have n1_ := am (Kd.R_after (v := (.slice (some ⟨go25, 0, none⟩) y562.length co25)) (v1 := (.slice (some ⟨go25, 0, none⟩) y562.length co25)) (ok := (fun _ => True)) (by (with_reducible repeat (first | apply Kd.R_alloc | apply Kd.R_drewN | apply Kd.R_drew)); first | exact HO_8.out | exact Kd.S_mono HO_8.out (fun _ h => ⟨⟨h.1.2, h.1.1⟩, h.2⟩)) hg (.inl rfl)); have n2_ := am (Kd.S_after (v := (.slice (some ⟨go25, 0, none⟩) y562.length co25)) (v1 := (.slice (some ⟨go25, 0, none⟩) y562.length co25)) (ok := (fun k_ => some k_ ≠ (.slice Ao8 t544.length co8 : Value).ownBlock ∧ some k_ ≠ (.slice Ao26 x8_2.length co26 : Value).ownBlock)) (by (with_reducible repeat (first | apply Kd.S_alloc | apply Kd.S_drewN | apply Kd.S_drew)); first | exact HO_11.out | exact Kd.S_mono HO_11.out (fun _ h => ⟨⟨h.1.2, h.1.1⟩, h.2⟩)) hg (.inl rfl)); have n3_ := am (hp_); have n4_ := am ((by rw [hw]; exact below_set (HB.out) GB25.out : Below w.heap.size w w30)); clear HO_7; clear HO_8; clear HO_11; clear HO564; clear HB; have HO_7 := n0_; have HO_8 := n1_; have HO_11 := n2_; have HO564 := n3_; have HB := n4_; clear n0_ n1_ n2_ n3_ n4_; clear hg hw hp_)
        go_loopg [47] k2 (fun kq v47 w' => ∃ (x13_3 : List Int) (x47_3 : Int), v47 = .int .i64 x47_3 ∧ Aside0 (impl_solutions.l2 kq a0 a2 t544 x8_2 x11_2 x34_2 x13_3 a2 x34_2 t544 (t544.length : Int) x47_3 = some r) ∧ Aside0 (kq ≤ k2) ∧ Aside0 (Kd.S (Kd.slice 3 (Kd.int .i64)) 22 w' w.heap.size (fun k_ => some k_ ≠ ((.slice Ao26 x8_2.length co26) : Value).ownBlock ∧ some k_ ≠ (u11 : Value).ownBlock ∧ some k_ ≠ ((.slice (some ⟨go25, 0, none⟩) y562.length co25) : Value).ownBlock) (.slice Ao8 t544.length co8) t544) ∧ Aside0 (Kd.R (Kd.int .i64) 3 w' w.heap.size (fun k_ => some k_ ≠ ((.slice (some ⟨go25, 0, none⟩) y562.length co25) : Value).ownBlock) (.slice Ao26 x8_2.length co26) x8_2) ∧ Aside0 (Kd.S (Kd.slice 3 (Kd.int .i64)) 22 w' w.heap.size (fun k_ => some k_ ≠ ((.slice Ao8 t544.length co8) : Value).ownBlock ∧ some k_ ≠ ((.slice Ao26 x8_2.length co26) : Value).ownBlock ∧ some k_ ≠ ((.slice (some ⟨go25, 0, none⟩) y562.length co25) : Value).ownBlock ∧ some k_ ≠ ((.slice Ao8 t544.length co8) : Value).ownBlock) u11 x11_2) ∧ Aside0 (Kd.R (Kd.int .i64) 3 w' w.heap.size (fun k_ => some k_ ≠ ((.slice Ao26 x8_2.length co26) : Value).ownBlock) (.slice (some ⟨go25, 0, none⟩) y562.length co25) x13_3) ∧ Aside0 (Kd.S (Kd.slice 3 (Kd.int .i64)) 22 w' w.heap.size (fun k_ => some k_ ≠ ((.slice Ao26 x8_2.length co26) : Value).ownBlock ∧ some k_ ≠ (u11 : Value).ownBlock ∧ some k_ ≠ ((.slice (some ⟨go25, 0, none⟩) y562.length co25) : Value).ownBlock) (.slice Ao8 t544.length co8) t544) ∧ Aside0 (Below w.heap.size w w'))
        case atStart => exact ⟨(y565), (0), fr, H', ⟨Nat.le_refl _⟩, ⟨Kd.S_below (Kd.S_mono HO_7.out (fun _ hk => ⟨hk.1.1, ⟨hk.1.2, hk.2⟩⟩)) gs⟩, ⟨Kd.R_below (Kd.R_mono HO_8.out (fun _ hk => hk.2)) gs⟩, ⟨Kd.S_below (Kd.S_mono HO_11.out (fun _ hk => ⟨hk.1.1, ⟨hk.1.2, ⟨hk.2, hk.1.1⟩⟩⟩)) gs⟩, ⟨wR HO564⟩, ⟨Kd.S_below (Kd.S_mono HO_7.out (fun _ hk => ⟨hk.1.1, ⟨hk.1.2, hk.2⟩⟩)) gs⟩, ⟨bw HB⟩⟩
        case round =>
         clear H'; try clear c1; try clear c2; try clear p2; try clear q2; try clear hx2; try clear c5; try clear p5; try clear q5; try clear hx5; try clear p6; try clear c8; try clear c9; try clear c9b0; try clear c10; try clear c10b0; try clear c11
         try clear c11b0; try clear c13; try clear c17; try clear c17b0; try clear c19; try clear c21; try clear c21b0; try clear c21b1; try clear c22; try clear c22b0; try clear c22b1; try clear c23; try clear c23b0; try clear c24; try clear c24b0; try clear p25
         try clear q25; try clear hx25; try clear hf25; try clear hx25_0; try clear hx550_0; try clear p2; try clear p25; try clear p5; try clear p550; try clear p6; try clear q25; try clear q5; try clear q550
         obtain ⟨x13_3, x47_3, rfl, HA, HK3, HO_7, HO_8, HO_11, HO_13, HO_45, HB⟩ := hrel
         have hl13_3 := (Kd.R_reads' HO_13.out).1
         rw [hl13_3] at HO_13
         (try simp only [hl13_3])
         (try simp only [hl13_3] at HO_7)
         (try simp only [hl13_3] at HO_8)
         (try simp only [hl13_3] at HO_11)
         (try simp only [hl13_3] at HO_45)
         cases gk with
         | zero => exact absurd HA.out (by simp [impl_solutions.l2])
         | succ k3 =>
          have H := HA.out; clear HA
          simp only [impl_solutions.l2] at H
          by_cases c31 : x47_3 < (t544.length : Int)
          ·rw [if_pos c31] at H
           have c31b0 := decide_eq_true c31; clear c31; replace H := ifn H; obtain ⟨c32, H⟩ := H; have c32b0 := decide_eq_true c32; clear c32; replace H := ifn H; obtain ⟨c33, H⟩ := H; have c33b0 := decide_eq_true c33; clear c33; replace H := ifn H; obtain ⟨c34, H⟩ := H
           have c34b0 := decide_eq_true c34; clear c34; replace H := ifn H; obtain ⟨c35, H⟩ := H; have c35b0 := decide_eq_true c35; clear c35; replace H := ifn H; obtain ⟨c36, H⟩ := H; have c36b0 := decide_eq_true c36; clear c36; replace H := bs H; obtain ⟨t569, A37, H⟩ := H
           replace H := ifn H; obtain ⟨c38, H⟩ := H; have c38b0 := decide_eq_true c38; clear c38; replace H := ifn H; obtain ⟨c39, H⟩ := H; have c39b0 := decide_eq_true c39; clear c39
           generalize hy570 : (x13_3.set ((rd x8_2 x47_3) : Int).toNat t569 : List Int) = y570 at H
           have Ny570 := am hy570.symm; clear hy570; have H' := am H; clear H
           have p566 : 0 ≤ (x47_3 : Int) := od
           have q566 : x47_3 < (t544.length : Int) := od
           obtain ⟨ad566, A566_0, c566_0, e566, hx566_0, hl566_0, hi566_0⟩ := at_L1 (Kd.S_reads' HO_45.out).2.2 x47_3 p566 q566
           cases e566
           obtain ⟨ce566, hce566, hMe566, hcc566⟩ := Kd.S_get HO_45.out [] x47_3 p566 (by first | exact q566 | exact od | (have e_ := (Kd.S_reads' HO_45.out).1; omega))
           obtain ⟨ve566_0, rfl, ge566_0⟩ := hMe566
           have hv566_0 := hcc566 0 _ rfl
           rw [Nat.add_zero, show ((Kd.slice 3 (Kd.int .i64))).sz = 1 from rfl, Nat.mul_one] at hv566_0
           replace hv566_0 := Option.some.inj (hv566_0.symm.trans hx566_0)
           rw [hv566_0] at ge566_0
           have HL566_0 := am (show Kd.R (Kd.int .i64) 3 _ _ _ _ (rd_L1 t544 x47_3) from ge566_0)
           clear hv566_0 ge566_0; clear hcc566 hce566
           have HR566_0 := am hi566_0
           have HC566_0 := am hl566_0
           clear hi566_0 hl566_0; replace p566 := eq_true p566; replace q566 := eq_true q566
           try go_wp2
           replace HO_7 := am (Kd.S_drew HO_7.out)
           replace HO_8 := am (Kd.R_drew HO_8.out)
           replace HO_11 := am (Kd.S_drew HO_11.out)
           replace HO_13 := am (Kd.R_drew HO_13.out)
           replace HO_45 := am (Kd.S_drew HO_45.out)
           replace HL566_0 := am (Kd.R_drew HL566_0.out)
           replace HR566_0 := am (Kd.C_drew HR566_0.out)
           replace HB := am (below_drew1 HB.out)
           have p567 : 0 ≤ (x47_3 : Int) := od
           have q567 : x47_3 < (x8_2.length : Int) := od
           obtain ⟨ad567, e567, hx567_0⟩ := Kd.at_int (Kd.R_reads' HO_8.out).2.2 x47_3 p567 q567
           cases e567; replace p567 := eq_true p567; replace q567 := eq_true q567
           have p568 : 0 ≤ (x34_2 : Int) := od
           have q568 : x34_2 < ((rd_L1 t544 x47_3).length : Int) := od
           obtain ⟨ad568, e568, hx568_0⟩ := Kd.at_int HR566_0.out x34_2 p568 q568
           cases e568; replace p568 := eq_true p568; replace q568 := eq_true q568
           refine st 14 (fun w' => w'.cell? (ad567.add (x47_3).toNat) = some (.int .i64 (rd x8_2 x47_3)) ∧ w'.cell? (ad568.add (x34_2).toNat) = some (.int .i64 (rd (rd_L1 t544 x47_3) x34_2))) [13] impl_solutions.tab18 impl_solutions.bits18 (⟨hx567_0, hx568_0⟩) fun hHeld HT_ HW_ => ?_
           generalize wr.drew = w41 at HO_7 HO_8 HO_11 HO_13 HO_45 HL566_0 HR566_0 HB hx567_0 hx568_0 hHeld ⊢
           refine pz 0 52 HT_ ?_; refine pz 1 53 HT_ ?_; refine pz 2 54 HT_ ?_; refine pz 3 55 HT_ ?_; refine pz 5 57 HT_ ?_; refine pz 6 58 HT_ ?_; refine pz 7 59 HT_ ?_; refine pz 10 62 HT_ ?_; refine tk 4 56 HT_ HW_ hHeld ?_; refine tk 8 60 HT_ HW_ hHeld ?_
           refine pz 9 61 HT_ ?_
           refine on 11 (some 63) HT_ fun K hK => ?_
           refine gs_ Try.func95 #[.int .i64 (wrap64 (-(rd (rd_L1 t544 x47_3) x34_2))), .int .i64 a0] ?_
           with_reducible refine (impl_mod.calls (wrap64 (-(rd (rd_L1 t544 x47_3) x34_2))) a0 t569 _ A37.out).mono ?_
           rintro e w' ⟨rfl, ⟨nd, rfl⟩⟩
           refine ⟨_, rfl, ?_⟩
           have p40 : 0 ≤ ((rd x8_2 x47_3) : Int) := od
           have q40 : ((rd x8_2 x47_3) : Int) < ((x13_3.length : Int) : Int) := od
           obtain ⟨hx40_0, hf40_0⟩ := Kd.R_celln 0 HO_13.out ((rd x8_2 x47_3) : Int) p40 q40
           replace p40 := eq_true p40; replace q40 := eq_true q40
           have HP42 := Kd.R_putn HO_13.out ((rd x8_2 x47_3) : Int) t569
           rw [← Ny570.out] at HP42
           have HQ42 := am HP42
           clear HP42
           refine hK.out _ _ ⟨hHeld.1, hHeld.2⟩ fun hHeld => nz ?_
           clear hK K; refine pz 12 64 HT_ ?_
           refine la 13 none HT_ fun K hK => ?_
           refine skip_ (w1 := ?_) (by rfl) rfl ?_ ?_
           rotate_left
           ·go_simp
            rfl
           refine hK.out _ _ ?_
           clear hK K
           refine done_ (done_of HT_.out (by kernel_rfl)) ?_
           try go_wp2
           (try simp only [← hl13_3])
           go_roundg k3
           case measure => have := HK1.out; have := HK2.out; have := HK3.out; omega
           case rel => exact ⟨(y570), (wrap64 (x47_3 + 1)), fr, H', ⟨by have := HK1.out; have := HK2.out; have := HK3.out; omega⟩, ⟨by (try simp only [hl13_3]); (with_reducible repeat (first | apply Kd.S_alloc | apply Kd.S_drewN | apply Kd.S_drew)); exact Kd.S_mono (Kd.S_far (p := ⟨go25, ((rd x8_2 x47_3) : Int).toNat, none⟩) (Kd.S_mono HO_7.out (fun k_ hk => (⟨hk, fun e_ => hk.2.2 (by rw [e_]; rfl)⟩ : _ ∧ k_ ≠ go25))) (fun _ hk => hk.2) (.int .i64 t569)) (fun _ hk => ⟨hk.1.1, ⟨hk.1.2.1, hk.1.2.2⟩⟩)⟩, ⟨by (try simp only [hl13_3]); (with_reducible repeat (first | apply Kd.R_alloc | apply Kd.R_drewN | apply Kd.R_drew)); exact Kd.R_mono (Kd.R_far (p := ⟨go25, ((rd x8_2 x47_3) : Int).toNat, none⟩) (Kd.R_mono HO_8.out (fun k_ hk => (⟨hk, fun e_ => hk (by rw [e_]; rfl)⟩ : _ ∧ k_ ≠ go25))) (fun _ hk => hk.2) (.int .i64 t569)) (fun _ hk => hk.1)⟩, ⟨by (try simp only [hl13_3]); (with_reducible repeat (first | apply Kd.S_alloc | apply Kd.S_drewN | apply Kd.S_drew)); exact Kd.S_mono (Kd.S_far (p := ⟨go25, ((rd x8_2 x47_3) : Int).toNat, none⟩) (Kd.S_mono HO_11.out (fun k_ hk => (⟨hk, fun e_ => hk.2.2.1 (by rw [e_]; rfl)⟩ : _ ∧ k_ ≠ go25))) (fun _ hk => hk.2) (.int .i64 t569)) (fun _ hk => ⟨hk.1.1, ⟨hk.1.2.1, ⟨hk.1.2.2.1, hk.1.2.2.2⟩⟩⟩)⟩, ⟨by (try simp only [hl13_3]); (with_reducible repeat (first | apply Kd.R_alloc | apply Kd.R_drewN | apply Kd.R_drew)); exact HQ42.out⟩, ⟨by (try simp only [hl13_3]); (with_reducible repeat (first | apply Kd.S_alloc | apply Kd.S_drewN | apply Kd.S_drew)); exact Kd.S_mono (Kd.S_far (p := ⟨go25, ((rd x8_2 x47_3) : Int).toNat, none⟩) (Kd.S_mono HO_45.out (fun k_ hk => (⟨hk, fun e_ => hk.2.2 (by rw [e_]; rfl)⟩ : _ ∧ k_ ≠ go25))) (fun _ hk => hk.2) (.int .i64 t569)) (fun _ hk => ⟨hk.1.1, ⟨hk.1.2.1, hk.1.2.2⟩⟩)⟩, ⟨by repeat (first | (with_reducible first | exact HB.out | apply below_alloc | apply pw_below_drewN | apply below_drew1 | refine below_set ?_ GB25.out) | exact HB.out)⟩⟩
          ·rw [if_neg c31] at H
           have c31b0 := decide_eq_false c31; clear c31; replace H := ifn H; obtain ⟨c43, H⟩ := H; have LMc43 := am c43; clear c43
           generalize hy571 : (x11_2 ++ [x13_3] : List (List Int)) = y571 at H
           have Ny571 := am hy571.symm; clear hy571; have H' := am H; clear H
           go_wp2_with (first | ((with_reducible refine gate_builtin (b := .append) (xs := #[.tmp 66, .tmp 68]) rfl ?_); at_builtin; refine Kd.S_append (Kd.slice 3 (Kd.int .i64)) (w0 := w) w.heap.size rfl (.tmp 66) (.tmp 68) 45 22 (.slice none 0 0) 24 rfl Try.underlying45 info22 rfl (by decide) (by omega) u11 x11_2 x13_3 [.slice (some ⟨go25, 0, none⟩) x13_3.length co25] (fun k_ => some k_ ≠ (.slice Ao8 t544.length co8 : Value).ownBlock ∧ some k_ ≠ (.slice Ao26 x8_2.length co26 : Value).ownBlock ∧ some k_ ≠ (.slice Ao8 t544.length co8 : Value).ownBlock) (fun k_ => some k_ = (.slice (some ⟨go25, 0, none⟩) x13_3.length co25 : Value).ownBlock) rfl rfl ?aP (fun k_ hk_ => ((Kd.R_mono (ok' := fun k_ => ((fun k_ => some k_ ≠ (.slice Ao8 t544.length co8 : Value).ownBlock ∧ some k_ ≠ (.slice Ao26 x8_2.length co26 : Value).ownBlock ∧ some k_ ≠ (.slice Ao8 t544.length co8 : Value).ownBlock)) k_ ∧ some k_ ≠ (u11 : Value).ownBlock) (Kd.R_apart' (Kd.R_apart' (Kd.R_apart' (HO_13.out) (Kd.S_typed HO_7.out) (by decide)) (Kd.S_typed HO_45.out) (by decide)) (Kd.S_typed HO_11.out) (by decide)) (fun k_ hk => ⟨⟨hk.1.1.2, ⟨hk.1.1.1, hk.1.2⟩⟩, hk.2⟩))).1 k_ hk_.symm) ?aF ?aO ?aB ?aS ?aL ?_; (case aP => exact Kd.M_row (Kd.R_mono (Kd.R_tight rfl (Kd.R_mono (ok' := fun k_ => ((fun k_ => some k_ ≠ (.slice Ao8 t544.length co8 : Value).ownBlock ∧ some k_ ≠ (.slice Ao26 x8_2.length co26 : Value).ownBlock ∧ some k_ ≠ (.slice Ao8 t544.length co8 : Value).ownBlock)) k_ ∧ some k_ ≠ (u11 : Value).ownBlock) (Kd.R_apart' (Kd.R_apart' (Kd.R_apart' (HO_13.out) (Kd.S_typed HO_7.out) (by decide)) (Kd.S_typed HO_45.out) (by decide)) (Kd.S_typed HO_11.out) (by decide)) (fun k_ hk => ⟨⟨hk.1.1.2, ⟨hk.1.1.1, hk.1.2⟩⟩, hk.2⟩))) (fun _ h_ => h_))); (case aB => exact (bw HB)); (case aF => exact (fun k_ hk => ⟨Kd.fresh' (Kd.S_lt (wS HO_7)) k_ hk, Kd.fresh' (Kd.R_lt (wR HO_8)) k_ hk, Kd.fresh' (Kd.S_lt (wS HO_45)) k_ hk⟩)); (case aO => exact (by (with_reducible repeat (first | apply Kd.S_alloc | apply Kd.S_drewN | apply Kd.S_drew)); exact Kd.S_mono HO_11.out (fun k_ hk => ⟨⟨hk.1, ⟨hk.2.1, hk.2.2.2⟩⟩, fun e_ => hk.2.2.1 e_⟩))); (case aS => exact (bz HB)); (case aL => have := LMc43.out; omega); intro v572 w44 ho hb hg hat; rw [← Ny571.out] at ho; replace HO_7 := am (Kd.S_after (ok := (fun k_ => some k_ ≠ (.slice Ao26 x8_2.length co26 : Value).ownBlock ∧ some k_ ≠ (.slice (some ⟨go25, 0, none⟩) x13_3.length co25 : Value).ownBlock)) (by (with_reducible repeat (first | apply Kd.S_alloc | apply Kd.S_drewN | apply Kd.S_drew)); exact Kd.S_mono HO_7.out (fun _ hk => ⟨⟨hk.1, hk.2.2⟩, hk.2.1⟩)) hg hat); replace HO_8 := am (Kd.R_over' (wR HO_8) (Kd.S_typed (wS HO_11)) (by decide) hg); replace HO_45 := am (Kd.S_after (ok := (fun k_ => some k_ ≠ (.slice Ao26 x8_2.length co26 : Value).ownBlock ∧ some k_ ≠ (.slice (some ⟨go25, 0, none⟩) x13_3.length co25 : Value).ownBlock)) (by (with_reducible repeat (first | apply Kd.S_alloc | apply Kd.S_drewN | apply Kd.S_drew)); exact Kd.S_mono HO_45.out (fun _ hk => ⟨⟨hk.1, hk.2.2⟩, hk.2.1⟩)) hg hat); replace HB := am (hb); have HO573 := am (ho); clear HO_11 HO_13; clear ho hb hg hat))
           (try simp only [← hl13_3])
           go_roundg k3
           case measure => have := HK1.out; have := HK2.out; have := HK3.out; omega
           case rel => exact ⟨(x8_2), (y571), (wrap64 (x34_2 + 1)), fr, H', ⟨by have := HK1.out; have := HK2.out; have := HK3.out; omega⟩, ⟨by (try simp only [hl13_3]); (with_reducible repeat (first | apply Kd.S_alloc | apply Kd.S_drewN | apply Kd.S_drew)); exact Kd.S_mono HO_7.out (fun _ hk => ⟨hk.1.1, hk.2⟩)⟩, ⟨by (try simp only [hl13_3]); (with_reducible repeat (first | apply Kd.R_alloc | apply Kd.R_drewN | apply Kd.R_drew)); exact Kd.R_mono HO_8.out (fun _ hk => trivial)⟩, ⟨by (try simp only [hl13_3]); (with_reducible repeat (first | apply Kd.S_alloc | apply Kd.S_drewN | apply Kd.S_drew)); exact Kd.S_mono HO573.out (fun _ hk => ⟨hk.1, hk.2.1⟩)⟩, ⟨bw HB⟩⟩
      ·rw [if_neg c17] at H
       have c17b0 := decide_eq_false c17; clear c17; replace H := bs H; obtain ⟨t558, A45, H⟩ := H; obtain rfl := Option.some.inj H
       obtain ⟨Ao46, co46, eo46⟩ := Kd.S_slice HO_11.out
       subst eo46
       go_wp2_with (first | ((with_reducible refine gate_callee (f := 82) rfl ?_); refine gl 73 Try.func82 #[.int .i64 a0, .slice Ao46 x11_2.length co46] ?_; (with_reducible refine (impl_reduced.calls k2 a0 _ _ x11_2 t558 _ ?_ ?_ A45.out).mono ?_); exact Kd.C_below (Kd.S_reads' HO_11.out).2.2 gs; exact (Kd.S_reads' HO_11.out).2.1; rintro e w47 ⟨v559, rfl, ho0, hb⟩; refine ⟨_, rfl, ?_⟩; have HO560 := am (Kd.S_lower (Kd.S_new' (Kd.S_new' (Kd.S_new' ho0 (Kd.S_lt (wS HO_7))) (Kd.R_lt (wR HO_8))) (Kd.S_lt (wS HO_11))) (bz HB)); replace HO_7 := eS HO_7 (Kd.S_base ho0) hb; replace HO_8 := am (Kd.R_below (wR HO_8) hb); replace HO_11 := eS HO_11 (Kd.S_base ho0) hb; replace HB := bq HB hb; (try clear hb); (try clear ho0)))
       go_ret
       exact ⟨_, fq, Kd.S_below (Kd.S_mono HO560.out (fun _ hk => trivial)) gs, bw HB⟩/-! ### impl_monic: function 84 (by hand) -/
theorem mon_row_of_C {w : World} {A : Option Addr} {n : Nat} {rows : List (List Int)} (h : Kd.C (Kd.slice 3 (Kd.int .i64)) w A n rows) (j : Nat) (hj : j < rows.length) : ∃ ad B c, A = some ad ∧ w.cell? (ad.add j) = some (.slice B (rows[j]).length c) ∧ (rows[j]).length ≤ c ∧ Kd.C (Kd.int .i64) w B (rows[j]).length rows[j] := by
 obtain ⟨hl, hm, hr⟩ := h
 obtain ⟨ad, rfl, hc⟩ := hr (by omega)
 obtain ⟨cs, _, ⟨B, c, rfl, h1, h2⟩, hcell⟩ := hc j _ (List.getElem?_eq_getElem hj)
 refine ⟨ad, B, c, rfl, ?_, h1, h2⟩
 have := hcell 0 (.slice B (rows[j]).length c) rfl
 simpa [Kd.slice] using this
theorem mon_lit1_C {w : World} {A : Option Addr} {ca : Nat} {x : List Int} (hx : Kd.C (Kd.int .i64) w A x.length x) (hca : x.length ≤ ca) :
  Kd.C (Kd.slice 3 (Kd.int .i64)) (w.alloc (.cells #[.slice A x.length ca] 22)) (some ⟨w.heap.size, 0, none⟩) 1 [x] := by
 refine ⟨rfl, by omega, fun _ => ⟨⟨w.heap.size, 0, none⟩, rfl, fun j p hj => ?_⟩⟩
 have hb := blk_new w (.cells #[.slice A x.length ca] 22)
 match j, hj with
 | 0, hj =>
  simp at hj
  subst hj
  refine ⟨[.slice A x.length ca], rfl, ⟨A, ca, rfl, hca, Kd.C_alloc hx _⟩, fun i u hu => ?_⟩
  match i, hu with
  | 0, hu => simp at hu; subst hu; rw [add_plain]; exact (blk_cell hb _).trans rfl
/-- what monic tells -/
def impl_monic.f (k : Nat) (a0 : Int) (l1 : List Int) : Option (List Int) := (impl_reduced.f k a0 [l1]).bind fun t => some (t.headD [])
theorem impl_monic.mono : ∀ a0 a1 k, LeO (impl_monic.f k a0 a1) (impl_monic.f (k + 1) a0 a1) := by
 intro a0 a1 k
 unfold impl_monic.f
 exact LeO.bind (impl_reduced.mono _ _ _) fun _ => LeO.refl _
set_option maxHeartbeats 4000000 in
set_option maxRecDepth 100000 in
theorem impl_monic.calls (k : Nat) (a0 : Int) (A1 : Option Addr) (c1 : Nat) (l1 : List Int) (r : List Int) (w : World) (hr1 : Kd.C (Kd.int .i64) w A1 l1.length l1) (hc1 : l1.length ≤ c1) (h : impl_monic.f k a0 l1 = some r) :
  Calls Try.prog 84 #[.int .i64 a0, .slice A1 l1.length c1] w fun e w' => ∃ v0 : Value, e = .returned v0 ∧ Kd.R (Kd.int .i64) 3 w' w.heap.size (fun _ => True) v0 r ∧ Below w.heap.size w w' := by
 obtain ⟨t, hred, h'⟩ := Option.bind_eq_some_iff.1 h
 clear h
 have HRED := Lib.hid hred
 have HL1 := Lib.hid (mon_lit1_C hr1 hc1)
 have H := Lib.hid h'
 clear hred hr1 hc1 h'
 go_enter Try.func84, Try.ntmps84
 go_wp2_with fail
 refine (impl_reduced.calls k a0 _ 1 [l1] t _ HL1.out (Nat.le_refl _) HRED.out).mono ?_
 rintro e w2 ⟨v0, rfl, hS, hb⟩
 have HB : Hid (Below w.heap.size w w2) := Lib.hid (below_step (below_alloc (Below.refl _ _) _) hb)
 have HS := Lib.hid (Kd.S_lower hS (show w.heap.size ≤ _ by simp))
 clear hS hb
 obtain ⟨Ao, co, eo⟩ := Kd.S_slice HS.out
 subst eo
 by_cases hz : t.length = 0
 ·have e0 : t = [] := List.eq_nil_of_length_eq_zero hz
  subst e0
  obtain rfl : r = [] := by have h := H.out; simpa using h.symm
  clear hz
  have z1 : (([] : List (List Int)).length) = 0 := rfl
  rw [z1]
  go_wp2; go_ret
  exact ⟨_, rfl, Kd.R_nil _ _ _ _ _, HB.out⟩
 ·have hpos : 0 < t.length := by omega
  obtain ⟨ad, B, c, e, hx, hlc, hC⟩ := mon_row_of_C (Kd.S_reads' HS.out).2.2 0 hpos
  subst e
  obtain ⟨ce, hce, hMe, hcc⟩ := Kd.S_get HS.out [] 0 (by omega) (by omega)
  obtain ⟨ve, rfl, ge⟩ := hMe
  have hv := hcc 0 _ rfl
  rw [Nat.add_zero, show ((Kd.slice 3 (Kd.int .i64))).sz = 1 from rfl, Nat.mul_one] at hv
  replace hv := Option.some.inj (hv.symm.trans hx)
  rw [hv] at ge
  have er : t.getD 0 [] = r := by
   have h := H.out
   match t, hpos with
   | x :: t, _ => simpa using h
  have HR : Hid (Kd.R (Kd.int .i64) 3 w2 w.heap.size (fun _ => True) (.slice B (t[0]).length c) r) := Lib.hid (by
   have g := Kd.R_mono (ok' := fun _ => True) ge (fun _ _ => trivial)
   rw [← er]; exact g)
  have hz1 : ((t.length : Int) == 0) = false := by simpa using hz
  have hz2 : decide (0 < t.length) = true := decide_eq_true hpos
  have hz3 : (0 < t.length) = True := eq_true hpos
  rw [Addr.add_zero'] at hx
  clear hcc hce hv ge hC hlc hz er; go_wp2; go_ret
  exact ⟨_, rfl, HR.out, HB.out⟩
end Go.Proofs.Ytmenehnfgenlpaa.PA

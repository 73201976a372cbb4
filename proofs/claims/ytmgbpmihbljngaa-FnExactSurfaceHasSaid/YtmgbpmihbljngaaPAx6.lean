-- Written by xprint.py, a program of this claim's own (over the kit's print.py)
import Derived.Test.YtmgbpmihbljngaaPAx0
import Derived.Test.YtmgbpmihbljngaaPAx2
import Derived.Test.YtmgbpmihbljngaaPAx3
import Derived.Test.YtmgbpmihbljngaaPAx5
namespace Go.Proofs.Ytmgbpmihbljngaa.PA
open Go.RowKit Go.Proofs.YtmgbpmihbljngaaW.PrintWords Go.Proofs.YtmgbpmihbljngaaW.PrintLast Go.Proofs.YtmgbpmihbljngaaW.PrintMore
attribute [local go_sem] max2_int min2_int max_two min_two max_three min_three max_four min_four   -- for this text's walks alone
set_option linter.unusedVariables false
set_option linter.unusedSimpArgs false

/-! ### impl_solutions: function 112 -/
mutual
def impl_solutions.l0 : Nat → Int → Int → List (List Int) → List Int → List (List Int) → Int → Int → Option ((List (List Int)))
 | 0, _, _, _, _, _, _, _ => none
 | k + 1, x0, x2, x7, x8, x20, x21, x22 => if x22 < x21 then (if 0 ≤ x22 then (if x22 < (x20.length : Int) then ((slices_Index_int_int.f k (rd_L4 x20 x22) 1).bind fun t150 => (if x8.length < 17592186044416 then (impl_solutions.l0 k x0 x2 x7 (x8 ++ [t150]) x20 x21 (wrap64 (x22 + 1))) else (none))) else (none)) else (none)) else (impl_solutions.l1 k x0 x2 x7 x8 (([] : List (List Int))) x2 0)
def impl_solutions.l1 : Nat → Int → Int → List (List Int) → List Int → List (List Int) → Int → Int → Option ((List (List Int)))
 | 0, _, _, _, _, _, _, _ => none
 | k + 1, x0, x2, x7, x8, x11, x33, x34 => if x34 < x33 then ((slices_Contains_int_int.f k x8 x34).bind fun t160 => (if t160 = true then (impl_solutions.l1 k x0 x2 x7 x8 x11 x33 (wrap64 (x34 + 1))) else (if 0 ≤ x2 then (if (x2 : Int).toNat ≤ 35184372088832 then ((some (List.replicate (x2 : Int).toNat 0 : List Int)).bind fun y161 => (if 0 ≤ x34 then (if x34 < (y161.length : Int) then (impl_solutions.l2 k x0 x2 x7 x8 x11 x34 (y161.set (x34 : Int).toNat 1) x33 x34 x7 (x7.length : Int) 0) else (none)) else (none))) else (none)) else (none)))) else ((impl_reduced.f k x0 x11).bind fun t157 => (some t157))
def impl_solutions.l2 : Nat → Int → Int → List (List Int) → List Int → List (List Int) → Int → List Int → Int → Int → List (List Int) → Int → Int → Option ((List (List Int)))
 | 0, _, _, _, _, _, _, _, _, _, _, _, _ => none
 | k + 1, x0, x2, x7, x8, x11, x12, x13, x33, x34, x45, x46, x47 => if x47 < x46 then (if 0 ≤ x47 then (if x47 < (x45.length : Int) then (if x47 < (x8.length : Int) then (if 0 ≤ x12 then (if x12 < ((rd_L4 x45 x47).length : Int) then ((impl_mod.f (wrap64 (-(rd (rd_L4 x45 x47) x12))) x0).bind fun t168 => (if 0 ≤ (rd x8 x47) then (if (rd x8 x47) < (x13.length : Int) then (impl_solutions.l2 k x0 x2 x7 x8 x11 x12 (x13.set ((rd x8 x47) : Int).toNat t168) x33 x34 x45 x46 (wrap64 (x47 + 1))) else (none)) else (none))) else (none)) else (none)) else (none)) else (none)) else (none)) else (if x11.length < 5864062014805 then (impl_solutions.l1 k x0 x2 x7 x8 (x11 ++ [x13]) x33 (wrap64 (x34 + 1))) else (none))
end
def impl_solutions.f (k : Nat) (a0 : Int) (l1 : List (List Int)) (a2 : Int) : Option ((List (List Int))) := (impl_reduced.f k a0 l1).bind fun t143 => (impl_solutions.l0 k a0 a2 t143 (([] : List Int)) t143 (t143.length : Int) 0)
theorem impl_solutions.mono_l : ∀ k, (∀ y0 y1 y2 y3 y4 y5 y6, LeO (impl_solutions.l0 k y0 y1 y2 y3 y4 y5 y6) (impl_solutions.l0 (k + 1) y0 y1 y2 y3 y4 y5 y6)) ∧ (∀ y0 y1 y2 y3 y4 y5 y6, LeO (impl_solutions.l1 k y0 y1 y2 y3 y4 y5 y6) (impl_solutions.l1 (k + 1) y0 y1 y2 y3 y4 y5 y6)) ∧ (∀ y0 y1 y2 y3 y4 y5 y6 y7 y8 y9 y10 y11, LeO (impl_solutions.l2 k y0 y1 y2 y3 y4 y5 y6 y7 y8 y9 y10 y11) (impl_solutions.l2 (k + 1) y0 y1 y2 y3 y4 y5 y6 y7 y8 y9 y10 y11))
 | 0 => ⟨fun _ _ _ _ _ _ _ r h => by simp [impl_solutions.l0] at h, fun _ _ _ _ _ _ _ r h => by simp [impl_solutions.l1] at h, fun _ _ _ _ _ _ _ _ _ _ _ _ r h => by simp [impl_solutions.l2] at h⟩
 | k + 1 => by
  obtain ⟨ih0, ih1, ih2⟩ := impl_solutions.mono_l k
  refine ⟨?_, ?_, ?_⟩
  ·intro y0 y1 y2 y3 y4 y5 y6
   unfold impl_solutions.l0
   repeat' first | (with_reducible first | apply ih0 | apply ih1 | apply ih2 | apply impl_reduced.mono | apply slices_Contains_int_int.mono | apply slices_Index_int_int.mono | exact LeO.refl _ | exact LeO.none _ | refine LeO.ite ?_ ?_ | refine LeO.bind ?_ (fun _ => ?_)) | (first | apply ih0 | apply ih1 | apply ih2 | apply impl_reduced.mono | apply slices_Contains_int_int.mono | apply slices_Index_int_int.mono | exact LeO.none _ | refine LeO.ite ?_ ?_ | refine LeO.bind ?_ (fun _ => ?_))
  ·intro y0 y1 y2 y3 y4 y5 y6
   unfold impl_solutions.l1
   repeat' first | (with_reducible first | apply ih0 | apply ih1 | apply ih2 | apply impl_reduced.mono | apply slices_Contains_int_int.mono | apply slices_Index_int_int.mono | exact LeO.refl _ | exact LeO.none _ | refine LeO.ite ?_ ?_ | refine LeO.bind ?_ (fun _ => ?_)) | (first | apply ih0 | apply ih1 | apply ih2 | apply impl_reduced.mono | apply slices_Contains_int_int.mono | apply slices_Index_int_int.mono | exact LeO.none _ | refine LeO.ite ?_ ?_ | refine LeO.bind ?_ (fun _ => ?_))
  ·intro y0 y1 y2 y3 y4 y5 y6 y7 y8 y9 y10 y11
   unfold impl_solutions.l2
   repeat' first | (with_reducible first | apply ih0 | apply ih1 | apply ih2 | apply impl_reduced.mono | apply slices_Contains_int_int.mono | apply slices_Index_int_int.mono | exact LeO.refl _ | exact LeO.none _ | refine LeO.ite ?_ ?_ | refine LeO.bind ?_ (fun _ => ?_)) | (first | apply ih0 | apply ih1 | apply ih2 | apply impl_reduced.mono | apply slices_Contains_int_int.mono | apply slices_Index_int_int.mono | exact LeO.none _ | refine LeO.ite ?_ ?_ | refine LeO.bind ?_ (fun _ => ?_))
theorem impl_solutions.mono : ∀ a0 a1 a2 k, LeO (impl_solutions.f k a0 a1 a2) (impl_solutions.f (k + 1) a0 a1 a2) := by
 intro a0 a1 a2 k
 obtain ⟨ih0, ih1, ih2⟩ := impl_solutions.mono_l k
 unfold impl_solutions.f
 repeat' first | (with_reducible first | apply ih0 | apply ih1 | apply ih2 | apply impl_reduced.mono | apply slices_Contains_int_int.mono | apply slices_Index_int_int.mono | exact LeO.refl _ | exact LeO.none _ | refine LeO.ite ?_ ?_ | refine LeO.bind ?_ (fun _ => ?_)) | (first | apply ih0 | apply ih1 | apply ih2 | apply impl_reduced.mono | apply slices_Contains_int_int.mono | apply slices_Index_int_int.mono | exact LeO.none _ | refine LeO.ite ?_ ?_ | refine LeO.bind ?_ (fun _ => ?_))
def impl_solutions.T18 : Bool × List (List Nat × List Nat) := (true, [([], []), ([], []), ([], []), ([1, 2], [1, 2]), ([3], [3]), ([], []), ([], []), ([5, 6], [5, 6]), ([7], [7]), ([8], [8]), ([], []), ([9, 10], [9, 10]), ([0, 4, 0, 1, 2, 3, 4, 5, 6, 7, 8, 9, 10, 11], [0, 4]), ([12, 11, 11, 0, 1, 2, 3, 4, 5, 6, 7, 8, 9, 10, 11], [11, 12])])
def impl_solutions.B18 : List Nat := [0, 0, 0, 6, 14, 0, 0, 96, 224, 480, 0, 2016, 4095, 8191]
theorem impl_solutions.tab18 : rtab .any (opsOf Try.f112 18) = impl_solutions.T18 := by kernel_rfl
theorem impl_solutions.bits18 : waitsOk impl_solutions.T18.2 impl_solutions.B18 = true := by kernel_rfl
set_option maxHeartbeats 8000000 in
set_option maxRecDepth 100000 in
theorem impl_solutions.calls (k : Nat) (a0 : Int) (A1 : Option Addr) (c1 : Nat) (l1 : List (List Int)) (a2 : Int) (r : List (List Int)) (w : World) (hr1 : Kd.C (Kd.slice 3 (Kd.int .i64)) w A1 l1.length l1) (hc1 : l1.length ≤ c1) (h : impl_solutions.f k a0 l1 a2 = some r) :
  Calls Try.prog 112 #[.int .i64 a0, .slice A1 l1.length c1, .int .i64 a2] w fun e w' => ∃ v0_ : Value, e = .returned (v0_) ∧ Kd.S (Kd.slice 3 (Kd.int .i64)) 23 w' w.heap.size (fun _ => True) v0_ r ∧ Below w.heap.size w w' := by
 have HR1 := am hr1
 have HC1 := am hc1
 clear hr1 hc1
 have HB := am (Below.refl w.heap.size w)
 have H : ((impl_reduced.f k a0 l1).bind fun t143 => (impl_solutions.l0 k a0 a2 t143 (([] : List Int)) t143 (t143.length : Int) 0)) = some r := h
 clear h; replace H := bs H; obtain ⟨t143, A4, H⟩ := H
 generalize hy146 : (([] : List Int)) = y146 at H
 have Ny146 := am hy146.symm; clear hy146; have H' := am H; clear H
 go_enter Try.func112, Try.ntmps112
 go_wp2_with (first | ((with_reducible refine gate_callee (f := 152) rfl ?_); refine gl 18 Try.func152 #[.int .i64 a0, .slice A1 l1.length c1] ?_; (with_reducible refine (impl_reduced.calls k a0 _ _ l1 t143 _ ?_ ?_ A4.out).mono ?_); exact wC HR1; exact HC1.out; rintro e w5 ⟨v144, rfl, ho0, hb⟩; refine ⟨_, rfl, ?_⟩; have HO145 := am (Kd.S_lower ho0 (bz HB)); replace HB := bq HB hb; (try clear hb); (try clear ho0)) | ((with_reducible refine gate_dst (N := 19) rfl ?_); refine li 3 ([] : List Int) ?_; intro v147 w6 ho7 hb; (first | rw [← Ny146.out] at ho7 | (simp only [Int.reduceToNat] at ho7; rw [← Ny146.out] at ho7)); replace HO145 := eS HO145 (Kd.R_base ho7) hb; have HO148 := am (Kd.R_lower ho7 (bz HB)); replace HB := bq HB hb; clear hb ho7; obtain ⟨Ao8, co8, eo8⟩ := Kd.S_slice HO145.out; subst eo8))
 go_loopg [8, 22] k (fun kq v8 v22 w' => ∃ (x8_1 : List Int) (x22_1 : Int), v22 = .int .i64 x22_1 ∧ Aside0 (impl_solutions.l0 kq a0 a2 t143 x8_1 t143 (t143.length : Int) x22_1 = some r) ∧ Aside0 (kq ≤ k) ∧ Aside0 (Kd.S (Kd.slice 3 (Kd.int .i64)) 23 w' w.heap.size (fun k_ => some k_ ≠ (v8 : Value).ownBlock) (.slice Ao8 t143.length co8) t143) ∧ Aside0 (Kd.R (Kd.int .i64) 3 w' w.heap.size (fun _ => True) v8 x8_1) ∧ Aside0 (Kd.S (Kd.slice 3 (Kd.int .i64)) 23 w' w.heap.size (fun k_ => some k_ ≠ (v8 : Value).ownBlock) (.slice Ao8 t143.length co8) t143) ∧ Aside0 (Below w.heap.size w w'))
 case atStart => exact ⟨(y146), (0), fr, H', ⟨Nat.le_refl _⟩, ⟨Kd.S_below (Kd.S_mono HO145.out (fun _ hk => hk.2)) gs⟩, ⟨wR HO148⟩, ⟨Kd.S_below (Kd.S_mono HO145.out (fun _ hk => hk.2)) gs⟩, ⟨bw HB⟩⟩
 case round =>
  clear H'; try clear c1; try clear p2
  obtain ⟨x8_1, x22_1, rfl, HA, HK1, HO_7, HO_8, HO_20, HB⟩ := hrel
  cases gk with
  | zero => exact absurd HA.out (by simp [impl_solutions.l0])
  | succ k1 =>
   have H := HA.out; clear HA
   simp only [impl_solutions.l0] at H
   by_cases c9 : x22_1 < (t143.length : Int)
   ·rw [if_pos c9] at H
    have c9b0 := decide_eq_true c9; clear c9; replace H := ifn H; obtain ⟨c10, H⟩ := H; have c10b0 := decide_eq_true c10; clear c10; replace H := ifn H; obtain ⟨c11, H⟩ := H; have c11b0 := decide_eq_true c11; clear c11; replace H := bs H; obtain ⟨t150, A12, H⟩ := H
    replace H := ifn H; obtain ⟨c13, H⟩ := H; have LMc13 := am c13; clear c13
    generalize hy151 : (x8_1 ++ [t150] : List Int) = y151 at H
    have Ny151 := am hy151.symm; clear hy151; have H' := am H; clear H
    have p149 : 0 ≤ (x22_1 : Int) := od
    have q149 : x22_1 < (t143.length : Int) := od
    obtain ⟨ad149, A149_0, c149_0, e149, hx149_0, hl149_0, hi149_0⟩ := at_L4 (Kd.S_reads' HO_20.out).2.2 x22_1 p149 q149
    cases e149
    obtain ⟨ce149, hce149, hMe149, hcc149⟩ := Kd.S_get HO_20.out [] x22_1 p149 (by first | exact q149 | exact od | (have e_ := (Kd.S_reads' HO_20.out).1; omega))
    obtain ⟨ve149_0, rfl, ge149_0⟩ := hMe149
    have hv149_0 := hcc149 0 _ rfl
    rw [Nat.add_zero, show ((Kd.slice 3 (Kd.int .i64))).sz = 1 from rfl, Nat.mul_one] at hv149_0
    replace hv149_0 := Option.some.inj (hv149_0.symm.trans hx149_0)
    rw [hv149_0] at ge149_0
    have HL149_0 := am (show Kd.R (Kd.int .i64) 3 _ _ _ _ (rd_L4 t143 x22_1) from ge149_0)
    clear hv149_0 ge149_0; clear hcc149 hce149
    have HR149_0 := am hi149_0
    have HC149_0 := am hl149_0
    clear hi149_0 hl149_0; replace p149 := eq_true p149; replace q149 := eq_true q149
    go_wp2_with (first | ((with_reducible refine gate_callee (f := 159) rfl ?_); refine gl 28 Try.func159 #[.slice A149_0 (rd_L4 t143 x22_1).length c149_0, .int .i64 1] ?_; (with_reducible refine (slices_Index_int_int.calls k1 _ _ (rd_L4 t143 x22_1) 1 t150 _ ?_ ?_ A12.out).mono ?_); exact wC HR149_0; exact HC149_0.out; rintro e w' ⟨rfl, ⟨nd, rfl⟩⟩; refine ⟨_, rfl, ?_⟩) | ((with_reducible refine gate_builtin (b := .append) (xs := #[.tmp 26, .tmp 29]) rfl ?_); at_builtin; refine Kd.R_append (Kd.int .i64) (w0 := w) w.heap.size rfl (.tmp 26) (.tmp 29) 23 3 (.int .i64 0) 8 rfl Try.underlying23 info3 rfl (by decide) (by omega) u8 x8_1 t150 [.int .i64 t150] (fun _ => True) (fun _ => False) rfl rfl ?aP (fun _ hk => hk.elim) ?aF ?aO ?aB ?aS ?aL ?_; (case aP => exact rfl); (case aB => exact (bw HB)); (case aF => exact (fun _ _ => trivial)); (case aO => exact (wR HO_8)); (case aS => exact (bz HB)); (case aL => have := LMc13.out; omega); intro v152 w14 ho hb hg hat; rw [← Ny151.out] at ho; replace HO_7 := am (Kd.S_after (ok := (fun _ => True)) (by (with_reducible repeat (first | apply Kd.S_alloc | apply Kd.S_drewN | apply Kd.S_drew)); exact Kd.S_mono HO_7.out (fun _ hk => ⟨trivial, hk⟩)) hg hat); replace HO_20 := am (Kd.S_after (ok := (fun _ => True)) (by (with_reducible repeat (first | apply Kd.S_alloc | apply Kd.S_drewN | apply Kd.S_drew)); exact Kd.S_mono HO_20.out (fun _ hk => ⟨trivial, hk⟩)) hg hat); replace HL149_0 := am (Kd.R_after (ok := (fun k_ => some k_ ≠ (.slice (some ad149) t143.length co8 : Value).ownBlock)) (by (with_reducible repeat (first | apply Kd.R_alloc | apply Kd.R_drewN | apply Kd.R_drew)); exact Kd.R_mono HL149_0.out (fun _ hk => ⟨hk.2, hk.1⟩)) hg hat); replace HB := am (hb); have HO153 := am (ho); clear HO_8; clear ho hb hg hat))
    go_roundg k1
    case measure => have := HK1.out; omega
    case rel => exact ⟨(y151), (wrap64 (x22_1 + 1)), fr, H', ⟨by have := HK1.out; omega⟩, ⟨Kd.S_below (Kd.S_mono HO_7.out (fun _ hk => hk.2)) gs⟩, ⟨wR HO153⟩, ⟨Kd.S_below (Kd.S_mono HO_20.out (fun _ hk => hk.2)) gs⟩, ⟨bw HB⟩⟩
   ·rw [if_neg c9] at H
    have c9b0 := decide_eq_false c9; clear c9
    generalize hy154 : (([] : List (List Int))) = y154 at H
    have Ny154 := am hy154.symm; clear hy154; have H' := am H; clear H
    go_wp2_with (first | ((with_reducible refine gate_dst (N := 32) rfl ?_); refine Kd.S_lit (Kd.slice 3 (Kd.int .i64)) _ 23 ?hg (N := 32) ?hd (xs := ([] : List (List Int))) (inner := []) (ok := fun _ => True) (okp := fun _ => True) ?hr ?hp (fun _ hk => hk) trivial (Below.refl _ _) (Nat.le_refl _) (by simp) ?_; (case hd => rfl); (case hg => rfl); (case hr => first | (go_simp; done) | (go_simp; rfl)); (case hp => exact (Reps.none _ _)); intro v155 w15 ho16 hb hg_ hnew_; clear hg_ hnew_; (first | rw [← Ny154.out] at ho16 | (simp only [Int.reduceToNat] at ho16; rw [← Ny154.out] at ho16)); have HO156 := am (Kd.S_lower (Kd.S_new' (Kd.S_new' (Kd.S_new' ho16 (Kd.S_lt (wS HO_7))) (Kd.R_lt (wR HO_8))) (Kd.S_lt (wS HO_20))) (bz HB)); replace HO_7 := eS HO_7 (Kd.S_base ho16) hb; replace HO_8 := am (Kd.R_below (wR HO_8) hb); replace HO_20 := eS HO_20 (Kd.S_base ho16) hb; replace HB := bq HB hb; clear hb ho16))
    go_loopg [11, 34] k1 (fun kq v11 v34 w' => ∃ (x8_2 : List Int) (x11_2 : List (List Int)) (x34_2 : Int), v34 = .int .i64 x34_2 ∧ Aside0 (impl_solutions.l1 kq a0 a2 t143 x8_2 x11_2 a2 x34_2 = some r) ∧ Aside0 (kq ≤ k1) ∧ Aside0 (Kd.S (Kd.slice 3 (Kd.int .i64)) 23 w' w.heap.size (fun k_ => some k_ ≠ (u8 : Value).ownBlock ∧ some k_ ≠ (v11 : Value).ownBlock) (.slice Ao8 t143.length co8) t143) ∧ Aside0 (Kd.R (Kd.int .i64) 3 w' w.heap.size (fun _ => True) u8 x8_2) ∧ Aside0 (Kd.S (Kd.slice 3 (Kd.int .i64)) 23 w' w.heap.size (fun k_ => some k_ ≠ ((.slice Ao8 t143.length co8) : Value).ownBlock ∧ some k_ ≠ (u8 : Value).ownBlock) v11 x11_2) ∧ Aside0 (Below w.heap.size w w'))
    case atStart => exact ⟨(x8_1), (y154), (0), fr, H', ⟨Nat.le_refl _⟩, ⟨wS HO_7⟩, ⟨wR HO_8⟩, ⟨Kd.S_below (Kd.S_mono HO156.out (fun _ hk => ⟨hk.1.1.2, hk.1.2⟩)) gs⟩, ⟨bw HB⟩⟩
    case round =>
     clear H'; try clear c1; try clear p1; try clear q1; try clear hx1; try clear p2; try clear p6; try clear c9; try clear c9b0; try clear c10; try clear c10b0; try clear c11; try clear c11b0; try clear c13; try clear c14; try clear p14; try clear q14
     try clear hx14; try clear c15; try clear hx149_0; try clear p149; try clear p2; try clear q149
     obtain ⟨x8_2, x11_2, x34_2, rfl, HA, HK2, HO_7, HO_8, HO_11, HB⟩ := hrel
     cases gk with
     | zero => exact absurd HA.out (by simp [impl_solutions.l1])
     | succ k2 =>
      have H := HA.out; clear HA
      simp only [impl_solutions.l1] at H
      by_cases c17 : x34_2 < a2
      ·rw [if_pos c17] at H
       have c17b0 := decide_eq_true c17; clear c17; replace H := bs H; obtain ⟨t160, A18, H⟩ := H
       by_cases c19 : t160 = true
       ·subst c19
        rw [if_pos rfl] at H
        have H' := am H; clear H
        obtain ⟨Ao20, co20, eo20⟩ := Kd.R_slice HO_8.out
        subst eo20
        go_wp2_with (first | ((with_reducible refine gate_callee (f := 155) rfl ?_); refine gl 39 Try.func155 #[.slice Ao20 x8_2.length co20, .int .i64 x34_2] ?_; (with_reducible refine (slices_Contains_int_int.calls k2 _ _ x8_2 x34_2 true _ ?_ ?_ A18.out).mono ?_); exact Kd.C_below (Kd.R_reads' HO_8.out).2.2 gs; exact (Kd.R_reads' HO_8.out).2.1; rintro e w' ⟨rfl, ⟨nd, rfl⟩⟩; refine ⟨_, rfl, ?_⟩))
        go_roundg k2
        case measure => have := HK1.out; have := HK2.out; omega
        case rel => exact ⟨(x8_2), (x11_2), (wrap64 (x34_2 + 1)), fr, H', ⟨by have := HK1.out; have := HK2.out; omega⟩, ⟨wS HO_7⟩, ⟨wR HO_8⟩, ⟨wS HO_11⟩, ⟨bw HB⟩⟩
       ·replace c19 := Bool.eq_false_iff.mpr c19
        subst c19
        rw [if_neg (show ¬ (false = true) by decide)] at H
        replace H := ifn H; obtain ⟨c21, H⟩ := H; have c21b0 := eq_true c21; have c21b1 := decide_eq_true c21; clear c21; replace H := ifn H; obtain ⟨c22, H⟩ := H; have c22b0 := eq_true c22; have c22b1 := decide_eq_true c22; clear c22; replace H := bsy H
        obtain ⟨y161, Ny161, H⟩ := H; replace H := ifn H; obtain ⟨c23, H⟩ := H; have c23b0 := decide_eq_true c23; clear c23; replace H := ifn H; obtain ⟨c24, H⟩ := H; have c24b0 := decide_eq_true c24; clear c24
        generalize hy164 : (y161.set (x34_2 : Int).toNat 1 : List Int) = y164 at H
        have Ny164 := am hy164.symm; clear hy164; have H' := am H; clear H
        obtain ⟨Ao26, co26, eo26⟩ := Kd.R_slice HO_8.out
        subst eo26
        go_wp2_with (first | ((with_reducible refine gate_callee (f := 155) rfl ?_); refine gl 39 Try.func155 #[.slice Ao26 x8_2.length co26, .int .i64 x34_2] ?_; (with_reducible refine (slices_Contains_int_int.calls k2 _ _ x8_2 x34_2 false _ ?_ ?_ A18.out).mono ?_); exact Kd.C_below (Kd.R_reads' HO_8.out).2.2 gs; exact (Kd.R_reads' HO_8.out).2.1; rintro e w' ⟨rfl, ⟨nd, rfl⟩⟩; refine ⟨_, rfl, ?_⟩; (try (rw [drewN_self wr]; generalize hq_ : World.drewN wr _ = wr; have n0_ : Aside0 (Kd.S (Kd.slice 3 (Kd.int .i64)) 23 wr w.heap.size (fun k_ => some k_ ≠ (.slice Ao8 t143.length co8 : Value).ownBlock ∧ some k_ ≠ (.slice Ao26 x8_2.length co26 : Value).ownBlock) u11 x11_2) := ⟨by rw [← hq_]; exact (wS HO_11)⟩; have n1_ : Aside0 (Kd.S (Kd.slice 3 (Kd.int .i64)) 23 wr w.heap.size (fun k_ => some k_ ≠ (u11 : Value).ownBlock ∧ some k_ ≠ (.slice Ao26 x8_2.length co26 : Value).ownBlock) (.slice Ao8 t143.length co8) t143) := ⟨by rw [← hq_]; exact (by (with_reducible repeat (first | apply Kd.S_alloc | apply Kd.S_drewN | apply Kd.S_drew)); exact Kd.S_mono HO_7.out (fun _ hk => ⟨hk.2, hk.1⟩))⟩; have n2_ : Aside0 (Kd.R (Kd.int .i64) 3 wr w.heap.size (fun _ => True) (.slice Ao26 x8_2.length co26) x8_2) := ⟨by rw [← hq_]; exact (wR HO_8)⟩; have n3_ : Aside0 (Below w.heap.size w wr) := ⟨by rw [← hq_]; exact (bw HB)⟩; clear HO_11 HO_7 HO_8 HB hq_; have HO_11 := n0_; have HO_7 := n1_; have HO_8 := n2_; have HB := n3_; clear n0_ n1_ n2_ n3_))) | ((with_reducible refine gate_dst (N := 41) rfl ?_); refine Kd.R_make (Kd.int .i64) _ 3 rfl (N := 41) rfl 23 _ _ rfl a2 rfl rfl Try.underlying23 (.int .i64 0) 8 info3 rfl (by decide) (by omega) 0 (ok := fun _ => True) (okp := fun _ => True) rfl (fun _ hk => hk) trivial (od) (Nat.le_trans (Nat.mul_le_mul_right _ (od : a2.toNat ≤ 35184372088832)) (by omega)) (Below.refl _ _) (Nat.le_refl _) ?_; intro v162 w27 ho28 hb hg_ hnew_; clear hg_ hnew_; (first | rw [← Ny161.out] at ho28 | (simp only [Int.reduceToNat] at ho28; rw [← Ny161.out] at ho28)); replace HO_7 := eS HO_7 (Kd.R_base ho28) hb; replace HO_11 := eS HO_11 (Kd.R_base ho28) hb; have HO163 := am (Kd.R_lower (Kd.R_new' ho28 (Kd.R_lt (wR HO_8))) (bz HB)); replace HO_8 := eR HO_8 (Kd.R_base ho28) hb; replace HB := bq HB hb; clear hb ho28; have p25 : 0 ≤ (x34_2 : Int) := od; have q25 : (x34_2 : Int) < ((y161.length : Int) : Int) := od; obtain ⟨go25, co25, eo25, gb25, gl25, cl25, HG25⟩ := Kd.R_form HO163.out (by omega); (first | cases eo25 | (injection eo25 with ea_ en_ ec_; (first | subst ea_ | (injection ea_ with ea_; subst ea_)); subst ec_; clear en_)); have GB25 := am gb25; have GG25 := am HG25; clear gb25 gl25 HG25; obtain ⟨hx25_0, hf25_0⟩ := Kd.R_celln 0 HO163.out (x34_2 : Int) p25 q25; replace p25 := eq_true p25; replace q25 := eq_true q25; have n_ := am (Kd.R_mono (ok' := (fun k_ => some k_ ≠ (.slice Ao26 x8_2.length co26 : Value).ownBlock)) HO163.out (fun k_ hk => hk.2)); clear HO163; have HO163 := n_; clear n_; obtain ⟨hy29_, hz29_⟩ := Kd.R_celln 0 HO163.out (x34_2 : Int) (od) (od); have HP29 := Kd.R_putg HO163.out (x34_2 : Int) 1))
        obtain ⟨w30, hw⟩ : ∃ w_, w_ = (w27.setCell ⟨go25, (x34_2 : Int).toNat, none⟩ (.int .i64 1)) := ⟨_, rfl⟩
        rw [← hw]
        (have hg : w27.grownBy w30 (some go25) := (by rw [hw]; exact HP29.2); have hp_ : Kd.R (Kd.int .i64) 3 w30 w.heap.size (fun k_ => some k_ ≠ (.slice Ao26 x8_2.length co26 : Value).ownBlock) (.slice (some ⟨go25, 0, none⟩) y161.length co25) y164 := (by rw [hw, Ny164.out]; exact HP29.1); clear HP29; have n0_ := am (Kd.S_after (v := (.slice (some ⟨go25, 0, none⟩) y161.length co25)) (v1 := (.slice (some ⟨go25, 0, none⟩) y161.length co25)) (ok := (fun k_ => some k_ ≠ (.slice Ao26 x8_2.length co26 : Value).ownBlock ∧ some k_ ≠ (u11 : Value).ownBlock)) (by (with_reducible repeat (first | apply Kd.S_alloc | apply Kd.S_drewN | apply Kd.S_drew)); first | exact HO_7.out | exact Kd.S_mono HO_7.out (fun _ h => ⟨⟨h.1.2, h.1.1⟩, h.2⟩)) hg (.inl rfl)); have n1_ := am (Kd.R_after (v := (.slice (some ⟨go25, 0, none⟩) y161.length co25)) (v1 := (.slice (some ⟨go25, 0, none⟩) y161.length co25)) (ok := (fun _ => True)) (by (with_reducible repeat (first | apply Kd.R_alloc | apply Kd.R_drewN | apply Kd.R_drew)); first | exact HO_8.out | exact Kd.S_mono HO_8.out (fun _ h => ⟨⟨h.1.2, h.1.1⟩, h.2⟩)) hg (.inl rfl)); have n2_ := am (Kd.S_after (v := (.slice (some ⟨go25, 0, none⟩) y161.length co25)) (v1 := (.slice (some ⟨go25, 0, none⟩) y161.length co25)) (ok := (fun k_ => some k_ ≠ (.slice Ao8 t143.length co8 : Value).ownBlock ∧ some k_ ≠ (.slice Ao26 x8_2.length co26 : Value).ownBlock)) (by (with_reducible repeat (first | apply Kd.S_alloc | apply Kd.S_drewN | apply Kd.S_drew)); first | exact HO_11.out | exact Kd.S_mono HO_11.out (fun _ h => ⟨⟨h.1.2, h.1.1⟩, h.2⟩)) hg (.inl rfl)); have n3_ := am (hp_); have n4_ := am ((by rw [hw]; exact below_set (HB.out) GB25.out : Below w.heap.size w w30)); clear HO_7; clear HO_8; clear HO_11; clear HO163; clear HB; have HO_7 := n0_; have HO_8 := n1_; have HO_11 := n2_; have HO163 := n3_; have HB := n4_; clear n0_ n1_ n2_ n3_ n4_; clear hg hw hp_)
        go_loopg [47] k2 (fun kq v47 w' => ∃ (x13_3 : List Int) (x47_3 : Int), v47 = .int .i64 x47_3 ∧ Aside0 (impl_solutions.l2 kq a0 a2 t143 x8_2 x11_2 x34_2 x13_3 a2 x34_2 t143 (t143.length : Int) x47_3 = some r) ∧ Aside0 (kq ≤ k2) ∧ Aside0 (Kd.S (Kd.slice 3 (Kd.int .i64)) 23 w' w.heap.size (fun k_ => some k_ ≠ ((.slice Ao26 x8_2.length co26) : Value).ownBlock ∧ some k_ ≠ (u11 : Value).ownBlock ∧ some k_ ≠ ((.slice (some ⟨go25, 0, none⟩) y161.length co25) : Value).ownBlock) (.slice Ao8 t143.length co8) t143) ∧ Aside0 (Kd.R (Kd.int .i64) 3 w' w.heap.size (fun k_ => some k_ ≠ ((.slice (some ⟨go25, 0, none⟩) y161.length co25) : Value).ownBlock) (.slice Ao26 x8_2.length co26) x8_2) ∧ Aside0 (Kd.S (Kd.slice 3 (Kd.int .i64)) 23 w' w.heap.size (fun k_ => some k_ ≠ ((.slice Ao8 t143.length co8) : Value).ownBlock ∧ some k_ ≠ ((.slice Ao26 x8_2.length co26) : Value).ownBlock ∧ some k_ ≠ ((.slice (some ⟨go25, 0, none⟩) y161.length co25) : Value).ownBlock ∧ some k_ ≠ ((.slice Ao8 t143.length co8) : Value).ownBlock) u11 x11_2) ∧ Aside0 (Kd.R (Kd.int .i64) 3 w' w.heap.size (fun k_ => some k_ ≠ ((.slice Ao26 x8_2.length co26) : Value).ownBlock) (.slice (some ⟨go25, 0, none⟩) y161.length co25) x13_3) ∧ Aside0 (Kd.S (Kd.slice 3 (Kd.int .i64)) 23 w' w.heap.size (fun k_ => some k_ ≠ ((.slice Ao26 x8_2.length co26) : Value).ownBlock ∧ some k_ ≠ (u11 : Value).ownBlock ∧ some k_ ≠ ((.slice (some ⟨go25, 0, none⟩) y161.length co25) : Value).ownBlock) (.slice Ao8 t143.length co8) t143) ∧ Aside0 (Below w.heap.size w w'))
        case atStart => exact ⟨(y164), (0), fr, H', ⟨Nat.le_refl _⟩, ⟨Kd.S_below (Kd.S_mono HO_7.out (fun _ hk => ⟨hk.1.1, ⟨hk.1.2, hk.2⟩⟩)) gs⟩, ⟨Kd.R_below (Kd.R_mono HO_8.out (fun _ hk => hk.2)) gs⟩, ⟨Kd.S_below (Kd.S_mono HO_11.out (fun _ hk => ⟨hk.1.1, ⟨hk.1.2, ⟨hk.2, hk.1.1⟩⟩⟩)) gs⟩, ⟨wR HO163⟩, ⟨Kd.S_below (Kd.S_mono HO_7.out (fun _ hk => ⟨hk.1.1, ⟨hk.1.2, hk.2⟩⟩)) gs⟩, ⟨bw HB⟩⟩
        case round =>
         clear H'; try clear c1; try clear p1; try clear q1; try clear hx1; try clear c2; try clear p2; try clear q2; try clear hx2; try clear p6; try clear c9; try clear c9b0; try clear c10; try clear c10b0; try clear c11; try clear c11b0; try clear c13
         try clear c14; try clear p14; try clear q14; try clear hx14; try clear c15; try clear c17; try clear c17b0; try clear c19; try clear c21; try clear c21b0; try clear c21b1; try clear c22; try clear c22b0; try clear c22b1; try clear c23; try clear c23b0
         try clear c24; try clear c24b0; try clear p25; try clear q25; try clear hx25; try clear hf25; try clear hx149_0; try clear hx25_0; try clear p1; try clear p14; try clear p149; try clear p2; try clear p25; try clear p6; try clear q1; try clear q14
         try clear q149; try clear q25
         obtain ⟨x13_3, x47_3, rfl, HA, HK3, HO_7, HO_8, HO_11, HO_13, HO_45, HB⟩ := hrel
         have hl13_3 := (Kd.R_reads' HO_13.out).1
         rw [hl13_3] at HO_13
         (try simp only [hl13_3])
         (try simp only [hl13_3] at HO_7)
         (try simp only [hl13_3] at HO_8)
         (try simp only [hl13_3] at HO_11)
         (try simp only [hl13_3] at HO_45)
         cases gk with
         | zero => exact absurd HA.out (by simp [impl_solutions.l2])
         | succ k3 =>
          have H := HA.out; clear HA
          simp only [impl_solutions.l2] at H
          by_cases c31 : x47_3 < (t143.length : Int)
          ·rw [if_pos c31] at H
           have c31b0 := decide_eq_true c31; clear c31; replace H := ifn H; obtain ⟨c32, H⟩ := H; have c32b0 := decide_eq_true c32; clear c32; replace H := ifn H; obtain ⟨c33, H⟩ := H; have c33b0 := decide_eq_true c33; clear c33; replace H := ifn H; obtain ⟨c34, H⟩ := H
           have c34b0 := decide_eq_true c34; clear c34; replace H := ifn H; obtain ⟨c35, H⟩ := H; have c35b0 := decide_eq_true c35; clear c35; replace H := ifn H; obtain ⟨c36, H⟩ := H; have c36b0 := decide_eq_true c36; clear c36; replace H := bs H; obtain ⟨t168, A37, H⟩ := H
           replace H := ifn H; obtain ⟨c38, H⟩ := H; have c38b0 := decide_eq_true c38; clear c38; replace H := ifn H; obtain ⟨c39, H⟩ := H; have c39b0 := decide_eq_true c39; clear c39
           generalize hy169 : (x13_3.set ((rd x8_2 x47_3) : Int).toNat t168 : List Int) = y169 at H
           have Ny169 := am hy169.symm; clear hy169; have H' := am H; clear H
           have p165 : 0 ≤ (x47_3 : Int) := od
           have q165 : x47_3 < (t143.length : Int) := od
           obtain ⟨ad165, A165_0, c165_0, e165, hx165_0, hl165_0, hi165_0⟩ := at_L4 (Kd.S_reads' HO_45.out).2.2 x47_3 p165 q165
           cases e165
           obtain ⟨ce165, hce165, hMe165, hcc165⟩ := Kd.S_get HO_45.out [] x47_3 p165 (by first | exact q165 | exact od | (have e_ := (Kd.S_reads' HO_45.out).1; omega))
           obtain ⟨ve165_0, rfl, ge165_0⟩ := hMe165
           have hv165_0 := hcc165 0 _ rfl
           rw [Nat.add_zero, show ((Kd.slice 3 (Kd.int .i64))).sz = 1 from rfl, Nat.mul_one] at hv165_0
           replace hv165_0 := Option.some.inj (hv165_0.symm.trans hx165_0)
           rw [hv165_0] at ge165_0
           have HL165_0 := am (show Kd.R (Kd.int .i64) 3 _ _ _ _ (rd_L4 t143 x47_3) from ge165_0)
           clear hv165_0 ge165_0; clear hcc165 hce165
           have HR165_0 := am hi165_0
           have HC165_0 := am hl165_0
           clear hi165_0 hl165_0; replace p165 := eq_true p165; replace q165 := eq_true q165
           try go_wp2
           replace HO_7 := am (Kd.S_drew HO_7.out)
           replace HO_8 := am (Kd.R_drew HO_8.out)
           replace HO_11 := am (Kd.S_drew HO_11.out)
           replace HO_13 := am (Kd.R_drew HO_13.out)
           replace HO_45 := am (Kd.S_drew HO_45.out)
           replace HL165_0 := am (Kd.R_drew HL165_0.out)
           replace HR165_0 := am (Kd.C_drew HR165_0.out)
           replace HB := am (below_drew1 HB.out)
           have p166 : 0 ≤ (x47_3 : Int) := od
           have q166 : x47_3 < (x8_2.length : Int) := od
           obtain ⟨ad166, e166, hx166_0⟩ := Kd.at_int (Kd.R_reads' HO_8.out).2.2 x47_3 p166 q166
           cases e166; replace p166 := eq_true p166; replace q166 := eq_true q166
           have p167 : 0 ≤ (x34_2 : Int) := od
           have q167 : x34_2 < ((rd_L4 t143 x47_3).length : Int) := od
           obtain ⟨ad167, e167, hx167_0⟩ := Kd.at_int HR165_0.out x34_2 p167 q167
           cases e167; replace p167 := eq_true p167; replace q167 := eq_true q167
           refine st 14 (fun w' => w'.cell? (ad166.add (x47_3).toNat) = some (.int .i64 (rd x8_2 x47_3)) ∧ w'.cell? (ad167.add (x34_2).toNat) = some (.int .i64 (rd (rd_L4 t143 x47_3) x34_2))) [13] impl_solutions.tab18 impl_solutions.bits18 (⟨hx166_0, hx167_0⟩) fun hHeld HT_ HW_ => ?_
           generalize wr.drew = w41 at HO_7 HO_8 HO_11 HO_13 HO_45 HL165_0 HR165_0 HB hx166_0 hx167_0 hHeld ⊢
           refine pz 0 52 HT_ ?_; refine pz 1 53 HT_ ?_; refine pz 2 54 HT_ ?_; refine pz 3 55 HT_ ?_; refine pz 5 57 HT_ ?_; refine pz 6 58 HT_ ?_; refine pz 7 59 HT_ ?_; refine pz 10 62 HT_ ?_; refine tk 4 56 HT_ HW_ hHeld ?_; refine tk 8 60 HT_ HW_ hHeld ?_
           refine pz 9 61 HT_ ?_
           refine on 11 (some 63) HT_ fun K hK => ?_
           refine gs_ Try.func126 #[.int .i64 (wrap64 (-(rd (rd_L4 t143 x47_3) x34_2))), .int .i64 a0] ?_
           with_reducible refine (impl_mod.calls (wrap64 (-(rd (rd_L4 t143 x47_3) x34_2))) a0 t168 _ A37.out).mono ?_
           rintro e w' ⟨rfl, ⟨nd, rfl⟩⟩
           refine ⟨_, rfl, ?_⟩
           have p40 : 0 ≤ ((rd x8_2 x47_3) : Int) := od
           have q40 : ((rd x8_2 x47_3) : Int) < ((x13_3.length : Int) : Int) := od
           obtain ⟨hx40_0, hf40_0⟩ := Kd.R_celln 0 HO_13.out ((rd x8_2 x47_3) : Int) p40 q40
           replace p40 := eq_true p40; replace q40 := eq_true q40
           have HP42 := Kd.R_putn HO_13.out ((rd x8_2 x47_3) : Int) t168
           rw [← Ny169.out] at HP42
           have HQ42 := am HP42
           clear HP42
           refine hK.out _ _ ⟨hHeld.1, hHeld.2⟩ fun hHeld => nz ?_
           clear hK K; refine pz 12 64 HT_ ?_
           refine la 13 none HT_ fun K hK => ?_
           refine skip_ (w1 := ?_) (by rfl) rfl ?_ ?_
           rotate_left
           ·go_simp
            rfl
           refine hK.out _ _ ?_
           clear hK K
           refine done_ (done_of HT_.out (by kernel_rfl)) ?_
           try go_wp2
           (try simp only [← hl13_3])
           go_roundg k3
           case measure => have := HK1.out; have := HK2.out; have := HK3.out; omega
           case rel => exact ⟨(y169), (wrap64 (x47_3 + 1)), fr, H', ⟨by have := HK1.out; have := HK2.out; have := HK3.out; omega⟩, ⟨by (try simp only [hl13_3]); (with_reducible repeat (first | apply Kd.S_alloc | apply Kd.S_drewN | apply Kd.S_drew)); exact Kd.S_mono (Kd.S_far (p := ⟨go25, ((rd x8_2 x47_3) : Int).toNat, none⟩) (Kd.S_mono HO_7.out (fun k_ hk => (⟨hk, fun e_ => hk.2.2 (by rw [e_]; rfl)⟩ : _ ∧ k_ ≠ go25))) (fun _ hk => hk.2) (.int .i64 t168)) (fun _ hk => ⟨hk.1.1, ⟨hk.1.2.1, hk.1.2.2⟩⟩)⟩, ⟨by (try simp only [hl13_3]); (with_reducible repeat (first | apply Kd.R_alloc | apply Kd.R_drewN | apply Kd.R_drew)); exact Kd.R_mono (Kd.R_far (p := ⟨go25, ((rd x8_2 x47_3) : Int).toNat, none⟩) (Kd.R_mono HO_8.out (fun k_ hk => (⟨hk, fun e_ => hk (by rw [e_]; rfl)⟩ : _ ∧ k_ ≠ go25))) (fun _ hk => hk.2) (.int .i64 t168)) (fun _ hk => hk.1)⟩, ⟨by (try simp only [hl13_3]); (with_reducible repeat (first | apply Kd.S_alloc | apply Kd.S_drewN | apply Kd.S_drew)); exact Kd.S_mono (Kd.S_far (p := ⟨go25, ((rd x8_2 x47_3) : Int).toNat, none⟩) (Kd.S_mono HO_11.out (fun k_ hk => (⟨hk, fun e_ => hk.2.2.1 (by rw [e_]; rfl)⟩ : _ ∧ k_ ≠ go25))) (fun _ hk => hk.2) (.int .i64 t168)) (fun _ hk => ⟨hk.1.1, ⟨hk.1.2.1, ⟨hk.1.2.2.1, hk.1.2.2.2⟩⟩⟩)⟩, ⟨by (try simp only [hl13_3]); (with_reducible repeat (first | apply Kd.R_alloc | apply Kd.R_drewN | apply Kd.R_drew)); exact HQ42.out⟩, ⟨by (try simp only [hl13_3]); (with_reducible repeat (first | apply Kd.S_alloc | apply Kd.S_drewN | apply Kd.S_drew)); exact Kd.S_mono (Kd.S_far (p := ⟨go25, ((rd x8_2 x47_3) : Int).toNat, none⟩) (Kd.S_mono HO_45.out (fun k_ hk => (⟨hk, fun e_ => hk.2.2 (by rw [e_]; rfl)⟩ : _ ∧ k_ ≠ go25))) (fun _ hk => hk.2) (.int .i64 t168)) (fun _ hk => ⟨hk.1.1, ⟨hk.1.2.1, hk.1.2.2⟩⟩)⟩, ⟨bx_ HB⟩⟩
          ·rw [if_neg c31] at H
           have c31b0 := decide_eq_false c31; clear c31; replace H := ifn H; obtain ⟨c43, H⟩ := H; have LMc43 := am c43; clear c43
           generalize hy170 : (x11_2 ++ [x13_3] : List (List Int)) = y170 at H
           have Ny170 := am hy170.symm; clear hy170; have H' := am H; clear H
           go_wp2_with (first | ((with_reducible refine gate_builtin (b := .append) (xs := #[.tmp 66, .tmp 68]) rfl ?_); at_builtin; refine Kd.S_append (Kd.slice 3 (Kd.int .i64)) (w0 := w) w.heap.size rfl (.tmp 66) (.tmp 68) 47 23 (.slice none 0 0) 24 rfl Try.underlying47 info23 rfl (by decide) (by omega) u11 x11_2 x13_3 [.slice (some ⟨go25, 0, none⟩) x13_3.length co25] (fun k_ => some k_ ≠ (.slice Ao8 t143.length co8 : Value).ownBlock ∧ some k_ ≠ (.slice Ao26 x8_2.length co26 : Value).ownBlock ∧ some k_ ≠ (.slice Ao8 t143.length co8 : Value).ownBlock) (fun k_ => some k_ = (.slice (some ⟨go25, 0, none⟩) x13_3.length co25 : Value).ownBlock) rfl rfl ?aP (fun k_ hk_ => ((Kd.R_mono (ok' := fun k_ => ((fun k_ => some k_ ≠ (.slice Ao8 t143.length co8 : Value).ownBlock ∧ some k_ ≠ (.slice Ao26 x8_2.length co26 : Value).ownBlock ∧ some k_ ≠ (.slice Ao8 t143.length co8 : Value).ownBlock)) k_ ∧ some k_ ≠ (u11 : Value).ownBlock) (Kd.R_apart' (Kd.R_apart' (Kd.R_apart' (HO_13.out) (Kd.S_typed HO_7.out) (by decide)) (Kd.S_typed HO_45.out) (by decide)) (Kd.S_typed HO_11.out) (by decide)) (fun k_ hk => ⟨⟨hk.1.1.2, ⟨hk.1.1.1, hk.1.2⟩⟩, hk.2⟩))).1 k_ hk_.symm) ?aF ?aO ?aB ?aS ?aL ?_; (case aP => exact Kd.M_row (Kd.R_mono (Kd.R_tight rfl (Kd.R_mono (ok' := fun k_ => ((fun k_ => some k_ ≠ (.slice Ao8 t143.length co8 : Value).ownBlock ∧ some k_ ≠ (.slice Ao26 x8_2.length co26 : Value).ownBlock ∧ some k_ ≠ (.slice Ao8 t143.length co8 : Value).ownBlock)) k_ ∧ some k_ ≠ (u11 : Value).ownBlock) (Kd.R_apart' (Kd.R_apart' (Kd.R_apart' (HO_13.out) (Kd.S_typed HO_7.out) (by decide)) (Kd.S_typed HO_45.out) (by decide)) (Kd.S_typed HO_11.out) (by decide)) (fun k_ hk => ⟨⟨hk.1.1.2, ⟨hk.1.1.1, hk.1.2⟩⟩, hk.2⟩))) (fun _ h_ => h_))); (case aB => exact (bw HB)); (case aF => exact (fun k_ hk => ⟨Kd.fresh' (Kd.S_lt (wS HO_7)) k_ hk, Kd.fresh' (Kd.R_lt (wR HO_8)) k_ hk, Kd.fresh' (Kd.S_lt (wS HO_45)) k_ hk⟩)); (case aO => exact (by (with_reducible repeat (first | apply Kd.S_alloc | apply Kd.S_drewN | apply Kd.S_drew)); exact Kd.S_mono HO_11.out (fun k_ hk => ⟨⟨hk.1, ⟨hk.2.1, hk.2.2.2⟩⟩, fun e_ => hk.2.2.1 e_⟩))); (case aS => exact (bz HB)); (case aL => have := LMc43.out; omega); intro v171 w44 ho hb hg hat; rw [← Ny170.out] at ho; replace HO_7 := am (Kd.S_after (ok := (fun k_ => some k_ ≠ (.slice Ao26 x8_2.length co26 : Value).ownBlock ∧ some k_ ≠ (.slice (some ⟨go25, 0, none⟩) x13_3.length co25 : Value).ownBlock)) (by (with_reducible repeat (first | apply Kd.S_alloc | apply Kd.S_drewN | apply Kd.S_drew)); exact Kd.S_mono HO_7.out (fun _ hk => ⟨⟨hk.1, hk.2.2⟩, hk.2.1⟩)) hg hat); replace HO_8 := am (Kd.R_over' (wR HO_8) (Kd.S_typed (wS HO_11)) (by decide) hg); replace HO_45 := am (Kd.S_after (ok := (fun k_ => some k_ ≠ (.slice Ao26 x8_2.length co26 : Value).ownBlock ∧ some k_ ≠ (.slice (some ⟨go25, 0, none⟩) x13_3.length co25 : Value).ownBlock)) (by (with_reducible repeat (first | apply Kd.S_alloc | apply Kd.S_drewN | apply Kd.S_drew)); exact Kd.S_mono HO_45.out (fun _ hk => ⟨⟨hk.1, hk.2.2⟩, hk.2.1⟩)) hg hat); replace HB := am (hb); have HO172 := am (ho); clear HO_11 HO_13; clear ho hb hg hat))
           (try simp only [← hl13_3])
           go_roundg k3
           case measure => have := HK1.out; have := HK2.out; have := HK3.out; omega
           case rel => exact ⟨(x8_2), (y170), (wrap64 (x34_2 + 1)), fr, H', ⟨by have := HK1.out; have := HK2.out; have := HK3.out; omega⟩, ⟨by (try simp only [hl13_3]); (with_reducible repeat (first | apply Kd.S_alloc | apply Kd.S_drewN | apply Kd.S_drew)); exact Kd.S_mono HO_7.out (fun _ hk => ⟨hk.1.1, hk.2⟩)⟩, ⟨by (try simp only [hl13_3]); (with_reducible repeat (first | apply Kd.R_alloc | apply Kd.R_drewN | apply Kd.R_drew)); exact Kd.R_mono HO_8.out (fun _ hk => trivial)⟩, ⟨by (try simp only [hl13_3]); (with_reducible repeat (first | apply Kd.S_alloc | apply Kd.S_drewN | apply Kd.S_drew)); exact Kd.S_mono HO172.out (fun _ hk => ⟨hk.1, hk.2.1⟩)⟩, ⟨bw HB⟩⟩
      ·rw [if_neg c17] at H
       have c17b0 := decide_eq_false c17; clear c17; replace H := bs H; obtain ⟨t157, A45, H⟩ := H; obtain rfl := Option.some.inj H
       obtain ⟨Ao46, co46, eo46⟩ := Kd.S_slice HO_11.out
       subst eo46
       go_wp2_with (first | ((with_reducible refine gate_callee (f := 152) rfl ?_); refine gl 73 Try.func152 #[.int .i64 a0, .slice Ao46 x11_2.length co46] ?_; (with_reducible refine (impl_reduced.calls k2 a0 _ _ x11_2 t157 _ ?_ ?_ A45.out).mono ?_); exact Kd.C_below (Kd.S_reads' HO_11.out).2.2 gs; exact (Kd.S_reads' HO_11.out).2.1; rintro e w47 ⟨v158, rfl, ho0, hb⟩; refine ⟨_, rfl, ?_⟩; have HO159 := am (Kd.S_lower (Kd.S_new' (Kd.S_new' (Kd.S_new' ho0 (Kd.S_lt (wS HO_7))) (Kd.R_lt (wR HO_8))) (Kd.S_lt (wS HO_11))) (bz HB)); replace HO_7 := eS HO_7 (Kd.S_base ho0) hb; replace HO_8 := am (Kd.R_below (wR HO_8) hb); replace HO_11 := eS HO_11 (Kd.S_base ho0) hb; replace HB := bq HB hb; (try clear hb); (try clear ho0)))
       go_ret
       exact ⟨_, fq, Kd.S_below (Kd.S_mono HO159.out (fun _ hk => trivial)) gs, bw HB⟩
end Go.Proofs.Ytmgbpmihbljngaa.PA

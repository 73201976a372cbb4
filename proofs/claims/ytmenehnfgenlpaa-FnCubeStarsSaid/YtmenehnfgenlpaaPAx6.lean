-- Written by xprint.py, a program of this claim's own (over the kit's print.py)
import Derived.Test.YtmenehnfgenlpaaPAx0
import Derived.Test.YtmenehnfgenlpaaPAx1
import Derived.Test.YtmenehnfgenlpaaPAx4
import Derived.Test.YtmenehnfgenlpaaPAx5
import Derived.Deep.Cut
namespace Go.Proofs.Ytmenehnfgenlpaa.PA
open Go.RowKit Go.Proofs.YtmenehnfgenlpaaW.PrintWords Go.Proofs.YtmenehnfgenlpaaW.PrintLast Go.Proofs.YtmenehnfgenlpaaW.PrintMore
attribute [local go_sem] max2_int min2_int max_two min_two max_three min_three max_four min_four   -- for this text's walks alone
set_option linter.unusedVariables false
set_option linter.unusedSimpArgs false

/-! ### spec_l8Table: function 50 -/
mutual
def spec_l8Table.l0 : Nat → Int → List (List Int) → List (List Bool) → Int → Option ((List (List Bool)))
 | 0, _, _, _, _ => none
 | k + 1, x0, x5, x6, x7 => if x7 < 27 then (spec_l8Table.l1 k x0 x5 x6 x7 (([] : List Bool)) 0) else (some x6)
def spec_l8Table.l1 : Nat → Int → List (List Int) → List (List Bool) → Int → List Bool → Int → Option ((List (List Bool)))
 | 0, _, _, _, _, _, _ => none
 | k + 1, x0, x5, x6, x7, x8, x9 => if x9 < 27 then (if 0 ≤ x7 then (if x7 < (x5.length : Int) then (if 0 ≤ x9 then (if x9 < (x5.length : Int) then ((spec_SpaceCross.f k x0 (rd_L1 x5 x7) (rd_L1 x5 x9)).bind fun t249 => (if x8.length < 140737488355328 then (spec_l8Table.l1 k x0 x5 x6 x7 (x8 ++ [t249]) (wrap64 (x9 + 1))) else (none))) else (none)) else (none)) else (none)) else (none)) else (if x6.length < 5864062014805 then (spec_l8Table.l0 k x0 x5 (x6 ++ [x8]) (wrap64 (x7 + 1))) else (none))
end
def spec_l8Table.f (k : Nat) (a0 : Int) (l1 : List Int) : Option ((List (List Bool))) := (spec_l8Lines.f k a0 l1).bind fun t238 => (spec_l8Table.l0 k a0 t238 (([] : List (List Bool))) 0)
theorem spec_l8Table.mono_l : ∀ k, (∀ y0 y1 y2 y3, LeO (spec_l8Table.l0 k y0 y1 y2 y3) (spec_l8Table.l0 (k + 1) y0 y1 y2 y3)) ∧ (∀ y0 y1 y2 y3 y4 y5, LeO (spec_l8Table.l1 k y0 y1 y2 y3 y4 y5) (spec_l8Table.l1 (k + 1) y0 y1 y2 y3 y4 y5))
 | 0 => ⟨fun _ _ _ _ r h => by simp [spec_l8Table.l0] at h, fun _ _ _ _ _ _ r h => by simp [spec_l8Table.l1] at h⟩
 | k + 1 => by
  obtain ⟨ih0, ih1⟩ := spec_l8Table.mono_l k
  refine ⟨?_, ?_⟩
  ·intro y0 y1 y2 y3
   unfold spec_l8Table.l0
   repeat' first | (with_reducible first | apply ih0 | apply ih1 | apply spec_SpaceCross.mono | apply spec_l8Lines.mono | exact LeO.refl _ | exact LeO.none _ | refine LeO.ite ?_ ?_ | refine LeO.bind ?_ (fun _ => ?_)) | (first | apply ih0 | apply ih1 | apply spec_SpaceCross.mono | apply spec_l8Lines.mono | exact LeO.none _ | refine LeO.ite ?_ ?_ | refine LeO.bind ?_ (fun _ => ?_))
  ·intro y0 y1 y2 y3 y4 y5
   unfold spec_l8Table.l1
   repeat' first | (with_reducible first | apply ih0 | apply ih1 | apply spec_SpaceCross.mono | apply spec_l8Lines.mono | exact LeO.refl _ | exact LeO.none _ | refine LeO.ite ?_ ?_ | refine LeO.bind ?_ (fun _ => ?_)) | (first | apply ih0 | apply ih1 | apply spec_SpaceCross.mono | apply spec_l8Lines.mono | exact LeO.none _ | refine LeO.ite ?_ ?_ | refine LeO.bind ?_ (fun _ => ?_))
theorem spec_l8Table.mono : ∀ a0 a1 k, LeO (spec_l8Table.f k a0 a1) (spec_l8Table.f (k + 1) a0 a1) := by
 intro a0 a1 k
 obtain ⟨ih0, ih1⟩ := spec_l8Table.mono_l k
 unfold spec_l8Table.f
 repeat' first | (with_reducible first | apply ih0 | apply ih1 | apply spec_SpaceCross.mono | apply spec_l8Lines.mono | exact LeO.refl _ | exact LeO.none _ | refine LeO.ite ?_ ?_ | refine LeO.bind ?_ (fun _ => ?_)) | (first | apply ih0 | apply ih1 | apply spec_SpaceCross.mono | apply spec_l8Lines.mono | exact LeO.none _ | refine LeO.ite ?_ ?_ | refine LeO.bind ?_ (fun _ => ?_))
def spec_l8Table.T10 : Bool × List (List Nat × List Nat) := (true, [([], []), ([], []), ([], []), ([], []), ([2, 3], [2, 3]), ([4], [4]), ([], []), ([], []), ([6, 7], [6, 7]), ([8], [8]), ([1, 5, 9], [1, 5, 9]), ([10], [10]), ([0, 11, 10], [0, 11]), ([12, 12, 0, 1, 2, 3, 4, 5, 6, 7, 8, 9, 10, 11, 12], [0, 12])])
def spec_l8Table.B10 : List Nat := [0, 0, 0, 0, 12, 28, 0, 0, 192, 448, 1022, 2046, 4095, 8191]
theorem spec_l8Table.tab10 : rtab .any (opsOf Try.f50 10) = spec_l8Table.T10 := by kernel_rfl
theorem spec_l8Table.bits10 : waitsOk spec_l8Table.T10.2 spec_l8Table.B10 = true := by kernel_rfl
set_option maxHeartbeats 8000000 in
set_option maxRecDepth 100000 in
theorem spec_l8Table.calls (k : Nat) (a0 : Int) (A1 : Option Addr) (c1 : Nat) (l1 : List Int) (r : List (List Bool)) (w : World) (hr1 : Kd.C (Kd.int .i64) w A1 l1.length l1) (hc1 : l1.length ≤ c1) (h : spec_l8Table.f k a0 l1 = some r) :
  Calls Try.prog 50 #[.int .i64 a0, .slice A1 l1.length c1] w fun e w' => ∃ v0_ : Value, e = .returned (v0_) ∧ Kd.S (Kd.slice 4 Kd.bool) 51 w' w.heap.size (fun _ => True) v0_ r ∧ Below w.heap.size w w' := by
 have HR1 := am hr1
 have HC1 := am hc1
 clear hr1 hc1
 have HB := am (Below.refl w.heap.size w)
 have H : ((spec_l8Lines.f k a0 l1).bind fun t238 => (spec_l8Table.l0 k a0 t238 (([] : List (List Bool))) 0)) = some r := h
 clear h; replace H := bs H; obtain ⟨t238, A3, H⟩ := H
 generalize hy241 : (([] : List (List Bool))) = y241 at H
 have Ny241 := am hy241.symm; clear hy241; have H' := am H; clear H
 go_enter Try.func50, Try.ntmps50
 go_wp2_with (first | ((with_reducible refine gate_callee (f := 79) rfl ?_); refine gl 12 Try.func79 #[.int .i64 a0, .slice A1 l1.length c1] ?_; (with_reducible refine (spec_l8Lines.calls k a0 _ _ l1 t238 _ ?_ ?_ A3.out).mono ?_); exact wC HR1; exact HC1.out; rintro e w4 ⟨v239, rfl, ho0, hb⟩; refine ⟨_, rfl, ?_⟩; have HO240 := am (Kd.S_lower ho0 (bz HB)); replace HB := bq HB hb; (try clear hb); (try clear ho0)) | ((with_reducible refine gate_dst (N := 13) rfl ?_); refine Kd.S_lit (Kd.slice 4 Kd.bool) _ 51 ?hg (N := 13) ?hd (xs := ([] : List (List Bool))) (inner := []) (ok := fun _ => True) (okp := fun _ => True) ?hr ?hp (fun _ hk => hk) trivial (Below.refl _ _) (Nat.le_refl _) (by simp) ?_; (case hd => rfl); (case hg => rfl); (case hr => first | (go_simp; done) | (go_simp; rfl)); (case hp => exact (Reps.none _ _)); intro v242 w5 ho6 hb hg_ hnew_; clear hg_ hnew_; (first | rw [← Ny241.out] at ho6 | (simp only [Int.reduceToNat] at ho6; rw [← Ny241.out] at ho6)); replace HO240 := am (Kd.S_below (wS HO240) hb); have HO243 := am (Kd.S_lower ho6 (bz HB)); replace HB := bq HB hb; clear hb ho6))
 go_loopg [6, 7] k (fun kq v6 v7 w' => ∃ (x6_1 : List (List Bool)) (x7_1 : Int), v7 = .int .i64 x7_1 ∧ Aside0 (spec_l8Table.l0 kq a0 t238 x6_1 x7_1 = some r) ∧ Aside0 (kq ≤ k) ∧ Aside0 (Kd.S (Kd.slice 3 (Kd.int .i64)) 22 w' w.heap.size (fun _ => True) v239 t238) ∧ Aside0 (Kd.S (Kd.slice 4 Kd.bool) 51 w' w.heap.size (fun _ => True) v6 x6_1) ∧ Aside0 (Below w.heap.size w w'))
 case atStart => exact ⟨(y241), (0), fr, H', ⟨Nat.le_refl _⟩, ⟨wS HO240⟩, ⟨wS HO243⟩, ⟨bw HB⟩⟩
 case round =>
  clear H'; try clear c1; try clear p2; try clear c5
  obtain ⟨x6_1, x7_1, rfl, HA, HK1, HO_5, HO_6, HB⟩ := hrel
  cases gk with
  | zero => exact absurd HA.out (by simp [spec_l8Table.l0])
  | succ k1 =>
   have H := HA.out; clear HA
   simp only [spec_l8Table.l0] at H
   by_cases c7 : x7_1 < 27
   ·rw [if_pos c7] at H
    have c7b0 := decide_eq_true c7; clear c7
    generalize hy244 : (([] : List Bool)) = y244 at H
    have Ny244 := am hy244.symm; clear hy244; have H' := am H; clear H
    go_wp2_with (first | ((with_reducible refine gate_dst (N := 18) rfl ?_); refine Kd.R_lit Kd.bool _ 4 ?hg (N := 18) ?hd (xs := ([] : List Bool)) (inner := []) (ok := fun _ => True) (okp := fun _ => True) ?hr ?hp (fun _ hk => hk) trivial (Below.refl _ _) (Nat.le_refl _) (by simp) ?_; (case hd => rfl); (case hg => rfl); (case hr => first | (go_simp; done) | (go_simp; rfl)); (case hp => exact (Reps.none _ _)); intro v245 w8 ho9 hb hg_ hnew_; clear hg_ hnew_; (first | rw [← Ny244.out] at ho9 | (simp only [Int.reduceToNat] at ho9; rw [← Ny244.out] at ho9)); replace HO_5 := am (Kd.S_below (wS HO_5) hb); replace HO_6 := eS HO_6 (Kd.R_base ho9) hb; have HO246 := am (Kd.R_lower ho9 (bz HB)); replace HB := bq HB hb; clear hb ho9))
    go_loopg [8, 9] k1 (fun kq v8 v9 w' => ∃ (x8_2 : List Bool) (x9_2 : Int), v9 = .int .i64 x9_2 ∧ Aside0 (spec_l8Table.l1 kq a0 t238 x6_1 x7_1 x8_2 x9_2 = some r) ∧ Aside0 (kq ≤ k1) ∧ Aside0 (Kd.S (Kd.slice 3 (Kd.int .i64)) 22 w' w.heap.size (fun _ => True) v239 t238) ∧ Aside0 (Kd.S (Kd.slice 4 Kd.bool) 51 w' w.heap.size (fun k_ => some k_ ≠ (v8 : Value).ownBlock) u6 x6_1) ∧ Aside0 (Kd.R Kd.bool 4 w' w.heap.size (fun _ => True) v8 x8_2) ∧ Aside0 (Below w.heap.size w w'))
    case atStart => exact ⟨(y244), (0), fr, H', ⟨Nat.le_refl _⟩, ⟨wS HO_5⟩, ⟨Kd.S_below (Kd.S_mono HO_6.out (fun _ hk => hk.2)) gs⟩, ⟨wR HO246⟩, ⟨bw HB⟩⟩
    case round =>
     clear H'; try clear c1; try clear p2; try clear c5; try clear c7; try clear c7b0; try clear p2
     obtain ⟨x8_2, x9_2, rfl, HA, HK2, HO_5, HO_6, HO_8, HB⟩ := hrel
     cases gk with
     | zero => exact absurd HA.out (by simp [spec_l8Table.l1])
     | succ k2 =>
      have H := HA.out; clear HA
      simp only [spec_l8Table.l1] at H
      by_cases c10 : x9_2 < 27
      ·rw [if_pos c10] at H
       have c10b0 := decide_eq_true c10; clear c10; replace H := ifn H; obtain ⟨c11, H⟩ := H; have c11b0 := decide_eq_true c11; clear c11; replace H := ifn H; obtain ⟨c12, H⟩ := H; have c12b0 := decide_eq_true c12; clear c12; replace H := ifn H; obtain ⟨c13, H⟩ := H
       have c13b0 := decide_eq_true c13; clear c13; replace H := ifn H; obtain ⟨c14, H⟩ := H; have c14b0 := decide_eq_true c14; clear c14; replace H := bs H; obtain ⟨t249, A15, H⟩ := H; replace H := ifn H; obtain ⟨c16, H⟩ := H; have LMc16 := am c16
       clear c16
       generalize hy250 : (x8_2 ++ [t249] : List Bool) = y250 at H
       have Ny250 := am hy250.symm; clear hy250; have H' := am H; clear H
       try go_wp2
       replace HO_5 := am (Kd.S_drew HO_5.out)
       replace HO_6 := am (Kd.S_drew HO_6.out)
       replace HO_8 := am (Kd.R_drew HO_8.out)
       replace HB := am (below_drew1 HB.out)
       obtain ⟨Ao18, co18, eo18⟩ := Kd.S_slice HO_5.out
       (first | subst eo18 | (injection eo18 with f1_ f2_ f3_; have f4_ := f1_.symm; have f5_ := f3_.symm; clear f1_ f2_ f3_; subst f4_; subst f5_))
       have p247 : 0 ≤ (x7_1 : Int) := od
       have q247 : x7_1 < (t238.length : Int) := od
       obtain ⟨ad247, A247_0, c247_0, e247, hx247_0, hl247_0, hi247_0⟩ := at_L1 (Kd.S_reads' HO_5.out).2.2 x7_1 p247 q247
       cases e247
       obtain ⟨ce247, hce247, hMe247, hcc247⟩ := Kd.S_get HO_5.out [] x7_1 p247 (by first | exact q247 | exact od | (have e_ := (Kd.S_reads' HO_5.out).1; omega))
       obtain ⟨ve247_0, rfl, ge247_0⟩ := hMe247
       have hv247_0 := hcc247 0 _ rfl
       rw [Nat.add_zero, show ((Kd.slice 3 (Kd.int .i64))).sz = 1 from rfl, Nat.mul_one] at hv247_0
       replace hv247_0 := Option.some.inj (hv247_0.symm.trans hx247_0)
       rw [hv247_0] at ge247_0
       have HL247_0 := am (show Kd.R (Kd.int .i64) 3 _ _ _ _ (rd_L1 t238 x7_1) from ge247_0)
       clear hv247_0 ge247_0; clear hcc247 hce247
       have HR247_0 := am hi247_0
       have HC247_0 := am hl247_0
       clear hi247_0 hl247_0; replace p247 := eq_true p247; replace q247 := eq_true q247
       have p248 : 0 ≤ (x9_2 : Int) := od
       have q248 : x9_2 < (t238.length : Int) := od
       obtain ⟨ad248, A248_0, c248_0, e248, hx248_0, hl248_0, hi248_0⟩ := at_L1 (Kd.S_reads' HO_5.out).2.2 x9_2 p248 q248
       obtain rfl : ad247 = ad248 := (by injection e248)
       obtain ⟨ce248, hce248, hMe248, hcc248⟩ := Kd.S_get HO_5.out [] x9_2 p248 (by first | exact q248 | exact od | (have e_ := (Kd.S_reads' HO_5.out).1; omega))
       obtain ⟨ve248_0, rfl, ge248_0⟩ := hMe248
       have hv248_0 := hcc248 0 _ rfl
       rw [Nat.add_zero, show ((Kd.slice 3 (Kd.int .i64))).sz = 1 from rfl, Nat.mul_one] at hv248_0
       replace hv248_0 := Option.some.inj (hv248_0.symm.trans hx248_0)
       rw [hv248_0] at ge248_0
       have HL248_0 := am (show Kd.R (Kd.int .i64) 3 _ _ _ _ (rd_L1 t238 x9_2) from ge248_0)
       clear hv248_0 ge248_0; clear hcc248 hce248
       have HR248_0 := am hi248_0
       have HC248_0 := am hl248_0
       clear hi248_0 hl248_0; replace p248 := eq_true p248; replace q248 := eq_true q248
       refine st 14 (fun w' => w'.cell? (ad247.add (x7_1).toNat) = some (.slice A247_0 (rd_L1 t238 x7_1).length c247_0) ∧ w'.cell? (ad247.add (x9_2).toNat) = some (.slice A248_0 (rd_L1 t238 x9_2).length c248_0)) [11, 12] spec_l8Table.tab10 spec_l8Table.bits10 (⟨hx247_0, hx248_0⟩) fun hHeld HT_ HW_ => ?_
       generalize wr.drew = w17 at HO_5 HO_6 HO_8 HB HL247_0 HL248_0 HR247_0 HR248_0 hx247_0 hx248_0 hHeld ⊢
       refine pz 0 23 HT_ ?_; refine pz 1 24 HT_ ?_; refine pz 2 25 HT_ ?_; refine pz 3 26 HT_ ?_; refine pz 4 27 HT_ ?_; refine pz 6 29 HT_ ?_; refine pz 7 30 HT_ ?_; refine pz 8 31 HT_ ?_; refine tk 5 28 HT_ HW_ hHeld ?_; refine tk 9 32 HT_ HW_ hHeld ?_
       refine on 10 (some 33) HT_ fun K hK => ?_
       refine gs_ Try.func37 #[.int .i64 a0, .slice A247_0 (rd_L1 t238 x7_1).length c247_0, .slice A248_0 (rd_L1 t238 x9_2).length c248_0] ?_
       with_reducible refine (spec_SpaceCross.calls k2 a0 _ _ (rd_L1 t238 x7_1) _ _ (rd_L1 t238 x9_2) t249 _ ?side1 ?side2 ?side3 ?side4 A15.out).mono ?_
       (case side1 => exact wC HR247_0)
       (case side2 => exact HC247_0.out)
       (case side3 => exact wC HR248_0)
       (case side4 => exact HC248_0.out)
       rintro e w19 ⟨rfl, hb⟩
       have HS0_ := (hb.cell (World.block_lt_of_cell? _ _ (hHeld.1))).trans (hHeld.1)
       have HS1_ := (hb.cell (World.block_lt_of_cell? _ _ (hHeld.2))).trans (hHeld.2)
       refine ⟨_, rfl, ?_⟩
       replace HO_5 := am (Kd.S_below (wS HO_5) hb)
       replace HO_6 := am (Kd.S_below (wS HO_6) hb)
       replace HO_8 := am (Kd.R_below (wR HO_8) hb)
       replace HL247_0 := am (Kd.R_below (wR HL247_0) hb)
       replace HL248_0 := am (Kd.R_below (wR HL248_0) hb)
       replace HR247_0 := am (Kd.C_below (wC HR247_0) hb)
       replace HR248_0 := am (Kd.C_below (wC HR248_0) hb)
       replace HB := bq HB hb
       (try clear hb)
       (try clear hb2)
       (try clear hk)
       (try clear hi)
       refine hK.out _ _ ⟨HS0_, HS1_⟩ fun hHeld => nz ?_
       clear hK K
       refine la 11 (some 34) HT_ fun K hK => ?_
       refine value_ (w1 := ?_) (v := ?_) (by rfl) rfl ?_ ?_
       rotate_left 2
       ·go_simp
        constructor
        ·rfl
        ·rfl
       refine hK.out _ _ (nz ?_)
       clear hK K
       refine la 12 (some 35) HT_ fun K hK => ?_
       refine Kd.R_append_step Kd.bool (w0 := w) w.heap.size (by rfl) (.tmp 23) (.tmp 34) 51 4 (.bool false) 1 rfl Try.underlying51 info4 rfl (by decide) (by omega) u8 x8_2 t249 [.bool t249] (fun _ => True) (fun _ => False) rfl rfl ?aP (fun _ hk => hk.elim) ?aF ?aO ?aB ?aS ?aL ?_
       (case aP => exact rfl)
       (case aB => exact (bw HB))
       (case aF => exact (fun _ _ => trivial))
       (case aO => exact (wR HO_8))
       (case aS => exact (bz HB))
       (case aL => have := LMc16.out; omega)
       intro v251 w20 ho hb hg hat
       rw [← Ny250.out] at ho
       replace HO_5 := am (Kd.S_over' (wS HO_5) (Kd.R_typed (wR HO_8)) (by decide) hg)
       replace HO_6 := am (Kd.S_after (ok := (fun _ => True)) (by (with_reducible repeat (first | apply Kd.S_alloc | apply Kd.S_drewN | apply Kd.S_drew)); exact Kd.S_mono HO_6.out (fun _ hk => ⟨trivial, hk⟩)) hg hat)
       replace HL247_0 := am (Kd.R_over' (wR HL247_0) (Kd.R_typed (wR HO_8)) (by decide) hg)
       replace HL248_0 := am (Kd.R_over' (wR HL248_0) (Kd.R_typed (wR HO_8)) (by decide) hg)
       replace HB := am (hb)
       have HO252 := am (ho)
       clear HO_8; clear ho hb hg hat
       refine hK.out _ _ (nz ?_)
       clear hK K; refine pz 13 8 HT_ ?_
       refine done_ (done_of HT_.out (by kernel_rfl)) ?_
       try go_wp2
       go_roundg k2
       case measure => have := HK1.out; have := HK2.out; omega
       case rel => exact ⟨(y250), (wrap64 (x9_2 + 1)), fr, H', ⟨by have := HK1.out; have := HK2.out; omega⟩, ⟨wS HO_5⟩, ⟨Kd.S_below (Kd.S_mono HO_6.out (fun _ hk => hk.2)) gs⟩, ⟨wR HO252⟩, ⟨bw HB⟩⟩
      ·rw [if_neg c10] at H
       have c10b0 := decide_eq_false c10; clear c10; replace H := ifn H; obtain ⟨c21, H⟩ := H; have LMc21 := am c21; clear c21
       generalize hy253 : (x6_1 ++ [x8_2] : List (List Bool)) = y253 at H
       have Ny253 := am hy253.symm; clear hy253; have H' := am H; clear H
       obtain ⟨Ao23, co23, eo23⟩ := Kd.R_slice HO_8.out
       subst eo23
       go_wp2_with (first | ((with_reducible refine gate_builtin (b := .append) (xs := #[.tmp 36, .tmp 38]) rfl ?_); at_builtin; refine Kd.S_append (Kd.slice 4 Kd.bool) (w0 := w) w.heap.size rfl (.tmp 36) (.tmp 38) 52 51 (.slice none 0 0) 24 rfl Try.underlying52 info51 rfl (by decide) (by omega) u6 x6_1 x8_2 [.slice Ao23 x8_2.length co23] (fun _ => True) (fun k_ => some k_ = (.slice Ao23 x8_2.length co23 : Value).ownBlock) rfl rfl ?aP (fun k_ hk_ => ((Kd.R_mono (ok' := fun k_ => ((fun _ => True)) k_ ∧ some k_ ≠ (u6 : Value).ownBlock) (Kd.R_apart' (HO_8.out) (Kd.S_typed HO_6.out) (by decide)) (fun k_ hk => ⟨trivial, hk.2⟩))).1 k_ hk_.symm) ?aF ?aO ?aB ?aS ?aL ?_; (case aP => exact Kd.M_row (Kd.R_mono (Kd.R_tight rfl (Kd.R_mono (ok' := fun k_ => ((fun _ => True)) k_ ∧ some k_ ≠ (u6 : Value).ownBlock) (Kd.R_apart' (HO_8.out) (Kd.S_typed HO_6.out) (by decide)) (fun k_ hk => ⟨trivial, hk.2⟩))) (fun _ h_ => h_))); (case aB => exact (bw HB)); (case aF => exact (fun _ _ => trivial)); (case aO => exact (by (with_reducible repeat (first | apply Kd.S_alloc | apply Kd.S_drewN | apply Kd.S_drew)); exact Kd.S_mono HO_6.out (fun k_ hk => ⟨trivial, fun e_ => hk e_⟩))); (case aS => exact (bz HB)); (case aL => have := LMc21.out; omega); intro v254 w22 ho hb hg hat; rw [← Ny253.out] at ho; replace HO_5 := am (Kd.S_over' (wS HO_5) (Kd.S_typed (wS HO_6)) (by decide) hg); replace HB := am (hb); have HO255 := am (ho); clear HO_6 HO_8; clear ho hb hg hat))
       go_roundg k2
       case measure => have := HK1.out; have := HK2.out; omega
       case rel => exact ⟨(y253), (wrap64 (x7_1 + 1)), fr, H', ⟨by have := HK1.out; have := HK2.out; omega⟩, ⟨wS HO_5⟩, ⟨wS HO255⟩, ⟨bw HB⟩⟩
   ·rw [if_neg c7] at H
    have c7b0 := decide_eq_false c7; clear c7; obtain rfl := Option.some.inj H; go_wp2; go_ret
    exact ⟨_, fq, wS HO_6, bw HB⟩/-! ### spec_CubeMeeting: function 19 -/
mutual
def spec_CubeMeeting.j0 : Nat → Int → Int → List Int → List Int → Bool → Option (List Int × Bool)
 | 0, _, _, _, _, _ => none
 | k + 1, x0, x1, x6, x8, x23 => if x23 = true then (some (x8, false)) else ((spec_l8Table.f k x0 x6).bind fun t264 => (if 0 ≤ x1 then (if x1 < (t264.length : Int) then (spec_CubeMeeting.l0 k x8 (rd_L4 t264 x1) 0) else (none)) else (none)))
def spec_CubeMeeting.l0 : Nat → List Int → List Bool → Int → Option (List Int × Bool)
 | 0, _, _, _ => none
 | k + 1, x8, x9, x10 => if x10 < 27 then (if 0 ≤ x10 then (if x10 < (x9.length : Int) then (if rdOf false x9 x10 = true then (if x8.length < 17592186044416 then (spec_CubeMeeting.l0 k (x8 ++ [x10]) x9 (wrap64 (x10 + 1))) else (none)) else (spec_CubeMeeting.l0 k x8 x9 (wrap64 (x10 + 1)))) else (none)) else (none)) else (some (x8, true))
end
def spec_CubeMeeting.f (k : Nat) (a0 : Int) (a1 : Int) : Option (List Int × Bool) := (spec_CubeRoots.f k a0).bind fun bt256 => ((some (([] : List Int) : List Int)).bind fun y260 => (if bt256.2 = true then ((spec_l6In.f a1 0 26).bind fun t263 => (spec_CubeMeeting.j0 k a0 a1 bt256.1 y260 (!t263))) else (spec_CubeMeeting.j0 k a0 a1 bt256.1 y260 true)))
theorem spec_CubeMeeting.mono_l : ∀ k, (∀ y0 y1 y2 y3 y4, LeO (spec_CubeMeeting.j0 k y0 y1 y2 y3 y4) (spec_CubeMeeting.j0 (k + 1) y0 y1 y2 y3 y4)) ∧ (∀ y0 y1 y2, LeO (spec_CubeMeeting.l0 k y0 y1 y2) (spec_CubeMeeting.l0 (k + 1) y0 y1 y2))
 | 0 => ⟨fun _ _ _ _ _ r h => by simp [spec_CubeMeeting.j0] at h, fun _ _ _ r h => by simp [spec_CubeMeeting.l0] at h⟩
 | k + 1 => by
  obtain ⟨ih0, ih1⟩ := spec_CubeMeeting.mono_l k
  refine ⟨?_, ?_⟩
  ·intro y0 y1 y2 y3 y4
   unfold spec_CubeMeeting.j0
   repeat' first | (with_reducible first | apply ih0 | apply ih1 | apply spec_CubeRoots.mono | apply spec_l8Table.mono | exact LeO.refl _ | exact LeO.none _ | refine LeO.ite ?_ ?_ | refine LeO.bind ?_ (fun _ => ?_)) | (first | apply ih0 | apply ih1 | apply spec_CubeRoots.mono | apply spec_l8Table.mono | exact LeO.none _ | refine LeO.ite ?_ ?_ | refine LeO.bind ?_ (fun _ => ?_))
  ·intro y0 y1 y2
   unfold spec_CubeMeeting.l0
   repeat' first | (with_reducible first | apply ih0 | apply ih1 | apply spec_CubeRoots.mono | apply spec_l8Table.mono | exact LeO.refl _ | exact LeO.none _ | refine LeO.ite ?_ ?_ | refine LeO.bind ?_ (fun _ => ?_)) | (first | apply ih0 | apply ih1 | apply spec_CubeRoots.mono | apply spec_l8Table.mono | exact LeO.none _ | refine LeO.ite ?_ ?_ | refine LeO.bind ?_ (fun _ => ?_))
theorem spec_CubeMeeting.mono : ∀ a0 a1 k, LeO (spec_CubeMeeting.f k a0 a1) (spec_CubeMeeting.f (k + 1) a0 a1) := by
 intro a0 a1 k
 obtain ⟨ih0, ih1⟩ := spec_CubeMeeting.mono_l k
 unfold spec_CubeMeeting.f
 repeat' first | (with_reducible first | apply ih0 | apply ih1 | apply spec_CubeRoots.mono | apply spec_l8Table.mono | exact LeO.refl _ | exact LeO.none _ | refine LeO.ite ?_ ?_ | refine LeO.bind ?_ (fun _ => ?_)) | (first | apply ih0 | apply ih1 | apply spec_CubeRoots.mono | apply spec_l8Table.mono | exact LeO.none _ | refine LeO.ite ?_ ?_ | refine LeO.bind ?_ (fun _ => ?_))
set_option maxHeartbeats 8000000 in
set_option maxRecDepth 100000 in
theorem spec_CubeMeeting.calls (k : Nat) (a0 : Int) (a1 : Int) (r1 : List Int) (r2 : Bool) (w : World) (h : spec_CubeMeeting.f k a0 a1 = some (r1, r2)) :
  Calls Try.prog 19 #[.int .i64 a0, .int .i64 a1] w fun e w' => ∃ v0_ : Value, e = .returned (.tuple #[v0_, .bool r2]) ∧ Kd.R (Kd.int .i64) 3 w' w.heap.size (fun _ => True) v0_ r1 ∧ Below w.heap.size w w' := by
 have HB := am (Below.refl w.heap.size w)
 have H : ((spec_CubeRoots.f k a0).bind fun bt256 => ((some (([] : List Int) : List Int)).bind fun y260 => (if bt256.2 = true then ((spec_l6In.f a1 0 26).bind fun t263 => (spec_CubeMeeting.j0 k a0 a1 bt256.1 y260 (!t263))) else (spec_CubeMeeting.j0 k a0 a1 bt256.1 y260 true)))) = some (r1, r2) := h
 clear h; replace H := bs H
 obtain ⟨⟨t256, t257⟩, A3, H⟩ := H
 dsimp only at H
 replace H := bsy H; obtain ⟨y260, Ny260, H⟩ := H
 have HC4 := am H
 clear H
 go_enter Try.func19, Try.ntmps19
 go_upto_region 3 with (first | ((with_reducible refine gate_callee (f := 48) rfl ?_); refine gl 13 Try.func48 #[.int .i64 a0] ?_; (with_reducible refine (spec_CubeRoots.calls k a0 t256 t257 _ A3.out).mono ?_); rintro e w5 ⟨v258, rfl, ho0, hb⟩; refine ⟨_, rfl, ?_⟩; have HO259 := am (Kd.R_lower ho0 (bz HB)); replace HB := bq HB hb; (try clear hb); (try clear ho0)) | ((with_reducible refine gate_dst (N := 16) rfl ?_); refine li 3 ([] : List Int) ?_; intro v261 w6 ho7 hb; (first | rw [← Ny260.out] at ho7 | (simp only [Int.reduceToNat] at ho7; rw [← Ny260.out] at ho7)); have HO262 := am (Kd.R_lower (Kd.R_new' ho7 (Kd.R_lt (wR HO259))) (bz HB)); replace HO259 := eR HO259 (Kd.R_base ho7) hb; replace HB := bq HB hb; clear hb ho7))
 (try simp only [Act.put, List.setIfInBounds_toArray, List.set_cons_zero, List.set_cons_succ])
 go_cut [23] (fun v23 wc => ∃ (kq : Nat) (x23_3 : Bool), v23 = .bool x23_3 ∧ Aside0 (spec_CubeMeeting.j0 kq a0 a1 t256 y260 x23_3 = some (r1, r2)) ∧ Aside0 (kq ≤ k) ∧ Aside0 (Kd.R (Kd.int .i64) 3 wc w.heap.size (fun k_ => some k_ ≠ (v261 : Value).ownBlock) v258 t256) ∧ Aside0 (Kd.R (Kd.int .i64) 3 wc w.heap.size (fun k_ => some k_ ≠ (v258 : Value).ownBlock) v261 y260) ∧ Aside0 (Below w.heap.size w wc))
 case first =>
  have H := HC4.out
  clear HC4
  by_cases c8 : t257 = true
  ·subst c8
   rw [if_pos rfl] at H
   replace H := bs H; obtain ⟨t263, A9, H⟩ := H; have H' := am H; clear H
   go_wp2_with (first | (go_at_call 49; (with_reducible refine (spec_l6In.calls a1 0 26 t263 _ A9.out).mono ?_); rintro e w' ⟨rfl, ⟨nd, rfl⟩⟩))
   go_meet
   case rel => exact ⟨_, (!t263), fr, H', ⟨by first | omega | exact Nat.le_refl _⟩, ⟨Kd.R_below (Kd.R_mono HO259.out (fun _ hk => hk.2)) gs⟩, ⟨Kd.R_below (Kd.R_mono HO262.out (fun _ hk => hk.2)) gs⟩, ⟨bw HB⟩⟩
  ·replace c8 := Bool.eq_false_iff.mpr c8
   subst c8
   rw [if_neg (show ¬ (false = true) by decide)] at H
   have H' := am H; clear H; go_wp2
   go_meet
   case rel => exact ⟨_, (true), fr, H', ⟨by first | omega | exact Nat.le_refl _⟩, ⟨Kd.R_below (Kd.R_mono HO259.out (fun _ hk => hk.2)) gs⟩, ⟨Kd.R_below (Kd.R_mono HO262.out (fun _ hk => hk.2)) gs⟩, ⟨bw HB⟩⟩
 case rest =>
  clear HC4; try clear c1; try clear p2; try clear c4; try clear c8
  obtain ⟨kq, x23_3, rfl, HA, HJ3, HO_6, HO_8, HB⟩ := hcut
  cases kq with
  | zero => exact absurd HA.out (by simp [spec_CubeMeeting.j0])
  | succ kj3 =>
   have H := HA.out; clear HA
   simp only [spec_CubeMeeting.j0] at H
   by_cases c10 : x23_3 = true
   ·subst c10
    rw [if_pos rfl] at H
    simp only [Option.some.injEq, Prod.mk.injEq] at H
    obtain ⟨rfl, rfl⟩ := H; go_wp2
    go_ret2
    exact ⟨_, fq, Kd.R_below (Kd.R_mono HO_8.out (fun _ hk => trivial)) gs, bw HB⟩
   ·replace c10 := Bool.eq_false_iff.mpr c10
    subst c10
    rw [if_neg (show ¬ (false = true) by decide)] at H
    replace H := bs H; obtain ⟨t264, A11, H⟩ := H
    by_cases c12 : 0 ≤ a1
    ·rw [if_pos c12] at H
     have c12b0 := decide_eq_true c12; clear c12; replace H := ifn H; obtain ⟨c13, H⟩ := H; have c13b0 := decide_eq_true c13; clear c13; have H' := am H; clear H
     obtain ⟨Ao14, co14, eo14⟩ := Kd.R_slice HO_6.out
     subst eo14
     go_wp2_with (first | ((with_reducible refine gate_callee (f := 50) rfl ?_); refine gl 27 Try.func50 #[.int .i64 a0, .slice Ao14 t256.length co14] ?_; (with_reducible refine (spec_l8Table.calls kj3 a0 _ _ t256 t264 _ ?_ ?_ A11.out).mono ?_); exact Kd.C_below (Kd.R_reads' HO_6.out).2.2 gs; exact (Kd.R_reads' HO_6.out).2.1; rintro e w15 ⟨v265, rfl, ho0, hb⟩; refine ⟨_, rfl, ?_⟩; replace HO_6 := am (Kd.R_below (wR HO_6) hb); replace HO_8 := am (Kd.R_below (wR HO_8) hb); have HO266 := am (Kd.S_lower ho0 (bz HB)); replace HB := bq HB hb; (try clear hb); (try clear ho0); obtain ⟨Ao16, co16, eo16⟩ := Kd.S_slice HO266.out; subst eo16; have p267 : 0 ≤ (a1 : Int) := od; have q267 : a1 < (t264.length : Int) := od; obtain ⟨ad267, A267_0, c267_0, e267, hx267_0, hl267_0, hi267_0⟩ := at_L4 (Kd.S_reads' HO266.out).2.2 a1 p267 q267; cases e267; obtain ⟨ce267, hce267, hMe267, hcc267⟩ := Kd.S_get HO266.out [] a1 p267 (by first | exact q267 | exact od | (have e_ := (Kd.S_reads' HO266.out).1; omega)); obtain ⟨ve267_0, rfl, ge267_0⟩ := hMe267; have hv267_0 := hcc267 0 _ rfl; rw [Nat.add_zero, show ((Kd.slice 4 Kd.bool)).sz = 1 from rfl, Nat.mul_one] at hv267_0; replace hv267_0 := Option.some.inj (hv267_0.symm.trans hx267_0); rw [hv267_0] at ge267_0; have HL267_0 := am (show Kd.R Kd.bool 4 _ _ _ _ (rd_L4 t264 a1) from ge267_0); clear hv267_0 ge267_0; clear hcc267 hce267; have HR267_0 := am hi267_0; have HC267_0 := am hl267_0; clear hi267_0 hl267_0; replace p267 := eq_true p267; replace q267 := eq_true q267))
     go_loopg [8, 10] kj3 (fun kq v8 v10 w' => ∃ (x8_2 : List Int) (x10_2 : Int), v10 = .int .i64 x10_2 ∧ Aside0 (spec_CubeMeeting.l0 kq x8_2 (rd_L4 t264 a1) x10_2 = some (r1, r2)) ∧ Aside0 (kq ≤ kj3) ∧ Aside0 (Kd.R (Kd.int .i64) 3 w' w.heap.size (fun _ => True) v8 x8_2) ∧ Aside0 (Kd.R Kd.bool 4 w' w.heap.size (fun k_ => some k_ ≠ (v8 : Value).ownBlock) (.slice A267_0 (rd_L4 t264 a1).length c267_0) (rd_L4 t264 a1)) ∧ Aside0 (Below w.heap.size w w'))
     case atStart => exact ⟨(y260), (0), fr, H', ⟨Nat.le_refl _⟩, ⟨Kd.R_below (Kd.R_mono HO_8.out (fun _ hk => trivial)) gs⟩, ⟨Kd.R_below (Kd.R_mono (Kd.R_apartR HL267_0.out HO_8.out (by intro q hq; rcases List.mem_cons.1 hq with rfl | hq <;> first | decide | exact absurd hq List.not_mem_nil)) (fun _ hk => hk.2)) gs⟩, ⟨bw HB⟩⟩
     case round =>
      clear H'; try clear c1; try clear c2; try clear p2; try clear q2; try clear hx2; try clear c4; try clear c5; try clear c8; try clear c10; try clear c12; try clear c12b0; try clear c13; try clear c13b0; try clear hx267_0; try clear p2; try clear p267
      try clear q267
      obtain ⟨x8_2, x10_2, rfl, HA, HK2, HO_8, HX_, HB⟩ := hrel
      cases gk with
      | zero => exact absurd HA.out (by simp [spec_CubeMeeting.l0])
      | succ k2 =>
       have H := HA.out; clear HA
       simp only [spec_CubeMeeting.l0] at H
       by_cases c17 : x10_2 < 27
       ·rw [if_pos c17] at H
        have c17b0 := decide_eq_true c17; clear c17; replace H := ifn H; obtain ⟨c18, H⟩ := H; have c18b0 := decide_eq_true c18; clear c18; replace H := ifn H; obtain ⟨c19, H⟩ := H; have c19b0 := decide_eq_true c19; clear c19
        obtain ⟨bq20, hbq20⟩ : ∃ b_ : Bool, b_ = (rdOf false (rd_L4 t264 a1) x10_2) := ⟨_, rfl⟩
        replace H : (if bq20 = true then (if x8_2.length < 17592186044416 then (spec_CubeMeeting.l0 k2 (x8_2 ++ [x10_2]) (rd_L4 t264 a1) (wrap64 (x10_2 + 1))) else (none)) else (spec_CubeMeeting.l0 k2 x8_2 (rd_L4 t264 a1) (wrap64 (x10_2 + 1)))) = some (r1, r2) := by rw [← hbq20] at H; exact H
        have Nbq20 := am hbq20; clear hbq20
        by_cases c21 : bq20 = true
        ·subst c21
         rw [if_pos rfl] at H
         replace H := ifn H; obtain ⟨c22, H⟩ := H; have LMc22 := am c22; clear c22
         generalize hy269 : (x8_2 ++ [x10_2] : List Int) = y269 at H
         have Ny269 := am hy269.symm; clear hy269; have H' := am H; clear H
         have p268 : 0 ≤ (x10_2 : Int) := od
         have q268 : x10_2 < ((rd_L4 t264 a1).length : Int) := od
         obtain ⟨ad268, e268, hx268_0⟩ := Kd.at_bool (Kd.R_reads' HX_.out).2.2 x10_2 p268 q268
         (try rw [← Nbq20.out] at hx268_0)
         cases e268; replace p268 := eq_true p268; replace q268 := eq_true q268
         go_wp2_with (first | ((with_reducible refine gate_builtin (b := .append) (xs := #[.tmp 39, .tmp 41]) rfl ?_); at_builtin; refine Kd.R_append (Kd.int .i64) (w0 := w) w.heap.size rfl (.tmp 39) (.tmp 41) 22 3 (.int .i64 0) 8 rfl Try.underlying22 info3 rfl (by decide) (by omega) u8 x8_2 x10_2 [.int .i64 x10_2] (fun _ => True) (fun _ => False) rfl rfl ?aP (fun _ hk => hk.elim) ?aF ?aO ?aB ?aS ?aL ?_; (case aP => exact rfl); (case aB => exact (bw HB)); (case aF => exact (fun _ _ => trivial)); (case aO => exact (wR HO_8)); (case aS => exact (bz HB)); (case aL => have := LMc22.out; omega); intro v270 w23 ho hb hg hat; replace HX_ := am (Kd.R_after (v := u8) (v1 := v270) (ok := fun _ => True) (Kd.R_mono (wR HX_) (fun _ hk => ⟨trivial, hk⟩)) hg hat); rw [← Ny269.out] at ho; replace HB := am (hb); have HO271 := am (ho); clear HO_8; clear ho hb hg hat))
         go_roundg k2
         case measure => have := HJ3.out; have := HK2.out; omega
         case rel => exact ⟨(y269), (wrap64 (x10_2 + 1)), fr, H', ⟨by have := HJ3.out; have := HK2.out; omega⟩, ⟨wR HO271⟩, ⟨Kd.R_below (Kd.R_mono HX_.out (fun _ hk => hk.2)) gs⟩, ⟨bw HB⟩⟩
        ·replace c21 := Bool.eq_false_iff.mpr c21
         subst c21
         rw [if_neg (show ¬ (false = true) by decide)] at H
         have H' := am H; clear H
         have p268 : 0 ≤ (x10_2 : Int) := od
         have q268 : x10_2 < ((rd_L4 t264 a1).length : Int) := od
         obtain ⟨ad268, e268, hx268_0⟩ := Kd.at_bool (Kd.R_reads' HX_.out).2.2 x10_2 p268 q268
         (try rw [← Nbq20.out] at hx268_0)
         cases e268; replace p268 := eq_true p268; replace q268 := eq_true q268; go_wp2
         go_roundg k2
         case measure => have := HJ3.out; have := HK2.out; omega
         case rel => exact ⟨(x8_2), (wrap64 (x10_2 + 1)), fr, H', ⟨by have := HJ3.out; have := HK2.out; omega⟩, ⟨wR HO_8⟩, ⟨wR HX_⟩, ⟨bw HB⟩⟩
       ·rw [if_neg c17] at H
        have c17b0 := decide_eq_false c17; clear c17
        simp only [Option.some.injEq, Prod.mk.injEq] at H
        obtain ⟨rfl, rfl⟩ := H; go_wp2
        go_ret2
        exact ⟨_, fq, wR HO_8, bw HB⟩
    ·rw [if_neg c12] at H
     exact absurd H (by simp)/-! ### slices_Index_int_int: function 100 -/
def slices_Index_int_int.l0 : Nat → List Int → Int → Int → Int → Option (Int)
 | 0, _, _, _, _ => none
 | k + 1, x0, x1, x7, x8 => if x8 < x7 then (if 0 ≤ x8 then (if x8 < (x0.length : Int) then (if x1 = (rd x0 x8) then (some x8) else (slices_Index_int_int.l0 k x0 x1 x7 (wrap64 (x8 + 1)))) else (none)) else (none)) else (some (-1))
def slices_Index_int_int.f (k : Nat) (l0 : List Int) (a1 : Int) : Option (Int) := slices_Index_int_int.l0 k l0 a1 (l0.length : Int) 0
theorem slices_Index_int_int.mono_l : ∀ k, (∀ y0 y1 y2 y3, LeO (slices_Index_int_int.l0 k y0 y1 y2 y3) (slices_Index_int_int.l0 (k + 1) y0 y1 y2 y3))
 | 0 => fun _ _ _ _ r h => by simp [slices_Index_int_int.l0] at h
 | k + 1 => by
  have ih0 := slices_Index_int_int.mono_l k
  ·intro y0 y1 y2 y3
   unfold slices_Index_int_int.l0
   repeat' first | (with_reducible first | apply ih0 | exact LeO.refl _ | exact LeO.none _ | refine LeO.ite ?_ ?_ | refine LeO.bind ?_ (fun _ => ?_)) | (first | apply ih0 | exact LeO.none _ | refine LeO.ite ?_ ?_ | refine LeO.bind ?_ (fun _ => ?_))
theorem slices_Index_int_int.mono : ∀ a0 a1 k, LeO (slices_Index_int_int.f k a0 a1) (slices_Index_int_int.f (k + 1) a0 a1) := by
 intro a0 a1 k
 have ih0 := slices_Index_int_int.mono_l k
 unfold slices_Index_int_int.f
 repeat' first | (with_reducible first | apply ih0 | exact LeO.refl _ | exact LeO.none _ | refine LeO.ite ?_ ?_ | refine LeO.bind ?_ (fun _ => ?_)) | (first | apply ih0 | exact LeO.none _ | refine LeO.ite ?_ ?_ | refine LeO.bind ?_ (fun _ => ?_))
set_option maxHeartbeats 8000000 in
set_option maxRecDepth 100000 in
theorem slices_Index_int_int.calls (k : Nat) (A0 : Option Addr) (c0 : Nat) (l0 : List Int) (a1 : Int) (r : Int) (w : World) (hr0 : Kd.C (Kd.int .i64) w A0 l0.length l0) (hc0 : l0.length ≤ c0) (h : slices_Index_int_int.f k l0 a1 = some r) :
  Calls Try.prog 100 #[.slice A0 l0.length c0, .int .i64 a1] w fun e w' => e = .returned (.int .i64 r) ∧ Drawn0 w w' := by
 have HR0 := am hr0
 have HC0 := am hc0
 clear hr0 hc0
 have H : (slices_Index_int_int.l0 k l0 a1 (l0.length : Int) 0) = some r := h
 clear h; have H' := am H; clear H
 go_enter Try.func100, Try.ntmps100
 go_wp2
 go_loopg [8] k (fun kq v8 w' => ∃ (x8_1 : Int), v8 = .int .i64 x8_1 ∧ Aside0 (slices_Index_int_int.l0 kq l0 a1 (l0.length : Int) x8_1 = some r) ∧ Aside0 (kq ≤ k) ∧ Drawn0 w w')
 case atStart => exact ⟨(0), fr, H', ⟨Nat.le_refl _⟩, df⟩
 case round =>
  clear H'; try clear c1; try clear p2
  obtain ⟨x8_1, rfl, HA, HK1, ⟨m1, rfl⟩⟩ := hrel
  cases gk with
  | zero => exact absurd HA.out (by simp [slices_Index_int_int.l0])
  | succ k1 =>
   have H := HA.out; clear HA
   simp only [slices_Index_int_int.l0] at H
   by_cases c3 : x8_1 < (l0.length : Int)
   ·rw [if_pos c3] at H
    have c3b0 := decide_eq_true c3; clear c3; replace H := ifn H; obtain ⟨c4, H⟩ := H; have c4b0 := decide_eq_true c4; clear c4; replace H := ifn H; obtain ⟨c5, H⟩ := H; have c5b0 := decide_eq_true c5; clear c5
    by_cases c6 : a1 = (rd l0 x8_1)
    ·rw [if_pos c6] at H
     have c6b0 := beq_iff_eq.mpr c6; have c6b1 := bne_eq_false_iff_eq.mpr c6; clear c6; obtain rfl := Option.some.inj H
     have p272 : 0 ≤ (x8_1 : Int) := od
     have q272 : x8_1 < (l0.length : Int) := od
     obtain ⟨ad272, e272, hx272_0⟩ := Kd.at_int HR0.out x8_1 p272 q272
     cases e272; replace p272 := eq_true p272; replace q272 := eq_true q272; go_wp2; go_ret
     exact ⟨fr, df⟩
    ·rw [if_neg c6] at H
     have c6b0 := beq_eq_false_iff_ne.mpr c6; have c6b1 := bne_iff_ne.mpr c6; have H' := am H; clear H
     have p272 : 0 ≤ (x8_1 : Int) := od
     have q272 : x8_1 < (l0.length : Int) := od
     obtain ⟨ad272, e272, hx272_0⟩ := Kd.at_int HR0.out x8_1 p272 q272
     cases e272; replace p272 := eq_true p272; replace q272 := eq_true q272; go_wp2
     go_roundg k1
     case measure => have := HK1.out; omega
     case rel => exact ⟨(wrap64 (x8_1 + 1)), fr, H', ⟨by have := HK1.out; omega⟩, df⟩
   ·rw [if_neg c3] at H
    have c3b0 := decide_eq_false c3; clear c3; obtain rfl := Option.some.inj H; go_wp2; go_ret
    exact ⟨fr, df⟩/-! ### slices_Contains_int_int: function 92 -/
def slices_Contains_int_int.f (k : Nat) (l0 : List Int) (a1 : Int) : Option (Bool) := (slices_Index_int_int.f k l0 a1).bind fun t273 => (some (decide (t273 ≥ 0)))
theorem slices_Contains_int_int.mono : ∀ a0 a1 k, LeO (slices_Contains_int_int.f k a0 a1) (slices_Contains_int_int.f (k + 1) a0 a1) := by
 intro a0 a1 k
 unfold slices_Contains_int_int.f
 repeat' first | (with_reducible first | apply slices_Index_int_int.mono | exact LeO.refl _ | exact LeO.none _ | refine LeO.ite ?_ ?_ | refine LeO.bind ?_ (fun _ => ?_)) | (first | apply slices_Index_int_int.mono | exact LeO.none _ | refine LeO.ite ?_ ?_ | refine LeO.bind ?_ (fun _ => ?_))
set_option maxHeartbeats 8000000 in
set_option maxRecDepth 100000 in
theorem slices_Contains_int_int.calls (k : Nat) (A0 : Option Addr) (c0 : Nat) (l0 : List Int) (a1 : Int) (r : Bool) (w : World) (hr0 : Kd.C (Kd.int .i64) w A0 l0.length l0) (hc0 : l0.length ≤ c0) (h : slices_Contains_int_int.f k l0 a1 = some r) :
  Calls Try.prog 92 #[.slice A0 l0.length c0, .int .i64 a1] w fun e w' => e = .returned (.bool r) ∧ Drawn0 w w' := by
 have HR0 := am hr0
 have HC0 := am hc0
 clear hr0 hc0
 have H : ((slices_Index_int_int.f k l0 a1).bind fun t273 => (some (decide (t273 ≥ 0)))) = some r := h
 clear h; replace H := bs H; obtain ⟨t273, A3, H⟩ := H; obtain rfl := Option.some.inj H
 go_enter Try.func92, Try.ntmps92
 go_wp2_with (first | ((with_reducible refine gate_callee (f := 100) rfl ?_); refine gl 7 Try.func100 #[.slice A0 l0.length c0, .int .i64 a1] ?_; (with_reducible refine (slices_Index_int_int.calls k _ _ l0 a1 t273 _ ?_ ?_ A3.out).mono ?_); exact wC HR0; exact HC0.out; rintro e w' ⟨rfl, ⟨nd, rfl⟩⟩; refine ⟨_, rfl, ?_⟩))
 go_ret
 exact ⟨fr, df⟩
end Go.Proofs.Ytmenehnfgenlpaa.PA

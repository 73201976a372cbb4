-- Written by xprint.py, a program of this claim's own (over the kit's print.py)
import Derived.Test.YtmenehnfgenlpaaPAx0
import Derived.Test.YtmenehnfgenlpaaPAx18
namespace Go.Proofs.Ytmenehnfgenlpaa.PA
open Go.RowKit Go.Proofs.YtmenehnfgenlpaaW.PrintWords Go.Proofs.YtmenehnfgenlpaaW.PrintLast Go.Proofs.YtmenehnfgenlpaaW.PrintMore
attribute [local go_sem] max2_int min2_int max_two min_two max_three min_three max_four min_four   -- for this text's walks alone
set_option linter.unusedVariables false
set_option linter.unusedSimpArgs false

/-! ### impl_commonPlace: function 47 -/
mutual
def impl_commonPlace.l0 : Nat → Int → List Int → List Int → List (List Int) → Int → Option (List Int)
 | 0, _, _, _, _, _ => none
 | k + 1, x0, x1, x2, x7, x13 => if x13 < 4 then (if 0 ≤ x13 then (if x13 < (x1.length : Int) then (if 0 ≤ (wrap64 (4 + x13)) then (if (wrap64 (4 + x13)) < (x1.length : Int) then (if x13 < (x2.length : Int) then (if (wrap64 (4 + x13)) < (x2.length : Int) then (if x7.length < 5864062014805 then (impl_commonPlace.l0 k x0 x1 x2 (x7 ++ [(([rd x1 x13, rd x1 (wrap64 (4 + x13)), rd x2 x13, rd x2 (wrap64 (4 + x13))] : List Int))]) (wrap64 (x13 + 1))) else (none)) else (none)) else (none)) else (none)) else (none)) else (none)) else (none)) else ((impl_solutions.f k x0 x7 4).bind fun t587 => (if 0 < (t587.length : Int) then (impl_commonPlace.l1 k x0 x1 (rd_L1 t587 0) (([] : List Int)) 0) else (none)))
def impl_commonPlace.l1 : Nat → Int → List Int → List Int → List Int → Int → Option (List Int)
 | 0, _, _, _, _, _ => none
 | k + 1, x0, x1, x9, x10, x45 => if x45 < 4 then (if 0 < (x9.length : Int) then (if 0 ≤ x45 then (if x45 < (x1.length : Int) then (if 1 < (x9.length : Int) then (if 0 ≤ (wrap64 (4 + x45)) then (if (wrap64 (4 + x45)) < (x1.length : Int) then (if x10.length < 17592186044416 then (impl_commonPlace.l1 k x0 x1 x9 (x10 ++ [wrap64 ((wrap64 ((rd x9 0) * (rd x1 x45))) + (wrap64 ((rd x9 1) * (rd x1 (wrap64 (4 + x45))))))]) (wrap64 (x45 + 1))) else (none)) else (none)) else (none)) else (none)) else (none)) else (none)) else (none)) else ((impl_monic.f k x0 x10).bind fun t601 => (some t601))
end
def impl_commonPlace.f (k : Nat) (a0 : Int) (l1 : List Int) (l2 : List Int) : Option (List Int) := impl_commonPlace.l0 k a0 l1 l2 (([] : List (List Int))) 0
theorem impl_commonPlace.mono_l : ∀ k, (∀ y0 y1 y2 y3 y4, LeO (impl_commonPlace.l0 k y0 y1 y2 y3 y4) (impl_commonPlace.l0 (k + 1) y0 y1 y2 y3 y4)) ∧ (∀ y0 y1 y2 y3 y4, LeO (impl_commonPlace.l1 k y0 y1 y2 y3 y4) (impl_commonPlace.l1 (k + 1) y0 y1 y2 y3 y4))
 | 0 => ⟨fun _ _ _ _ _ r h => by simp [impl_commonPlace.l0] at h, fun _ _ _ _ _ r h => by simp [impl_commonPlace.l1] at h⟩
 | k + 1 => by
  obtain ⟨ih0, ih1⟩ := impl_commonPlace.mono_l k
  refine ⟨?_, ?_⟩
  ·intro y0 y1 y2 y3 y4
   unfold impl_commonPlace.l0
   repeat' first | (with_reducible first | apply ih0 | apply ih1 | apply impl_monic.mono | apply impl_solutions.mono | exact LeO.refl _ | exact LeO.none _ | refine LeO.ite ?_ ?_ | refine LeO.bind ?_ (fun _ => ?_)) | (first | apply ih0 | apply ih1 | apply impl_monic.mono | apply impl_solutions.mono | exact LeO.none _ | refine LeO.ite ?_ ?_ | refine LeO.bind ?_ (fun _ => ?_))
  ·intro y0 y1 y2 y3 y4
   unfold impl_commonPlace.l1
   repeat' first | (with_reducible first | apply ih0 | apply ih1 | apply impl_monic.mono | apply impl_solutions.mono | exact LeO.refl _ | exact LeO.none _ | refine LeO.ite ?_ ?_ | refine LeO.bind ?_ (fun _ => ?_)) | (first | apply ih0 | apply ih1 | apply impl_monic.mono | apply impl_solutions.mono | exact LeO.none _ | refine LeO.ite ?_ ?_ | refine LeO.bind ?_ (fun _ => ?_))
theorem impl_commonPlace.mono : ∀ a0 a1 a2 k, LeO (impl_commonPlace.f k a0 a1 a2) (impl_commonPlace.f (k + 1) a0 a1 a2) := by
 intro a0 a1 a2 k
 obtain ⟨ih0, ih1⟩ := impl_commonPlace.mono_l k
 unfold impl_commonPlace.f
 repeat' first | (with_reducible first | apply ih0 | apply ih1 | apply impl_monic.mono | apply impl_solutions.mono | exact LeO.refl _ | exact LeO.none _ | refine LeO.ite ?_ ?_ | refine LeO.bind ?_ (fun _ => ?_)) | (first | apply ih0 | apply ih1 | apply impl_monic.mono | apply impl_solutions.mono | exact LeO.none _ | refine LeO.ite ?_ ?_ | refine LeO.bind ?_ (fun _ => ?_))
def impl_commonPlace.T5 : Bool × List (List Nat × List Nat) := (true, [([], []), ([], []), ([], []), ([1, 2], [1, 2]), ([3], [3]), ([], []), ([], []), ([6], [6]), ([5, 7], [5, 7]), ([8], [8]), ([], []), ([], []), ([10, 11], [10, 11]), ([12], [12]), ([], []), ([], []), ([15], [15]), ([14, 16], [14, 16]), ([17], [17]), ([4, 9, 13, 18], [4, 9, 13, 18]), ([19], [19]), ([0, 20], [0, 20]), ([21, 21, 0, 1, 2, 3, 4, 5, 6, 7, 8, 9, 10, 11, 12, 13, 14, 15, 16, 17, 18, 19, 20, 21], [0, 21])])
def impl_commonPlace.B5 : List Nat := [0, 0, 0, 6, 14, 0, 0, 64, 224, 480, 0, 0, 3072, 7168, 0, 0, 32768, 114688, 245760, 524286, 1048574, 2097151, 4194303]
theorem impl_commonPlace.tab5 : rtab .any (opsOf Try.f47 5) = impl_commonPlace.T5 := by kernel_rfl
theorem impl_commonPlace.bits5 : waitsOk impl_commonPlace.T5.2 impl_commonPlace.B5 = true := by kernel_rfl
def impl_commonPlace.T12 : Bool × List (List Nat × List Nat) := (true, [([], []), ([], []), ([1], [1]), ([2], [2]), ([], []), ([], []), ([4, 5], [4, 5]), ([6], [6]), ([3, 7], [3, 7]), ([], []), ([9], [9]), ([10], [10]), ([], []), ([], []), ([13], [13]), ([12, 14], [12, 14]), ([15], [15]), ([11, 16], [11, 16]), ([8, 17], [8, 17]), ([18], [18]), ([0, 19], [0, 19]), ([20, 20, 0, 1, 2, 3, 4, 5, 6, 7, 8, 9, 10, 11, 12, 13, 14, 15, 16, 17, 18, 19, 20], [0, 20])])
def impl_commonPlace.B12 : List Nat := [0, 0, 2, 6, 0, 0, 48, 112, 254, 0, 512, 1536, 0, 0, 8192, 28672, 61440, 130560, 262142, 524286, 1048575, 2097151]
theorem impl_commonPlace.tab12 : rtab .any (opsOf Try.f47 12) = impl_commonPlace.T12 := by kernel_rfl
theorem impl_commonPlace.bits12 : waitsOk impl_commonPlace.T12.2 impl_commonPlace.B12 = true := by kernel_rfl
theorem impl_commonPlace.rcell0 {w : World} {base n c : Nat} {ok : Nat → Prop} {ad : Addr} {xs : List Int} (h : Kd.R (Kd.int .i64) 3 w base ok (.slice (some ad) n c) xs) (hi : 0 < xs.length) : w.cell? ad = some (.int .i64 (rd xs 0)) := by
 obtain ⟨ad', e, hc⟩ := Kd.at_int (Kd.R_reads' h).2.2 0 (by omega) (by omega)
 cases e
 rw [show ((0 : Int)).toNat = 0 from rfl, Addr.add_zero'] at hc
 exact hc
theorem impl_commonPlace.rcell1 {w : World} {base n c : Nat} {ok : Nat → Prop} {ad : Addr} {xs : List Int} (h : Kd.R (Kd.int .i64) 3 w base ok (.slice (some ad) n c) xs) (hi : 1 < xs.length) : w.cell? ⟨ad.block, ad.off + 1, none⟩ = some (.int .i64 (rd xs 1)) := by
 obtain ⟨ad', e, hc⟩ := Kd.at_int (Kd.R_reads' h).2.2 1 (by omega) (by omega)
 cases e
 exact hc
set_option maxHeartbeats 8000000 in
set_option maxRecDepth 100000 in
theorem impl_commonPlace.calls (k : Nat) (a0 : Int) (A1 : Option Addr) (c1 : Nat) (l1 : List Int) (A2 : Option Addr) (c2 : Nat) (l2 : List Int) (r : List Int) (w : World) (hr1 : Kd.C (Kd.int .i64) w A1 l1.length l1) (hc1 : l1.length ≤ c1) (hr2 : Kd.C (Kd.int .i64) w A2 l2.length l2) (hc2 : l2.length ≤ c2) (h : impl_commonPlace.f k a0 l1 l2 = some r) :
  Calls Try.prog 47 #[.int .i64 a0, .slice A1 l1.length c1, .slice A2 l2.length c2] w fun e w' => ∃ v0_ : Value, e = .returned (v0_) ∧ Kd.R (Kd.int .i64) 3 w' w.heap.size (fun _ => True) v0_ r ∧ Below w.heap.size w w' := by
 have HR1 := am hr1
 have HC1 := am hc1
 clear hr1 hc1
 have HR2 := am hr2
 have HC2 := am hc2
 clear hr2 hc2
 have HB := am (Below.refl w.heap.size w)
 have H : (impl_commonPlace.l0 k a0 l1 l2 (([] : List (List Int))) 0) = some r := h
 clear h
 generalize hy574 : (([] : List (List Int))) = y574 at H
 have Ny574 := am hy574.symm; clear hy574; have H' := am H; clear H
 go_enter Try.func47, Try.ntmps47
 go_wp2_with (first | ((with_reducible refine gate_dst (N := 12) rfl ?_); refine Kd.S_lit (Kd.slice 3 (Kd.int .i64)) _ 22 ?hg (N := 12) ?hd (xs := ([] : List (List Int))) (inner := []) (ok := fun _ => True) (okp := fun _ => True) ?hr ?hp (fun _ hk => hk) trivial (Below.refl _ _) (Nat.le_refl _) (by simp) ?_; (case hd => rfl); (case hg => rfl); (case hr => first | (go_simp; done) | (go_simp; rfl)); (case hp => exact (Reps.none _ _)); intro v575 w4 ho5 hb hg_ hnew_; clear hg_ hnew_; (first | rw [← Ny574.out] at ho5 | (simp only [Int.reduceToNat] at ho5; rw [← Ny574.out] at ho5)); have HO576 := am (Kd.S_lower ho5 (bz HB)); replace HB := bq HB hb; clear hb ho5))
 go_loopg [7, 13] k (fun kq v7 v13 w' => ∃ (x7_1 : List (List Int)) (x13_1 : Int), v13 = .int .i64 x13_1 ∧ Aside0 (impl_commonPlace.l0 kq a0 l1 l2 x7_1 x13_1 = some r) ∧ Aside0 (kq ≤ k) ∧ Aside0 (Kd.S (Kd.slice 3 (Kd.int .i64)) 22 w' w.heap.size (fun _ => True) v7 x7_1) ∧ Aside0 (Below w.heap.size w w'))
 case atStart => exact ⟨(y574), (0), fr, H', ⟨Nat.le_refl _⟩, ⟨wS HO576⟩, ⟨bw HB⟩⟩
 case round =>
  clear H'; try clear c1; try clear c2; try clear p2; try clear c4
  obtain ⟨x7_1, x13_1, rfl, HA, HK1, HO_7, HB⟩ := hrel
  cases gk with
  | zero => exact absurd HA.out (by simp [impl_commonPlace.l0])
  | succ k1 =>
   have H := HA.out; clear HA
   simp only [impl_commonPlace.l0] at H
   by_cases c6 : x13_1 < 4
   ·rw [if_pos c6] at H
    have c6b0 := decide_eq_true c6; clear c6; replace H := ifn H; obtain ⟨c7, H⟩ := H; have c7b0 := decide_eq_true c7; clear c7; replace H := ifn H; obtain ⟨c8, H⟩ := H; have c8b0 := decide_eq_true c8; clear c8
    obtain ⟨ji9, hji9⟩ : ∃ j_ : Int, (wrap64 (4 + x13_1)) = j_ := ⟨_, rfl⟩
    (first | rw [hji9] at H | simp only [hji9] at H)
    have hji9w : (IntKind.i64.wrap (4 + x13_1)) = ji9 := (i64_w _).trans hji9
    replace H := ifn H; obtain ⟨c10, H⟩ := H; have c10b0 := decide_eq_true c10; clear c10; replace H := ifn H; obtain ⟨c11, H⟩ := H; have c11b0 := decide_eq_true c11; clear c11; replace H := ifn H; obtain ⟨c12, H⟩ := H; have c12b0 := decide_eq_true c12
    clear c12; replace H := ifn H; obtain ⟨c13, H⟩ := H; have c13b0 := decide_eq_true c13; clear c13
    generalize hy581 : (([rd l1 x13_1, rd l1 (ji9), rd l2 x13_1, rd l2 (ji9)] : List Int)) = y581 at H
    have Ny581 := am hy581.symm; clear hy581; replace H := ifn H; obtain ⟨c14, H⟩ := H; have LMc14 := am c14; clear c14
    generalize hy584 : (x7_1 ++ [y581] : List (List Int)) = y584 at H
    have Ny584 := am hy584.symm; clear hy584; have H' := am H; clear H
    try go_wp2
    replace HO_7 := am (Kd.S_drew HO_7.out)
    replace HB := am (below_drew1 HB.out)
    have p577 : 0 ≤ (x13_1 : Int) := od
    have q577 : x13_1 < (l1.length : Int) := od
    obtain ⟨ad577, e577, hx577_0⟩ := Kd.at_int HR1.out x13_1 p577 q577
    have hw577_0 := hx577_0
    cases e577
    replace hx577_0 := wcl HB hx577_0
    replace p577 := eq_true p577; replace q577 := eq_true q577
    have p578 : 0 ≤ ((ji9) : Int) := od
    have q578 : (ji9) < (l1.length : Int) := od
    obtain ⟨ad578, e578, hx578_0⟩ := Kd.at_int HR1.out (ji9) p578 q578
    have hw578_0 := hx578_0
    obtain rfl : ad577 = ad578 := (by injection e578)
    replace hx578_0 := wcl HB hx578_0
    replace p578 := eq_true p578; replace q578 := eq_true q578
    have p579 : 0 ≤ (x13_1 : Int) := od
    have q579 : x13_1 < (l2.length : Int) := od
    obtain ⟨ad579, e579, hx579_0⟩ := Kd.at_int HR2.out x13_1 p579 q579
    have hw579_0 := hx579_0
    cases e579
    replace hx579_0 := wcl HB hx579_0
    replace p579 := eq_true p579; replace q579 := eq_true q579
    have p580 : 0 ≤ ((ji9) : Int) := od
    have q580 : (ji9) < (l2.length : Int) := od
    obtain ⟨ad580, e580, hx580_0⟩ := Kd.at_int HR2.out (ji9) p580 q580
    have hw580_0 := hx580_0
    obtain rfl : ad579 = ad580 := (by injection e580)
    replace hx580_0 := wcl HB hx580_0
    replace p580 := eq_true p580; replace q580 := eq_true q580
    refine st 23 (fun w' => w'.cell? (ad577.add (x13_1).toNat) = some (.int .i64 (rd l1 x13_1)) ∧ w'.cell? (ad577.add ((ji9)).toNat) = some (.int .i64 (rd l1 (ji9))) ∧ w'.cell? (ad579.add (x13_1).toNat) = some (.int .i64 (rd l2 x13_1)) ∧ w'.cell? (ad579.add ((ji9)).toNat) = some (.int .i64 (rd l2 (ji9)))) [] impl_commonPlace.tab5 impl_commonPlace.bits5 (⟨(wcl HB hw577_0), (wcl HB hw578_0), (wcl HB hw579_0), (wcl HB hw580_0)⟩) fun hHeld HT_ HW_ => ?_
    generalize wr.drew = w15 at HO_7 HB hx577_0 hx578_0 hx579_0 hx580_0 hHeld ⊢
    refine pz 0 16 HT_ ?_; refine pz 1 17 HT_ ?_; refine pz 2 18 HT_ ?_; refine pz 3 19 HT_ ?_; refine pz 5 21 HT_ ?_; refine pz 6 22 HT_ ?_; refine pz 7 23 HT_ ?_; refine pz 8 24 HT_ ?_; refine pz 10 26 HT_ ?_; refine pz 11 27 HT_ ?_; refine pz 12 28 HT_ ?_
    refine pz 14 30 HT_ ?_; refine pz 15 31 HT_ ?_; refine pz 16 32 HT_ ?_; refine pz 17 33 HT_ ?_; refine tk 4 20 HT_ HW_ hHeld ?_; refine tk 9 25 HT_ HW_ hHeld ?_; refine tk 13 29 HT_ HW_ hHeld ?_; refine tk 18 34 HT_ HW_ hHeld ?_
    refine on 19 (some 35) HT_ fun K hK => ?_
    refine Kd.R_lit_step (Kd.int .i64) _ 3 ?hg (N := 35) ?hd (xs := ([rd l1 x13_1, rd l1 (ji9), rd l2 x13_1, rd l2 (ji9)] : List Int)) (inner := [.int .i64 (rd l1 x13_1), .int .i64 (rd l1 (ji9)), .int .i64 (rd l2 x13_1), .int .i64 (rd l2 (ji9))]) (ok := fun _ => True) (okp := fun _ => True) ?hr ?hp (fun _ hk => hk) trivial (Below.refl _ _) (Nat.le_refl _) (by simp) ?_; (case hd => rfl); (case hg => rfl); (case hr => first | (go_simp; done) | (go_simp; rfl)); (case hp => exact (Reps.one (show Kd.M (Kd.int .i64) _ _ _ (rd l1 x13_1) [.int .i64 (rd l1 x13_1)] from rfl) (Reps.one (show Kd.M (Kd.int .i64) _ _ _ (rd l1 (ji9)) [.int .i64 (rd l1 (ji9))] from rfl) (Reps.one (show Kd.M (Kd.int .i64) _ _ _ (rd l2 x13_1) [.int .i64 (rd l2 x13_1)] from rfl) (Reps.one (show Kd.M (Kd.int .i64) _ _ _ (rd l2 (ji9)) [.int .i64 (rd l2 (ji9))] from rfl) (Reps.none _ _))))))
    intro v582 w16 ho17 hb hg_ hnew_
    clear hg_ hnew_
    (first | rw [← Ny581.out] at ho17 | (simp only [Int.reduceToNat] at ho17; rw [← Ny581.out] at ho17))
    replace HO_7 := eS HO_7 (Kd.R_base ho17) hb
    have HO583 := am (Kd.R_lower ho17 (bz HB))
    replace HB := bq HB hb
    clear hb ho17
    obtain ⟨Ao19, co19, eo19⟩ := Kd.R_slice HO583.out
    (first | subst eo19 | (injection eo19 with f1_ f2_ f3_; have f4_ := f1_.symm; have f5_ := f3_.symm; clear f1_ f2_ f3_; subst f4_; subst f5_))
    refine hK.out _ _ ⟨(wcl HB hw577_0), (wcl HB hw578_0), (wcl HB hw579_0), (wcl HB hw580_0)⟩ fun hHeld => nz ?_
    clear hK K
    refine on 20 (some 36) HT_ fun K hK => ?_
    refine value_ (w1 := ?_) (v := ?_) (by rfl) rfl ?_ ?_
    rotate_left 2
    ·go_simp
     constructor
     ·rfl
     ·rfl
    refine hK.out _ _ ⟨(World.cell?_alloc_lt _ _ _ (World.block_lt_of_cell? _ _ ((wcl HB hw577_0)))).trans ((wcl HB hw577_0)), (World.cell?_alloc_lt _ _ _ (World.block_lt_of_cell? _ _ ((wcl HB hw578_0)))).trans ((wcl HB hw578_0)), (World.cell?_alloc_lt _ _ _ (World.block_lt_of_cell? _ _ ((wcl HB hw579_0)))).trans ((wcl HB hw579_0)), (World.cell?_alloc_lt _ _ _ (World.block_lt_of_cell? _ _ ((wcl HB hw580_0)))).trans ((wcl HB hw580_0))⟩ fun hHeld => nz ?_
    clear hK K
    refine on 21 (some 37) HT_ fun K hK => ?_
    refine Kd.S_append_step (Kd.slice 3 (Kd.int .i64)) (w0 := w) w.heap.size (by rfl) (.tmp 16) (.tmp 36) 45 22 (.slice none 0 0) 24 rfl Try.underlying45 info22 rfl (by decide) (by omega) u7 x7_1 y581 [.slice Ao19 y581.length co19] (fun _ => True) (fun k_ => some k_ = (.slice Ao19 y581.length co19 : Value).ownBlock) rfl rfl ?aP (fun k_ hk_ => ((Kd.R_mono (ok' := fun k_ => ((fun _ => True)) k_ ∧ some k_ ≠ (u7 : Value).ownBlock) (Kd.R_apart' (HO583.out) (Kd.S_typed HO_7.out) (by decide)) (fun k_ hk => ⟨trivial, hk.2⟩))).1 k_ hk_.symm) ?aF ?aO ?aB ?aS ?aL ?_
    (case aP => exact Kd.M_row (Kd.R_mono (Kd.R_tight rfl (Kd.R_mono (ok' := fun k_ => ((fun _ => True)) k_ ∧ some k_ ≠ (u7 : Value).ownBlock) (Kd.R_apart' (HO583.out) (Kd.S_typed HO_7.out) (by decide)) (fun k_ hk => ⟨trivial, hk.2⟩))) (fun _ h_ => h_)))
    (case aB => exact (bw HB))
    (case aF => exact (fun _ _ => trivial))
    (case aO => exact (by (with_reducible repeat (first | apply Kd.S_alloc | apply Kd.S_drewN | apply Kd.S_drew)); exact Kd.S_mono HO_7.out (fun k_ hk => ⟨trivial, fun e_ => hk.2 e_⟩)))
    (case aS => exact (bz HB))
    (case aL => have := LMc14.out; omega)
    intro v585 w18 ho hb hg hat
    rw [← Ny584.out] at ho
    replace HB := am (hb)
    have HO586 := am (ho)
    clear HO_7 HO583; clear ho hb hg hat
    refine hK.out _ _ ⟨(wcl HB hw577_0), (wcl HB hw578_0), (wcl HB hw579_0), (wcl HB hw580_0)⟩ fun hHeld => nz ?_
    clear hK K; refine pz 22 7 HT_ ?_
    refine done_ (done_of HT_.out (by kernel_rfl)) ?_
    try go_wp2
    go_roundg k1
    case measure => have := HK1.out; omega
    case rel => exact ⟨(y584), (wrap64 (x13_1 + 1)), fr, H', ⟨by have := HK1.out; omega⟩, ⟨wS HO586⟩, ⟨bw HB⟩⟩
   ·rw [if_neg c6] at H
    have c6b0 := decide_eq_false c6; clear c6; replace H := bs H; obtain ⟨t587, A20, H⟩ := H
    by_cases c21 : 0 < (t587.length : Int)
    ·rw [if_pos c21] at H
     have c21b0 := decide_eq_true c21
     have c21b1 : decide (0 < t587.length) = true := decide_eq_true (by omega)
     clear c21
     generalize hy591 : (([] : List Int)) = y591 at H
     have Ny591 := am hy591.symm; clear hy591; have H' := am H; clear H
     obtain ⟨Ao22, co22, eo22⟩ := Kd.S_slice HO_7.out
     subst eo22
     go_wp2_with (first | ((with_reducible refine gate_callee (f := 83) rfl ?_); refine gl 41 Try.func83 #[.int .i64 a0, .slice Ao22 x7_1.length co22, .int .i64 4] ?_; (with_reducible refine (impl_solutions.calls k1 a0 _ _ x7_1 4 t587 _ ?_ ?_ A20.out).mono ?_); exact Kd.C_below (Kd.S_reads' HO_7.out).2.2 gs; exact (Kd.S_reads' HO_7.out).2.1; rintro e w23 ⟨v588, rfl, ho0, hb⟩; refine ⟨_, rfl, ?_⟩; have HO589 := am (Kd.S_lower (Kd.S_new' ho0 (Kd.S_lt (wS HO_7))) (bz HB)); replace HO_7 := eS HO_7 (Kd.S_base ho0) hb; replace HB := bq HB hb; (try clear hb); (try clear ho0); obtain ⟨Ao24, co24, eo24⟩ := Kd.S_slice HO589.out; subst eo24; have p590 : 0 ≤ (0 : Int) := (by omega); have q590 : 0 < (t587.length : Int) := od; obtain ⟨ad590, A590_0, c590_0, e590, hx590_0, hl590_0, hi590_0⟩ := at_L1 (Kd.S_reads' HO589.out).2.2 0 p590 q590; cases e590; obtain ⟨ce590, hce590, hMe590, hcc590⟩ := Kd.S_get HO589.out [] 0 p590 (by first | exact q590 | exact od | (have e_ := (Kd.S_reads' HO589.out).1; omega)); obtain ⟨ve590_0, rfl, ge590_0⟩ := hMe590; have hv590_0 := hcc590 0 _ rfl; rw [Nat.add_zero, show ((Kd.slice 3 (Kd.int .i64))).sz = 1 from rfl, Nat.mul_one] at hv590_0; replace hv590_0 := Option.some.inj (hv590_0.symm.trans hx590_0); rw [hv590_0] at ge590_0; have HL590_0 := am (show Kd.R (Kd.int .i64) 3 _ _ _ _ (rd_L1 t587 0) from ge590_0); clear hv590_0 ge590_0; clear hcc590 hce590; have qi590 : (0 < t587.length) = True := eq_true (by omega); (try rw [show ((0 : Int)).toNat = 0 from rfl] at hx590_0); (try rw [Addr.add_zero'] at hx590_0); have HR590_0 := am hi590_0; have HC590_0 := am hl590_0; clear hi590_0 hl590_0; replace p590 := eq_true p590; replace q590 := eq_true q590) | ((with_reducible refine gate_dst (N := 44) rfl ?_); refine li 3 ([] : List Int) ?_; intro v592 w25 ho26 hb; (first | rw [← Ny591.out] at ho26 | (simp only [Int.reduceToNat] at ho26; rw [← Ny591.out] at ho26)); replace HO_7 := eS HO_7 (Kd.R_base ho26) hb; replace HO589 := eS HO589 (Kd.R_base ho26) hb; have HO593 := am (Kd.R_lower (Kd.R_new' ho26 (Kd.R_lt (wR HL590_0))) (bz HB)); replace HL590_0 := eR HL590_0 (Kd.R_base ho26) hb; replace HR590_0 := am (Kd.C_below (wC HR590_0) hb); replace HB := bq HB hb; clear hb ho26))
     go_loopg [10, 45] k1 (fun kq v10 v45 w' => ∃ (x10_2 : List Int) (x45_2 : Int), v45 = .int .i64 x45_2 ∧ Aside0 (impl_commonPlace.l1 kq a0 l1 (rd_L1 t587 0) x10_2 x45_2 = some r) ∧ Aside0 (kq ≤ k1) ∧ Aside0 (Kd.R (Kd.int .i64) 3 w' w.heap.size (fun _ => True) v10 x10_2) ∧ Aside0 (Kd.R (Kd.int .i64) 3 w' w.heap.size (fun k_ => some k_ ≠ (v10 : Value).ownBlock) (.slice A590_0 (rd_L1 t587 0).length c590_0) (rd_L1 t587 0)) ∧ Aside0 (Below w.heap.size w w'))
     case atStart => exact ⟨(y591), (0), fr, H', ⟨Nat.le_refl _⟩, ⟨Kd.R_below (Kd.R_mono HO593.out (fun _ hk => trivial)) gs⟩, ⟨Kd.R_below (Kd.R_mono HL590_0.out (fun _ hk => hk.2)) gs⟩, ⟨bw HB⟩⟩
     case round =>
      clear H'; try clear c1; try clear c2; try clear p2; try clear c4; try clear c5; try clear p5; try clear q5; try clear hx5; try clear qi5; try clear c6; try clear c6b0; try clear p6; try clear c7; try clear c7b0; try clear c8; try clear c8b0
      try clear c10; try clear c10b0; try clear c11; try clear c11b0; try clear c12; try clear c12b0; try clear c13; try clear c13b0; try clear c14; try clear c21; try clear c21b0; try clear c21b1; try clear hx577_0; try clear hx578_0; try clear hx579_0
      try clear hx580_0; try clear hx590_0; try clear p2; try clear p577; try clear p578; try clear p579; try clear p580; try clear p590; try clear q577; try clear q578; try clear q579; try clear q580; try clear q590
      obtain ⟨x10_2, x45_2, rfl, HA, HK2, HO_10, HX_, HB⟩ := hrel
      cases gk with
      | zero => exact absurd HA.out (by simp [impl_commonPlace.l1])
      | succ k2 =>
       have H := HA.out; clear HA
       simp only [impl_commonPlace.l1] at H
       by_cases c27 : x45_2 < 4
       ·rw [if_pos c27] at H
        have c27b0 := decide_eq_true c27; clear c27; replace H := ifn H; obtain ⟨c28, H⟩ := H; have c28b0 := decide_eq_true c28
        have c28b1 : decide (0 < (rd_L1 t587 0).length) = true := decide_eq_true (by omega)
        clear c28; replace H := ifn H; obtain ⟨c29, H⟩ := H; have c29b0 := decide_eq_true c29; clear c29; replace H := ifn H; obtain ⟨c30, H⟩ := H; have c30b0 := decide_eq_true c30; clear c30; replace H := ifn H; obtain ⟨c31, H⟩ := H; have c31b0 := decide_eq_true c31
        have c31b1 : decide (1 < (rd_L1 t587 0).length) = true := decide_eq_true (by omega)
        clear c31
        obtain ⟨ji32, hji32⟩ : ∃ j_ : Int, (wrap64 (4 + x45_2)) = j_ := ⟨_, rfl⟩
        (first | rw [hji32] at H | simp only [hji32] at H)
        have hji32w : (IntKind.i64.wrap (4 + x45_2)) = ji32 := (i64_w _).trans hji32
        replace H := ifn H; obtain ⟨c33, H⟩ := H; have c33b0 := decide_eq_true c33; clear c33; replace H := ifn H; obtain ⟨c34, H⟩ := H; have c34b0 := decide_eq_true c34; clear c34; replace H := ifn H; obtain ⟨c35, H⟩ := H; have LMc35 := am c35; clear c35
        generalize hy598 : (x10_2 ++ [wrap64 ((wrap64 ((rd (rd_L1 t587 0) 0) * (rd l1 x45_2))) + (wrap64 ((rd (rd_L1 t587 0) 1) * (rd l1 (ji32)))))] : List Int) = y598 at H
        have Ny598 := am hy598.symm; clear hy598; have H' := am H; clear H
        try go_wp2
        have n0_ := am (Kd.R_drew HO_10.out)
        have n1_ := am (below_drew1 HB.out)
        have nx_ := am (Kd.R_drew HX_.out)
        clear HX_
        have HX_ := nx_
        clear nx_; clear HO_10; clear HB
        have HO_10 := n0_
        have HB := n1_
        clear n0_ n1_
        have p594 : 0 ≤ (0 : Int) := (by omega)
        have q594 : 0 < ((rd_L1 t587 0).length : Int) := od
        obtain ⟨ad594, e594, hx594_0⟩ := Kd.at_int (Kd.R_reads' HX_.out).2.2 0 p594 q594
        have hw594_0 := hx594_0
        (try rw [show ((0 : Int)).toNat = 0 from rfl] at hw594_0)
        (try rw [show 0 * 1 = 0 from rfl] at hw594_0)
        (try rw [Addr.add_zero'] at hw594_0)
        cases e594
        have qi594 : (0 < (rd_L1 t587 0).length) = True := eq_true (by omega)
        (try rw [show ((0 : Int)).toNat = 0 from rfl] at hx594_0)
        (try rw [Addr.add_zero'] at hx594_0)
        replace p594 := eq_true p594; replace q594 := eq_true q594
        have p595 : 0 ≤ (x45_2 : Int) := od
        have q595 : x45_2 < (l1.length : Int) := od
        obtain ⟨ad595, e595, hx595_0⟩ := Kd.at_int HR1.out x45_2 p595 q595
        have hw595_0 := hx595_0
        cases e595
        replace hx595_0 := wcl HB hx595_0
        replace p595 := eq_true p595; replace q595 := eq_true q595
        have p596 : 0 ≤ (1 : Int) := (by omega)
        have q596 : 1 < ((rd_L1 t587 0).length : Int) := od
        obtain ⟨ad596, e596, hx596_0⟩ := Kd.at_int (Kd.R_reads' HX_.out).2.2 1 p596 q596
        have hw596_0 := hx596_0
        (try rw [show ((1 : Int)).toNat = 1 from rfl] at hw596_0)
        (try rw [show 1 * 1 = 1 from rfl] at hw596_0)
        (try simp only [Nat.reduceMul, Nat.reduceEqDiff, Go.Addr.add, ↓reduceIte] at hw596_0)
        obtain rfl : ad594 = ad596 := (by injection e596)
        (try simp only [show (1 : Int).toNat = 1 from rfl, Nat.reduceMul, Nat.reduceEqDiff, Go.Addr.add, ↓reduceIte] at hx596_0)
        have qi596 : (1 < (rd_L1 t587 0).length) = True := eq_true (by omega)
        (try rw [show ((1 : Int)).toNat = 1 from rfl] at hx596_0)
        replace p596 := eq_true p596; replace q596 := eq_true q596
        have p597 : 0 ≤ ((ji32) : Int) := od
        have q597 : (ji32) < (l1.length : Int) := od
        obtain ⟨ad597, e597, hx597_0⟩ := Kd.at_int HR1.out (ji32) p597 q597
        have hw597_0 := hx597_0
        obtain rfl : ad595 = ad597 := (by injection e597)
        replace hx597_0 := wcl HB hx597_0
        replace p597 := eq_true p597; replace q597 := eq_true q597
        refine st 22 (fun w' => w'.cell? ad594 = some (.int .i64 (rd (rd_L1 t587 0) 0)) ∧ w'.cell? (ad595.add (x45_2).toNat) = some (.int .i64 (rd l1 x45_2)) ∧ w'.cell? ⟨ad594.block, ad594.off + 1, none⟩ = some (.int .i64 (rd (rd_L1 t587 0) 1)) ∧ w'.cell? (ad595.add ((ji32)).toNat) = some (.int .i64 (rd l1 (ji32)))) [] impl_commonPlace.tab12 impl_commonPlace.bits12 (⟨hw594_0, (wcl HB hw595_0), hw596_0, (wcl HB hw597_0)⟩) fun hHeld HT_ HW_ => ?_
        generalize wr.drew = w36 at HX_ hw594_0 hw596_0 HO_10 HB hx594_0 hx595_0 hx596_0 hx597_0 hHeld ⊢
        refine pz 0 48 HT_ ?_; refine pz 1 49 HT_ ?_; refine pz 2 50 HT_ ?_; refine pz 4 52 HT_ ?_; refine pz 5 53 HT_ ?_; refine pz 6 54 HT_ ?_; refine pz 9 57 HT_ ?_; refine pz 10 58 HT_ ?_; refine pz 12 60 HT_ ?_; refine pz 13 61 HT_ ?_; refine pz 14 62 HT_ ?_
        refine pz 15 63 HT_ ?_; refine tk 3 51 HT_ HW_ hHeld ?_; refine tk 7 55 HT_ HW_ hHeld ?_; refine pz 8 56 HT_ ?_; refine tk 11 59 HT_ HW_ hHeld ?_; refine tk 16 64 HT_ HW_ hHeld ?_; refine pz 17 65 HT_ ?_; refine pz 18 66 HT_ ?_
        refine on 19 (some 67) HT_ fun K hK => ?_
        refine value_ (w1 := ?_) (v := ?_) (by rfl) rfl ?_ ?_
        rotate_left 2
        ·go_simp
         constructor
         ·rfl
         ·rfl
        refine hK.out _ _ ⟨(World.cell?_alloc_lt _ _ _ (World.block_lt_of_cell? _ _ (hw594_0))).trans (hw594_0), (World.cell?_alloc_lt _ _ _ (World.block_lt_of_cell? _ _ ((wcl HB hw595_0)))).trans ((wcl HB hw595_0)), (World.cell?_alloc_lt _ _ _ (World.block_lt_of_cell? _ _ (hw596_0))).trans (hw596_0), (World.cell?_alloc_lt _ _ _ (World.block_lt_of_cell? _ _ ((wcl HB hw597_0)))).trans ((wcl HB hw597_0))⟩ fun hHeld => nz ?_
        clear hK K
        refine on 20 (some 68) HT_ fun K hK => ?_
        refine Kd.R_append_step (Kd.int .i64) (w0 := w) w.heap.size (by rfl) (.tmp 48) (.tmp 67) 22 3 (.int .i64 0) 8 rfl Try.underlying22 info3 rfl (by decide) (by omega) u10 x10_2 (wrap64 ((wrap64 ((rd (rd_L1 t587 0) 0) * (rd l1 x45_2))) + (wrap64 ((rd (rd_L1 t587 0) 1) * (rd l1 (ji32)))))) [.int .i64 (wrap64 ((wrap64 ((rd (rd_L1 t587 0) 0) * (rd l1 x45_2))) + (wrap64 ((rd (rd_L1 t587 0) 1) * (rd l1 (ji32))))))] (fun _ => True) (fun _ => False) rfl rfl ?aP (fun _ hk => hk.elim) ?aF ?aO ?aB ?aS ?aL ?_
        (case aP => exact rfl)
        (case aB => exact (bw HB))
        (case aF => exact (fun _ _ => trivial))
        (case aO => exact (wR HO_10))
        (case aS => exact (bz HB))
        (case aL => have := LMc35.out; omega)
        intro v599 w37 ho hb hg hat
        have nx_ := am (Kd.R_after (v := u10) (v1 := v599) (ok := fun _ => True) (Kd.R_mono (wR HX_) (fun _ hk => ⟨trivial, hk⟩)) hg hat)
        clear HX_
        have HX_ := nx_
        clear nx_
        rw [← Ny598.out] at ho
        replace HB := am (hb)
        have HO600 := am (ho)
        clear HO_10; clear ho hb hg hat
        refine hK.out _ _ ⟨(impl_commonPlace.rcell0 HX_.out (of_eq_true qi594)), (wcl HB hw595_0), (impl_commonPlace.rcell1 HX_.out (of_eq_true qi596)), (wcl HB hw597_0)⟩ fun hHeld => nz ?_
        clear hK K; refine pz 21 10 HT_ ?_
        refine done_ (done_of HT_.out (by kernel_rfl)) ?_
        try go_wp2
        go_roundg k2
        case measure => have := HK1.out; have := HK2.out; omega
        case rel => exact ⟨(y598), (wrap64 (x45_2 + 1)), fr, H', ⟨by have := HK1.out; have := HK2.out; omega⟩, ⟨wR HO600⟩, ⟨Kd.R_below (Kd.R_mono HX_.out (fun _ hk => hk.2)) gs⟩, ⟨bw HB⟩⟩
       ·rw [if_neg c27] at H
        have c27b0 := decide_eq_false c27; clear c27; replace H := bs H; obtain ⟨t601, A38, H⟩ := H; obtain rfl := Option.some.inj H
        obtain ⟨Ao39, co39, eo39⟩ := Kd.R_slice HO_10.out
        subst eo39
        go_wp2_with (first | ((with_reducible refine gate_callee (f := 84) rfl ?_); refine gl 72 Try.func84 #[.int .i64 a0, .slice Ao39 x10_2.length co39] ?_; (with_reducible refine (impl_monic.calls k2 a0 _ _ x10_2 t601 _ ?_ ?_ A38.out).mono ?_); exact Kd.C_below (Kd.R_reads' HO_10.out).2.2 gs; exact (Kd.R_reads' HO_10.out).2.1; rintro e w40 ⟨v602, rfl, ho0, hb⟩; refine ⟨_, rfl, ?_⟩; have HO603 := am (Kd.R_lower (Kd.R_new' ho0 (Kd.R_lt (wR HO_10))) (bz HB)); replace HO_10 := eR HO_10 (Kd.R_base ho0) hb; replace HB := bq HB hb; (try clear hb); (try clear ho0)))
        go_ret
        exact ⟨_, fq, Kd.R_below (Kd.R_mono HO603.out (fun _ hk => trivial)) gs, bw HB⟩
    ·rw [if_neg c21] at H
     exact absurd H (by simp)
end Go.Proofs.Ytmenehnfgenlpaa.PA

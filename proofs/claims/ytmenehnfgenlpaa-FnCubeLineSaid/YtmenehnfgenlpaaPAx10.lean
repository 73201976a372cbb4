-- Written by xprint.py, a program of this claim's own (over the kit's print.py)
import Derived.Test.YtmenehnfgenlpaaPAx0
import Derived.Test.YtmenehnfgenlpaaPAx3
import Derived.Test.YtmenehnfgenlpaaPAx9
namespace Go.Proofs.Ytmenehnfgenlpaa.PA
open Go.RowKit Go.Proofs.YtmenehnfgenlpaaW.PrintWords Go.Proofs.YtmenehnfgenlpaaW.PrintLast Go.Proofs.YtmenehnfgenlpaaW.PrintMore
attribute [local go_sem] max2_int min2_int max_two min_two max_three min_three max_four min_four   -- for this text's walks alone
set_option linter.unusedVariables false
set_option linter.unusedSimpArgs false

/-! ### impl_CubeForm: function 33 -/
def impl_CubeForm.l0 : Nat → List Int → List (S71) → Int → Int → Option (List Int × Bool)
 | 0, _, _, _, _ => none
 | k + 1, x4, x12, x13, x14 => if x14 < x13 then (if 0 ≤ x14 then (if x14 < (x12.length : Int) then (if ((rd_T71 x12 x14).f0) = ((rd_T71 x12 x14).f2) then (if x4.length < 17592186044416 then (impl_CubeForm.l0 k (x4 ++ [1]) x12 x13 (wrap64 (x14 + 1))) else (none)) else (if x4.length < 17592186044416 then (impl_CubeForm.l0 k (x4 ++ [0]) x12 x13 (wrap64 (x14 + 1))) else (none))) else (none)) else (none)) else (some (x4, true))
def impl_CubeForm.f (k : Nat) (a0 : Int) : Option (List Int × Bool) := (impl_isPrime.f k a0).bind fun t360 => (if t360 = true then ((impl_triples.f k).bind fun t364 => (impl_CubeForm.l0 k (([] : List Int)) t364 (t364.length : Int) 0)) else (some (([] : List Int), false)))
theorem impl_CubeForm.mono_l : ∀ k, (∀ y0 y1 y2 y3, LeO (impl_CubeForm.l0 k y0 y1 y2 y3) (impl_CubeForm.l0 (k + 1) y0 y1 y2 y3))
 | 0 => fun _ _ _ _ r h => by simp [impl_CubeForm.l0] at h
 | k + 1 => by
  have ih0 := impl_CubeForm.mono_l k
  ·intro y0 y1 y2 y3
   unfold impl_CubeForm.l0
   repeat' first | (with_reducible first | apply ih0 | apply impl_isPrime.mono | apply impl_triples.mono | exact LeO.refl _ | exact LeO.none _ | refine LeO.ite ?_ ?_ | refine LeO.bind ?_ (fun _ => ?_)) | (first | apply ih0 | apply impl_isPrime.mono | apply impl_triples.mono | exact LeO.none _ | refine LeO.ite ?_ ?_ | refine LeO.bind ?_ (fun _ => ?_))
theorem impl_CubeForm.mono : ∀ a0 k, LeO (impl_CubeForm.f k a0) (impl_CubeForm.f (k + 1) a0) := by
 intro a0 k
 have ih0 := impl_CubeForm.mono_l k
 unfold impl_CubeForm.f
 repeat' first | (with_reducible first | apply ih0 | apply impl_isPrime.mono | apply impl_triples.mono | exact LeO.refl _ | exact LeO.none _ | refine LeO.ite ?_ ?_ | refine LeO.bind ?_ (fun _ => ?_)) | (first | apply ih0 | apply impl_isPrime.mono | apply impl_triples.mono | exact LeO.none _ | refine LeO.ite ?_ ?_ | refine LeO.bind ?_ (fun _ => ?_))
set_option maxHeartbeats 8000000 in
set_option maxRecDepth 100000 in
theorem impl_CubeForm.calls (k : Nat) (a0 : Int) (r1 : List Int) (r2 : Bool) (w : World) (h : impl_CubeForm.f k a0 = some (r1, r2)) :
  Calls Try.prog 33 #[.int .i64 a0] w fun e w' => ∃ v0_ : Value, e = .returned (.tuple #[v0_, .bool r2]) ∧ Kd.R (Kd.int .i64) 3 w' w.heap.size (fun _ => True) v0_ r1 ∧ Below w.heap.size w w' := by
 have hu71 := Try.underlying71
 have HB := am (Below.refl w.heap.size w)
 have H : ((impl_isPrime.f k a0).bind fun t360 => (if t360 = true then ((impl_triples.f k).bind fun t364 => (impl_CubeForm.l0 k (([] : List Int)) t364 (t364.length : Int) 0)) else (some (([] : List Int), false)))) = some (r1, r2) := h
 clear h; replace H := bs H; obtain ⟨t360, A2, H⟩ := H
 by_cases c3 : t360 = true
 ·subst c3
  rw [if_pos rfl] at H
  generalize hy361 : (([] : List Int)) = y361 at H
  have Ny361 := am hy361.symm; clear hy361; replace H := bs H; obtain ⟨t364, A4, H⟩ := H; have H' := am H; clear H
  go_enter Try.func33, Try.ntmps33
  go_wp2_with (first | ((with_reducible refine gate_callee (f := 73) rfl ?_); refine gl 9 Try.func73 #[.int .i64 a0] ?_; (with_reducible refine (impl_isPrime.calls k a0 true _ A2.out).mono ?_); rintro e w5 ⟨rfl, hb⟩; refine ⟨_, rfl, ?_⟩; replace HB := bq HB hb; (try clear hb)) | ((with_reducible refine gate_dst (N := 11) rfl ?_); refine li 3 ([] : List Int) ?_; intro v362 w6 ho7 hb; (first | rw [← Ny361.out] at ho7 | (simp only [Int.reduceToNat] at ho7; rw [← Ny361.out] at ho7)); have HO363 := am (Kd.R_lower ho7 (bz HB)); replace HB := bq HB hb; clear hb ho7) | ((with_reducible refine gate_callee (f := 74) rfl ?_); refine gl 12 Try.func74 #[] ?_; (with_reducible refine (impl_triples.calls k  t364 _ A4.out).mono ?_); rintro e w8 ⟨v365, rfl, ho0, hb⟩; refine ⟨_, rfl, ?_⟩; replace HO363 := am (Kd.R_below (wR HO363) hb); have HO366 := am (Kd.R_lower ho0 (bz HB)); replace HB := bq HB hb; (try clear hb); (try clear ho0); obtain ⟨Ao9, co9, eo9⟩ := Kd.R_slice HO366.out; subst eo9))
  go_loopg [4, 14] k (fun kq v4 v14 w' => ∃ (x4_1 : List Int) (x14_1 : Int), v14 = .int .i64 x14_1 ∧ Aside0 (impl_CubeForm.l0 kq x4_1 t364 (t364.length : Int) x14_1 = some (r1, r2)) ∧ Aside0 (kq ≤ k) ∧ Aside0 (Kd.R (Kd.int .i64) 3 w' w.heap.size (fun _ => True) v4 x4_1) ∧ Aside0 (Kd.R k71 71 w' w.heap.size (fun _ => True) (.slice Ao9 t364.length co9) t364) ∧ Aside0 (Below w.heap.size w w'))
  case atStart => exact ⟨(y361), (0), fr, H', ⟨Nat.le_refl _⟩, ⟨wR HO363⟩, ⟨wR HO366⟩, ⟨bw HB⟩⟩
  case round =>
   clear H'; try clear p2; try clear c3; try clear c7
   obtain ⟨x4_1, x14_1, rfl, HA, HK1, HO_4, HO_12, HB⟩ := hrel
   cases gk with
   | zero => exact absurd HA.out (by simp [impl_CubeForm.l0])
   | succ k1 =>
    have H := HA.out; clear HA
    simp only [impl_CubeForm.l0] at H
    by_cases c10 : x14_1 < (t364.length : Int)
    ·rw [if_pos c10] at H
     have c10b0 := decide_eq_true c10; clear c10; replace H := ifn H; obtain ⟨c11, H⟩ := H; have c11b0 := decide_eq_true c11; clear c11; replace H := ifn H; obtain ⟨c12, H⟩ := H; have c12b0 := decide_eq_true c12; clear c12
     by_cases c13 : ((rd_T71 t364 x14_1).f0) = ((rd_T71 t364 x14_1).f2)
     ·rw [if_pos c13] at H
      have c13b0 := beq_iff_eq.mpr c13; have c13b1 := bne_eq_false_iff_eq.mpr c13; clear c13; replace H := ifn H; obtain ⟨c14, H⟩ := H; have LMc14 := am c14; clear c14
      generalize hy369 : (x4_1 ++ [1] : List Int) = y369 at H
      have Ny369 := am hy369.symm; clear hy369; have H' := am H; clear H
      have p367 : 0 ≤ (x14_1 : Int) := od
      have q367 : x14_1 < (t364.length : Int) := od
      obtain ⟨ad367, e367, hx367_0, hx367_1, hx367_2⟩ := at_T71 (Kd.R_reads' HO_12.out).2.2 x14_1 p367 q367
      cases e367; replace p367 := eq_true p367; replace q367 := eq_true q367
      go_wp2_with (first | ((with_reducible refine gate_dst (N := 6) rfl ?_); refine box_event ?hg (N := 6) ?hd (cs := #[.int .i64 0, .int .i64 0, .int .i64 0]) (t := 71) ?hr ?_; (case hd => rfl); (case hg => rfl); (case hr => first | (go_simp; done) | (go_simp; rfl)); intro gb368 hg w15 hbox hb; have n0_ := am (Kd.R_below (wR HO_4) hb); have n1_ := am (Kd.R_below (Kd.R_elderB (wR HO_12) gb368 (Nat.le_of_eq hg.symm)) hb); have n2_ := bq HB hb; have n3_ := am (hbox); have n4_ := am ((by rw [hg]; exact (bz HB) : w.heap.size ≤ gb368)); have n5_ := am ((by rw [hg]; exact (bz HB) : w.heap.size ≤ gb368)); clear HO_4; clear HO_12; clear HB; have HO_4 := n0_; have HO_12 := n1_; have HB := n2_; have BK368 := n3_; have GW368 := n4_; have GE368 := n5_; clear n0_ n1_ n2_ n3_ n4_ n5_; clear hb hbox hg; have hcz16_0 : w15.cell? ⟨gb368, 0, none⟩ = some (.int .i64 0) := (blk_cell BK368.out 0).trans rfl; have hcz16_1 : w15.cell? ⟨gb368, 1, none⟩ = some (.int .i64 0) := (blk_cell BK368.out 1).trans rfl; have hcz16_2 : w15.cell? ⟨gb368, 2, none⟩ = some (.int .i64 0) := (blk_cell BK368.out 2).trans rfl; have hfz16_0 := blk_frozen BK368.out 0; have hfz16_1 := blk_frozen BK368.out 1; have hfz16_2 := blk_frozen BK368.out 2) | ((with_reducible refine gate_builtin (b := .append) (xs := #[.tmp 23, .tmp 25]) rfl ?_); at_builtin; refine Kd.R_append (Kd.int .i64) (w0 := w) w.heap.size rfl (.tmp 23) (.tmp 25) 22 3 (.int .i64 0) 8 rfl Try.underlying22 info3 rfl (by decide) (by omega) u4 x4_1 1 [.int .i64 1] (fun _ => True) (fun _ => False) rfl (by first | (go_simp; done) | (go_simp; rfl)) ?aP (fun _ hk => hk.elim) ?aF ?aO ?aB ?aS ?aL ?_; (case aP => exact rfl); (case aB => exact (by repeat (first | (with_reducible first | exact HB.out | apply below_alloc | apply pw_below_drewN | apply below_drew1 | refine below_set ?_ GE368.out) | exact HB.out))); (case aF => exact (fun _ _ => trivial)); (case aO => exact (by (with_reducible repeat (first | apply Kd.R_alloc | apply Kd.R_drewN | apply Kd.R_drew)); exact Kd.R_mono (Kd.R_far (p := ⟨gb368, 2, none⟩) (Kd.R_far (p := ⟨gb368, 1, none⟩) (Kd.R_far (p := ⟨gb368, 0, none⟩) (Kd.R_types HO_4.out BK368.out (by decide)) (fun _ hk => hk.2) (.int .i64 ((rd_T71 t364 x14_1).f0))) (fun _ hk => hk.2) (.int .i64 ((rd_T71 t364 x14_1).f1))) (fun _ hk => hk.2) (.int .i64 ((rd_T71 t364 x14_1).f2))) (fun _ hk => trivial))); (case aS => exact (below_size (by repeat (first | (with_reducible first | exact HB.out | apply below_alloc | apply pw_below_drewN | apply below_drew1 | refine below_set ?_ GE368.out) | exact HB.out)))); (case aL => have := LMc14.out; omega); intro v370 w17 ho hb hg hat; rw [← Ny369.out] at ho; have n0_ := am (Kd.R_over' (by (with_reducible repeat (first | apply Kd.R_alloc | apply Kd.R_drewN | apply Kd.R_drew)); exact (Kd.R_mono (Kd.R_far (p := ⟨gb368, 2, none⟩) (Kd.R_far (p := ⟨gb368, 1, none⟩) (Kd.R_far (p := ⟨gb368, 0, none⟩) (Kd.R_mono HO_12.out (fun k_ hk => (⟨hk, hk.2⟩ : _ ∧ k_ ≠ gb368))) (fun _ hk => hk.2) (.int .i64 ((rd_T71 t364 x14_1).f0))) (fun _ hk => hk.2) (.int .i64 ((rd_T71 t364 x14_1).f1))) (fun _ hk => hk.2) (.int .i64 ((rd_T71 t364 x14_1).f2))) (fun _ h_ => h_.1))) (Kd.R_typed (by (with_reducible repeat (first | apply Kd.R_alloc | apply Kd.R_drewN | apply Kd.R_drew)); exact (Kd.R_mono (Kd.R_far (p := ⟨gb368, 2, none⟩) (Kd.R_far (p := ⟨gb368, 1, none⟩) (Kd.R_far (p := ⟨gb368, 0, none⟩) (Kd.R_types HO_4.out BK368.out (by decide)) (fun _ hk => hk.2) (.int .i64 ((rd_T71 t364 x14_1).f0))) (fun _ hk => hk.2) (.int .i64 ((rd_T71 t364 x14_1).f1))) (fun _ hk => hk.2) (.int .i64 ((rd_T71 t364 x14_1).f2))) (fun _ h_ => h_.1)))) (by decide) hg); have n1_ := am (blk_grown (g := gb368) (o := .cells #[.int .i64 ((rd_T71 t364 x14_1).f0), .int .i64 ((rd_T71 t364 x14_1).f1), .int .i64 ((rd_T71 t364 x14_1).f2)] 71 (0, 0)) (by (with_reducible repeat (first | refine blk_drewN ?_ _ | refine blk_drew ?_ | refine blk_alloc ?_ _)); refine blk_put (cs := #[.int .i64 ((rd_T71 t364 x14_1).f0), .int .i64 ((rd_T71 t364 x14_1).f1), .int .i64 0]) ?_ 2 _ rfl; (with_reducible repeat (first | refine blk_drewN ?_ _ | refine blk_drew ?_ | refine blk_alloc ?_ _)); refine blk_put (cs := #[.int .i64 ((rd_T71 t364 x14_1).f0), .int .i64 0, .int .i64 0]) ?_ 1 _ rfl; (with_reducible repeat (first | refine blk_drewN ?_ _ | refine blk_drew ?_ | refine blk_alloc ?_ _)); refine blk_put (cs := #[.int .i64 0, .int .i64 0, .int .i64 0]) ?_ 0 _ rfl; (with_reducible repeat (first | refine blk_drewN ?_ _ | refine blk_drew ?_ | refine blk_alloc ?_ _)); exact BK368.out) hg (Kd.R_ne HO_4.out BK368.out (by decide))); have n2_ := am (hb); have n3_ := am (ho); clear HO_12; clear BK368; clear HB; clear HO_4; have HO_12 := n0_; have BK368 := n1_; have HB := n2_; have HO371 := n3_; clear n0_ n1_ n2_ n3_; clear ho hb hg hat))
      go_roundg k1
      case measure => have := HK1.out; omega
      case rel => exact ⟨(y369), (wrap64 (x14_1 + 1)), fr, H', ⟨by have := HK1.out; omega⟩, ⟨wR HO371⟩, ⟨Kd.R_below (Kd.R_mono HO_12.out (fun _ hk => trivial)) gs⟩, ⟨by repeat (first | (with_reducible first | exact HB.out | apply below_alloc | apply pw_below_drewN | apply below_drew1 | refine below_set ?_ GE368.out) | exact HB.out)⟩⟩
     ·rw [if_neg c13] at H
      have c13b0 := beq_eq_false_iff_ne.mpr c13; have c13b1 := bne_iff_ne.mpr c13; replace H := ifn H; obtain ⟨c18, H⟩ := H; have LMc18 := am c18; clear c18
      generalize hy372 : (x4_1 ++ [0] : List Int) = y372 at H
      have Ny372 := am hy372.symm; clear hy372; have H' := am H; clear H
      have p367 : 0 ≤ (x14_1 : Int) := od
      have q367 : x14_1 < (t364.length : Int) := od
      obtain ⟨ad367, e367, hx367_0, hx367_1, hx367_2⟩ := at_T71 (Kd.R_reads' HO_12.out).2.2 x14_1 p367 q367
      cases e367; replace p367 := eq_true p367; replace q367 := eq_true q367
      go_wp2_with (first | ((with_reducible refine gate_dst (N := 6) rfl ?_); refine box_event ?hg (N := 6) ?hd (cs := #[.int .i64 0, .int .i64 0, .int .i64 0]) (t := 71) ?hr ?_; (case hd => rfl); (case hg => rfl); (case hr => first | (go_simp; done) | (go_simp; rfl)); intro gb368 hg w19 hbox hb; have n0_ := am (Kd.R_below (wR HO_4) hb); have n1_ := am (Kd.R_below (Kd.R_elderB (wR HO_12) gb368 (Nat.le_of_eq hg.symm)) hb); have n2_ := bq HB hb; have n3_ := am (hbox); have n4_ := am ((by rw [hg]; exact (bz HB) : w.heap.size ≤ gb368)); have n5_ := am ((by rw [hg]; exact (bz HB) : w.heap.size ≤ gb368)); clear HO_4; clear HO_12; clear HB; have HO_4 := n0_; have HO_12 := n1_; have HB := n2_; have BK368 := n3_; have GW368 := n4_; have GE368 := n5_; clear n0_ n1_ n2_ n3_ n4_ n5_; clear hb hbox hg; have hcz20_0 : w19.cell? ⟨gb368, 0, none⟩ = some (.int .i64 0) := (blk_cell BK368.out 0).trans rfl; have hcz20_1 : w19.cell? ⟨gb368, 1, none⟩ = some (.int .i64 0) := (blk_cell BK368.out 1).trans rfl; have hcz20_2 : w19.cell? ⟨gb368, 2, none⟩ = some (.int .i64 0) := (blk_cell BK368.out 2).trans rfl; have hfz20_0 := blk_frozen BK368.out 0; have hfz20_1 := blk_frozen BK368.out 1; have hfz20_2 := blk_frozen BK368.out 2) | ((with_reducible refine gate_builtin (b := .append) (xs := #[.tmp 23, .tmp 25]) rfl ?_); at_builtin; refine Kd.R_append (Kd.int .i64) (w0 := w) w.heap.size rfl (.tmp 23) (.tmp 25) 22 3 (.int .i64 0) 8 rfl Try.underlying22 info3 rfl (by decide) (by omega) u4 x4_1 0 [.int .i64 0] (fun _ => True) (fun _ => False) rfl (by first | (go_simp; done) | (go_simp; rfl)) ?aP (fun _ hk => hk.elim) ?aF ?aO ?aB ?aS ?aL ?_; (case aP => exact rfl); (case aB => exact (by repeat (first | (with_reducible first | exact HB.out | apply below_alloc | apply pw_below_drewN | apply below_drew1 | refine below_set ?_ GE368.out) | exact HB.out))); (case aF => exact (fun _ _ => trivial)); (case aO => exact (by (with_reducible repeat (first | apply Kd.R_alloc | apply Kd.R_drewN | apply Kd.R_drew)); exact Kd.R_mono (Kd.R_far (p := ⟨gb368, 2, none⟩) (Kd.R_far (p := ⟨gb368, 1, none⟩) (Kd.R_far (p := ⟨gb368, 0, none⟩) (Kd.R_types HO_4.out BK368.out (by decide)) (fun _ hk => hk.2) (.int .i64 ((rd_T71 t364 x14_1).f0))) (fun _ hk => hk.2) (.int .i64 ((rd_T71 t364 x14_1).f1))) (fun _ hk => hk.2) (.int .i64 ((rd_T71 t364 x14_1).f2))) (fun _ hk => trivial))); (case aS => exact (below_size (by repeat (first | (with_reducible first | exact HB.out | apply below_alloc | apply pw_below_drewN | apply below_drew1 | refine below_set ?_ GE368.out) | exact HB.out)))); (case aL => have := LMc18.out; omega); intro v373 w21 ho hb hg hat; rw [← Ny372.out] at ho; have n0_ := am (Kd.R_over' (by (with_reducible repeat (first | apply Kd.R_alloc | apply Kd.R_drewN | apply Kd.R_drew)); exact (Kd.R_mono (Kd.R_far (p := ⟨gb368, 2, none⟩) (Kd.R_far (p := ⟨gb368, 1, none⟩) (Kd.R_far (p := ⟨gb368, 0, none⟩) (Kd.R_mono HO_12.out (fun k_ hk => (⟨hk, hk.2⟩ : _ ∧ k_ ≠ gb368))) (fun _ hk => hk.2) (.int .i64 ((rd_T71 t364 x14_1).f0))) (fun _ hk => hk.2) (.int .i64 ((rd_T71 t364 x14_1).f1))) (fun _ hk => hk.2) (.int .i64 ((rd_T71 t364 x14_1).f2))) (fun _ h_ => h_.1))) (Kd.R_typed (by (with_reducible repeat (first | apply Kd.R_alloc | apply Kd.R_drewN | apply Kd.R_drew)); exact (Kd.R_mono (Kd.R_far (p := ⟨gb368, 2, none⟩) (Kd.R_far (p := ⟨gb368, 1, none⟩) (Kd.R_far (p := ⟨gb368, 0, none⟩) (Kd.R_types HO_4.out BK368.out (by decide)) (fun _ hk => hk.2) (.int .i64 ((rd_T71 t364 x14_1).f0))) (fun _ hk => hk.2) (.int .i64 ((rd_T71 t364 x14_1).f1))) (fun _ hk => hk.2) (.int .i64 ((rd_T71 t364 x14_1).f2))) (fun _ h_ => h_.1)))) (by decide) hg); have n1_ := am (blk_grown (g := gb368) (o := .cells #[.int .i64 ((rd_T71 t364 x14_1).f0), .int .i64 ((rd_T71 t364 x14_1).f1), .int .i64 ((rd_T71 t364 x14_1).f2)] 71 (0, 0)) (by (with_reducible repeat (first | refine blk_drewN ?_ _ | refine blk_drew ?_ | refine blk_alloc ?_ _)); refine blk_put (cs := #[.int .i64 ((rd_T71 t364 x14_1).f0), .int .i64 ((rd_T71 t364 x14_1).f1), .int .i64 0]) ?_ 2 _ rfl; (with_reducible repeat (first | refine blk_drewN ?_ _ | refine blk_drew ?_ | refine blk_alloc ?_ _)); refine blk_put (cs := #[.int .i64 ((rd_T71 t364 x14_1).f0), .int .i64 0, .int .i64 0]) ?_ 1 _ rfl; (with_reducible repeat (first | refine blk_drewN ?_ _ | refine blk_drew ?_ | refine blk_alloc ?_ _)); refine blk_put (cs := #[.int .i64 0, .int .i64 0, .int .i64 0]) ?_ 0 _ rfl; (with_reducible repeat (first | refine blk_drewN ?_ _ | refine blk_drew ?_ | refine blk_alloc ?_ _)); exact BK368.out) hg (Kd.R_ne HO_4.out BK368.out (by decide))); have n2_ := am (hb); have n3_ := am (ho); clear HO_12; clear BK368; clear HB; clear HO_4; have HO_12 := n0_; have BK368 := n1_; have HB := n2_; have HO374 := n3_; clear n0_ n1_ n2_ n3_; clear ho hb hg hat))
      go_roundg k1
      case measure => have := HK1.out; omega
      case rel => exact ⟨(y372), (wrap64 (x14_1 + 1)), fr, H', ⟨by have := HK1.out; omega⟩, ⟨wR HO374⟩, ⟨Kd.R_below (Kd.R_mono HO_12.out (fun _ hk => trivial)) gs⟩, ⟨by repeat (first | (with_reducible first | exact HB.out | apply below_alloc | apply pw_below_drewN | apply below_drew1 | refine below_set ?_ GE368.out) | exact HB.out)⟩⟩
    ·rw [if_neg c10] at H
     have c10b0 := decide_eq_false c10; clear c10
     simp only [Option.some.injEq, Prod.mk.injEq] at H
     obtain ⟨rfl, rfl⟩ := H; go_wp2
     go_ret2
     exact ⟨_, fq, wR HO_4, bw HB⟩
 ·replace c3 := Bool.eq_false_iff.mpr c3
  subst c3
  rw [if_neg (show ¬ (false = true) by decide)] at H
  simp only [Option.some.injEq, Prod.mk.injEq] at H
  obtain ⟨rfl, rfl⟩ := H
  go_enter Try.func33, Try.ntmps33
  go_wp2_with (first | ((with_reducible refine gate_callee (f := 73) rfl ?_); refine gl 9 Try.func73 #[.int .i64 a0] ?_; (with_reducible refine (impl_isPrime.calls k a0 false _ A2.out).mono ?_); rintro e w22 ⟨rfl, hb⟩; refine ⟨_, rfl, ?_⟩; replace HB := bq HB hb; (try clear hb)))
  go_ret2
  exact ⟨_, fq, by first | exact Kd.R_nil _ _ _ _ _ | exact Kd.N_nil _ _ _ _ _ | exact Kd.V_nil _ _ _ _ _ | exact Kd.Q_nil _ _ _ _ _ | exact Kd.S_nil _ _ _ _ _, bw HB⟩/-! ### impl_placesOn: function 76 -/
mutual
def impl_placesOn.l0 : Nat → Int → List Int → List (List Int) → Int → Int → Option ((List (List Int)))
 | 0, _, _, _, _, _ => none
 | k + 1, x0, x1, x5, x14, x15 => if x15 < x14 then (impl_placesOn.l1 k x0 x1 x5 x15 (([] : List Int)) x14 x15 0) else (some x5)
def impl_placesOn.l1 : Nat → Int → List Int → List (List Int) → Int → List Int → Int → Int → Int → Option ((List (List Int)))
 | 0, _, _, _, _, _, _, _, _ => none
 | k + 1, x0, x1, x5, x6, x7, x14, x15, x19 => if x19 < 4 then (if 0 ≤ x19 then (if x19 < (x1.length : Int) then (if 0 ≤ (wrap64 (4 + x19)) then (if (wrap64 (4 + x19)) < (x1.length : Int) then (if x0 = 0 then (none) else (if x7.length < 17592186044416 then (impl_placesOn.l1 k x0 x1 x5 x6 (x7 ++ [Int.tmod (wrap64 ((rd x1 x19) + (wrap64 (x6 * (rd x1 (wrap64 (4 + x19))))))) x0]) x14 x15 (wrap64 (x19 + 1))) else (none))) else (none)) else (none)) else (none)) else (none)) else (if x5.length < 5864062014805 then (impl_placesOn.l0 k x0 x1 (x5 ++ [x7]) x14 (wrap64 (x15 + 1))) else (none))
end
def impl_placesOn.f (k : Nat) (a0 : Int) (l1 : List Int) : Option ((List (List Int))) := (some (([] : List Int) : List Int)).bind fun y375 => (if 4 ≤ (l1.length : Int) then (if y375.length + (l1.drop 4).length < 17592186044416 then (impl_placesOn.l0 k a0 l1 (([(y375 ++ (l1.drop 4))] : List (List Int))) a0 0) else (none)) else (none))
theorem impl_placesOn.mono_l : ∀ k, (∀ y0 y1 y2 y3 y4, LeO (impl_placesOn.l0 k y0 y1 y2 y3 y4) (impl_placesOn.l0 (k + 1) y0 y1 y2 y3 y4)) ∧ (∀ y0 y1 y2 y3 y4 y5 y6 y7, LeO (impl_placesOn.l1 k y0 y1 y2 y3 y4 y5 y6 y7) (impl_placesOn.l1 (k + 1) y0 y1 y2 y3 y4 y5 y6 y7))
 | 0 => ⟨fun _ _ _ _ _ r h => by simp [impl_placesOn.l0] at h, fun _ _ _ _ _ _ _ _ r h => by simp [impl_placesOn.l1] at h⟩
 | k + 1 => by
  obtain ⟨ih0, ih1⟩ := impl_placesOn.mono_l k
  refine ⟨?_, ?_⟩
  ·intro y0 y1 y2 y3 y4
   unfold impl_placesOn.l0
   repeat' first | (with_reducible first | apply ih0 | apply ih1 | exact LeO.refl _ | exact LeO.none _ | refine LeO.ite ?_ ?_ | refine LeO.bind ?_ (fun _ => ?_)) | (first | apply ih0 | apply ih1 | exact LeO.none _ | refine LeO.ite ?_ ?_ | refine LeO.bind ?_ (fun _ => ?_))
  ·intro y0 y1 y2 y3 y4 y5 y6 y7
   unfold impl_placesOn.l1
   repeat' first | (with_reducible first | apply ih0 | apply ih1 | exact LeO.refl _ | exact LeO.none _ | refine LeO.ite ?_ ?_ | refine LeO.bind ?_ (fun _ => ?_)) | (first | apply ih0 | apply ih1 | exact LeO.none _ | refine LeO.ite ?_ ?_ | refine LeO.bind ?_ (fun _ => ?_))
theorem impl_placesOn.mono : ∀ a0 a1 k, LeO (impl_placesOn.f k a0 a1) (impl_placesOn.f (k + 1) a0 a1) := by
 intro a0 a1 k
 obtain ⟨ih0, ih1⟩ := impl_placesOn.mono_l k
 unfold impl_placesOn.f
 repeat' first | (with_reducible first | apply ih0 | apply ih1 | exact LeO.refl _ | exact LeO.none _ | refine LeO.ite ?_ ?_ | refine LeO.bind ?_ (fun _ => ?_)) | (first | apply ih0 | apply ih1 | exact LeO.none _ | refine LeO.ite ?_ ?_ | refine LeO.bind ?_ (fun _ => ?_))
def impl_placesOn.T9 : Bool × List (List Nat × List Nat) := (true, [([], []), ([], []), ([], []), ([1, 2], [1, 2]), ([3], [3]), ([], []), ([], []), ([], []), ([7], [7]), ([6, 8], [6, 8]), ([9], [9]), ([5, 10], [5, 10]), ([4, 11], [4, 11]), ([], []), ([12, 13], [12, 13]), ([14], [14]), ([0, 15], [0, 15]), ([16, 16, 0, 1, 2, 3, 4, 5, 6, 7, 8, 9, 10, 11, 12, 13, 14, 15, 16], [0, 16])])
def impl_placesOn.B9 : List Nat := [0, 0, 0, 6, 14, 0, 0, 0, 128, 448, 960, 2016, 4094, 0, 16382, 32766, 65535, 131071]
theorem impl_placesOn.tab9 : rtab .any (opsOf Try.f76 9) = impl_placesOn.T9 := by kernel_rfl
theorem impl_placesOn.bits9 : waitsOk impl_placesOn.T9.2 impl_placesOn.B9 = true := by kernel_rfl
set_option maxHeartbeats 8000000 in
set_option maxRecDepth 100000 in
theorem impl_placesOn.calls (k : Nat) (a0 : Int) (A1 : Option Addr) (c1 : Nat) (l1 : List Int) (r : List (List Int)) (w : World) (hr1 : Kd.C (Kd.int .i64) w A1 l1.length l1) (hc1 : l1.length ≤ c1) (h : impl_placesOn.f k a0 l1 = some r) :
  Calls Try.prog 76 #[.int .i64 a0, .slice A1 l1.length c1] w fun e w' => ∃ v0_ : Value, e = .returned (v0_) ∧ Kd.N (Kd.slice 3 (Kd.int .i64)) 22 w' w.heap.size (fun k_ => (w.heap.size ≤ k_)) v0_ r ∧ Below w.heap.size w w' := by
 have HR1 := am hr1
 have HC1 := am hc1
 clear hr1 hc1
 have HB := am (Below.refl w.heap.size w)
 have H : ((some (([] : List Int) : List Int)).bind fun y375 => (if 4 ≤ (l1.length : Int) then (if y375.length + (l1.drop 4).length < 17592186044416 then (impl_placesOn.l0 k a0 l1 (([(y375 ++ (l1.drop 4))] : List (List Int))) a0 0) else (none)) else (none))) = some r := h
 clear h; replace H := bsy H; obtain ⟨y375, Ny375, H⟩ := H
 by_cases c3 : 4 ≤ (l1.length : Int)
 ·rw [if_pos c3] at H
  have c3b0 := eq_true c3; have c3b1 := decide_eq_true c3; clear c3; replace H := ifn H; obtain ⟨c4, H⟩ := H; have LMc4 := am c4; clear c4
  generalize hy379 : (y375 ++ (l1.drop 4) : List Int) = y379 at H
  have Ny379 := am hy379.symm; clear hy379
  generalize hy382 : (([y379] : List (List Int))) = y382 at H
  have Ny382 := am hy382.symm; clear hy382; have H' := am H; clear H
  go_enter Try.func76, Try.ntmps76
  go_wp2_with (first | ((with_reducible refine gate_dst (N := 9) rfl ?_); refine li 3 ([] : List Int) ?_; intro v376 w5 ho6 hb; (first | rw [← Ny375.out] at ho6 | (simp only [Int.reduceToNat] at ho6; rw [← Ny375.out] at ho6)); have HO377 := am (mR ho6 HB); replace HB := bq HB hb; clear hb ho6; obtain ⟨i07, hi07, _, hsz7, _⟩ := info_parts info3; obtain ⟨A7, hcut7, hA7, hC7⟩ := print_drop_of (P := Try.prog) (Value.int .i64) 0 22 3 .i64 Try.underlying22 hi07 hsz7 A1 c1 l1 4 (by omega) (od) HC1.out; have HR378 := am (Kd.C_of_reads (h1 := fun _ => rfl) (hA7 _ (Kd.reads_of_C HR1.out))); have HC378 := am hC7; clear hA7 hC7 hi07 hsz7) | ((with_reducible refine gate_builtin (b := .append) (xs := #[.tmp 9, .tmp 11]) rfl ?_); at_builtin; refine Kd.R_append_rows (Kd.int .i64) (w0 := w) w.heap.size rfl (.tmp 9) (.tmp 11) 22 3 (.int .i64 0) 8 rfl Try.underlying22 info3 rfl (by decide) (by omega) v376 y375 (l1.drop 4) _ _ _ (fun k_ => (w.heap.size ≤ k_)) (fun _ => False) rfl rfl ?aO ?aR (fun _ _ h => h) (fun _ h => h.elim) ?aF ?aB ?aS ?aL ?_; (case aR => first | (rw [← show (l1.drop 4).length = (l1.length - 4) from List.length_drop]; exact Kd.C_below HR378.out (bw HB)) | (exact Kd.C_below HR378.out (bw HB))); (case aB => exact (bw HB)); (case aF => exact (fun k_ hk => (Nat.le_trans (bz HB) hk))); (case aO => exact (by (with_reducible repeat (first | apply Kd.R_alloc | apply Kd.R_drewN | apply Kd.R_drew)); exact Kd.R_mono HO377.out (fun _ hk => hk.1))); (case aS => exact (bz HB)); (case aL => have := LMc4.out; have hlx_ := (show (l1.drop 4).length = (l1.length - 4) from List.length_drop); omega); intro v380 w8 ho hb hg hat; rw [← Ny379.out] at ho; replace HB := am (hb); have HO381 := am (ho); clear HO377; clear ho hb hg hat; obtain ⟨Ao9, co9, eo9⟩ := Kd.R_slice HO381.out; subst eo9) | ((with_reducible refine gate_dst (N := 13) rfl ?_); refine Kd.N_lit (Kd.slice 3 (Kd.int .i64)) _ 22 ?hg (N' := 13) ?hd (xs := ([y379] : List (List Int))) (inner := [.slice Ao9 y379.length co9]) (ok := (fun k_ => (w.heap.size ≤ k_))) (okp := (fun k_ => (w.heap.size ≤ k_))) ?hr ?hp (fun _ hk => hk) ((show ∀ k_, w8.heap.size ≤ k_ → (fun k_ => (w.heap.size ≤ k_)) k_ from fun k_ hk => (Nat.le_trans (bz HB) hk)) _ (Nat.le_refl _)) (Below.refl _ _) (Nat.le_refl _) (by simp) ?_; (case hd => rfl); (case hg => rfl); (case hr => first | (go_simp; done) | (go_simp; rfl)); (case hp => exact (Reps.one (show Kd.FK (Kd.slice 3 (Kd.int .i64)) _ _ y379 [.slice Ao9 y379.length co9] from (Kd.FK_slice_mk (Kd.R_reads' (HO381.out)).2.1 (Kd.R_F (HO381.out)))) (Reps.none _ _))); intro v383 w10 ho11 hb hg_ hnew_; clear hg_ hnew_; (first | rw [← Ny382.out] at ho11 | (simp only [Int.reduceToNat] at ho11; rw [← Ny382.out] at ho11)); have HO384 := am (Kd.N_lower ho11 (bz HB)); replace HB := bq HB hb; clear HO381; clear hb ho11))
  go_loopg [5, 15] k (fun kq v5 v15 w' => ∃ (x5_1 : List (List Int)) (x15_1 : Int), v15 = .int .i64 x15_1 ∧ Aside0 (impl_placesOn.l0 kq a0 l1 x5_1 a0 x15_1 = some r) ∧ Aside0 (kq ≤ k) ∧ Aside0 (Kd.N (Kd.slice 3 (Kd.int .i64)) 22 w' w.heap.size (fun k_ => (w.heap.size ≤ k_)) v5 x5_1) ∧ Aside0 (Below w.heap.size w w'))
  case atStart => exact ⟨(y382), (0), fr, H', ⟨Nat.le_refl _⟩, ⟨wN HO384⟩, ⟨bw HB⟩⟩
  case round =>
   clear H'; try clear c1; try clear p2; try clear c3; try clear c3b0; try clear c3b1; try clear c4; try clear c7
   obtain ⟨x5_1, x15_1, rfl, HA, HK1, HO_5, HB⟩ := hrel
   cases gk with
   | zero => exact absurd HA.out (by simp [impl_placesOn.l0])
   | succ k1 =>
    have H := HA.out; clear HA
    simp only [impl_placesOn.l0] at H
    by_cases c12 : x15_1 < a0
    ·rw [if_pos c12] at H
     have c12b0 := decide_eq_true c12; clear c12
     generalize hy385 : (([] : List Int)) = y385 at H
     have Ny385 := am hy385.symm; clear hy385; have H' := am H; clear H
     go_wp2_with (first | ((with_reducible refine gate_dst (N := 18) rfl ?_); refine li 3 ([] : List Int) ?_; intro v386 w13 ho14 hb; (first | rw [← Ny385.out] at ho14 | (simp only [Int.reduceToNat] at ho14; rw [← Ny385.out] at ho14)); replace HO_5 := eN HO_5 (Kd.R_base ho14) hb; have HO387 := am (mR ho14 HB); replace HB := bq HB hb; clear hb ho14))
     go_loopg [7, 19] k1 (fun kq v7 v19 w' => ∃ (x7_2 : List Int) (x19_2 : Int), v19 = .int .i64 x19_2 ∧ Aside0 (impl_placesOn.l1 kq a0 l1 x5_1 x15_1 x7_2 a0 x15_1 x19_2 = some r) ∧ Aside0 (kq ≤ k1) ∧ Aside0 (Kd.N (Kd.slice 3 (Kd.int .i64)) 22 w' w.heap.size (fun k_ => (w.heap.size ≤ k_) ∧ some k_ ≠ (v7 : Value).ownBlock) u5 x5_1) ∧ Aside0 (Kd.R (Kd.int .i64) 3 w' w.heap.size (fun k_ => (w.heap.size ≤ k_)) v7 x7_2) ∧ Aside0 (Below w.heap.size w w'))
     case atStart => exact ⟨(y385), (0), fr, H', ⟨Nat.le_refl _⟩, ⟨wN HO_5⟩, ⟨Kd.R_below (Kd.R_mono HO387.out (fun _ hk => hk.1)) gs⟩, ⟨bw HB⟩⟩
     case round =>
      clear H'; try clear c1; try clear p2; try clear c3; try clear c3b0; try clear c3b1; try clear c4; try clear c7; try clear c12; try clear c12b0; try clear p2
      obtain ⟨x7_2, x19_2, rfl, HA, HK2, HO_5, HO_7, HB⟩ := hrel
      cases gk with
      | zero => exact absurd HA.out (by simp [impl_placesOn.l1])
      | succ k2 =>
       have H := HA.out; clear HA
       simp only [impl_placesOn.l1] at H
       by_cases c15 : x19_2 < 4
       ·rw [if_pos c15] at H
        have c15b0 := decide_eq_true c15; clear c15; replace H := ifn H; obtain ⟨c16, H⟩ := H; have c16b0 := decide_eq_true c16; clear c16; replace H := ifn H; obtain ⟨c17, H⟩ := H; have c17b0 := decide_eq_true c17; clear c17
        obtain ⟨ji18, hji18⟩ : ∃ j_ : Int, (wrap64 (4 + x19_2)) = j_ := ⟨_, rfl⟩
        (first | rw [hji18] at H | simp only [hji18] at H)
        have hji18w : (IntKind.i64.wrap (4 + x19_2)) = ji18 := (i64_w _).trans hji18
        replace H := ifn H; obtain ⟨c19, H⟩ := H; have c19b0 := decide_eq_true c19; clear c19; replace H := ifn H; obtain ⟨c20, H⟩ := H; have c20b0 := decide_eq_true c20; clear c20; replace H := ifm H; obtain ⟨c21, H⟩ := H; have c21b0 := beq_eq_false_iff_ne.mpr c21
        have c21b1 := bne_iff_ne.mpr c21; replace H := ifn H; obtain ⟨c22, H⟩ := H; have LMc22 := am c22; clear c22
        generalize hy390 : (x7_2 ++ [Int.tmod (wrap64 ((rd l1 x19_2) + (wrap64 (x15_1 * (rd l1 (ji18)))))) a0] : List Int) = y390 at H
        have Ny390 := am hy390.symm; clear hy390; have H' := am H; clear H
        try go_wp2
        replace HO_5 := am (Kd.N_drew HO_5.out)
        replace HO_7 := am (Kd.R_drew HO_7.out)
        replace HB := am (below_drew1 HB.out)
        have p388 : 0 ≤ (x19_2 : Int) := od
        have q388 : x19_2 < (l1.length : Int) := od
        obtain ⟨ad388, e388, hx388_0⟩ := Kd.at_int HR1.out x19_2 p388 q388
        have hw388_0 := hx388_0
        cases e388
        replace hx388_0 := wc HB hx388_0
        replace p388 := eq_true p388; replace q388 := eq_true q388
        have p389 : 0 ≤ ((ji18) : Int) := od
        have q389 : (ji18) < (l1.length : Int) := od
        obtain ⟨ad389, e389, hx389_0⟩ := Kd.at_int HR1.out (ji18) p389 q389
        have hw389_0 := hx389_0
        obtain rfl : ad388 = ad389 := (by injection e389)
        replace hx389_0 := wc HB hx389_0
        replace p389 := eq_true p389; replace q389 := eq_true q389
        refine st 18 (fun w' => w'.cell? (ad388.add (x19_2).toNat) = some (.int .i64 (rd l1 x19_2)) ∧ w'.cell? (ad388.add ((ji18)).toNat) = some (.int .i64 (rd l1 (ji18)))) [] impl_placesOn.tab9 impl_placesOn.bits9 (⟨(wc HB hw388_0), (wc HB hw389_0)⟩) fun hHeld HT_ HW_ => ?_
        generalize wr.drew = w23 at HO_5 HO_7 HB hx388_0 hx389_0 hHeld ⊢
        refine pz 0 22 HT_ ?_; refine pz 1 23 HT_ ?_; refine pz 2 24 HT_ ?_; refine pz 3 25 HT_ ?_; refine pz 5 27 HT_ ?_; refine pz 6 28 HT_ ?_; refine pz 7 29 HT_ ?_; refine pz 8 30 HT_ ?_; refine pz 9 31 HT_ ?_; refine pz 13 35 HT_ ?_; refine tk 4 26 HT_ HW_ hHeld ?_
        refine tk 10 32 HT_ HW_ hHeld ?_; refine pz 11 33 HT_ ?_; refine pz 12 34 HT_ ?_; refine pz 14 36 HT_ ?_
        refine on 15 (some 37) HT_ fun K hK => ?_
        refine value_ (w1 := ?_) (v := ?_) (by rfl) rfl ?_ ?_
        rotate_left 2
        ·go_simp
         constructor
         ·rfl
         ·rfl
        refine hK.out _ _ ⟨(World.cell?_alloc_lt _ _ _ (World.block_lt_of_cell? _ _ ((wc HB hw388_0)))).trans ((wc HB hw388_0)), (World.cell?_alloc_lt _ _ _ (World.block_lt_of_cell? _ _ ((wc HB hw389_0)))).trans ((wc HB hw389_0))⟩ fun hHeld => nz ?_
        clear hK K
        refine on 16 (some 38) HT_ fun K hK => ?_
        refine Kd.R_append_step (Kd.int .i64) (w0 := w) w.heap.size (by rfl) (.tmp 22) (.tmp 37) 22 3 (.int .i64 0) 8 rfl Try.underlying22 info3 rfl (by decide) (by omega) u7 x7_2 (Int.tmod (wrap64 ((rd l1 x19_2) + (wrap64 (x15_1 * (rd l1 (ji18)))))) a0) [.int .i64 (Int.tmod (wrap64 ((rd l1 x19_2) + (wrap64 (x15_1 * (rd l1 (ji18)))))) a0)] (fun k_ => (w.heap.size ≤ k_)) (fun _ => False) rfl rfl ?aP (fun _ hk => hk.elim) ?aF ?aO ?aB ?aS ?aL ?_
        (case aP => exact rfl)
        (case aB => exact (bw HB))
        (case aF => exact (fun k_ hk => (Nat.le_trans (bz HB) hk)))
        (case aO => exact (wR HO_7))
        (case aS => exact (bz HB))
        (case aL => have := LMc22.out; omega)
        intro v391 w24 ho hb hg hat
        rw [← Ny390.out] at ho
        replace HO_5 := am (Kd.N_afterv (ok := (fun k_ => (w.heap.size ≤ k_))) (wN HO_5) hg hat)
        replace HB := am (hb)
        have HO392 := am (ho)
        clear HO_7; clear ho hb hg hat
        refine hK.out _ _ ⟨(wc HB hw388_0), (wc HB hw389_0)⟩ fun hHeld => nz ?_
        clear hK K; refine pz 17 7 HT_ ?_
        refine done_ (done_of HT_.out (by kernel_rfl)) ?_
        try go_wp2
        go_roundg k2
        case measure => have := HK1.out; have := HK2.out; omega
        case rel => exact ⟨(y390), (wrap64 (x19_2 + 1)), fr, H', ⟨by have := HK1.out; have := HK2.out; omega⟩, ⟨wN HO_5⟩, ⟨wR HO392⟩, ⟨bw HB⟩⟩
       ·rw [if_neg c15] at H
        have c15b0 := decide_eq_false c15; clear c15; replace H := ifn H; obtain ⟨c25, H⟩ := H; have LMc25 := am c25; clear c25
        generalize hy393 : (x5_1 ++ [x7_2] : List (List Int)) = y393 at H
        have Ny393 := am hy393.symm; clear hy393; have H' := am H; clear H
        obtain ⟨Ao27, co27, eo27⟩ := Kd.R_slice HO_7.out
        subst eo27
        go_wp2_with (first | ((with_reducible refine gate_builtin (b := .append) (xs := #[.tmp 40, .tmp 42]) rfl ?_); at_builtin; refine Kd.N_append (Kd.slice 3 (Kd.int .i64)) (w0 := w) w.heap.size rfl (.tmp 40) (.tmp 42) 45 22 (.slice none 0 0) 24 rfl Try.underlying45 info22 rfl (by decide) (by omega) u5 x5_1 x7_2 [.slice Ao27 x7_2.length co27] (fun k_ => (w.heap.size ≤ k_)) (fun k_ => ((fun k_ => (w.heap.size ≤ k_))) k_ ∧ some k_ ≠ (u5 : Value).ownBlock) rfl rfl ?aP (fun _ hk => hk) ?aF ?aO ?aB ?aS ?aL ?_; (case aP => exact (Kd.FK_slice_mk (Kd.R_reads' (Kd.R_mono (ok' := (fun k_ => ((fun k_ => (w.heap.size ≤ k_))) k_ ∧ some k_ ≠ (u5 : Value).ownBlock)) (Kd.R_apart' (HO_7.out) (Kd.N_typed HO_5.out) (by decide)) (fun k_ hk => ⟨hk.1, hk.2⟩))).2.1 (Kd.R_F (Kd.R_mono (ok' := (fun k_ => ((fun k_ => (w.heap.size ≤ k_))) k_ ∧ some k_ ≠ (u5 : Value).ownBlock)) (Kd.R_apart' (HO_7.out) (Kd.N_typed HO_5.out) (by decide)) (fun k_ hk => ⟨hk.1, hk.2⟩))))); (case aB => exact (bw HB)); (case aF => exact (fun k_ hk => (Nat.le_trans (bz HB) hk))); (case aO => exact (by (with_reducible repeat (first | apply Kd.N_alloc | apply Kd.N_drewN | apply Kd.N_drew)); exact Kd.N_mono HO_5.out (fun _ hk => hk.1))); (case aS => exact (bz HB)); (case aL => have := LMc25.out; omega); intro v394 w26 ho hb hg hat; rw [← Ny393.out] at ho; replace HB := am (hb); have HO395 := am (ho); clear HO_5 HO_7; clear ho hb hg hat))
        go_roundg k2
        case measure => have := HK1.out; have := HK2.out; omega
        case rel => exact ⟨(y393), (wrap64 (x15_1 + 1)), fr, H', ⟨by have := HK1.out; have := HK2.out; omega⟩, ⟨wN HO395⟩, ⟨bw HB⟩⟩
    ·rw [if_neg c12] at H
     have c12b0 := decide_eq_false c12; clear c12; obtain rfl := Option.some.inj H; go_wp2; go_ret
     exact ⟨_, fq, wN HO_5, bw HB⟩
 ·rw [if_neg c3] at H
  exact absurd H (by simp)
end Go.Proofs.Ytmenehnfgenlpaa.PA

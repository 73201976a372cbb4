-- Written by xprint.py, a program of this claim's own (over the kit's print.py)
import Derived.Test.YtmgbpmihbljngaaPAx0
import Derived.Test.YtmgbpmihbljngaaPAx4
import Derived.Test.YtmgbpmihbljngaaPAx6
import Derived.BigQuiet
import Derived.Deep.QuietTactic
namespace Go.Proofs.Ytmgbpmihbljngaa.PA
open Go.RowKit Go.Proofs.YtmgbpmihbljngaaW.PrintWords Go.Proofs.YtmgbpmihbljngaaW.PrintLast Go.Proofs.YtmgbpmihbljngaaW.PrintMore
attribute [local go_sem] max2_int min2_int max_two min_two max_three min_three max_four min_four   -- for this text's walks alone
set_option linter.unusedVariables false
set_option linter.unusedSimpArgs false

/-! ### impl_squares: function 113 -/
def impl_squares.l0 : Nat → List (List Int) → List (S43) → Int → Int → Option ((List (List Int)))
 | 0, _, _, _, _ => none
 | k + 1, x3, x10, x11, x12 => if x12 < x11 then (if 0 ≤ x12 then (if x12 < (x10.length : Int) then (if x3.length < 5864062014805 then (impl_squares.l0 k (x3 ++ [(([wrap64 (((rd_T43 x10 x12).f0.f0) * ((rd_T43 x10 x12).f0.f0)), wrap64 (((rd_T43 x10 x12).f0.f0) * ((rd_T43 x10 x12).f0.f1)), wrap64 (((rd_T43 x10 x12).f0.f0) * ((rd_T43 x10 x12).f0.f2)), wrap64 (((rd_T43 x10 x12).f0.f1) * ((rd_T43 x10 x12).f0.f1)), wrap64 (((rd_T43 x10 x12).f0.f1) * ((rd_T43 x10 x12).f0.f2)), wrap64 (((rd_T43 x10 x12).f0.f2) * ((rd_T43 x10 x12).f0.f2))] : List Int))]) x10 x11 (wrap64 (x12 + 1))) else (none)) else (none)) else (none)) else (some x3)
def impl_squares.f (k : Nat) (l0 : List (S43)) : Option ((List (List Int))) := impl_squares.l0 k (([] : List (List Int))) l0 (l0.length : Int) 0
theorem impl_squares.mono_l : ∀ k, (∀ y0 y1 y2 y3, LeO (impl_squares.l0 k y0 y1 y2 y3) (impl_squares.l0 (k + 1) y0 y1 y2 y3))
 | 0 => fun _ _ _ _ r h => by simp [impl_squares.l0] at h
 | k + 1 => by
  have ih0 := impl_squares.mono_l k
  ·intro y0 y1 y2 y3
   unfold impl_squares.l0
   repeat' first | (with_reducible first | apply ih0 | exact LeO.refl _ | exact LeO.none _ | refine LeO.ite ?_ ?_ | refine LeO.bind ?_ (fun _ => ?_)) | (first | apply ih0 | exact LeO.none _ | refine LeO.ite ?_ ?_ | refine LeO.bind ?_ (fun _ => ?_))
theorem impl_squares.mono : ∀ a0 k, LeO (impl_squares.f k a0) (impl_squares.f (k + 1) a0) := by
 intro a0 k
 have ih0 := impl_squares.mono_l k
 unfold impl_squares.f
 repeat' first | (with_reducible first | apply ih0 | exact LeO.refl _ | exact LeO.none _ | refine LeO.ite ?_ ?_ | refine LeO.bind ?_ (fun _ => ?_)) | (first | apply ih0 | exact LeO.none _ | refine LeO.ite ?_ ?_ | refine LeO.bind ?_ (fun _ => ?_))
set_option maxHeartbeats 8000000 in
set_option maxRecDepth 100000 in
theorem impl_squares.calls (k : Nat) (A0 : Option Addr) (c0 : Nat) (l0 : List (S43)) (r : List (List Int)) (w : World) (hr0 : Kd.C k43 w A0 l0.length l0) (hc0 : l0.length ≤ c0) (h : impl_squares.f k l0 = some r) :
  Calls Try.prog 113 #[.slice A0 l0.length c0] w fun e w' => ∃ v0_ : Value, e = .returned (v0_) ∧ Kd.S (Kd.slice 3 (Kd.int .i64)) 23 w' w.heap.size (fun _ => True) v0_ r ∧ Below w.heap.size w w' := by
 have hu43 := Try.underlying43
 have HR0 := am hr0
 have HC0 := am hc0
 clear hr0 hc0
 have HB := am (Below.refl w.heap.size w)
 have H : (impl_squares.l0 k (([] : List (List Int))) l0 (l0.length : Int) 0) = some r := h
 clear h
 generalize hy173 : (([] : List (List Int))) = y173 at H
 have Ny173 := am hy173.symm; clear hy173; have H' := am H; clear H
 go_enter Try.func113, Try.ntmps113
 go_wp2_with (first | ((with_reducible refine gate_dst (N := 9) rfl ?_); refine Kd.S_lit (Kd.slice 3 (Kd.int .i64)) _ 23 ?hg (N := 9) ?hd (xs := ([] : List (List Int))) (inner := []) (ok := fun _ => True) (okp := fun _ => True) ?hr ?hp (fun _ hk => hk) trivial (Below.refl _ _) (Nat.le_refl _) (by simp) ?_; (case hd => rfl); (case hg => rfl); (case hr => first | (go_simp; done) | (go_simp; rfl)); (case hp => exact (Reps.none _ _)); intro v174 w2 ho3 hb hg_ hnew_; clear hg_ hnew_; (first | rw [← Ny173.out] at ho3 | (simp only [Int.reduceToNat] at ho3; rw [← Ny173.out] at ho3)); have HO175 := am (Kd.S_lower ho3 (bz HB)); replace HB := bq HB hb; clear hb ho3))
 repeat (go_quiet (first | ((with_reducible refine gate_dst (N := 9) rfl ?_); refine Kd.S_lit (Kd.slice 3 (Kd.int .i64)) _ 23 ?hg (N := 9) ?hd (xs := ([] : List (List Int))) (inner := []) (ok := fun _ => True) (okp := fun _ => True) ?hr ?hp (fun _ hk => hk) trivial (Below.refl _ _) (Nat.le_refl _) (by simp) ?_; (case hd => rfl); (case hg => rfl); (case hr => first | (go_simp; done) | (go_simp; rfl)); (case hp => exact (Reps.none _ _)); intro v174 w2 ho3 hb hg_ hnew_; clear hg_ hnew_; (first | rw [← Ny173.out] at ho3 | (simp only [Int.reduceToNat] at ho3; rw [← Ny173.out] at ho3)); have n0_ := am (Kd.S_lower ho3 (bz HB)); have n1_ := bq HB hb; clear HB; have HO175 := n0_; have HB := n1_; clear n0_ n1_; clear hb ho3)); try go_wp2_with (first | ((with_reducible refine gate_dst (N := 9) rfl ?_); refine Kd.S_lit (Kd.slice 3 (Kd.int .i64)) _ 23 ?hg (N := 9) ?hd (xs := ([] : List (List Int))) (inner := []) (ok := fun _ => True) (okp := fun _ => True) ?hr ?hp (fun _ hk => hk) trivial (Below.refl _ _) (Nat.le_refl _) (by simp) ?_; (case hd => rfl); (case hg => rfl); (case hr => first | (go_simp; done) | (go_simp; rfl)); (case hp => exact (Reps.none _ _)); intro v174 w2 ho3 hb hg_ hnew_; clear hg_ hnew_; (first | rw [← Ny173.out] at ho3 | (simp only [Int.reduceToNat] at ho3; rw [← Ny173.out] at ho3)); have n0_ := am (Kd.S_lower ho3 (bz HB)); have n1_ := bq HB hb; clear HB; have HO175 := n0_; have HB := n1_; clear n0_ n1_; clear hb ho3)))
 go_loopg [3, 12] k (fun kq v3 v12 w' => ∃ (x3_1 : List (List Int)) (x12_1 : Int), v12 = .int .i64 x12_1 ∧ Aside0 (impl_squares.l0 kq x3_1 l0 (l0.length : Int) x12_1 = some r) ∧ Aside0 (kq ≤ k) ∧ Aside0 (Kd.S (Kd.slice 3 (Kd.int .i64)) 23 w' w.heap.size (fun _ => True) v3 x3_1) ∧ Aside0 (Below w.heap.size w w'))
 case atStart => exact ⟨(y173), (0), fr, H', ⟨Nat.le_refl _⟩, ⟨wS HO175⟩, ⟨bw HB⟩⟩
 case round =>
  clear H'; try clear c1; try clear p2
  obtain ⟨x3_1, x12_1, rfl, HA, HK1, HO_3, HB⟩ := hrel
  cases gk with
  | zero => exact absurd HA.out (by simp [impl_squares.l0])
  | succ k1 =>
   have H := HA.out; clear HA
   simp only [impl_squares.l0] at H
   by_cases c4 : x12_1 < (l0.length : Int)
   ·rw [if_pos c4] at H
    have c4b0 := decide_eq_true c4; clear c4; replace H := ifn H; obtain ⟨c5, H⟩ := H; have c5b0 := decide_eq_true c5; clear c5; replace H := ifn H; obtain ⟨c6, H⟩ := H; have c6b0 := decide_eq_true c6; clear c6
    generalize hy178 : (([wrap64 (((rd_T43 l0 x12_1).f0.f0) * ((rd_T43 l0 x12_1).f0.f0)), wrap64 (((rd_T43 l0 x12_1).f0.f0) * ((rd_T43 l0 x12_1).f0.f1)), wrap64 (((rd_T43 l0 x12_1).f0.f0) * ((rd_T43 l0 x12_1).f0.f2)), wrap64 (((rd_T43 l0 x12_1).f0.f1) * ((rd_T43 l0 x12_1).f0.f1)), wrap64 (((rd_T43 l0 x12_1).f0.f1) * ((rd_T43 l0 x12_1).f0.f2)), wrap64 (((rd_T43 l0 x12_1).f0.f2) * ((rd_T43 l0 x12_1).f0.f2))] : List Int)) = y178 at H
    have Ny178 := am hy178.symm; clear hy178; replace H := ifn H; obtain ⟨c7, H⟩ := H; have LMc7 := am c7; clear c7
    generalize hy181 : (x3_1 ++ [y178] : List (List Int)) = y181 at H
    have Ny181 := am hy181.symm; clear hy181; have H' := am H; clear H
    have p176 : 0 ≤ (x12_1 : Int) := od
    have q176 : x12_1 < (l0.length : Int) := od
    obtain ⟨ad176, e176, hx176_0, hx176_1, hx176_2⟩ := at_T43 HR0.out x12_1 p176 q176
    cases e176
    replace hx176_0 := wcl HB hx176_0
    replace hx176_1 := wcl HB hx176_1
    replace hx176_2 := wcl HB hx176_2
    replace p176 := eq_true p176; replace q176 := eq_true q176
    go_wp2_with (first | ((with_reducible refine gate_dst (N := 5) rfl ?_); refine box_event ?hg (N := 5) ?hd (cs := #[.int .i64 0, .int .i64 0, .int .i64 0]) (t := 43) ?hr ?_; (case hd => rfl); (case hg => rfl); (case hr => first | (go_simp; done) | (go_simp; rfl)); intro gb177 hg w8 hbox hb; have n0_ := am (Kd.S_below (wS HO_3) hb); have n1_ := bq HB hb; have n2_ := am (hbox); have n3_ := am ((by rw [hg]; exact (bz HB) : w.heap.size ≤ gb177)); have n4_ := am ((by rw [hg]; exact (bz HB) : w.heap.size ≤ gb177)); clear HO_3; clear HB; have HO_3 := n0_; have HB := n1_; have BK177 := n2_; have GW177 := n3_; have GE177 := n4_; clear n0_ n1_ n2_ n3_ n4_; clear hb hbox hg; have hcz9_0 : w8.cell? ⟨gb177, 0, none⟩ = some (.int .i64 0) := (blk_cell BK177.out 0).trans rfl; have hcz9_1 : w8.cell? ⟨gb177, 1, none⟩ = some (.int .i64 0) := (blk_cell BK177.out 1).trans rfl; have hcz9_2 : w8.cell? ⟨gb177, 2, none⟩ = some (.int .i64 0) := (blk_cell BK177.out 2).trans rfl; have hfz9_0 := blk_frozen BK177.out 0; have hfz9_1 := blk_frozen BK177.out 1; have hfz9_2 := blk_frozen BK177.out 2) | ((with_reducible refine gate_dst (N := 44) rfl ?_); refine li 3 [wrap64 (((rd_T43 l0 x12_1).f0.f0) * ((rd_T43 l0 x12_1).f0.f0)), wrap64 (((rd_T43 l0 x12_1).f0.f0) * ((rd_T43 l0 x12_1).f0.f1)), wrap64 (((rd_T43 l0 x12_1).f0.f0) * ((rd_T43 l0 x12_1).f0.f2)), wrap64 (((rd_T43 l0 x12_1).f0.f1) * ((rd_T43 l0 x12_1).f0.f1)), wrap64 (((rd_T43 l0 x12_1).f0.f1) * ((rd_T43 l0 x12_1).f0.f2)), wrap64 (((rd_T43 l0 x12_1).f0.f2) * ((rd_T43 l0 x12_1).f0.f2))] ?_; intro v179 w10 ho11 hb; (first | rw [← Ny178.out] at ho11 | (simp only [Int.reduceToNat] at ho11; rw [← Ny178.out] at ho11)); have n0_ := am (Kd.S_elder' (by (with_reducible repeat (first | apply Kd.S_alloc | apply Kd.S_drewN | apply Kd.S_drew)); exact (Kd.S_mono (Kd.S_far (p := ⟨gb177, 2, none⟩) (Kd.S_far (p := ⟨gb177, 1, none⟩) (Kd.S_far (p := ⟨gb177, 0, none⟩) (Kd.S_types HO_3.out BK177.out (by decide)) (fun _ hk => hk.2) (.int .i64 ((rd_T43 l0 x12_1).f0.f0))) (fun _ hk => hk.2) (.int .i64 ((rd_T43 l0 x12_1).f0.f1))) (fun _ hk => hk.2) (.int .i64 ((rd_T43 l0 x12_1).f0.f2))) (fun _ h_ => h_.1))) (Kd.R_base ho11) hb); have n1_ := am (Kd.R_lower ho11 (below_size (bx_ HB))); have n2_ := am (blk_below (g := gb177) (o := .cells #[.int .i64 ((rd_T43 l0 x12_1).f0.f0), .int .i64 ((rd_T43 l0 x12_1).f0.f1), .int .i64 ((rd_T43 l0 x12_1).f0.f2)] 43 (0, 0)) (by (with_reducible repeat (first | refine blk_drewN ?_ _ | refine blk_drew ?_ | refine blk_alloc ?_ _)); refine blk_put (cs := #[.int .i64 ((rd_T43 l0 x12_1).f0.f0), .int .i64 ((rd_T43 l0 x12_1).f0.f1), .int .i64 0]) ?_ 2 _ rfl; (with_reducible repeat (first | refine blk_drewN ?_ _ | refine blk_drew ?_ | refine blk_alloc ?_ _)); refine blk_put (cs := #[.int .i64 ((rd_T43 l0 x12_1).f0.f0), .int .i64 0, .int .i64 0]) ?_ 1 _ rfl; (with_reducible repeat (first | refine blk_drewN ?_ _ | refine blk_drew ?_ | refine blk_alloc ?_ _)); refine blk_put (cs := #[.int .i64 0, .int .i64 0, .int .i64 0]) ?_ 0 _ rfl; (with_reducible repeat (first | refine blk_drewN ?_ _ | refine blk_drew ?_ | refine blk_alloc ?_ _)); exact BK177.out) hb); have n3_ := am (below_step (bx_ HB) hb); clear HO_3; clear BK177; clear HB; have HO_3 := n0_; have HO180 := n1_; have BK177 := n2_; have HB := n3_; clear n0_ n1_ n2_ n3_; clear hb ho11; obtain ⟨Ao13, co13, eo13⟩ := Kd.R_slice HO180.out; subst eo13) | ((with_reducible refine gate_builtin (b := .append) (xs := #[.tmp 25, .tmp 45]) rfl ?_); at_builtin; refine Kd.S_append (Kd.slice 3 (Kd.int .i64)) (w0 := w) w.heap.size rfl (.tmp 25) (.tmp 45) 47 23 (.slice none 0 0) 24 rfl Try.underlying47 info23 rfl (by decide) (by omega) u3 x3_1 y178 [.slice Ao13 y178.length co13] (fun _ => True) (fun k_ => some k_ = (.slice Ao13 y178.length co13 : Value).ownBlock) rfl rfl ?aP (fun k_ hk_ => ((Kd.R_mono (ok' := fun k_ => ((fun _ => True)) k_ ∧ some k_ ≠ (u3 : Value).ownBlock) (Kd.R_apart' (HO180.out) (Kd.S_typed HO_3.out) (by decide)) (fun k_ hk => ⟨trivial, hk.2⟩))).1 k_ hk_.symm) ?aF ?aO ?aB ?aS ?aL ?_; (case aP => exact Kd.M_row (Kd.R_mono (Kd.R_tight rfl (Kd.R_mono (ok' := fun k_ => ((fun _ => True)) k_ ∧ some k_ ≠ (u3 : Value).ownBlock) (Kd.R_apart' (HO180.out) (Kd.S_typed HO_3.out) (by decide)) (fun k_ hk => ⟨trivial, hk.2⟩))) (fun _ h_ => h_))); (case aB => exact (bx_ HB)); (case aF => exact (fun _ _ => trivial)); (case aO => exact (by (with_reducible repeat (first | apply Kd.S_alloc | apply Kd.S_drewN | apply Kd.S_drew)); exact Kd.S_mono HO_3.out (fun k_ hk => ⟨trivial, fun e_ => hk.2 e_⟩))); (case aS => exact (below_size (bx_ HB))); (case aL => have := LMc7.out; omega); intro v182 w12 ho hb hg hat; rw [← Ny181.out] at ho; have n0_ := am (blk_grown (g := gb177) (o := .cells #[.int .i64 ((rd_T43 l0 x12_1).f0.f0), .int .i64 ((rd_T43 l0 x12_1).f0.f1), .int .i64 ((rd_T43 l0 x12_1).f0.f2)] 43 (0, 0)) (pk_ BK177) hg (Kd.S_ne HO_3.out BK177.out (by decide))); have n1_ := am (hb); have n2_ := am (ho); clear BK177; clear HB; clear HO_3; clear HO180; have BK177 := n0_; have HB := n1_; have HO183 := n2_; clear n0_ n1_ n2_; clear ho hb hg hat))
    repeat (go_quiet (first | ((with_reducible refine gate_dst (N := 5) rfl ?_); refine box_event ?hg (N := 5) ?hd (cs := #[.int .i64 0, .int .i64 0, .int .i64 0]) (t := 43) ?hr ?_; (case hd => rfl); (case hg => rfl); (case hr => first | (go_simp; done) | (go_simp; rfl)); intro gb177 hg w8 hbox hb; have n0_ := am (Kd.S_below (wS HO_3) hb); have n1_ := bq HB hb; have n2_ := am (hbox); have n3_ := am ((by rw [hg]; exact (bz HB) : w.heap.size ≤ gb177)); have n4_ := am ((by rw [hg]; exact (bz HB) : w.heap.size ≤ gb177)); clear HO_3; clear HB; have HO_3 := n0_; have HB := n1_; have BK177 := n2_; have GW177 := n3_; have GE177 := n4_; clear n0_ n1_ n2_ n3_ n4_; clear hb hbox hg; have hcz9_0 : w8.cell? ⟨gb177, 0, none⟩ = some (.int .i64 0) := (blk_cell BK177.out 0).trans rfl; have hcz9_1 : w8.cell? ⟨gb177, 1, none⟩ = some (.int .i64 0) := (blk_cell BK177.out 1).trans rfl; have hcz9_2 : w8.cell? ⟨gb177, 2, none⟩ = some (.int .i64 0) := (blk_cell BK177.out 2).trans rfl; have hfz9_0 := blk_frozen BK177.out 0; have hfz9_1 := blk_frozen BK177.out 1; have hfz9_2 := blk_frozen BK177.out 2) | ((with_reducible refine gate_dst (N := 44) rfl ?_); refine Kd.R_lit (Kd.int .i64) _ 3 ?hg (N := 44) ?hd (xs := ([wrap64 (((rd_T43 l0 x12_1).f0.f0) * ((rd_T43 l0 x12_1).f0.f0)), wrap64 (((rd_T43 l0 x12_1).f0.f0) * ((rd_T43 l0 x12_1).f0.f1)), wrap64 (((rd_T43 l0 x12_1).f0.f0) * ((rd_T43 l0 x12_1).f0.f2)), wrap64 (((rd_T43 l0 x12_1).f0.f1) * ((rd_T43 l0 x12_1).f0.f1)), wrap64 (((rd_T43 l0 x12_1).f0.f1) * ((rd_T43 l0 x12_1).f0.f2)), wrap64 (((rd_T43 l0 x12_1).f0.f2) * ((rd_T43 l0 x12_1).f0.f2))] : List Int)) (inner := [.int .i64 (wrap64 (((rd_T43 l0 x12_1).f0.f0) * ((rd_T43 l0 x12_1).f0.f0))), .int .i64 (wrap64 (((rd_T43 l0 x12_1).f0.f0) * ((rd_T43 l0 x12_1).f0.f1))), .int .i64 (wrap64 (((rd_T43 l0 x12_1).f0.f0) * ((rd_T43 l0 x12_1).f0.f2))), .int .i64 (wrap64 (((rd_T43 l0 x12_1).f0.f1) * ((rd_T43 l0 x12_1).f0.f1))), .int .i64 (wrap64 (((rd_T43 l0 x12_1).f0.f1) * ((rd_T43 l0 x12_1).f0.f2))), .int .i64 (wrap64 (((rd_T43 l0 x12_1).f0.f2) * ((rd_T43 l0 x12_1).f0.f2)))]) (ok := fun _ => True) (okp := fun _ => True) ?hr ?hp (fun _ hk => hk) trivial (Below.refl _ _) (Nat.le_refl _) (by simp) ?_; (case hd => rfl); (case hg => rfl); (case hr => first | (go_simp; done) | (go_simp; rfl)); (case hp => exact (Reps.one (show Kd.M (Kd.int .i64) _ _ _ (wrap64 (((rd_T43 l0 x12_1).f0.f0) * ((rd_T43 l0 x12_1).f0.f0))) [.int .i64 (wrap64 (((rd_T43 l0 x12_1).f0.f0) * ((rd_T43 l0 x12_1).f0.f0)))] from rfl) (Reps.one (show Kd.M (Kd.int .i64) _ _ _ (wrap64 (((rd_T43 l0 x12_1).f0.f0) * ((rd_T43 l0 x12_1).f0.f1))) [.int .i64 (wrap64 (((rd_T43 l0 x12_1).f0.f0) * ((rd_T43 l0 x12_1).f0.f1)))] from rfl) (Reps.one (show Kd.M (Kd.int .i64) _ _ _ (wrap64 (((rd_T43 l0 x12_1).f0.f0) * ((rd_T43 l0 x12_1).f0.f2))) [.int .i64 (wrap64 (((rd_T43 l0 x12_1).f0.f0) * ((rd_T43 l0 x12_1).f0.f2)))] from rfl) (Reps.one (show Kd.M (Kd.int .i64) _ _ _ (wrap64 (((rd_T43 l0 x12_1).f0.f1) * ((rd_T43 l0 x12_1).f0.f1))) [.int .i64 (wrap64 (((rd_T43 l0 x12_1).f0.f1) * ((rd_T43 l0 x12_1).f0.f1)))] from rfl) (Reps.one (show Kd.M (Kd.int .i64) _ _ _ (wrap64 (((rd_T43 l0 x12_1).f0.f1) * ((rd_T43 l0 x12_1).f0.f2))) [.int .i64 (wrap64 (((rd_T43 l0 x12_1).f0.f1) * ((rd_T43 l0 x12_1).f0.f2)))] from rfl) (Reps.one (show Kd.M (Kd.int .i64) _ _ _ (wrap64 (((rd_T43 l0 x12_1).f0.f2) * ((rd_T43 l0 x12_1).f0.f2))) [.int .i64 (wrap64 (((rd_T43 l0 x12_1).f0.f2) * ((rd_T43 l0 x12_1).f0.f2)))] from rfl) (Reps.none _ _)))))))); intro v179 w10 ho11 hb hg_ hnew_; clear hg_ hnew_; (first | rw [← Ny178.out] at ho11 | (simp only [Int.reduceToNat] at ho11; rw [← Ny178.out] at ho11)); have n0_ := am (Kd.S_elder' (by (with_reducible repeat (first | apply Kd.S_alloc | apply Kd.S_drewN | apply Kd.S_drew)); exact (Kd.S_mono (Kd.S_far (p := ⟨gb177, 2, none⟩) (Kd.S_far (p := ⟨gb177, 1, none⟩) (Kd.S_far (p := ⟨gb177, 0, none⟩) (Kd.S_types HO_3.out BK177.out (by decide)) (fun _ hk => hk.2) (.int .i64 ((rd_T43 l0 x12_1).f0.f0))) (fun _ hk => hk.2) (.int .i64 ((rd_T43 l0 x12_1).f0.f1))) (fun _ hk => hk.2) (.int .i64 ((rd_T43 l0 x12_1).f0.f2))) (fun _ h_ => h_.1))) (Kd.R_base ho11) hb); have n1_ := am (Kd.R_lower ho11 (below_size (bx_ HB))); have n2_ := am (blk_below (g := gb177) (o := .cells #[.int .i64 ((rd_T43 l0 x12_1).f0.f0), .int .i64 ((rd_T43 l0 x12_1).f0.f1), .int .i64 ((rd_T43 l0 x12_1).f0.f2)] 43 (0, 0)) (by (with_reducible repeat (first | refine blk_drewN ?_ _ | refine blk_drew ?_ | refine blk_alloc ?_ _)); refine blk_put (cs := #[.int .i64 ((rd_T43 l0 x12_1).f0.f0), .int .i64 ((rd_T43 l0 x12_1).f0.f1), .int .i64 0]) ?_ 2 _ rfl; (with_reducible repeat (first | refine blk_drewN ?_ _ | refine blk_drew ?_ | refine blk_alloc ?_ _)); refine blk_put (cs := #[.int .i64 ((rd_T43 l0 x12_1).f0.f0), .int .i64 0, .int .i64 0]) ?_ 1 _ rfl; (with_reducible repeat (first | refine blk_drewN ?_ _ | refine blk_drew ?_ | refine blk_alloc ?_ _)); refine blk_put (cs := #[.int .i64 0, .int .i64 0, .int .i64 0]) ?_ 0 _ rfl; (with_reducible repeat (first | refine blk_drewN ?_ _ | refine blk_drew ?_ | refine blk_alloc ?_ _)); exact BK177.out) hb); have n3_ := am (below_step (bx_ HB) hb); clear HO_3; clear BK177; clear HB; have HO_3 := n0_; have HO180 := n1_; have BK177 := n2_; have HB := n3_; clear n0_ n1_ n2_ n3_; clear hb ho11; obtain ⟨Ao13, co13, eo13⟩ := Kd.R_slice HO180.out; subst eo13) | ((with_reducible refine gate_builtin (b := .append) (xs := #[.tmp 25, .tmp 45]) rfl ?_); at_builtin; refine Kd.S_append (Kd.slice 3 (Kd.int .i64)) (w0 := w) w.heap.size rfl (.tmp 25) (.tmp 45) 47 23 (.slice none 0 0) 24 rfl Try.underlying47 info23 rfl (by decide) (by omega) u3 x3_1 y178 [.slice Ao13 y178.length co13] (fun _ => True) (fun k_ => some k_ = (.slice Ao13 y178.length co13 : Value).ownBlock) rfl rfl ?aP (fun k_ hk_ => ((Kd.R_mono (ok' := fun k_ => ((fun _ => True)) k_ ∧ some k_ ≠ (u3 : Value).ownBlock) (Kd.R_apart' (HO180.out) (Kd.S_typed HO_3.out) (by decide)) (fun k_ hk => ⟨trivial, hk.2⟩))).1 k_ hk_.symm) ?aF ?aO ?aB ?aS ?aL ?_; (case aP => exact Kd.M_row (Kd.R_mono (Kd.R_tight rfl (Kd.R_mono (ok' := fun k_ => ((fun _ => True)) k_ ∧ some k_ ≠ (u3 : Value).ownBlock) (Kd.R_apart' (HO180.out) (Kd.S_typed HO_3.out) (by decide)) (fun k_ hk => ⟨trivial, hk.2⟩))) (fun _ h_ => h_))); (case aB => exact (bx_ HB)); (case aF => exact (fun _ _ => trivial)); (case aO => exact (by (with_reducible repeat (first | apply Kd.S_alloc | apply Kd.S_drewN | apply Kd.S_drew)); exact Kd.S_mono HO_3.out (fun k_ hk => ⟨trivial, fun e_ => hk.2 e_⟩))); (case aS => exact (below_size (bx_ HB))); (case aL => have := LMc7.out; omega); intro v182 w12 ho hb hg hat; rw [← Ny181.out] at ho; have n0_ := am (blk_grown (g := gb177) (o := .cells #[.int .i64 ((rd_T43 l0 x12_1).f0.f0), .int .i64 ((rd_T43 l0 x12_1).f0.f1), .int .i64 ((rd_T43 l0 x12_1).f0.f2)] 43 (0, 0)) (pk_ BK177) hg (Kd.S_ne HO_3.out BK177.out (by decide))); have n1_ := am (hb); have n2_ := am (ho); clear BK177; clear HB; clear HO_3; clear HO180; have BK177 := n0_; have HB := n1_; have HO183 := n2_; clear n0_ n1_ n2_; clear ho hb hg hat)); try go_wp2_with (first | ((with_reducible refine gate_dst (N := 5) rfl ?_); refine box_event ?hg (N := 5) ?hd (cs := #[.int .i64 0, .int .i64 0, .int .i64 0]) (t := 43) ?hr ?_; (case hd => rfl); (case hg => rfl); (case hr => first | (go_simp; done) | (go_simp; rfl)); intro gb177 hg w8 hbox hb; have n0_ := am (Kd.S_below (wS HO_3) hb); have n1_ := bq HB hb; have n2_ := am (hbox); have n3_ := am ((by rw [hg]; exact (bz HB) : w.heap.size ≤ gb177)); have n4_ := am ((by rw [hg]; exact (bz HB) : w.heap.size ≤ gb177)); clear HO_3; clear HB; have HO_3 := n0_; have HB := n1_; have BK177 := n2_; have GW177 := n3_; have GE177 := n4_; clear n0_ n1_ n2_ n3_ n4_; clear hb hbox hg; have hcz9_0 : w8.cell? ⟨gb177, 0, none⟩ = some (.int .i64 0) := (blk_cell BK177.out 0).trans rfl; have hcz9_1 : w8.cell? ⟨gb177, 1, none⟩ = some (.int .i64 0) := (blk_cell BK177.out 1).trans rfl; have hcz9_2 : w8.cell? ⟨gb177, 2, none⟩ = some (.int .i64 0) := (blk_cell BK177.out 2).trans rfl; have hfz9_0 := blk_frozen BK177.out 0; have hfz9_1 := blk_frozen BK177.out 1; have hfz9_2 := blk_frozen BK177.out 2) | ((with_reducible refine gate_dst (N := 44) rfl ?_); refine Kd.R_lit (Kd.int .i64) _ 3 ?hg (N := 44) ?hd (xs := ([wrap64 (((rd_T43 l0 x12_1).f0.f0) * ((rd_T43 l0 x12_1).f0.f0)), wrap64 (((rd_T43 l0 x12_1).f0.f0) * ((rd_T43 l0 x12_1).f0.f1)), wrap64 (((rd_T43 l0 x12_1).f0.f0) * ((rd_T43 l0 x12_1).f0.f2)), wrap64 (((rd_T43 l0 x12_1).f0.f1) * ((rd_T43 l0 x12_1).f0.f1)), wrap64 (((rd_T43 l0 x12_1).f0.f1) * ((rd_T43 l0 x12_1).f0.f2)), wrap64 (((rd_T43 l0 x12_1).f0.f2) * ((rd_T43 l0 x12_1).f0.f2))] : List Int)) (inner := [.int .i64 (wrap64 (((rd_T43 l0 x12_1).f0.f0) * ((rd_T43 l0 x12_1).f0.f0))), .int .i64 (wrap64 (((rd_T43 l0 x12_1).f0.f0) * ((rd_T43 l0 x12_1).f0.f1))), .int .i64 (wrap64 (((rd_T43 l0 x12_1).f0.f0) * ((rd_T43 l0 x12_1).f0.f2))), .int .i64 (wrap64 (((rd_T43 l0 x12_1).f0.f1) * ((rd_T43 l0 x12_1).f0.f1))), .int .i64 (wrap64 (((rd_T43 l0 x12_1).f0.f1) * ((rd_T43 l0 x12_1).f0.f2))), .int .i64 (wrap64 (((rd_T43 l0 x12_1).f0.f2) * ((rd_T43 l0 x12_1).f0.f2)))]) (ok := fun _ => True) (okp := fun _ => True) ?hr ?hp (fun _ hk => hk) trivial (Below.refl _ _) (Nat.le_refl _) (by simp) ?_; (case hd => rfl); (case hg => rfl); (case hr => first | (go_simp; done) | (go_simp; rfl)); (case hp => exact (Reps.one (show Kd.M (Kd.int .i64) _ _ _ (wrap64 (((rd_T43 l0 x12_1).f0.f0) * ((rd_T43 l0 x12_1).f0.f0))) [.int .i64 (wrap64 (((rd_T43 l0 x12_1).f0.f0) * ((rd_T43 l0 x12_1).f0.f0)))] from rfl) (Reps.one (show Kd.M (Kd.int .i64) _ _ _ (wrap64 (((rd_T43 l0 x12_1).f0.f0) * ((rd_T43 l0 x12_1).f0.f1))) [.int .i64 (wrap64 (((rd_T43 l0 x12_1).f0.f0) * ((rd_T43 l0 x12_1).f0.f1)))] from rfl) (Reps.one (show Kd.M (Kd.int .i64) _ _ _ (wrap64 (((rd_T43 l0 x12_1).f0.f0) * ((rd_T43 l0 x12_1).f0.f2))) [.int .i64 (wrap64 (((rd_T43 l0 x12_1).f0.f0) * ((rd_T43 l0 x12_1).f0.f2)))] from rfl) (Reps.one (show Kd.M (Kd.int .i64) _ _ _ (wrap64 (((rd_T43 l0 x12_1).f0.f1) * ((rd_T43 l0 x12_1).f0.f1))) [.int .i64 (wrap64 (((rd_T43 l0 x12_1).f0.f1) * ((rd_T43 l0 x12_1).f0.f1)))] from rfl) (Reps.one (show Kd.M (Kd.int .i64) _ _ _ (wrap64 (((rd_T43 l0 x12_1).f0.f1) * ((rd_T43 l0 x12_1).f0.f2))) [.int .i64 (wrap64 (((rd_T43 l0 x12_1).f0.f1) * ((rd_T43 l0 x12_1).f0.f2)))] from rfl) (Reps.one (show Kd.M (Kd.int .i64) _ _ _ (wrap64 (((rd_T43 l0 x12_1).f0.f2) * ((rd_T43 l0 x12_1).f0.f2))) [.int .i64 (wrap64 (((rd_T43 l0 x12_1).f0.f2) * ((rd_T43 l0 x12_1).f0.f2)))] from rfl) (Reps.none _ _)))))))); intro v179 w10 ho11 hb hg_ hnew_; clear hg_ hnew_; (first | rw [← Ny178.out] at ho11 | (simp only [Int.reduceToNat] at ho11; rw [← Ny178.out] at ho11)); have n0_ := am (Kd.S_elder' (by (with_reducible repeat (first | apply Kd.S_alloc | apply Kd.S_drewN | apply Kd.S_drew)); exact (Kd.S_mono (Kd.S_far (p := ⟨gb177, 2, none⟩) (Kd.S_far (p := ⟨gb177, 1, none⟩) (Kd.S_far (p := ⟨gb177, 0, none⟩) (Kd.S_types HO_3.out BK177.out (by decide)) (fun _ hk => hk.2) (.int .i64 ((rd_T43 l0 x12_1).f0.f0))) (fun _ hk => hk.2) (.int .i64 ((rd_T43 l0 x12_1).f0.f1))) (fun _ hk => hk.2) (.int .i64 ((rd_T43 l0 x12_1).f0.f2))) (fun _ h_ => h_.1))) (Kd.R_base ho11) hb); have n1_ := am (Kd.R_lower ho11 (below_size (bx_ HB))); have n2_ := am (blk_below (g := gb177) (o := .cells #[.int .i64 ((rd_T43 l0 x12_1).f0.f0), .int .i64 ((rd_T43 l0 x12_1).f0.f1), .int .i64 ((rd_T43 l0 x12_1).f0.f2)] 43 (0, 0)) (by (with_reducible repeat (first | refine blk_drewN ?_ _ | refine blk_drew ?_ | refine blk_alloc ?_ _)); refine blk_put (cs := #[.int .i64 ((rd_T43 l0 x12_1).f0.f0), .int .i64 ((rd_T43 l0 x12_1).f0.f1), .int .i64 0]) ?_ 2 _ rfl; (with_reducible repeat (first | refine blk_drewN ?_ _ | refine blk_drew ?_ | refine blk_alloc ?_ _)); refine blk_put (cs := #[.int .i64 ((rd_T43 l0 x12_1).f0.f0), .int .i64 0, .int .i64 0]) ?_ 1 _ rfl; (with_reducible repeat (first | refine blk_drewN ?_ _ | refine blk_drew ?_ | refine blk_alloc ?_ _)); refine blk_put (cs := #[.int .i64 0, .int .i64 0, .int .i64 0]) ?_ 0 _ rfl; (with_reducible repeat (first | refine blk_drewN ?_ _ | refine blk_drew ?_ | refine blk_alloc ?_ _)); exact BK177.out) hb); have n3_ := am (below_step (bx_ HB) hb); clear HO_3; clear BK177; clear HB; have HO_3 := n0_; have HO180 := n1_; have BK177 := n2_; have HB := n3_; clear n0_ n1_ n2_ n3_; clear hb ho11; obtain ⟨Ao13, co13, eo13⟩ := Kd.R_slice HO180.out; subst eo13) | ((with_reducible refine gate_builtin (b := .append) (xs := #[.tmp 25, .tmp 45]) rfl ?_); at_builtin; refine Kd.S_append (Kd.slice 3 (Kd.int .i64)) (w0 := w) w.heap.size rfl (.tmp 25) (.tmp 45) 47 23 (.slice none 0 0) 24 rfl Try.underlying47 info23 rfl (by decide) (by omega) u3 x3_1 y178 [.slice Ao13 y178.length co13] (fun _ => True) (fun k_ => some k_ = (.slice Ao13 y178.length co13 : Value).ownBlock) rfl rfl ?aP (fun k_ hk_ => ((Kd.R_mono (ok' := fun k_ => ((fun _ => True)) k_ ∧ some k_ ≠ (u3 : Value).ownBlock) (Kd.R_apart' (HO180.out) (Kd.S_typed HO_3.out) (by decide)) (fun k_ hk => ⟨trivial, hk.2⟩))).1 k_ hk_.symm) ?aF ?aO ?aB ?aS ?aL ?_; (case aP => exact Kd.M_row (Kd.R_mono (Kd.R_tight rfl (Kd.R_mono (ok' := fun k_ => ((fun _ => True)) k_ ∧ some k_ ≠ (u3 : Value).ownBlock) (Kd.R_apart' (HO180.out) (Kd.S_typed HO_3.out) (by decide)) (fun k_ hk => ⟨trivial, hk.2⟩))) (fun _ h_ => h_))); (case aB => exact (bx_ HB)); (case aF => exact (fun _ _ => trivial)); (case aO => exact (by (with_reducible repeat (first | apply Kd.S_alloc | apply Kd.S_drewN | apply Kd.S_drew)); exact Kd.S_mono HO_3.out (fun k_ hk => ⟨trivial, fun e_ => hk.2 e_⟩))); (case aS => exact (below_size (bx_ HB))); (case aL => have := LMc7.out; omega); intro v182 w12 ho hb hg hat; rw [← Ny181.out] at ho; have n0_ := am (blk_grown (g := gb177) (o := .cells #[.int .i64 ((rd_T43 l0 x12_1).f0.f0), .int .i64 ((rd_T43 l0 x12_1).f0.f1), .int .i64 ((rd_T43 l0 x12_1).f0.f2)] 43 (0, 0)) (pk_ BK177) hg (Kd.S_ne HO_3.out BK177.out (by decide))); have n1_ := am (hb); have n2_ := am (ho); clear BK177; clear HB; clear HO_3; clear HO180; have BK177 := n0_; have HB := n1_; have HO183 := n2_; clear n0_ n1_ n2_; clear ho hb hg hat)))
    go_roundg k1
    case measure => have := HK1.out; omega
    case rel => exact ⟨(y181), (wrap64 (x12_1 + 1)), fr, H', ⟨by have := HK1.out; omega⟩, ⟨wS HO183⟩, ⟨bx_ HB⟩⟩
   ·rw [if_neg c4] at H
    have c4b0 := decide_eq_false c4; clear c4; obtain rfl := Option.some.inj H; go_wp2
    repeat (go_quiet (fail); try go_wp2)
    go_ret
    exact ⟨_, fq, wS HO_3, bw HB⟩/-! ### impl_areGeneral: function 65 -/
def impl_areGeneral.f (k : Nat) (a0 : Int) (l1 : List (S43)) : Option (Bool) := if (l1.length : Int) = 6 then ((impl_areApart.f k a0 l1).bind fun t184 => (if t184 = true then ((impl_squares.f k l1).bind fun t185 => ((impl_solutions.f k a0 t185 6).bind fun t188 => (some ((t188.length : Int) == 0)))) else (some false))) else (some false)
theorem impl_areGeneral.mono : ∀ a0 a1 k, LeO (impl_areGeneral.f k a0 a1) (impl_areGeneral.f (k + 1) a0 a1) := by
 intro a0 a1 k
 unfold impl_areGeneral.f
 repeat' first | (with_reducible first | apply impl_areApart.mono | apply impl_solutions.mono | apply impl_squares.mono | exact LeO.refl _ | exact LeO.none _ | refine LeO.ite ?_ ?_ | refine LeO.bind ?_ (fun _ => ?_)) | (first | apply impl_areApart.mono | apply impl_solutions.mono | apply impl_squares.mono | exact LeO.none _ | refine LeO.ite ?_ ?_ | refine LeO.bind ?_ (fun _ => ?_))
set_option maxHeartbeats 8000000 in
set_option maxRecDepth 100000 in
theorem impl_areGeneral.calls (k : Nat) (a0 : Int) (A1 : Option Addr) (c1 : Nat) (l1 : List (S43)) (r : Bool) (w : World) (hr1 : Kd.C k43 w A1 l1.length l1) (hc1 : l1.length ≤ c1) (h : impl_areGeneral.f k a0 l1 = some r) :
  Calls Try.prog 65 #[.int .i64 a0, .slice A1 l1.length c1] w fun e w' => e = .returned (.bool r) ∧ Below w.heap.size w w' := by
 have HR1 := am hr1
 have HC1 := am hc1
 clear hr1 hc1
 have HB := am (Below.refl w.heap.size w)
 have H : (if (l1.length : Int) = 6 then ((impl_areApart.f k a0 l1).bind fun t184 => (if t184 = true then ((impl_squares.f k l1).bind fun t185 => ((impl_solutions.f k a0 t185 6).bind fun t188 => (some ((t188.length : Int) == 0)))) else (some false))) else (some false)) = some r := h
 clear h
 by_cases c3 : (l1.length : Int) = 6
 ·rw [if_pos c3] at H
  have c3b0 := beq_iff_eq.mpr c3; have c3b1 := bne_eq_false_iff_eq.mpr c3; clear c3; replace H := bs H; obtain ⟨t184, A4, H⟩ := H
  by_cases c5 : t184 = true
  ·subst c5
   rw [if_pos rfl] at H
   replace H := bs H; obtain ⟨t185, A6, H⟩ := H; replace H := bs H; obtain ⟨t188, A7, H⟩ := H; obtain rfl := Option.some.inj H
   go_enter Try.func65, Try.ntmps65
   go_wp2_with (first | (go_at_call 111; (with_reducible refine (impl_areApart.calls k a0 _ _ l1 true _ ?_ ?_ A4.out).mono ?_); exact wC HR1; exact HC1.out; rintro e w8 ⟨rfl, hb⟩; replace HB := bq HB hb; (try clear hb)) | (go_at_call 113; (with_reducible refine (impl_squares.calls k _ _ l1 t185 _ ?_ ?_ A6.out).mono ?_); exact Kd.C_below HR1.out (bw HB); exact HC1.out; rintro e w9 ⟨v186, rfl, ho0, hb⟩; have HO187 := am (Kd.S_lower ho0 (bz HB)); replace HB := bq HB hb; (try clear hb); (try clear ho0); obtain ⟨Ao10, co10, eo10⟩ := Kd.S_slice HO187.out; subst eo10) | (go_at_call 112; (with_reducible refine (impl_solutions.calls k a0 _ _ t185 6 t188 _ ?_ ?_ A7.out).mono ?_); exact Kd.C_below (Kd.S_reads' HO187.out).2.2 gs; exact (Kd.S_reads' HO187.out).2.1; rintro e w11 ⟨v189, rfl, ho0, hb⟩; have HO190 := am (Kd.S_lower (Kd.S_new' ho0 (Kd.S_lt (wS HO187))) (bz HB)); replace HO187 := eS HO187 (Kd.S_base ho0) hb; replace HB := bq HB hb; (try clear hb); (try clear ho0); obtain ⟨Ao12, co12, eo12⟩ := Kd.S_slice HO190.out; subst eo12))
   go_ret
   exact ⟨fq, bw HB⟩
  ·replace c5 := Bool.eq_false_iff.mpr c5
   subst c5
   rw [if_neg (show ¬ (false = true) by decide)] at H
   obtain rfl := Option.some.inj H
   go_enter Try.func65, Try.ntmps65
   go_wp2_with (first | (go_at_call 111; (with_reducible refine (impl_areApart.calls k a0 _ _ l1 false _ ?_ ?_ A4.out).mono ?_); exact wC HR1; exact HC1.out; rintro e w13 ⟨rfl, hb⟩; replace HB := bq HB hb; (try clear hb)))
   go_ret
   exact ⟨fq, bw HB⟩
 ·rw [if_neg c3] at H
  have c3b0 := beq_eq_false_iff_ne.mpr c3; have c3b1 := bne_iff_ne.mpr c3; obtain rfl := Option.some.inj H
  go_enter Try.func65, Try.ntmps65
  go_wp2; go_ret
  exact ⟨fq, bw HB⟩/-! ### impl_triples: function 104 -/
mutual
def impl_triples.l0 : Nat → List (S41) → Int → Option ((List (S41)))
 | 0, _, _ => none
 | k + 1, x1, x6 => if x6 < 4 then (impl_triples.l1 k x1 x6 x6 x6) else (some x1)
def impl_triples.l1 : Nat → List (S41) → Int → Int → Int → Option ((List (S41)))
 | 0, _, _, _, _ => none
 | k + 1, x1, x2, x3, x6 => if x3 < 4 then (impl_triples.l2 k x1 x2 x3 x3 x6) else (impl_triples.l0 k x1 (wrap64 (x6 + 1)))
def impl_triples.l2 : Nat → List (S41) → Int → Int → Int → Int → Option ((List (S41)))
 | 0, _, _, _, _, _ => none
 | k + 1, x1, x2, x3, x4, x6 => if x4 < 4 then (if x1.length < 5864062014805 then (impl_triples.l2 k (x1 ++ [(⟨x2, x3, x4⟩ : S41)]) x2 x3 (wrap64 (x4 + 1)) x6) else (none)) else (impl_triples.l1 k x1 x2 (wrap64 (x3 + 1)) x6)
end
def impl_triples.f (k : Nat)  : Option ((List (S41))) := impl_triples.l0 k (([] : List (S41))) 0
theorem impl_triples.mono_l : ∀ k, (∀ y0 y1, LeO (impl_triples.l0 k y0 y1) (impl_triples.l0 (k + 1) y0 y1)) ∧ (∀ y0 y1 y2 y3, LeO (impl_triples.l1 k y0 y1 y2 y3) (impl_triples.l1 (k + 1) y0 y1 y2 y3)) ∧ (∀ y0 y1 y2 y3 y4, LeO (impl_triples.l2 k y0 y1 y2 y3 y4) (impl_triples.l2 (k + 1) y0 y1 y2 y3 y4))
 | 0 => ⟨fun _ _ r h => by simp [impl_triples.l0] at h, fun _ _ _ _ r h => by simp [impl_triples.l1] at h, fun _ _ _ _ _ r h => by simp [impl_triples.l2] at h⟩
 | k + 1 => by
  obtain ⟨ih0, ih1, ih2⟩ := impl_triples.mono_l k
  refine ⟨?_, ?_, ?_⟩
  ·intro y0 y1
   unfold impl_triples.l0
   repeat' first | (with_reducible first | apply ih0 | apply ih1 | apply ih2 | exact LeO.refl _ | exact LeO.none _ | refine LeO.ite ?_ ?_ | refine LeO.bind ?_ (fun _ => ?_)) | (first | apply ih0 | apply ih1 | apply ih2 | exact LeO.none _ | refine LeO.ite ?_ ?_ | refine LeO.bind ?_ (fun _ => ?_))
  ·intro y0 y1 y2 y3
   unfold impl_triples.l1
   repeat' first | (with_reducible first | apply ih0 | apply ih1 | apply ih2 | exact LeO.refl _ | exact LeO.none _ | refine LeO.ite ?_ ?_ | refine LeO.bind ?_ (fun _ => ?_)) | (first | apply ih0 | apply ih1 | apply ih2 | exact LeO.none _ | refine LeO.ite ?_ ?_ | refine LeO.bind ?_ (fun _ => ?_))
  ·intro y0 y1 y2 y3 y4
   unfold impl_triples.l2
   repeat' first | (with_reducible first | apply ih0 | apply ih1 | apply ih2 | exact LeO.refl _ | exact LeO.none _ | refine LeO.ite ?_ ?_ | refine LeO.bind ?_ (fun _ => ?_)) | (first | apply ih0 | apply ih1 | apply ih2 | exact LeO.none _ | refine LeO.ite ?_ ?_ | refine LeO.bind ?_ (fun _ => ?_))
theorem impl_triples.mono : ∀ k, LeO (impl_triples.f k ) (impl_triples.f (k + 1) ) := by
 intro  k
 obtain ⟨ih0, ih1, ih2⟩ := impl_triples.mono_l k
 unfold impl_triples.f
 repeat' first | (with_reducible first | apply ih0 | apply ih1 | apply ih2 | exact LeO.refl _ | exact LeO.none _ | refine LeO.ite ?_ ?_ | refine LeO.bind ?_ (fun _ => ?_)) | (first | apply ih0 | apply ih1 | apply ih2 | exact LeO.none _ | refine LeO.ite ?_ ?_ | refine LeO.bind ?_ (fun _ => ?_))
set_option maxHeartbeats 8000000 in
set_option maxRecDepth 100000 in
theorem impl_triples.calls (k : Nat)  (r : List (S41)) (w : World) (h : impl_triples.f k  = some r) :
  Calls Try.prog 104 #[] w fun e w' => ∃ v0_ : Value, e = .returned (v0_) ∧ Kd.R k41 41 w' w.heap.size (fun _ => True) v0_ r ∧ Below w.heap.size w w' := by
 have hu41 := Try.underlying41
 have HB := am (Below.refl w.heap.size w)
 have H : (impl_triples.l0 k (([] : List (S41))) 0) = some r := h
 clear h
 generalize hy191 : (([] : List (S41))) = y191 at H
 have Ny191 := am hy191.symm; clear hy191; have H' := am H; clear H
 go_enter Try.func104, Try.ntmps104
 go_wp2_with (first | ((with_reducible refine gate_dst (N := 5) rfl ?_); refine Kd.R_lit k41 _ 41 ?hg (N := 5) ?hd (xs := ([] : List (S41))) (inner := []) (ok := fun _ => True) (okp := fun _ => True) ?hr ?hp (fun _ hk => hk) trivial (Below.refl _ _) (Nat.le_refl _) (by simp) ?_; (case hd => rfl); (case hg => rfl); (case hr => first | (go_simp; done) | (go_simp; rfl)); (case hp => exact (Reps.none _ _)); intro v192 w1 ho2 hb hg_ hnew_; clear hg_ hnew_; (first | rw [← Ny191.out] at ho2 | (simp only [Int.reduceToNat] at ho2; rw [← Ny191.out] at ho2)); have HO193 := am (Kd.R_lower ho2 (bz HB)); replace HB := bq HB hb; clear hb ho2))
 go_loopg [1, 6] k (fun kq v1 v6 w' => ∃ (x1_1 : List (S41)) (x6_1 : Int), v6 = .int .i64 x6_1 ∧ Aside0 (impl_triples.l0 kq x1_1 x6_1 = some r) ∧ Aside0 (kq ≤ k) ∧ Aside0 (Kd.R k41 41 w' w.heap.size (fun _ => True) v1 x1_1) ∧ Aside0 (Below w.heap.size w w'))
 case atStart => exact ⟨(y191), (0), fr, H', ⟨Nat.le_refl _⟩, ⟨wR HO193⟩, ⟨bw HB⟩⟩
 case round =>
  clear H'; try clear c1; try clear p2
  obtain ⟨x1_1, x6_1, rfl, HA, HK1, HO_1, HB⟩ := hrel
  cases gk with
  | zero => exact absurd HA.out (by simp [impl_triples.l0])
  | succ k1 =>
   have H := HA.out; clear HA
   simp only [impl_triples.l0] at H
   by_cases c3 : x6_1 < 4
   ·rw [if_pos c3] at H
    have c3b0 := decide_eq_true c3; clear c3; have H' := am H; clear H; go_wp2
    go_loopg [1, 3] k1 (fun kq v1 v3 w' => ∃ (x1_2 : List (S41)) (x3_2 : Int), v3 = .int .i64 x3_2 ∧ Aside0 (impl_triples.l1 kq x1_2 x6_1 x3_2 x6_1 = some r) ∧ Aside0 (kq ≤ k1) ∧ Aside0 (Kd.R k41 41 w' w.heap.size (fun _ => True) v1 x1_2) ∧ Aside0 (Below w.heap.size w w'))
    case atStart => exact ⟨(x1_1), (x6_1), fr, H', ⟨Nat.le_refl _⟩, ⟨wR HO_1⟩, ⟨bw HB⟩⟩
    case round =>
     clear H'; try clear c1; try clear p2; try clear c3; try clear c3b0; try clear p2
     obtain ⟨x1_2, x3_2, rfl, HA, HK2, HO_1, HB⟩ := hrel
     cases gk with
     | zero => exact absurd HA.out (by simp [impl_triples.l1])
     | succ k2 =>
      have H := HA.out; clear HA
      simp only [impl_triples.l1] at H
      by_cases c4 : x3_2 < 4
      ·rw [if_pos c4] at H
       have c4b0 := decide_eq_true c4; clear c4; have H' := am H; clear H; go_wp2
       go_loopg [1, 4] k2 (fun kq v1 v4 w' => ∃ (x1_3 : List (S41)) (x4_3 : Int), v4 = .int .i64 x4_3 ∧ Aside0 (impl_triples.l2 kq x1_3 x6_1 x3_2 x4_3 x6_1 = some r) ∧ Aside0 (kq ≤ k2) ∧ Aside0 (Kd.R k41 41 w' w.heap.size (fun _ => True) v1 x1_3) ∧ Aside0 (Below w.heap.size w w'))
       case atStart => exact ⟨(x1_2), (x3_2), fr, H', ⟨Nat.le_refl _⟩, ⟨wR HO_1⟩, ⟨bw HB⟩⟩
       case round =>
        clear H'; try clear c1; try clear p2; try clear c3; try clear c3b0; try clear c4; try clear c4b0; try clear p2
        obtain ⟨x1_3, x4_3, rfl, HA, HK3, HO_1, HB⟩ := hrel
        cases gk with
        | zero => exact absurd HA.out (by simp [impl_triples.l2])
        | succ k3 =>
         have H := HA.out; clear HA
         simp only [impl_triples.l2] at H
         by_cases c5 : x4_3 < 4
         ·rw [if_pos c5] at H
          have c5b0 := decide_eq_true c5; clear c5; replace H := ifn H; obtain ⟨c6, H⟩ := H; have LMc6 := am c6; clear c6
          generalize hy194 : (x1_3 ++ [(⟨x6_1, x3_2, x4_3⟩ : S41)] : List (S41)) = y194 at H
          have Ny194 := am hy194.symm; clear hy194; have H' := am H; clear H
          go_wp2_with (first | ((with_reducible refine gate_builtin (b := .append) (xs := #[.tmp 19, .tmp 24]) rfl ?_); at_builtin; refine Kd.R_append k41 (w0 := w) w.heap.size rfl (.tmp 19) (.tmp 24) 99 41 (.agg #[(.int .i64 0), (.int .i64 0), (.int .i64 0)]) 24 rfl Try.underlying99 info41 rfl (by decide) (by omega) u1 x1_3 (⟨x6_1, x3_2, x4_3⟩ : S41) [.int .i64 x6_1, .int .i64 x3_2, .int .i64 x4_3] (fun _ => True) (fun _ => False) rfl rfl ?aP (fun _ hk => hk.elim) ?aF ?aO ?aB ?aS ?aL ?_; (case aP => exact k41_mkM _ _ _ (⟨x6_1, x3_2, x4_3⟩ : S41)); (case aB => exact (bw HB)); (case aF => exact (fun _ _ => trivial)); (case aO => exact (wR HO_1)); (case aS => exact (bz HB)); (case aL => have := LMc6.out; omega); intro v195 w7 ho hb hg hat; rw [← Ny194.out] at ho; replace HB := am (hb); have HO196 := am (ho); clear HO_1; clear ho hb hg hat))
          go_roundg k3
          case measure => have := HK1.out; have := HK2.out; have := HK3.out; omega
          case rel => exact ⟨(y194), (wrap64 (x4_3 + 1)), fr, H', ⟨by have := HK1.out; have := HK2.out; have := HK3.out; omega⟩, ⟨wR HO196⟩, ⟨bw HB⟩⟩
         ·rw [if_neg c5] at H
          have c5b0 := decide_eq_false c5; clear c5; have H' := am H; clear H; go_wp2
          go_roundg k3
          case measure => have := HK1.out; have := HK2.out; have := HK3.out; omega
          case rel => exact ⟨(x1_3), (wrap64 (x3_2 + 1)), fr, H', ⟨by have := HK1.out; have := HK2.out; have := HK3.out; omega⟩, ⟨wR HO_1⟩, ⟨bw HB⟩⟩
      ·rw [if_neg c4] at H
       have c4b0 := decide_eq_false c4; clear c4; have H' := am H; clear H; go_wp2
       go_roundg k2
       case measure => have := HK1.out; have := HK2.out; omega
       case rel => exact ⟨(x1_2), (wrap64 (x6_1 + 1)), fr, H', ⟨by have := HK1.out; have := HK2.out; omega⟩, ⟨wR HO_1⟩, ⟨bw HB⟩⟩
   ·rw [if_neg c3] at H
    have c3b0 := decide_eq_false c3; clear c3; obtain rfl := Option.some.inj H; go_wp2; go_ret
    exact ⟨_, fq, wR HO_1, bw HB⟩/-! ### impl_exponents: function 114 -/
mutual
def impl_exponents.l0 : Nat → List (S41) → Int → Option ((List (S41)))
 | 0, _, _ => none
 | k + 1, x1, x2 => if x2 ≥ 0 then (impl_exponents.l1 k x1 x2 (wrap64 (3 - x2))) else (some x1)
def impl_exponents.l1 : Nat → List (S41) → Int → Int → Option ((List (S41)))
 | 0, _, _, _ => none
 | k + 1, x1, x2, x3 => if x3 ≥ 0 then (if x1.length < 5864062014805 then (impl_exponents.l1 k (x1 ++ [(⟨x2, x3, wrap64 ((wrap64 (3 - x2)) - x3)⟩ : S41)]) x2 (wrap64 (x3 - 1))) else (none)) else (impl_exponents.l0 k x1 (wrap64 (x2 - 1)))
end
def impl_exponents.f (k : Nat)  : Option ((List (S41))) := impl_exponents.l0 k (([] : List (S41))) 3
theorem impl_exponents.mono_l : ∀ k, (∀ y0 y1, LeO (impl_exponents.l0 k y0 y1) (impl_exponents.l0 (k + 1) y0 y1)) ∧ (∀ y0 y1 y2, LeO (impl_exponents.l1 k y0 y1 y2) (impl_exponents.l1 (k + 1) y0 y1 y2))
 | 0 => ⟨fun _ _ r h => by simp [impl_exponents.l0] at h, fun _ _ _ r h => by simp [impl_exponents.l1] at h⟩
 | k + 1 => by
  obtain ⟨ih0, ih1⟩ := impl_exponents.mono_l k
  refine ⟨?_, ?_⟩
  ·intro y0 y1
   unfold impl_exponents.l0
   repeat' first | (with_reducible first | apply ih0 | apply ih1 | exact LeO.refl _ | exact LeO.none _ | refine LeO.ite ?_ ?_ | refine LeO.bind ?_ (fun _ => ?_)) | (first | apply ih0 | apply ih1 | exact LeO.none _ | refine LeO.ite ?_ ?_ | refine LeO.bind ?_ (fun _ => ?_))
  ·intro y0 y1 y2
   unfold impl_exponents.l1
   repeat' first | (with_reducible first | apply ih0 | apply ih1 | exact LeO.refl _ | exact LeO.none _ | refine LeO.ite ?_ ?_ | refine LeO.bind ?_ (fun _ => ?_)) | (first | apply ih0 | apply ih1 | exact LeO.none _ | refine LeO.ite ?_ ?_ | refine LeO.bind ?_ (fun _ => ?_))
theorem impl_exponents.mono : ∀ k, LeO (impl_exponents.f k ) (impl_exponents.f (k + 1) ) := by
 intro  k
 obtain ⟨ih0, ih1⟩ := impl_exponents.mono_l k
 unfold impl_exponents.f
 repeat' first | (with_reducible first | apply ih0 | apply ih1 | exact LeO.refl _ | exact LeO.none _ | refine LeO.ite ?_ ?_ | refine LeO.bind ?_ (fun _ => ?_)) | (first | apply ih0 | apply ih1 | exact LeO.none _ | refine LeO.ite ?_ ?_ | refine LeO.bind ?_ (fun _ => ?_))
set_option maxHeartbeats 8000000 in
set_option maxRecDepth 100000 in
theorem impl_exponents.calls (k : Nat)  (r : List (S41)) (w : World) (h : impl_exponents.f k  = some r) :
  Calls Try.prog 114 #[] w fun e w' => ∃ v0_ : Value, e = .returned (v0_) ∧ Kd.R k41 41 w' w.heap.size (fun _ => True) v0_ r ∧ Below w.heap.size w w' := by
 have hu41 := Try.underlying41
 have HB := am (Below.refl w.heap.size w)
 have H : (impl_exponents.l0 k (([] : List (S41))) 3) = some r := h
 clear h
 generalize hy197 : (([] : List (S41))) = y197 at H
 have Ny197 := am hy197.symm; clear hy197; have H' := am H; clear H
 go_enter Try.func114, Try.ntmps114
 go_wp2_with (first | ((with_reducible refine gate_dst (N := 4) rfl ?_); refine Kd.R_lit k41 _ 41 ?hg (N := 4) ?hd (xs := ([] : List (S41))) (inner := []) (ok := fun _ => True) (okp := fun _ => True) ?hr ?hp (fun _ hk => hk) trivial (Below.refl _ _) (Nat.le_refl _) (by simp) ?_; (case hd => rfl); (case hg => rfl); (case hr => first | (go_simp; done) | (go_simp; rfl)); (case hp => exact (Reps.none _ _)); intro v198 w1 ho2 hb hg_ hnew_; clear hg_ hnew_; (first | rw [← Ny197.out] at ho2 | (simp only [Int.reduceToNat] at ho2; rw [← Ny197.out] at ho2)); have HO199 := am (Kd.R_lower ho2 (bz HB)); replace HB := bq HB hb; clear hb ho2))
 go_loopg [1, 2] k (fun kq v1 v2 w' => ∃ (x1_1 : List (S41)) (x2_1 : Int), v2 = .int .i64 x2_1 ∧ Aside0 (impl_exponents.l0 kq x1_1 x2_1 = some r) ∧ Aside0 (kq ≤ k) ∧ Aside0 (Kd.R k41 41 w' w.heap.size (fun _ => True) v1 x1_1) ∧ Aside0 (Below w.heap.size w w'))
 case atStart => exact ⟨(y197), (3), fr, H', ⟨Nat.le_refl _⟩, ⟨wR HO199⟩, ⟨bw HB⟩⟩
 case round =>
  clear H'; try clear c1; try clear p2
  obtain ⟨x1_1, x2_1, rfl, HA, HK1, HO_1, HB⟩ := hrel
  cases gk with
  | zero => exact absurd HA.out (by simp [impl_exponents.l0])
  | succ k1 =>
   have H := HA.out; clear HA
   simp only [impl_exponents.l0] at H
   by_cases c3 : x2_1 ≥ 0
   ·rw [if_pos c3] at H
    have c3b0 := decide_eq_true c3; clear c3; have H' := am H; clear H; go_wp2
    go_loopg [1, 3] k1 (fun kq v1 v3 w' => ∃ (x1_2 : List (S41)) (x3_2 : Int), v3 = .int .i64 x3_2 ∧ Aside0 (impl_exponents.l1 kq x1_2 x2_1 x3_2 = some r) ∧ Aside0 (kq ≤ k1) ∧ Aside0 (Kd.R k41 41 w' w.heap.size (fun _ => True) v1 x1_2) ∧ Aside0 (Below w.heap.size w w'))
    case atStart => exact ⟨(x1_1), (wrap64 (3 - x2_1)), fr, H', ⟨Nat.le_refl _⟩, ⟨wR HO_1⟩, ⟨bw HB⟩⟩
    case round =>
     clear H'; try clear c1; try clear p2; try clear c3; try clear c3b0; try clear p2
     obtain ⟨x1_2, x3_2, rfl, HA, HK2, HO_1, HB⟩ := hrel
     cases gk with
     | zero => exact absurd HA.out (by simp [impl_exponents.l1])
     | succ k2 =>
      have H := HA.out; clear HA
      simp only [impl_exponents.l1] at H
      by_cases c4 : x3_2 ≥ 0
      ·rw [if_pos c4] at H
       have c4b0 := decide_eq_true c4; clear c4; replace H := ifn H; obtain ⟨c5, H⟩ := H; have LMc5 := am c5; clear c5
       generalize hy200 : (x1_2 ++ [(⟨x2_1, x3_2, wrap64 ((wrap64 (3 - x2_1)) - x3_2)⟩ : S41)] : List (S41)) = y200 at H
       have Ny200 := am hy200.symm; clear hy200; have H' := am H; clear H
       go_wp2_with (first | ((with_reducible refine gate_builtin (b := .append) (xs := #[.tmp 15, .tmp 23]) rfl ?_); at_builtin; refine Kd.R_append k41 (w0 := w) w.heap.size rfl (.tmp 15) (.tmp 23) 99 41 (.agg #[(.int .i64 0), (.int .i64 0), (.int .i64 0)]) 24 rfl Try.underlying99 info41 rfl (by decide) (by omega) u1 x1_2 (⟨x2_1, x3_2, wrap64 ((wrap64 (3 - x2_1)) - x3_2)⟩ : S41) [.int .i64 x2_1, .int .i64 x3_2, .int .i64 (wrap64 ((wrap64 (3 - x2_1)) - x3_2))] (fun _ => True) (fun _ => False) rfl rfl ?aP (fun _ hk => hk.elim) ?aF ?aO ?aB ?aS ?aL ?_; (case aP => exact k41_mkM _ _ _ (⟨x2_1, x3_2, wrap64 ((wrap64 (3 - x2_1)) - x3_2)⟩ : S41)); (case aB => exact (bw HB)); (case aF => exact (fun _ _ => trivial)); (case aO => exact (wR HO_1)); (case aS => exact (bz HB)); (case aL => have := LMc5.out; omega); intro v201 w6 ho hb hg hat; rw [← Ny200.out] at ho; replace HB := am (hb); have HO202 := am (ho); clear HO_1; clear ho hb hg hat))
       go_roundg k2
       case measure => have := HK1.out; have := HK2.out; omega
       case rel => exact ⟨(y200), (wrap64 (x3_2 - 1)), fr, H', ⟨by have := HK1.out; have := HK2.out; omega⟩, ⟨wR HO202⟩, ⟨bw HB⟩⟩
      ·rw [if_neg c4] at H
       have c4b0 := decide_eq_false c4; clear c4; have H' := am H; clear H; go_wp2
       go_roundg k2
       case measure => have := HK1.out; have := HK2.out; omega
       case rel => exact ⟨(x1_2), (wrap64 (x2_1 - 1)), fr, H', ⟨by have := HK1.out; have := HK2.out; omega⟩, ⟨wR HO_1⟩, ⟨bw HB⟩⟩
   ·rw [if_neg c3] at H
    have c3b0 := decide_eq_false c3; clear c3; obtain rfl := Option.some.inj H; go_wp2; go_ret
    exact ⟨_, fq, wR HO_1, bw HB⟩
end Go.Proofs.Ytmgbpmihbljngaa.PA

-- Written by xprint.py, a program of this claim's own (over the kit's print.py)
import Derived.Test.YtmgbpmihbljngaaPAx24
namespace Go.Proofs.Ytmgbpmihbljngaa.PA
open Go.RowKit Go.Proofs.YtmgbpmihbljngaaW.PrintWords Go.Proofs.YtmgbpmihbljngaaW.PrintLast Go.Proofs.YtmgbpmihbljngaaW.PrintMore
attribute [local go_sem] j9 j8 Qf Qg js jr j6 j7
set_option linter.unusedVariables false
set_option linter.unusedSimpArgs false
def zn.l0 : Nat → Int → List (S43) → Int → List Int → Int → Option (Int × (List (S43)) × Int)
 | 0, _, _, _, _, _ => none
 | k + 1, x4, x5, x6, x1000, x1001 => if x6 < 12 then ((qe.f k x1000 x1001 (wrap64 (x4 - 2))).bind fun bt567 => ((qe.f k x1000 bt567.2 (wrap64 (x4 - 2))).bind fun bt569 => ((qe.f k x1000 bt569.2 (wrap64 (x4 - 2))).bind fun bt572 => ((qe.f k x1000 bt572.2 (wrap64 (x4 - 2))).bind fun bt574 => ((some (([] : List (S43)) : List (S43))).bind fun y577 => (if y577.length + x5.length < 5864062014805 then ((some (y577 ++ x5 : List (S43))).bind fun y580 => ((some (([(⟨(⟨1, wrap64 (2 + bt567.1), wrap64 (2 + bt569.1)⟩ : S41)⟩ : S43), (⟨(⟨1, wrap64 (2 + bt572.1), wrap64 (2 + bt574.1)⟩ : S41)⟩ : S43)] : List (S43)) : List (S43))).bind fun y583 => (if y580.length + y583.length < 5864062014805 then ((some (y580 ++ y583 : List (S43))).bind fun y586 => ((zf.f k x4 y586).bind fun t589 => (if t589 = true then (some (x4, y586, bt574.2)) else (zn.l0 k x4 x5 (wrap64 (x6 + 1)) x1000 bt574.2)))) else (none)))) else (none))))))) else ((jg.f k x1000 x1001 x4).bind fun bt553 => ((jg.f k x1000 bt553.2.2.2 x4).bind fun bt557 => ((some (([(⟨(⟨bt553.1, bt553.2.1, bt553.2.2.1⟩ : S41)⟩ : S43), (⟨(⟨bt557.1, bt557.2.1, bt557.2.2.1⟩ : S41)⟩ : S43)] : List (S43)) : List (S43))).bind fun y561 => (if x5.length + y561.length < 5864062014805 then (some (x4, (x5 ++ y561), bt557.2.2.2)) else (none)))))
def zn.f (k : Nat) (s0_0 : List Int) (s0_1 : Int) : Option (Int × (List (S43)) × Int) := (j5.f k s0_0 s0_1).bind fun bt548 => (zn.l0 k bt548.1 (([(⟨(⟨1, 0, 0⟩ : S41)⟩ : S43), (⟨(⟨0, 1, 0⟩ : S41)⟩ : S43), (⟨(⟨0, 0, 1⟩ : S41)⟩ : S43), (⟨(⟨1, 1, 1⟩ : S41)⟩ : S43)] : List (S43))) 0 s0_0 bt548.2)
theorem zn.mono_l : ∀ k, (∀ y0 y1 y2 y3 y4, LeO (zn.l0 k y0 y1 y2 y3 y4) (zn.l0 (k + 1) y0 y1 y2 y3 y4))
 | 0 => fun _ _ _ _ _ r h => by simp [zn.l0] at h
 | k + 1 => by
  have ih0 := zn.mono_l k
  ·intro y0 y1 y2 y3 y4
   unfold zn.l0
   repeat' first | (with_reducible first | apply ih0 | apply zf.mono | apply qe.mono | apply jg.mono | apply j5.mono | exact LeO.refl _ | exact LeO.none _ | refine LeO.ite ?_ ?_ | refine LeO.bind ?_ (fun _ => ?_)) | (first | apply ih0 | apply zf.mono | apply qe.mono | apply jg.mono | apply j5.mono | exact LeO.none _ | refine LeO.ite ?_ ?_ | refine LeO.bind ?_ (fun _ => ?_))
theorem zn.mono : ∀ a0 a1 k, LeO (zn.f k a0 a1) (zn.f (k + 1) a0 a1) := by
 intro a0 a1 k
 have ih0 := zn.mono_l k
 unfold zn.f
 repeat' first | (with_reducible first | apply ih0 | apply zf.mono | apply qe.mono | apply jg.mono | apply j5.mono | exact LeO.refl _ | exact LeO.none _ | refine LeO.ite ?_ ?_ | refine LeO.bind ?_ (fun _ => ?_)) | (first | apply ih0 | apply zf.mono | apply qe.mono | apply jg.mono | apply j5.mono | exact LeO.none _ | refine LeO.ite ?_ ?_ | refine LeO.bind ?_ (fun _ => ?_))
def zn.T8 : Bool × List (List Nat × List Nat) := (true, [([], []), ([], []), ([0, 1], [0, 1]), ([], []), ([], []), ([3, 4], [3, 4]), ([2, 5, 2], [2, 5]), ([6, 6, 0, 1, 2, 3, 4, 5, 6], [6])])
def zn.B8 : List Nat := [0, 0, 3, 0, 0, 24, 63, 127]
theorem zn.tab8 : rtab .any (Zu Try.f70 8) = zn.T8 := by kernel_rfl
theorem zn.bits8 : Qe zn.T8.2 zn.B8 = true := by kernel_rfl
set_option maxHeartbeats 8000000 in
set_option maxRecDepth 100000 in
theorem zn.calls (k : Nat) (g : Nat) (s0_0 : List Int) (s0_1 : Int) (r1 : Int) (r2 : List (S43)) (r3 : Int) (w0 w : World) (hI : IsS112 w0 w g s0_0 s0_1) (hB : Below w0.heap.size w0 w) (h : zn.f k s0_0 s0_1 = some (r1, r2, r3)) :
  Calls Try.prog 70 #[.pointer (some ⟨g, 0, none⟩)] w fun e w' => ∃ v1_ : Value, e = .returned (.tuple #[.int .i64 r1, v1_]) ∧ Kd.R k43 43 w' w.heap.size (fun _ => True) v1_ r2 ∧ IsS112 w0 w' g s0_0 r3 ∧ Below w0.heap.size w0 w' ∧ KeepBut w w' g none := by
 have hu41 := Try.underlying41
 have hu43 := Try.underlying43
 have HI0 := am hI
 have HK := am (KeepBut.refl w g none)
 have HL := am hB.size
 clear hI
 have HW0 := am hB.size
 have HB := am hB
 clear hB
 have H : ((j5.f k s0_0 s0_1).bind fun bt548 => (zn.l0 k bt548.1 (([(⟨(⟨1, 0, 0⟩ : S41)⟩ : S43), (⟨(⟨0, 1, 0⟩ : S41)⟩ : S43), (⟨(⟨0, 0, 1⟩ : S41)⟩ : S43), (⟨(⟨1, 1, 1⟩ : S41)⟩ : S43)] : List (S43))) 0 s0_0 bt548.2)) = some (r1, r2, r3) := h
 clear h; replace H := bs H
 obtain ⟨⟨t548, t549⟩, A2, H⟩ := H
 dsimp only at H
 generalize hy550 : (([(⟨(⟨1, 0, 0⟩ : S41)⟩ : S43), (⟨(⟨0, 1, 0⟩ : S41)⟩ : S43), (⟨(⟨0, 0, 1⟩ : S41)⟩ : S43), (⟨(⟨1, 1, 1⟩ : S41)⟩ : S43)] : List (S43))) = y550 at H
 have Ny550 := am hy550.symm; clear hy550; have H' := am H; clear H
 go_enter Try.func70, Try.ntmps70
 go_wp2_with (first | ((with_reducible refine qf (f := 117) rfl ?_); refine gl 11 Try.func117 #[.pointer (some ⟨g, 0, none⟩)] ?_; (with_reducible refine (j5.calls k g s0_0 s0_1 t548 t549 w0 _ ?_ ?_ A2.out).mono ?_); (· repeat (first | (with_reducible first | exact HI0.out | apply IsS112.alloc | apply IsS112.drewN | apply IsS112.drew | apply IsS112.set_1) | exact HI0.out)); (· repeat (first | (with_reducible first | exact HB.out | apply q8 | apply qo | apply qx | refine zl ?_ (IsS112.ge HI0.out)) | exact HB.out)); rintro e w3 ⟨rfl, hi, hb, hk⟩; refine ⟨_, rfl, ?_⟩; replace HK := am (KeepBut.trans (kw HK) hk (.inl rfl)); replace HB := am (hb); replace HI0 := am (hi); (try clear hb); (try clear hk); (try clear hi)) | ((with_reducible refine za (N := 20) rfl ?_); refine Kd.R_lit k43 _ 43 ?hg (N := 20) ?hd (xs := ([(⟨(⟨1, 0, 0⟩ : S41)⟩ : S43), (⟨(⟨0, 1, 0⟩ : S41)⟩ : S43), (⟨(⟨0, 0, 1⟩ : S41)⟩ : S43), (⟨(⟨1, 1, 1⟩ : S41)⟩ : S43)] : List (S43))) (inner := [.int .i64 1, .int .i64 0, .int .i64 0, .int .i64 0, .int .i64 1, .int .i64 0, .int .i64 0, .int .i64 0, .int .i64 1, .int .i64 1, .int .i64 1, .int .i64 1]) (ok := fun _ => True) (okp := fun _ => True) ?hr ?hp (fun _ hk => hk) trivial (Below.refl _ _) (Nat.le_refl _) (by simp) ?_; (case hd => rfl); (case hg => rfl); (case hr => first | (go_simp; done) | (go_simp; rfl)); (case hp => exact (Reps.c3 (show Kd.M k43 _ _ _ (⟨(⟨1, 0, 0⟩ : S41)⟩ : S43) [.int .i64 1, .int .i64 0, .int .i64 0] from (Zz _ _ _ (⟨(⟨1, 0, 0⟩ : S41)⟩ : S43) )) (Reps.c3 (show Kd.M k43 _ _ _ (⟨(⟨0, 1, 0⟩ : S41)⟩ : S43) [.int .i64 0, .int .i64 1, .int .i64 0] from (Zz _ _ _ (⟨(⟨0, 1, 0⟩ : S41)⟩ : S43) )) (Reps.c3 (show Kd.M k43 _ _ _ (⟨(⟨0, 0, 1⟩ : S41)⟩ : S43) [.int .i64 0, .int .i64 0, .int .i64 1] from (Zz _ _ _ (⟨(⟨0, 0, 1⟩ : S41)⟩ : S43) )) (Reps.c3 (show Kd.M k43 _ _ _ (⟨(⟨1, 1, 1⟩ : S41)⟩ : S43) [.int .i64 1, .int .i64 1, .int .i64 1] from (Zz _ _ _ (⟨(⟨1, 1, 1⟩ : S41)⟩ : S43) )) (Reps.none _ _)))))); intro v551 w4 ho5 hb hg_ hnew_; clear hg_ hnew_; (first | rw [← Ny550.out] at ho5 | (simp only [Int.reduceToNat] at ho5; rw [← Ny550.out] at ho5)); have HO552 := am (Kd.R_lower ho5 (jk (w := w) (g := g) (row := none) (kw HK))); replace HK := am (KeepBut.trans (kw HK) (KeepBut.of_below hb g none) (.inl rfl)); replace HB := am (qz (jt HB HI0) hb); replace HI0 := am (IsS112.below (jd HI0) hb); clear hb ho5))
 go_loopg [6] k (fun kq v6 w' => ∃ (x6_1 : Int) (x1001_1 : Int), v6 = .int .i64 x6_1 ∧ qb (zn.l0 kq t548 y550 x6_1 s0_0 x1001_1 = some (r1, r2, r3)) ∧ qb (kq ≤ k) ∧ qb (Kd.R k43 43 w' w.heap.size (fun _ => True) v551 y550) ∧ qb (IsS112 w0 w' g s0_0 x1001_1) ∧ qb (KeepBut w w' g none) ∧ qb (Below w0.heap.size w0 w'))
 case atStart => exact ⟨(0), (t549), fr, H', ⟨Nat.le_refl _⟩, ⟨wR HO552⟩, ⟨jd HI0⟩, ⟨kw HK⟩, ⟨jt HB HI0⟩⟩
 case round =>
  clear H'; try clear c1; try clear p2; try clear c3
  obtain ⟨x6_1, x1001_1, rfl, HA, HK1, HO_5, HI0, HK, HB⟩ := hrel
  cases gk with
  | zero => exact absurd HA.out (by simp [zn.l0])
  | succ k1 =>
   have H := HA.out; clear HA
   simp only [zn.l0] at H
   by_cases c6 : x6_1 < 12
   ·rw [if_pos c6] at H
    have c6b0 := decide_eq_true c6; clear c6; replace H := bs H
    obtain ⟨⟨t567, t568⟩, A7, H⟩ := H
    dsimp only at H
    replace H := bs H
    obtain ⟨⟨t569, t570⟩, A8, H⟩ := H
    dsimp only at H
    replace H := bs H
    obtain ⟨⟨t572, t573⟩, A9, H⟩ := H
    dsimp only at H
    replace H := bs H
    obtain ⟨⟨t574, t575⟩, A10, H⟩ := H
    dsimp only at H
    replace H := bsy H; obtain ⟨y577, Ny577, H⟩ := H; replace H := ifn H; obtain ⟨c11, H⟩ := H; have LMc11 := am c11; clear c11; replace H := bsy H; obtain ⟨y580, Ny580, H⟩ := H; replace H := bsy H; obtain ⟨y583, Ny583, H⟩ := H; replace H := ifn H
    obtain ⟨c12, H⟩ := H; have LMc12 := am c12; clear c12; replace H := bsy H; obtain ⟨y586, Ny586, H⟩ := H; replace H := bs H; obtain ⟨t589, A13, H⟩ := H
    have HQ_ := am H; clear H
    try go_wp2_with (first | ((with_reducible refine qf (f := 71) rfl ?_); refine gl 28 Try.func71 #[.pointer (some ⟨g, 0, none⟩), .int .i64 (wrap64 (t548 - 2))] ?_; (with_reducible refine (qe.calls k1 g s0_0 x1001_1 (wrap64 (t548 - 2)) t567 t568 w0 _ ?side1 ?side2 A7.out).mono ?_); (case side1 => repeat (first | (with_reducible first | exact HI0.out | apply IsS112.alloc | apply IsS112.drewN | apply IsS112.drew | apply IsS112.set_1) | exact HI0.out)); (case side2 => repeat (first | (with_reducible first | exact HB.out | apply q8 | apply qo | apply qx | refine zl ?_ (IsS112.ge HI0.out)) | exact HB.out)); rintro e w15 ⟨rfl, hi, hb, hk⟩; refine ⟨_, rfl, ?_⟩; replace HO_5 := am (Kd.R_mono (Kd.R_keep (IsS112.apart (show IsS112 w0 _ g s0_0 x1001_1 from jd HI0) (wR HO_5) (by decide)) hk (fun _ h => h.2)) (fun _ h => h.1)); replace HK := am (KeepBut.trans (kw HK) hk (.inl rfl)); replace HB := am (hb); replace HI0 := am (hi); (try clear hb); (try clear hb2); (try clear hk); (try clear hi)) | ((with_reducible refine qf (f := 71) rfl ?_); refine gl 33 Try.func71 #[.pointer (some ⟨g, 0, none⟩), .int .i64 (wrap64 (t548 - 2))] ?_; (with_reducible refine (qe.calls k1 g s0_0 t568 (wrap64 (t548 - 2)) t569 t570 w0 _ ?side1 ?side2 A8.out).mono ?_); (case side1 => repeat (first | (with_reducible first | exact HI0.out | apply IsS112.alloc | apply IsS112.drewN | apply IsS112.drew | apply IsS112.set_1) | exact HI0.out)); (case side2 => repeat (first | (with_reducible first | exact HB.out | apply q8 | apply qo | apply qx | refine zl ?_ (IsS112.ge HI0.out)) | exact HB.out)); rintro e w16 ⟨rfl, hi, hb, hk⟩; refine ⟨_, rfl, ?_⟩; replace HO_5 := am (Kd.R_mono (Kd.R_keep (IsS112.apart (show IsS112 w0 _ g s0_0 t568 from jd HI0) (wR HO_5) (by decide)) hk (fun _ h => h.2)) (fun _ h => h.1)); replace HK := am (KeepBut.trans (kw HK) hk (.inl rfl)); replace HB := am (hb); replace HI0 := am (hi); (try clear hb); (try clear hb2); (try clear hk); (try clear hi)) | ((with_reducible refine za (N := 7) rfl ?_); refine xe_ 7 43 #[.int .i64 0, .int .i64 0, .int .i64 0] ?_; intro gb571 hg w17 hbox hb; replace HO_5 := am (Kd.R_below (Kd.R_elderB (wR HO_5) gb571 (Nat.le_of_eq hg.symm)) hb); replace HB := am (qz (jt HB HI0) hb); have BK571 := am (hbox); have GW571 := am ((by rw [hg]; exact (jk (w := w) (g := g) (row := none) (kw HK)) : w.heap.size ≤ gb571)); have GE571 := am ((Nat.le_trans HW0.out (by rw [hg]; exact (jk (w := w) (g := g) (row := none) (kw HK)) : w.heap.size ≤ gb571) : w0.heap.size ≤ gb571)); replace HK := am (KeepBut.trans (kw HK) (KeepBut.of_below hb g none) (.inl rfl)); have NB0_571 := am ((by rw [hg]; exact Nat.ne_of_lt (IsS112.lt (show IsS112 w0 _ g s0_0 t570 from jd HI0)) : g ≠ gb571)); have NB571_0 := am ((by rw [hg]; exact Nat.ne_of_gt (IsS112.lt (show IsS112 w0 _ g s0_0 t570 from jd HI0)) : gb571 ≠ g)); replace HI0 := am (IsS112.below (jd HI0) hb); clear hb hbox hg; have hnb18 := NB571_0.out; have hnc18 := NB0_571.out; have hcz19_0 : w17.cell? ⟨gb571, 0, none⟩ = some (.int .i64 0) := (qa BK571.out 0).trans rfl; have hcz19_1 : w17.cell? ⟨gb571, 1, none⟩ = some (.int .i64 0) := (qa BK571.out 1).trans rfl; have hcz19_2 : w17.cell? ⟨gb571, 2, none⟩ = some (.int .i64 0) := (qa BK571.out 2).trans rfl; have hfz19_0 := qp BK571.out 0; have hfz19_1 := qp BK571.out 1; have hfz19_2 := qp BK571.out 2) | ((with_reducible refine qf (f := 71) rfl ?_); refine gl 40 Try.func71 #[.pointer (some ⟨g, 0, none⟩), .int .i64 (wrap64 (t548 - 2))] ?_; (with_reducible refine (qe.calls k1 g s0_0 t570 (wrap64 (t548 - 2)) t572 t573 w0 _ ?side1 ?side2 A9.out).mono ?_); (case side1 => repeat (first | (with_reducible first | exact HI0.out | apply IsS112.alloc | apply IsS112.drewN | apply IsS112.drew | apply IsS112.set_1 | refine IsS112.far ?_ NB0_571.out _) | exact HI0.out)); (case side2 => repeat (first | (with_reducible first | exact HB.out | apply q8 | apply qo | apply qx | refine zl ?_ (IsS112.ge HI0.out) | refine zl ?_ GE571.out) | exact HB.out)); rintro e w20 ⟨rfl, hi, hb, hk⟩; refine ⟨_, rfl, ?_⟩; replace HO_5 := am (Kd.R_mono (Kd.R_keep (IsS112.apart (show IsS112 w0 _ g s0_0 t570 from jd HI0) (by (with_reducible repeat (first | apply Kd.R_alloc | apply Kd.R_drewN | apply Kd.R_drew)); exact (Kd.R_mono (Kd.R_far (p := ⟨gb571, 2, none⟩) (Kd.R_far (p := ⟨gb571, 1, none⟩) (Kd.R_far (p := ⟨gb571, 0, none⟩) (Kd.R_mono HO_5.out (fun k_ hk => (⟨hk, hk.2⟩ : _ ∧ k_ ≠ gb571))) (fun _ hk => hk.2) (.int .i64 1)) (fun _ hk => hk.2) (.int .i64 (wrap64 (2 + t567)))) (fun _ hk => hk.2) (.int .i64 (wrap64 (2 + t569)))) (fun _ h_ => h_.1))) (by decide)) hk (fun _ h => h.2)) (fun _ h => h.1)); replace BK571 := am (KeepBut.blk hk (g' := gb571) (o := .cells #[.int .i64 1, .int .i64 (wrap64 (2 + t567)), .int .i64 (wrap64 (2 + t569))] 43 (0, 0)) (by (with_reducible repeat (first | refine qi ?_ _ | refine qj ?_ | refine qg ?_ _)); refine z6 (cs := #[.int .i64 1, .int .i64 (wrap64 (2 + t567)), .int .i64 0]) ?_ 2 _ rfl; (with_reducible repeat (first | refine qi ?_ _ | refine qj ?_ | refine qg ?_ _)); refine z6 (cs := #[.int .i64 1, .int .i64 0, .int .i64 0]) ?_ 1 _ rfl; (with_reducible repeat (first | refine qi ?_ _ | refine qj ?_ | refine qg ?_ _)); refine z6 (cs := #[.int .i64 0, .int .i64 0, .int .i64 0]) ?_ 0 _ rfl; (with_reducible repeat (first | refine qi ?_ _ | refine qj ?_ | refine qg ?_ _)); exact BK571.out) NB571_0.out (by simp)); replace HK := am (KeepBut.trans (kx_ HK) hk (.inl rfl)); replace HB := am (hb); replace HI0 := am (hi); (try clear hb); (try clear hb2); (try clear hk); (try clear hi)) | ((with_reducible refine qf (f := 71) rfl ?_); refine gl 45 Try.func71 #[.pointer (some ⟨g, 0, none⟩), .int .i64 (wrap64 (t548 - 2))] ?_; (with_reducible refine (qe.calls k1 g s0_0 t573 (wrap64 (t548 - 2)) t574 t575 w0 _ ?side1 ?side2 A10.out).mono ?_); (case side1 => repeat (first | (with_reducible first | exact HI0.out | apply IsS112.alloc | apply IsS112.drewN | apply IsS112.drew | apply IsS112.set_1 | refine IsS112.far ?_ NB0_571.out _) | exact HI0.out)); (case side2 => repeat (first | (with_reducible first | exact HB.out | apply q8 | apply qo | apply qx | refine zl ?_ (IsS112.ge HI0.out) | refine zl ?_ GE571.out) | exact HB.out)); rintro e w21 ⟨rfl, hi, hb, hk⟩; refine ⟨_, rfl, ?_⟩; replace HO_5 := am (Kd.R_mono (Kd.R_keep (IsS112.apart (show IsS112 w0 _ g s0_0 t573 from jd HI0) (wR HO_5) (by decide)) hk (fun _ h => h.2)) (fun _ h => h.1)); replace BK571 := am (KeepBut.blk hk (g' := gb571) (o := .cells #[.int .i64 1, .int .i64 (wrap64 (2 + t567)), .int .i64 (wrap64 (2 + t569))] 43 (0, 0)) (pk_ BK571) NB571_0.out (by simp)); replace HK := am (KeepBut.trans (kx_ HK) hk (.inl rfl)); replace HB := am (hb); replace HI0 := am (hi); (try clear hb); (try clear hb2); (try clear hk); (try clear hi)) | ((with_reducible refine za (N := 8) rfl ?_); refine xe_ 8 43 #[.int .i64 0, .int .i64 0, .int .i64 0] ?_; intro gb576 hg w22 hbox hb; replace HO_5 := am (Kd.R_below (Kd.R_elderB (wR HO_5) gb576 (Nat.le_of_eq hg.symm)) hb); replace HB := am (qz (jt HB HI0) hb); have BK576 := am (hbox); have GW576 := am ((by rw [hg]; exact (jk (w := w) (g := g) (row := none) (kx_ HK)) : w.heap.size ≤ gb576)); have GE576 := am ((Nat.le_trans HW0.out (by rw [hg]; exact (jk (w := w) (g := g) (row := none) (kx_ HK)) : w.heap.size ≤ gb576) : w0.heap.size ≤ gb576)); replace HK := am (KeepBut.trans (kx_ HK) (KeepBut.of_below hb g none) (.inl rfl)); have NB571_576 := am ((by rw [hg]; exact Nat.ne_of_lt (jv (g := gb571) (o := .cells #[.int .i64 1, .int .i64 (wrap64 (2 + t567)), .int .i64 (wrap64 (2 + t569))] 43 (0, 0)) (pk_ BK571)) : gb571 ≠ gb576)); have NB576_571 := am ((by rw [hg]; exact Nat.ne_of_gt (jv (g := gb571) (o := .cells #[.int .i64 1, .int .i64 (wrap64 (2 + t567)), .int .i64 (wrap64 (2 + t569))] 43 (0, 0)) (pk_ BK571)) : gb576 ≠ gb571)); replace BK571 := am (zg (g := gb571) (o := .cells #[.int .i64 1, .int .i64 (wrap64 (2 + t567)), .int .i64 (wrap64 (2 + t569))] 43 (0, 0)) (pk_ BK571) hb); have NB0_576 := am ((by rw [hg]; exact Nat.ne_of_lt (IsS112.lt (show IsS112 w0 _ g s0_0 t575 from jd HI0)) : g ≠ gb576)); have NB576_0 := am ((by rw [hg]; exact Nat.ne_of_gt (IsS112.lt (show IsS112 w0 _ g s0_0 t575 from jd HI0)) : gb576 ≠ g)); replace HI0 := am (IsS112.below (jd HI0) hb); clear hb hbox hg; have hnb23 := NB576_571.out; have hnc23 := NB571_576.out; have hnb24 := NB576_0.out; have hnc24 := NB0_576.out; have hcz25_0 : w22.cell? ⟨gb576, 0, none⟩ = some (.int .i64 0) := (qa BK576.out 0).trans rfl; have hcz25_1 : w22.cell? ⟨gb576, 1, none⟩ = some (.int .i64 0) := (qa BK576.out 1).trans rfl; have hcz25_2 : w22.cell? ⟨gb576, 2, none⟩ = some (.int .i64 0) := (qa BK576.out 2).trans rfl; have hfz25_0 := qp BK576.out 0; have hfz25_1 := qp BK576.out 1; have hfz25_2 := qp BK576.out 2; obtain ⟨Ao26, co26, eo26⟩ := Kd.R_slice HO_5.out; subst eo26))
    have n0_ : qb (Kd.R k43 43 (((w22.setCell ⟨gb576, 0, none⟩ (.int .i64 1)).setCell ⟨gb576, 1, none⟩ (.int .i64 (wrap64 (2 + t572)))).setCell ⟨gb576, 2, none⟩ (.int .i64 (wrap64 (2 + t574)))) w.heap.size (fun k_ => k_ ≠ gb571 ∧ k_ ≠ gb576) (.slice Ao26 y550.length co26) y550) := ⟨by (with_reducible repeat (first | apply Kd.R_alloc | apply Kd.R_drewN | apply Kd.R_drew)); exact Kd.R_mono (Kd.R_far (p := ⟨gb576, 2, none⟩) (Kd.R_far (p := ⟨gb576, 1, none⟩) (Kd.R_far (p := ⟨gb576, 0, none⟩) (Kd.R_mono HO_5.out (fun k_ hk => (⟨hk, hk.2⟩ : _ ∧ k_ ≠ gb576))) (fun _ hk => hk.2) (.int .i64 1)) (fun _ hk => hk.2) (.int .i64 (wrap64 (2 + t572)))) (fun _ hk => hk.2) (.int .i64 (wrap64 (2 + t574)))) (fun _ hk => ⟨hk.1.1.2, hk.1.2⟩)⟩
    have n1_ : qb ((((w22.setCell ⟨gb576, 0, none⟩ (.int .i64 1)).setCell ⟨gb576, 1, none⟩ (.int .i64 (wrap64 (2 + t572)))).setCell ⟨gb576, 2, none⟩ (.int .i64 (wrap64 (2 + t574)))).heap[gb571]? = some (.cells #[.int .i64 1, .int .i64 (wrap64 (2 + t567)), .int .i64 (wrap64 (2 + t569))] 43 (0, 0))) := ⟨by (with_reducible repeat (first | refine qi ?_ _ | refine qj ?_ | refine qg ?_ _)); refine jx ?_ NB571_576.out _; (with_reducible repeat (first | refine qi ?_ _ | refine qj ?_ | refine qg ?_ _)); refine jx ?_ NB571_576.out _; (with_reducible repeat (first | refine qi ?_ _ | refine qj ?_ | refine qg ?_ _)); refine jx ?_ NB571_576.out _; (with_reducible repeat (first | refine qi ?_ _ | refine qj ?_ | refine qg ?_ _)); exact BK571.out⟩
    have n2_ : qb ((((w22.setCell ⟨gb576, 0, none⟩ (.int .i64 1)).setCell ⟨gb576, 1, none⟩ (.int .i64 (wrap64 (2 + t572)))).setCell ⟨gb576, 2, none⟩ (.int .i64 (wrap64 (2 + t574)))).heap[gb576]? = some (.cells #[.int .i64 1, .int .i64 (wrap64 (2 + t572)), .int .i64 (wrap64 (2 + t574))] 43 (0, 0))) := ⟨by (with_reducible repeat (first | refine qi ?_ _ | refine qj ?_ | refine qg ?_ _)); refine z6 (cs := #[.int .i64 1, .int .i64 (wrap64 (2 + t572)), .int .i64 0]) ?_ 2 _ rfl; (with_reducible repeat (first | refine qi ?_ _ | refine qj ?_ | refine qg ?_ _)); refine z6 (cs := #[.int .i64 1, .int .i64 0, .int .i64 0]) ?_ 1 _ rfl; (with_reducible repeat (first | refine qi ?_ _ | refine qj ?_ | refine qg ?_ _)); refine z6 (cs := #[.int .i64 0, .int .i64 0, .int .i64 0]) ?_ 0 _ rfl; (with_reducible repeat (first | refine qi ?_ _ | refine qj ?_ | refine qg ?_ _)); exact BK576.out⟩
    have n3_ : qb (IsS112 w0 (((w22.setCell ⟨gb576, 0, none⟩ (.int .i64 1)).setCell ⟨gb576, 1, none⟩ (.int .i64 (wrap64 (2 + t572)))).setCell ⟨gb576, 2, none⟩ (.int .i64 (wrap64 (2 + t574)))) g s0_0 t575) := ⟨jd HI0⟩
    have n4_ : qb (KeepBut w (((w22.setCell ⟨gb576, 0, none⟩ (.int .i64 1)).setCell ⟨gb576, 1, none⟩ (.int .i64 (wrap64 (2 + t572)))).setCell ⟨gb576, 2, none⟩ (.int .i64 (wrap64 (2 + t574)))) g none) := ⟨kx_ HK⟩
    have n5_ : qb (Below w0.heap.size w0 (((w22.setCell ⟨gb576, 0, none⟩ (.int .i64 1)).setCell ⟨gb576, 1, none⟩ (.int .i64 (wrap64 (2 + t572)))).setCell ⟨gb576, 2, none⟩ (.int .i64 (wrap64 (2 + t574))))) := ⟨jt HB HI0⟩
    (try clear HO_5)
    (try clear BK571)
    (try clear BK576)
    (try clear HI0)
    (try clear HK)
    (try clear HB)
    generalize (((w22.setCell ⟨gb576, 0, none⟩ (.int .i64 1)).setCell ⟨gb576, 1, none⟩ (.int .i64 (wrap64 (2 + t572)))).setCell ⟨gb576, 2, none⟩ (.int .i64 (wrap64 (2 + t574)))) = w27 at n0_ n1_ n2_ n3_ n4_ n5_ ⊢
    have HO_5 := n0_
    have BK571 := n1_
    have BK576 := n2_
    have HI0 := n3_
    have HK := n4_
    have HB := n5_
    clear n0_ n1_ n2_ n3_ n4_ n5_
    replace HO_5 := am (Kd.R_drew HO_5.out)
    replace BK571 := am (qj BK571.out)
    replace BK576 := am (qj BK576.out)
    replace HI0 := am (IsS112.drew HI0.out)
    replace HK := am (qdi HK.out)
    replace HB := am (qx HB.out)
    refine st 8 (fun w' => w'.cell? ⟨gb571, 0, none⟩ = some (.int .i64 1) ∧ w'.cell? ⟨gb571, 1, none⟩ = some (.int .i64 (wrap64 (2 + t567))) ∧ w'.cell? ⟨gb571, 2, none⟩ = some (.int .i64 (wrap64 (2 + t569))) ∧ w'.cell? ⟨gb576, 0, none⟩ = some (.int .i64 1) ∧ w'.cell? ⟨gb576, 1, none⟩ = some (.int .i64 (wrap64 (2 + t572))) ∧ w'.cell? ⟨gb576, 2, none⟩ = some (.int .i64 (wrap64 (2 + t574)))) [] zn.tab8 zn.bits8 (⟨(qa BK571.out 0).trans rfl, (qa BK571.out 1).trans rfl, (qa BK571.out 2).trans rfl, (qa BK576.out 0).trans rfl, (qa BK576.out 1).trans rfl, (qa BK576.out 2).trans rfl⟩) fun hHeld HT_ HW_ => ?_
    generalize w27.drew = w28 at HO_5 BK571 BK576 HI0 HK HB hHeld ⊢
    refine pz 1 50 HT_ ?_; refine tk 3 52 HT_ HW_ hHeld ?_; refine tk 4 53 HT_ HW_ hHeld ?_
    refine join_ (σ := Value × Value × Value) 2 #[true, true, true, true, true, true, false, false] (fun s_ => [(49, s_.1), (51, s_.2.1), (54, s_.2.2)]) (fun s_ w' => (w'.cell? ⟨gb571, 0, none⟩ = some (.int .i64 1) ∧ w'.cell? ⟨gb571, 1, none⟩ = some (.int .i64 (wrap64 (2 + t567))) ∧ w'.cell? ⟨gb571, 2, none⟩ = some (.int .i64 (wrap64 (2 + t569))) ∧ w'.cell? ⟨gb576, 0, none⟩ = some (.int .i64 1) ∧ w'.cell? ⟨gb576, 1, none⟩ = some (.int .i64 (wrap64 (2 + t572))) ∧ w'.cell? ⟨gb576, 2, none⟩ = some (.int .i64 (wrap64 (2 + t574)))) ∧ (Kd.R k43 43 w' w.heap.size (fun k_ => some k_ ≠ (s_.2.2 : Value).ownBlock ∧ some k_ ≠ (.slice Ao26 y550.length co26 : Value).ownBlock ∧ k_ ≠ gb571 ∧ k_ ≠ gb576) s_.2.1 y580) ∧ (Kd.R k43 43 w' w.heap.size (fun k_ => some k_ ≠ (s_.2.1 : Value).ownBlock ∧ some k_ ≠ (.slice Ao26 y550.length co26 : Value).ownBlock ∧ k_ ≠ gb571 ∧ k_ ≠ gb576) s_.2.2 y583) ∧ (Kd.R k43 43 w' w.heap.size (fun k_ => some k_ ≠ (s_.2.1 : Value).ownBlock ∧ some k_ ≠ (s_.2.2 : Value).ownBlock ∧ k_ ≠ gb571 ∧ k_ ≠ gb576) (.slice Ao26 y550.length co26) y550) ∧ (w'.heap[gb571]? = some (.cells #[.int .i64 1, .int .i64 (wrap64 (2 + t567)), .int .i64 (wrap64 (2 + t569))] 43 (0, 0))) ∧ (w'.heap[gb576]? = some (.cells #[.int .i64 1, .int .i64 (wrap64 (2 + t572)), .int .i64 (wrap64 (2 + t574))] 43 (0, 0))) ∧ (IsS112 w0 w' g s0_0 t575) ∧ (KeepBut w w' g none) ∧ (Below w0.heap.size w0 w')) ?_ ?_
    rotate_left
    ·intro hCont
     refine two_ (i := 0) (j := 5) (Ni := some 49) (Nj := some 54) #[true, true, false, true, true, false, false, false] #[false, true, false, true, true, true, false, false] rfl rfl rfl rfl (qji HT_.out (by kernel_rfl)) (by decide) (by decide) (fun K hK => ?_) (fun K hK => ?_)
     ·skip
      refine Kd.R_lit_step k43 _ 43 ?hg (N := 49) ?hd (xs := ([] : List (S43))) (inner := []) (ok := fun _ => True) (okp := fun _ => True) ?hr ?hp (fun _ hk => hk) trivial (Below.refl _ _) (Nat.le_refl _) (by simp) ?_; (case hd => rfl); (case hg => rfl); (case hr => first | (go_simp; done) | (go_simp; rfl)); (case hp => exact (Reps.none _ _))
      intro v578 w29 ho30 hb hg_ hnew_
      clear hg_ hnew_
      (first | rw [← Ny577.out] at ho30 | (simp only [Int.reduceToNat] at ho30; rw [← Ny577.out] at ho30))
      have HO579 := am (Kd.R_lower (Kd.R_newB (Kd.R_newB (Kd.R_new' ho30 (Kd.R_lt (wR HO_5))) (g := gb571) (o := .cells #[.int .i64 1, .int .i64 (wrap64 (2 + t567)), .int .i64 (wrap64 (2 + t569))] 43 (0, 0)) (pk_ BK571)) (g := gb576) (o := .cells #[.int .i64 1, .int .i64 (wrap64 (2 + t572)), .int .i64 (wrap64 (2 + t574))] 43 (0, 0)) (pk_ BK576)) (jk (w := w) (g := g) (row := none) (kx_ HK)))
      replace HO_5 := eR HO_5 (Kd.R_base ho30) hb
      replace BK571 := am (zg (g := gb571) (o := .cells #[.int .i64 1, .int .i64 (wrap64 (2 + t567)), .int .i64 (wrap64 (2 + t569))] 43 (0, 0)) (pk_ BK571) hb)
      replace BK576 := am (zg (g := gb576) (o := .cells #[.int .i64 1, .int .i64 (wrap64 (2 + t572)), .int .i64 (wrap64 (2 + t574))] 43 (0, 0)) (pk_ BK576) hb)
      replace HK := am (KeepBut.trans (kx_ HK) (KeepBut.of_below hb g none) (.inl rfl))
      replace HB := am (qz (jt HB HI0) hb)
      replace HI0 := am (IsS112.below (jd HI0) hb)
      clear hb ho30
      refine hK.out _ _ ⟨(qa BK571.out 0).trans rfl, (qa BK571.out 1).trans rfl, (qa BK571.out 2).trans rfl, (qa BK576.out 0).trans rfl, (qa BK576.out 1).trans rfl, (qa BK576.out 2).trans rfl⟩ fun hHeld => nz ?_
      clear hK K
      refine two_ (i := 2) (j := 5) (Ni := some 51) (Nj := some 54) #[true, true, true, true, true, false, false, false] #[true, true, false, true, true, true, false, false] rfl rfl rfl rfl (qji HT_.out (by kernel_rfl)) (by decide) (by decide) (fun K hK => ?_) (fun K hK => ?_)
      ·skip
       refine Kd.R_append_rows_step k43 w.heap.size (by rfl) (.tmp 49) (.tmp 50) 34 43 (.agg #[(.int .i64 0), (.int .i64 0), (.int .i64 0)]) 24 rfl Try.underlying34 qex rfl (by decide) (by omega) v578 y577 y550 _ _ _ (fun k_ => some k_ ≠ (.slice Ao26 y550.length co26 : Value).ownBlock ∧ k_ ≠ gb571 ∧ k_ ≠ gb576) (fun _ => False) rfl rfl ?aO ?aR (fun _ _ h => h) (fun _ h => h.elim) ?aF (Below.refl _ _) ?aS ?aL ?_
       (case aR => exact Kd.C_below (Kd.R_reads' HO_5.out).2.2 gs)
       (case aF => exact (fun k_ hk => ⟨Kd.fresh' (Kd.R_lt (wR HO_5)) k_ hk, Kd.freshB (g := gb571) (o := .cells #[.int .i64 1, .int .i64 (wrap64 (2 + t567)), .int .i64 (wrap64 (2 + t569))] 43 (0, 0)) (pk_ BK571) k_ hk, Kd.freshB (g := gb576) (o := .cells #[.int .i64 1, .int .i64 (wrap64 (2 + t572)), .int .i64 (wrap64 (2 + t574))] 43 (0, 0)) (pk_ BK576) k_ hk⟩))
       (case aO => exact (oR_ HO579 (fun _ hk => ⟨hk.1.1.2, ⟨hk.1.2, hk.2⟩⟩)))
       (case aS => exact (jk (w := w) (g := g) (row := none) (kx_ HK)))
       (case aL => have := LMc11.out; omega)
       intro v581 w31 ho hb hg hat
       rw [← Ny580.out] at ho
       replace HO_5 := am (Kd.R_after (ok := (fun k_ => k_ ≠ gb571 ∧ k_ ≠ gb576)) (wR HO_5) hg hat)
       replace BK571 := am (Qh (g := gb571) (o := .cells #[.int .i64 1, .int .i64 (wrap64 (2 + t567)), .int .i64 (wrap64 (2 + t569))] 43 (0, 0)) (pk_ BK571) hg (Kd.R_away HO579.out (fun _ hk => hk.1.2)))
       replace BK576 := am (Qh (g := gb576) (o := .cells #[.int .i64 1, .int .i64 (wrap64 (2 + t572)), .int .i64 (wrap64 (2 + t574))] 43 (0, 0)) (pk_ BK576) hg (Kd.R_away HO579.out (fun _ hk => hk.2)))
       replace HB := am (Zr (jt HB HI0) HL.out hb)
       replace HI0 := am (IsS112.grown (jd HI0) hg (IsS112.own_ne HI0.out HO579.out (by decide)))
       replace HK := am (KeepBut.trans (kx_ HK) (KeepBut.of_grown hg g) (Kd.R_base2 HO579.out))
       have HO582 := am (ho)
       clear HO579; clear ho hb hg hat
       refine hK.out _ _ ⟨(qa BK571.out 0).trans rfl, (qa BK571.out 1).trans rfl, (qa BK571.out 2).trans rfl, (qa BK576.out 0).trans rfl, (qa BK576.out 1).trans rfl, (qa BK576.out 2).trans rfl⟩ fun hHeld => nz ?_
       clear hK K
       refine on 5 (some 54) HT_ fun K hK => ?_
       refine Kd.R_lit_step k43 _ 43 ?hg (N := 54) ?hd (xs := ([(⟨(⟨1, wrap64 (2 + t567), wrap64 (2 + t569)⟩ : S41)⟩ : S43), (⟨(⟨1, wrap64 (2 + t572), wrap64 (2 + t574)⟩ : S41)⟩ : S43)] : List (S43))) (inner := [.int .i64 1, .int .i64 (wrap64 (2 + t567)), .int .i64 (wrap64 (2 + t569)), .int .i64 1, .int .i64 (wrap64 (2 + t572)), .int .i64 (wrap64 (2 + t574))]) (ok := fun _ => True) (okp := fun _ => True) ?hr ?hp (fun _ hk => hk) trivial (Below.refl _ _) (Nat.le_refl _) (by simp) ?_; (case hd => rfl); (case hg => rfl); (case hr => first | (go_simp; done) | (go_simp; rfl)); (case hp => exact (Reps.c3 (show Kd.M k43 _ _ _ (⟨(⟨1, wrap64 (2 + t567), wrap64 (2 + t569)⟩ : S41)⟩ : S43) [.int .i64 1, .int .i64 (wrap64 (2 + t567)), .int .i64 (wrap64 (2 + t569))] from (Zz _ _ _ (⟨(⟨1, wrap64 (2 + t567), wrap64 (2 + t569)⟩ : S41)⟩ : S43) )) (Reps.c3 (show Kd.M k43 _ _ _ (⟨(⟨1, wrap64 (2 + t572), wrap64 (2 + t574)⟩ : S41)⟩ : S43) [.int .i64 1, .int .i64 (wrap64 (2 + t572)), .int .i64 (wrap64 (2 + t574))] from (Zz _ _ _ (⟨(⟨1, wrap64 (2 + t572), wrap64 (2 + t574)⟩ : S41)⟩ : S43) )) (Reps.none _ _))))
       intro v584 w32 ho33 hb hg_ hnew_
       clear hg_ hnew_
       (first | rw [← Ny583.out] at ho33 | (simp only [Int.reduceToNat] at ho33; rw [← Ny583.out] at ho33))
       have HO585 := am (Kd.R_lower (Kd.R_newB (Kd.R_newB (Kd.R_new' (Kd.R_new' ho33 (Kd.R_lt (wR HO_5))) (Kd.R_lt (wR HO582))) (g := gb571) (o := .cells #[.int .i64 1, .int .i64 (wrap64 (2 + t567)), .int .i64 (wrap64 (2 + t569))] 43 (0, 0)) (pk_ BK571)) (g := gb576) (o := .cells #[.int .i64 1, .int .i64 (wrap64 (2 + t572)), .int .i64 (wrap64 (2 + t574))] 43 (0, 0)) (pk_ BK576)) (jk (w := w) (g := g) (row := none) (kx_ HK)))
       replace HO_5 := eR HO_5 (Kd.R_base ho33) hb
       replace HO582 := eR HO582 (Kd.R_base ho33) hb
       replace BK571 := am (zg (g := gb571) (o := .cells #[.int .i64 1, .int .i64 (wrap64 (2 + t567)), .int .i64 (wrap64 (2 + t569))] 43 (0, 0)) (pk_ BK571) hb)
       replace BK576 := am (zg (g := gb576) (o := .cells #[.int .i64 1, .int .i64 (wrap64 (2 + t572)), .int .i64 (wrap64 (2 + t574))] 43 (0, 0)) (pk_ BK576) hb)
       replace HK := am (KeepBut.trans (kx_ HK) (KeepBut.of_below hb g none) (.inl rfl))
       replace HB := am (qz (jt HB HI0) hb)
       replace HI0 := am (IsS112.below (jd HI0) hb)
       clear hb ho33
       refine hK.out _ _ ⟨(qa BK571.out 0).trans rfl, (qa BK571.out 1).trans rfl, (qa BK571.out 2).trans rfl, (qa BK576.out 0).trans rfl, (qa BK576.out 1).trans rfl, (qa BK576.out 2).trans rfl⟩ fun hHeld => nz ?_
       clear hK K
       exact qdr (by first | (simp only [Z3, Act.put, List.setIfInBounds_toArray, List.set_cons_zero, List.set_cons_succ]; done) | (simp only [Z3, Act.put, List.setIfInBounds_toArray, List.set_cons_zero, List.set_cons_succ]; rfl)) (hCont (v578, v581, v584) _ ⟨hHeld, (oR_ HO582 (fun _ hk => ⟨hk.2, ⟨hk.1.1, ⟨hk.1.2.1, hk.1.2.2⟩⟩⟩)), (oR_ HO585 (fun _ hk => ⟨hk.1.1.2, ⟨hk.1.1.1.2, ⟨hk.1.2, hk.2⟩⟩⟩)), (oR_ HO_5 (fun _ hk => ⟨hk.1.2, ⟨hk.2, ⟨hk.1.1.1, hk.1.1.2⟩⟩⟩)), (pk_ BK571), (pk_ BK576), (jd HI0), (kx_ HK), (jt HB HI0)⟩)
      ·skip
       refine Kd.R_lit_step k43 _ 43 ?hg (N := 54) ?hd (xs := ([(⟨(⟨1, wrap64 (2 + t567), wrap64 (2 + t569)⟩ : S41)⟩ : S43), (⟨(⟨1, wrap64 (2 + t572), wrap64 (2 + t574)⟩ : S41)⟩ : S43)] : List (S43))) (inner := [.int .i64 1, .int .i64 (wrap64 (2 + t567)), .int .i64 (wrap64 (2 + t569)), .int .i64 1, .int .i64 (wrap64 (2 + t572)), .int .i64 (wrap64 (2 + t574))]) (ok := fun _ => True) (okp := fun _ => True) ?hr ?hp (fun _ hk => hk) trivial (Below.refl _ _) (Nat.le_refl _) (by simp) ?_; (case hd => rfl); (case hg => rfl); (case hr => first | (go_simp; done) | (go_simp; rfl)); (case hp => exact (Reps.c3 (show Kd.M k43 _ _ _ (⟨(⟨1, wrap64 (2 + t567), wrap64 (2 + t569)⟩ : S41)⟩ : S43) [.int .i64 1, .int .i64 (wrap64 (2 + t567)), .int .i64 (wrap64 (2 + t569))] from (Zz _ _ _ (⟨(⟨1, wrap64 (2 + t567), wrap64 (2 + t569)⟩ : S41)⟩ : S43) )) (Reps.c3 (show Kd.M k43 _ _ _ (⟨(⟨1, wrap64 (2 + t572), wrap64 (2 + t574)⟩ : S41)⟩ : S43) [.int .i64 1, .int .i64 (wrap64 (2 + t572)), .int .i64 (wrap64 (2 + t574))] from (Zz _ _ _ (⟨(⟨1, wrap64 (2 + t572), wrap64 (2 + t574)⟩ : S41)⟩ : S43) )) (Reps.none _ _))))
       intro v584 w31 ho32 hb hg_ hnew_
       clear hg_ hnew_
       (first | rw [← Ny583.out] at ho32 | (simp only [Int.reduceToNat] at ho32; rw [← Ny583.out] at ho32))
       have HO585 := am (Kd.R_lower (Kd.R_newB (Kd.R_newB (Kd.R_new' (Kd.R_new' ho32 (Kd.R_lt (wR HO_5))) (Kd.R_lt (wR HO579))) (g := gb571) (o := .cells #[.int .i64 1, .int .i64 (wrap64 (2 + t567)), .int .i64 (wrap64 (2 + t569))] 43 (0, 0)) (pk_ BK571)) (g := gb576) (o := .cells #[.int .i64 1, .int .i64 (wrap64 (2 + t572)), .int .i64 (wrap64 (2 + t574))] 43 (0, 0)) (pk_ BK576)) (jk (w := w) (g := g) (row := none) (kx_ HK)))
       replace HO_5 := eR HO_5 (Kd.R_base ho32) hb
       replace HO579 := eR HO579 (Kd.R_base ho32) hb
       replace BK571 := am (zg (g := gb571) (o := .cells #[.int .i64 1, .int .i64 (wrap64 (2 + t567)), .int .i64 (wrap64 (2 + t569))] 43 (0, 0)) (pk_ BK571) hb)
       replace BK576 := am (zg (g := gb576) (o := .cells #[.int .i64 1, .int .i64 (wrap64 (2 + t572)), .int .i64 (wrap64 (2 + t574))] 43 (0, 0)) (pk_ BK576) hb)
       replace HK := am (KeepBut.trans (kx_ HK) (KeepBut.of_below hb g none) (.inl rfl))
       replace HB := am (qz (jt HB HI0) hb)
       replace HI0 := am (IsS112.below (jd HI0) hb)
       clear hb ho32
       refine hK.out _ _ ⟨(qa BK571.out 0).trans rfl, (qa BK571.out 1).trans rfl, (qa BK571.out 2).trans rfl, (qa BK576.out 0).trans rfl, (qa BK576.out 1).trans rfl, (qa BK576.out 2).trans rfl⟩ fun hHeld => nz ?_
       clear hK K
       refine on 2 (some 51) HT_ fun K hK => ?_
       refine Kd.R_append_rows_step k43 w.heap.size (by rfl) (.tmp 49) (.tmp 50) 34 43 (.agg #[(.int .i64 0), (.int .i64 0), (.int .i64 0)]) 24 rfl Try.underlying34 qex rfl (by decide) (by omega) v578 y577 y550 _ _ _ (fun k_ => some k_ ≠ (.slice Ao26 y550.length co26 : Value).ownBlock ∧ some k_ ≠ (v584 : Value).ownBlock ∧ k_ ≠ gb571 ∧ k_ ≠ gb576) (fun _ => False) rfl rfl ?aO ?aR (fun _ _ h => h) (fun _ h => h.elim) ?aF (Below.refl _ _) ?aS ?aL ?_
       (case aR => exact Kd.C_below (Kd.R_reads' HO_5.out).2.2 gs)
       (case aF => exact (fun k_ hk => ⟨Kd.fresh' (Kd.R_lt (wR HO_5)) k_ hk, Kd.fresh' (Kd.R_lt (wR HO585)) k_ hk, Kd.freshB (g := gb571) (o := .cells #[.int .i64 1, .int .i64 (wrap64 (2 + t567)), .int .i64 (wrap64 (2 + t569))] 43 (0, 0)) (pk_ BK571) k_ hk, Kd.freshB (g := gb576) (o := .cells #[.int .i64 1, .int .i64 (wrap64 (2 + t572)), .int .i64 (wrap64 (2 + t574))] 43 (0, 0)) (pk_ BK576) k_ hk⟩))
       (case aO => exact (oR_ HO579 (fun _ hk => ⟨hk.1.1.1.2, ⟨hk.2, ⟨hk.1.1.2, hk.1.2⟩⟩⟩)))
       (case aS => exact (jk (w := w) (g := g) (row := none) (kx_ HK)))
       (case aL => have := LMc11.out; omega)
       intro v581 w33 ho hb hg hat
       rw [← Ny580.out] at ho
       replace HO_5 := am (Kd.R_after (ok := (fun k_ => some k_ ≠ (v584 : Value).ownBlock ∧ k_ ≠ gb571 ∧ k_ ≠ gb576)) (oR_ HO_5 (fun _ hk => ⟨⟨hk.2, ⟨hk.1.1.1, hk.1.1.2⟩⟩, hk.1.2⟩)) hg hat)
       replace BK571 := am (Qh (g := gb571) (o := .cells #[.int .i64 1, .int .i64 (wrap64 (2 + t567)), .int .i64 (wrap64 (2 + t569))] 43 (0, 0)) (pk_ BK571) hg (Kd.R_away HO579.out (fun _ hk => hk.1.1.2)))
       replace BK576 := am (Qh (g := gb576) (o := .cells #[.int .i64 1, .int .i64 (wrap64 (2 + t572)), .int .i64 (wrap64 (2 + t574))] 43 (0, 0)) (pk_ BK576) hg (Kd.R_away HO579.out (fun _ hk => hk.1.2)))
       replace HO585 := am (Kd.R_after (ok := (fun k_ => some k_ ≠ (.slice Ao26 y550.length co26 : Value).ownBlock ∧ k_ ≠ gb571 ∧ k_ ≠ gb576)) (oR_ HO585 (fun _ hk => ⟨⟨hk.1.1.1.2, ⟨hk.1.2, hk.2⟩⟩, hk.1.1.2⟩)) hg hat)
       replace HB := am (Zr (jt HB HI0) HL.out hb)
       replace HI0 := am (IsS112.grown (jd HI0) hg (IsS112.own_ne HI0.out HO579.out (by decide)))
       replace HK := am (KeepBut.trans (kx_ HK) (KeepBut.of_grown hg g) (Kd.R_base2 HO579.out))
       have HO582 := am (ho)
       clear HO579; clear ho hb hg hat
       refine hK.out _ _ ⟨(qa BK571.out 0).trans rfl, (qa BK571.out 1).trans rfl, (qa BK571.out 2).trans rfl, (qa BK576.out 0).trans rfl, (qa BK576.out 1).trans rfl, (qa BK576.out 2).trans rfl⟩ fun hHeld => nz ?_
       clear hK K
       exact qdr (by first | (simp only [Z3, Act.put, List.setIfInBounds_toArray, List.set_cons_zero, List.set_cons_succ]; done) | (simp only [Z3, Act.put, List.setIfInBounds_toArray, List.set_cons_zero, List.set_cons_succ]; rfl)) (hCont (v578, v581, v584) _ ⟨hHeld, (oR_ HO582 (fun _ hk => ⟨hk.2.1, ⟨hk.1, ⟨hk.2.2.1, hk.2.2.2⟩⟩⟩)), (oR_ HO585 (fun _ hk => ⟨hk.2, ⟨hk.1.1, ⟨hk.1.2.1, hk.1.2.2⟩⟩⟩)), (oR_ HO_5 (fun _ hk => ⟨hk.2, ⟨hk.1.1, ⟨hk.1.2.1, hk.1.2.2⟩⟩⟩)), (pk_ BK571), (pk_ BK576), (jd HI0), (kx_ HK), (jt HB HI0)⟩)
     ·skip
      refine Kd.R_lit_step k43 _ 43 ?hg (N := 54) ?hd (xs := ([(⟨(⟨1, wrap64 (2 + t567), wrap64 (2 + t569)⟩ : S41)⟩ : S43), (⟨(⟨1, wrap64 (2 + t572), wrap64 (2 + t574)⟩ : S41)⟩ : S43)] : List (S43))) (inner := [.int .i64 1, .int .i64 (wrap64 (2 + t567)), .int .i64 (wrap64 (2 + t569)), .int .i64 1, .int .i64 (wrap64 (2 + t572)), .int .i64 (wrap64 (2 + t574))]) (ok := fun _ => True) (okp := fun _ => True) ?hr ?hp (fun _ hk => hk) trivial (Below.refl _ _) (Nat.le_refl _) (by simp) ?_; (case hd => rfl); (case hg => rfl); (case hr => first | (go_simp; done) | (go_simp; rfl)); (case hp => exact (Reps.c3 (show Kd.M k43 _ _ _ (⟨(⟨1, wrap64 (2 + t567), wrap64 (2 + t569)⟩ : S41)⟩ : S43) [.int .i64 1, .int .i64 (wrap64 (2 + t567)), .int .i64 (wrap64 (2 + t569))] from (Zz _ _ _ (⟨(⟨1, wrap64 (2 + t567), wrap64 (2 + t569)⟩ : S41)⟩ : S43) )) (Reps.c3 (show Kd.M k43 _ _ _ (⟨(⟨1, wrap64 (2 + t572), wrap64 (2 + t574)⟩ : S41)⟩ : S43) [.int .i64 1, .int .i64 (wrap64 (2 + t572)), .int .i64 (wrap64 (2 + t574))] from (Zz _ _ _ (⟨(⟨1, wrap64 (2 + t572), wrap64 (2 + t574)⟩ : S41)⟩ : S43) )) (Reps.none _ _))))
      intro v584 w29 ho30 hb hg_ hnew_
      clear hg_ hnew_
      (first | rw [← Ny583.out] at ho30 | (simp only [Int.reduceToNat] at ho30; rw [← Ny583.out] at ho30))
      have HO585 := am (Kd.R_lower (Kd.R_newB (Kd.R_newB (Kd.R_new' ho30 (Kd.R_lt (wR HO_5))) (g := gb571) (o := .cells #[.int .i64 1, .int .i64 (wrap64 (2 + t567)), .int .i64 (wrap64 (2 + t569))] 43 (0, 0)) (pk_ BK571)) (g := gb576) (o := .cells #[.int .i64 1, .int .i64 (wrap64 (2 + t572)), .int .i64 (wrap64 (2 + t574))] 43 (0, 0)) (pk_ BK576)) (jk (w := w) (g := g) (row := none) (kx_ HK)))
      replace HO_5 := eR HO_5 (Kd.R_base ho30) hb
      replace BK571 := am (zg (g := gb571) (o := .cells #[.int .i64 1, .int .i64 (wrap64 (2 + t567)), .int .i64 (wrap64 (2 + t569))] 43 (0, 0)) (pk_ BK571) hb)
      replace BK576 := am (zg (g := gb576) (o := .cells #[.int .i64 1, .int .i64 (wrap64 (2 + t572)), .int .i64 (wrap64 (2 + t574))] 43 (0, 0)) (pk_ BK576) hb)
      replace HK := am (KeepBut.trans (kx_ HK) (KeepBut.of_below hb g none) (.inl rfl))
      replace HB := am (qz (jt HB HI0) hb)
      replace HI0 := am (IsS112.below (jd HI0) hb)
      clear hb ho30
      refine hK.out _ _ ⟨(qa BK571.out 0).trans rfl, (qa BK571.out 1).trans rfl, (qa BK571.out 2).trans rfl, (qa BK576.out 0).trans rfl, (qa BK576.out 1).trans rfl, (qa BK576.out 2).trans rfl⟩ fun hHeld => nz ?_
      clear hK K
      refine on 0 (some 49) HT_ fun K hK => ?_
      refine Kd.R_lit_step k43 _ 43 ?hg (N := 49) ?hd (xs := ([] : List (S43))) (inner := []) (ok := fun _ => True) (okp := fun _ => True) ?hr ?hp (fun _ hk => hk) trivial (Below.refl _ _) (Nat.le_refl _) (by simp) ?_; (case hd => rfl); (case hg => rfl); (case hr => first | (go_simp; done) | (go_simp; rfl)); (case hp => exact (Reps.none _ _))
      intro v578 w31 ho32 hb hg_ hnew_
      clear hg_ hnew_
      (first | rw [← Ny577.out] at ho32 | (simp only [Int.reduceToNat] at ho32; rw [← Ny577.out] at ho32))
      have HO579 := am (Kd.R_lower (Kd.R_newB (Kd.R_newB (Kd.R_new' (Kd.R_new' ho32 (Kd.R_lt (wR HO_5))) (Kd.R_lt (wR HO585))) (g := gb571) (o := .cells #[.int .i64 1, .int .i64 (wrap64 (2 + t567)), .int .i64 (wrap64 (2 + t569))] 43 (0, 0)) (pk_ BK571)) (g := gb576) (o := .cells #[.int .i64 1, .int .i64 (wrap64 (2 + t572)), .int .i64 (wrap64 (2 + t574))] 43 (0, 0)) (pk_ BK576)) (jk (w := w) (g := g) (row := none) (kx_ HK)))
      replace HO_5 := eR HO_5 (Kd.R_base ho32) hb
      replace HO585 := eR HO585 (Kd.R_base ho32) hb
      replace BK571 := am (zg (g := gb571) (o := .cells #[.int .i64 1, .int .i64 (wrap64 (2 + t567)), .int .i64 (wrap64 (2 + t569))] 43 (0, 0)) (pk_ BK571) hb)
      replace BK576 := am (zg (g := gb576) (o := .cells #[.int .i64 1, .int .i64 (wrap64 (2 + t572)), .int .i64 (wrap64 (2 + t574))] 43 (0, 0)) (pk_ BK576) hb)
      replace HK := am (KeepBut.trans (kx_ HK) (KeepBut.of_below hb g none) (.inl rfl))
      replace HB := am (qz (jt HB HI0) hb)
      replace HI0 := am (IsS112.below (jd HI0) hb)
      clear hb ho32
      refine hK.out _ _ ⟨(qa BK571.out 0).trans rfl, (qa BK571.out 1).trans rfl, (qa BK571.out 2).trans rfl, (qa BK576.out 0).trans rfl, (qa BK576.out 1).trans rfl, (qa BK576.out 2).trans rfl⟩ fun hHeld => nz ?_
      clear hK K
      refine on 2 (some 51) HT_ fun K hK => ?_
      refine Kd.R_append_rows_step k43 w.heap.size (by rfl) (.tmp 49) (.tmp 50) 34 43 (.agg #[(.int .i64 0), (.int .i64 0), (.int .i64 0)]) 24 rfl Try.underlying34 qex rfl (by decide) (by omega) v578 y577 y550 _ _ _ (fun k_ => some k_ ≠ (.slice Ao26 y550.length co26 : Value).ownBlock ∧ some k_ ≠ (v584 : Value).ownBlock ∧ k_ ≠ gb571 ∧ k_ ≠ gb576) (fun _ => False) rfl rfl ?aO ?aR (fun _ _ h => h) (fun _ h => h.elim) ?aF (Below.refl _ _) ?aS ?aL ?_
      (case aR => exact Kd.C_below (Kd.R_reads' HO_5.out).2.2 gs)
      (case aF => exact (fun k_ hk => ⟨Kd.fresh' (Kd.R_lt (wR HO_5)) k_ hk, Kd.fresh' (Kd.R_lt (wR HO585)) k_ hk, Kd.freshB (g := gb571) (o := .cells #[.int .i64 1, .int .i64 (wrap64 (2 + t567)), .int .i64 (wrap64 (2 + t569))] 43 (0, 0)) (pk_ BK571) k_ hk, Kd.freshB (g := gb576) (o := .cells #[.int .i64 1, .int .i64 (wrap64 (2 + t572)), .int .i64 (wrap64 (2 + t574))] 43 (0, 0)) (pk_ BK576) k_ hk⟩))
      (case aO => exact (oR_ HO579 (fun _ hk => ⟨hk.1.1.1.2, ⟨hk.1.1.2, ⟨hk.1.2, hk.2⟩⟩⟩)))
      (case aS => exact (jk (w := w) (g := g) (row := none) (kx_ HK)))
      (case aL => have := LMc11.out; omega)
      intro v581 w33 ho hb hg hat
      rw [← Ny580.out] at ho
      replace HO_5 := am (Kd.R_after (ok := (fun k_ => some k_ ≠ (v584 : Value).ownBlock ∧ k_ ≠ gb571 ∧ k_ ≠ gb576)) (oR_ HO_5 (fun _ hk => ⟨⟨hk.1.2, ⟨hk.1.1.1, hk.1.1.2⟩⟩, hk.2⟩)) hg hat)
      replace BK571 := am (Qh (g := gb571) (o := .cells #[.int .i64 1, .int .i64 (wrap64 (2 + t567)), .int .i64 (wrap64 (2 + t569))] 43 (0, 0)) (pk_ BK571) hg (Kd.R_away HO579.out (fun _ hk => hk.1.2)))
      replace BK576 := am (Qh (g := gb576) (o := .cells #[.int .i64 1, .int .i64 (wrap64 (2 + t572)), .int .i64 (wrap64 (2 + t574))] 43 (0, 0)) (pk_ BK576) hg (Kd.R_away HO579.out (fun _ hk => hk.2)))
      replace HO585 := am (Kd.R_after (ok := (fun k_ => some k_ ≠ (.slice Ao26 y550.length co26 : Value).ownBlock ∧ k_ ≠ gb571 ∧ k_ ≠ gb576)) (oR_ HO585 (fun _ hk => ⟨⟨hk.1.1.1.2, ⟨hk.1.1.2, hk.1.2⟩⟩, hk.2⟩)) hg hat)
      replace HB := am (Zr (jt HB HI0) HL.out hb)
      replace HI0 := am (IsS112.grown (jd HI0) hg (IsS112.own_ne HI0.out HO579.out (by decide)))
      replace HK := am (KeepBut.trans (kx_ HK) (KeepBut.of_grown hg g) (Kd.R_base2 HO579.out))
      have HO582 := am (ho)
      clear HO579; clear ho hb hg hat
      refine hK.out _ _ ⟨(qa BK571.out 0).trans rfl, (qa BK571.out 1).trans rfl, (qa BK571.out 2).trans rfl, (qa BK576.out 0).trans rfl, (qa BK576.out 1).trans rfl, (qa BK576.out 2).trans rfl⟩ fun hHeld => nz ?_
      clear hK K
      exact qdr (by first | (simp only [Z3, Act.put, List.setIfInBounds_toArray, List.set_cons_zero, List.set_cons_succ]; done) | (simp only [Z3, Act.put, List.setIfInBounds_toArray, List.set_cons_zero, List.set_cons_succ]; rfl)) (hCont (v578, v581, v584) _ ⟨hHeld, (oR_ HO582 (fun _ hk => ⟨hk.2.1, ⟨hk.1, ⟨hk.2.2.1, hk.2.2.2⟩⟩⟩)), (oR_ HO585 (fun _ hk => ⟨hk.2, ⟨hk.1.1, ⟨hk.1.2.1, hk.1.2.2⟩⟩⟩)), (oR_ HO_5 (fun _ hk => ⟨hk.2, ⟨hk.1.1, ⟨hk.1.2.1, hk.1.2.2⟩⟩⟩)), (pk_ BK571), (pk_ BK576), (jd HI0), (kx_ HK), (jt HB HI0)⟩)
    rintro ⟨v578, v581, v584⟩ w34 ⟨hS_, h0_, h1_, h2_, h3_, h4_, h5_, h6_, h7_⟩
    have n0_ : qb (Kd.R k43 43 w34 w.heap.size (fun k_ => some k_ ≠ (v584 : Value).ownBlock ∧ some k_ ≠ (.slice Ao26 y550.length co26 : Value).ownBlock ∧ k_ ≠ gb571 ∧ k_ ≠ gb576) v581 y580) := ⟨h0_⟩
    have n1_ : qb (Kd.R k43 43 w34 w.heap.size (fun k_ => some k_ ≠ (v581 : Value).ownBlock ∧ some k_ ≠ (.slice Ao26 y550.length co26 : Value).ownBlock ∧ k_ ≠ gb571 ∧ k_ ≠ gb576) v584 y583) := ⟨h1_⟩
    have n2_ : qb (Kd.R k43 43 w34 w.heap.size (fun k_ => some k_ ≠ (v581 : Value).ownBlock ∧ some k_ ≠ (v584 : Value).ownBlock ∧ k_ ≠ gb571 ∧ k_ ≠ gb576) (.slice Ao26 y550.length co26) y550) := ⟨h2_⟩
    have n3_ : qb (w34.heap[gb571]? = some (.cells #[.int .i64 1, .int .i64 (wrap64 (2 + t567)), .int .i64 (wrap64 (2 + t569))] 43 (0, 0))) := ⟨h3_⟩
    have n4_ : qb (w34.heap[gb576]? = some (.cells #[.int .i64 1, .int .i64 (wrap64 (2 + t572)), .int .i64 (wrap64 (2 + t574))] 43 (0, 0))) := ⟨h4_⟩
    have n5_ : qb (IsS112 w0 w34 g s0_0 t575) := ⟨h5_⟩
    have n6_ : qb (KeepBut w w34 g none) := ⟨h6_⟩
    have n7_ : qb (Below w0.heap.size w0 w34) := ⟨h7_⟩
    clear HO_5; clear BK571; clear BK576; clear HI0; clear HK; clear HB; clear h0_ h1_ h2_ h3_ h4_ h5_ h6_ h7_
    have HO582 := n0_
    have HO585 := n1_
    have HO_5 := n2_
    have BK571 := n3_
    have BK576 := n4_
    have HI0 := n5_
    have HK := n6_
    have HB := n7_
    clear n0_ n1_ n2_ n3_ n4_ n5_ n6_ n7_
    have hHeld : w34.cell? ⟨gb571, 0, none⟩ = some (.int .i64 1) ∧ w34.cell? ⟨gb571, 1, none⟩ = some (.int .i64 (wrap64 (2 + t567))) ∧ w34.cell? ⟨gb571, 2, none⟩ = some (.int .i64 (wrap64 (2 + t569))) ∧ w34.cell? ⟨gb576, 0, none⟩ = some (.int .i64 1) ∧ w34.cell? ⟨gb576, 1, none⟩ = some (.int .i64 (wrap64 (2 + t572))) ∧ w34.cell? ⟨gb576, 2, none⟩ = some (.int .i64 (wrap64 (2 + t574))) := hS_
    obtain ⟨Ao36, co36, eo36⟩ := Kd.R_slice HO585.out
    (first | subst eo36 | (injection eo36 with f1_ f2_ f3_; have f4_ := f1_.symm; have f5_ := f3_.symm; clear f1_ f2_ f3_; subst f4_; subst f5_))
    refine qdr (a' := ?_) ?_ ?_
    rotate_left
    ·simp only [Z3, Act.put, List.setIfInBounds_toArray, List.set_cons_zero, List.set_cons_succ]
     rfl
    refine on 6 (some 55) HT_ fun K hK => ?_
    refine Kd.R_append_rows_step k43 w.heap.size (by rfl) (.tmp 51) (.tmp 54) 34 43 (.agg #[(.int .i64 0), (.int .i64 0), (.int .i64 0)]) 24 rfl Try.underlying34 qex rfl (by decide) (by omega) v581 y580 y583 _ _ _ (fun k_ => some k_ ≠ (.slice Ao26 y550.length co26 : Value).ownBlock ∧ some k_ ≠ (.slice Ao36 y583.length co36 : Value).ownBlock ∧ k_ ≠ gb571 ∧ k_ ≠ gb576) (fun _ => False) rfl rfl ?aO ?aR (fun _ _ h => h) (fun _ h => h.elim) ?aF (Below.refl _ _) ?aS ?aL ?_
    (case aR => exact Kd.C_below (Kd.R_reads' HO585.out).2.2 gs)
    (case aF => exact (fun k_ hk => ⟨Kd.fresh' (Kd.R_lt (wR HO_5)) k_ hk, Kd.fresh' (Kd.R_lt (wR HO585)) k_ hk, Kd.freshB (g := gb571) (o := .cells #[.int .i64 1, .int .i64 (wrap64 (2 + t567)), .int .i64 (wrap64 (2 + t569))] 43 (0, 0)) (pk_ BK571) k_ hk, Kd.freshB (g := gb576) (o := .cells #[.int .i64 1, .int .i64 (wrap64 (2 + t572)), .int .i64 (wrap64 (2 + t574))] 43 (0, 0)) (pk_ BK576) k_ hk⟩))
    (case aO => exact (oR_ HO582 (fun _ hk => ⟨hk.2.1, ⟨hk.1, ⟨hk.2.2.1, hk.2.2.2⟩⟩⟩)))
    (case aS => exact (jk (w := w) (g := g) (row := none) (kx_ HK)))
    (case aL => have := LMc12.out; omega)
    intro v587 w35 ho hb hg hat
    rw [← Ny586.out] at ho
    replace HO_5 := am (Kd.R_after (ok := (fun k_ => some k_ ≠ (.slice Ao36 y583.length co36 : Value).ownBlock ∧ k_ ≠ gb571 ∧ k_ ≠ gb576)) (oR_ HO_5 (fun _ hk => ⟨⟨hk.2.1, ⟨hk.2.2.1, hk.2.2.2⟩⟩, hk.1⟩)) hg hat)
    replace BK571 := am (Qh (g := gb571) (o := .cells #[.int .i64 1, .int .i64 (wrap64 (2 + t567)), .int .i64 (wrap64 (2 + t569))] 43 (0, 0)) (pk_ BK571) hg (Kd.R_away HO582.out (fun _ hk => hk.2.2.1)))
    replace BK576 := am (Qh (g := gb576) (o := .cells #[.int .i64 1, .int .i64 (wrap64 (2 + t572)), .int .i64 (wrap64 (2 + t574))] 43 (0, 0)) (pk_ BK576) hg (Kd.R_away HO582.out (fun _ hk => hk.2.2.2)))
    replace HO585 := am (Kd.R_after (ok := (fun k_ => some k_ ≠ (.slice Ao26 y550.length co26 : Value).ownBlock ∧ k_ ≠ gb571 ∧ k_ ≠ gb576)) (oR_ HO585 (fun _ hk => ⟨⟨hk.2.1, ⟨hk.2.2.1, hk.2.2.2⟩⟩, hk.1⟩)) hg hat)
    replace HB := am (Zr (jt HB HI0) HL.out hb)
    replace HI0 := am (IsS112.grown (jd HI0) hg (IsS112.own_ne HI0.out HO582.out (by decide)))
    replace HK := am (KeepBut.trans (kx_ HK) (KeepBut.of_grown hg g) (Kd.R_base2 HO582.out))
    have HO588 := am (ho)
    clear HO582; clear ho hb hg hat
    refine hK.out _ _ ⟨(qa BK571.out 0).trans rfl, (qa BK571.out 1).trans rfl, (qa BK571.out 2).trans rfl, (qa BK576.out 0).trans rfl, (qa BK576.out 1).trans rfl, (qa BK576.out 2).trans rfl⟩ fun hHeld => nz ?_
    clear hK K; refine pz 7 9 HT_ ?_
    refine Q8 (Qj HT_.out (by kernel_rfl)) ?_
    obtain ⟨Ao37, co37, eo37⟩ := Kd.R_slice HO588.out
    subst eo37
    by_cases c14 : t589 = true
    ·have H := HQ_.out; clear HQ_
     subst c14
     rw [if_pos rfl] at H
     simp only [Option.some.injEq, Prod.mk.injEq] at H
     obtain ⟨rfl, rfl, rfl⟩ := H
     try go_wp2_with (first | ((with_reducible refine qf (f := 62) rfl ?_); refine gl 58 Try.func62 #[.int .i64 t548, .slice Ao37 y586.length co37] ?_; (with_reducible refine (zf.calls k1 t548 _ _ y586 true _ ?side1 ?side2 A13.out).mono ?_); (case side1 => exact Kd.C_below (Kd.R_reads' HO588.out).2.2 gs); (case side2 => exact (Kd.R_reads' HO588.out).2.1); rintro e w38 ⟨rfl, hb⟩; refine ⟨_, rfl, ?_⟩; replace HO_5 := am (Kd.R_below (wR HO_5) hb); replace HO585 := am (Kd.R_below (wR HO585) hb); replace HO588 := am (Kd.R_below (wR HO588) hb); replace BK571 := am (zg (g := gb571) (o := .cells #[.int .i64 1, .int .i64 (wrap64 (2 + t567)), .int .i64 (wrap64 (2 + t569))] 43 (0, 0)) (pk_ BK571) hb); replace BK576 := am (zg (g := gb576) (o := .cells #[.int .i64 1, .int .i64 (wrap64 (2 + t572)), .int .i64 (wrap64 (2 + t574))] 43 (0, 0)) (pk_ BK576) hb); replace HK := am (KeepBut.trans (kx_ HK) (KeepBut.of_below hb g none) (.inl rfl)); replace HB := am (qz (jt HB HI0) hb); replace HI0 := am (IsS112.below (jd HI0) hb); (try clear hb); (try clear hb2); (try clear hk); (try clear hi)))
     go_ret2
     exact ⟨_, fq, Kd.R_below (Kd.R_mono HO588.out (fun _ hk => trivial)) gs, jd HI0, jt HB HI0, kx_ HK⟩
    ·have H := HQ_.out; clear HQ_
     replace c14 := Bool.eq_false_iff.mpr c14
     subst c14
     rw [if_neg (show ¬ (false = true) by decide)] at H
     have H' := am H; clear H
     try go_wp2_with (first | ((with_reducible refine qf (f := 62) rfl ?_); refine gl 58 Try.func62 #[.int .i64 t548, .slice Ao37 y586.length co37] ?_; (with_reducible refine (zf.calls k1 t548 _ _ y586 false _ ?side1 ?side2 A13.out).mono ?_); (case side1 => exact Kd.C_below (Kd.R_reads' HO588.out).2.2 gs); (case side2 => exact (Kd.R_reads' HO588.out).2.1); rintro e w62 ⟨rfl, hb⟩; refine ⟨_, rfl, ?_⟩; replace HO_5 := am (Kd.R_below (wR HO_5) hb); replace HO585 := am (Kd.R_below (wR HO585) hb); replace HO588 := am (Kd.R_below (wR HO588) hb); replace BK571 := am (zg (g := gb571) (o := .cells #[.int .i64 1, .int .i64 (wrap64 (2 + t567)), .int .i64 (wrap64 (2 + t569))] 43 (0, 0)) (pk_ BK571) hb); replace BK576 := am (zg (g := gb576) (o := .cells #[.int .i64 1, .int .i64 (wrap64 (2 + t572)), .int .i64 (wrap64 (2 + t574))] 43 (0, 0)) (pk_ BK576) hb); replace HK := am (KeepBut.trans (kx_ HK) (KeepBut.of_below hb g none) (.inl rfl)); replace HB := am (qz (jt HB HI0) hb); replace HI0 := am (IsS112.below (jd HI0) hb); (try clear hb); (try clear hb2); (try clear hk); (try clear hi)))
     go_roundg k1
     case measure => have := HK1.out; omega
     case rel => exact ⟨(wrap64 (x6_1 + 1)), (t575), fr, H', ⟨by have := HK1.out; omega⟩, ⟨Kd.R_below (Kd.R_mono HO_5.out (fun _ hk => trivial)) gs⟩, ⟨jd HI0⟩, ⟨kx_ HK⟩, ⟨jt HB HI0⟩⟩
   ·rw [if_neg c6] at H
    have c6b0 := decide_eq_false c6; clear c6; replace H := bs H
    obtain ⟨⟨t553, t554, t555, t556⟩, A63, H⟩ := H
    dsimp only at H
    replace H := bs H
    obtain ⟨⟨t557, t558, t559, t560⟩, A64, H⟩ := H
    dsimp only at H
    replace H := bsy H; obtain ⟨y561, Ny561, H⟩ := H
    by_cases c65 : y550.length + y561.length < 5864062014805
    ·rw [if_pos c65] at H
     have LMc65 := am c65; clear c65
     generalize hy564 : (y550 ++ y561 : List (S43)) = y564 at H
     have Ny564 := am hy564.symm; clear hy564
     simp only [Option.some.injEq, Prod.mk.injEq] at H
     obtain ⟨rfl, rfl, rfl⟩ := H
     go_wp2_with (first | ((with_reducible refine qf (f := 72) rfl ?_); refine gl 65 Try.func72 #[.pointer (some ⟨g, 0, none⟩), .int .i64 t548] ?_; (with_reducible refine (jg.calls k1 g s0_0 x1001_1 t548 t553 t554 t555 t556 w0 _ ?_ ?_ A63.out).mono ?_); (· repeat (first | (with_reducible first | exact HI0.out | apply IsS112.alloc | apply IsS112.drewN | apply IsS112.drew | apply IsS112.set_1) | exact HI0.out)); (· repeat (first | (with_reducible first | exact HB.out | apply q8 | apply qo | apply qx | refine zl ?_ (IsS112.ge HI0.out)) | exact HB.out)); rintro e w66 ⟨rfl, hi, hb, hk⟩; refine ⟨_, rfl, ?_⟩; replace HO_5 := am (Kd.R_mono (Kd.R_keep (IsS112.apart (show IsS112 w0 _ g s0_0 x1001_1 from jd HI0) (wR HO_5) (by decide)) hk (fun _ h => h.2)) (fun _ h => h.1)); replace HK := am (KeepBut.trans (kw HK) hk (.inl rfl)); replace HB := am (hb); replace HI0 := am (hi); (try clear hb); (try clear hk); (try clear hi)) | ((with_reducible refine qf (f := 72) rfl ?_); refine gl 68 Try.func72 #[.pointer (some ⟨g, 0, none⟩), .int .i64 t548] ?_; (with_reducible refine (jg.calls k1 g s0_0 t556 t548 t557 t558 t559 t560 w0 _ ?_ ?_ A64.out).mono ?_); (· repeat (first | (with_reducible first | exact HI0.out | apply IsS112.alloc | apply IsS112.drewN | apply IsS112.drew | apply IsS112.set_1) | exact HI0.out)); (· repeat (first | (with_reducible first | exact HB.out | apply q8 | apply qo | apply qx | refine zl ?_ (IsS112.ge HI0.out)) | exact HB.out)); rintro e w67 ⟨rfl, hi, hb, hk⟩; refine ⟨_, rfl, ?_⟩; replace HO_5 := am (Kd.R_mono (Kd.R_keep (IsS112.apart (show IsS112 w0 _ g s0_0 t556 from jd HI0) (wR HO_5) (by decide)) hk (fun _ h => h.2)) (fun _ h => h.1)); replace HK := am (KeepBut.trans (kw HK) hk (.inl rfl)); replace HB := am (hb); replace HI0 := am (hi); (try clear hb); (try clear hk); (try clear hi)) | ((with_reducible refine za (N := 69) rfl ?_); refine Kd.R_lit k43 _ 43 ?hg (N := 69) ?hd (xs := ([(⟨(⟨t553, t554, t555⟩ : S41)⟩ : S43), (⟨(⟨t557, t558, t559⟩ : S41)⟩ : S43)] : List (S43))) (inner := [.int .i64 t553, .int .i64 t554, .int .i64 t555, .int .i64 t557, .int .i64 t558, .int .i64 t559]) (ok := fun _ => True) (okp := fun _ => True) ?hr ?hp (fun _ hk => hk) trivial (Below.refl _ _) (Nat.le_refl _) (by simp) ?_; (case hd => rfl); (case hg => rfl); (case hr => first | (go_simp; done) | (go_simp; rfl)); (case hp => exact (Reps.c3 (show Kd.M k43 _ _ _ (⟨(⟨t553, t554, t555⟩ : S41)⟩ : S43) [.int .i64 t553, .int .i64 t554, .int .i64 t555] from (Zz _ _ _ (⟨(⟨t553, t554, t555⟩ : S41)⟩ : S43) )) (Reps.c3 (show Kd.M k43 _ _ _ (⟨(⟨t557, t558, t559⟩ : S41)⟩ : S43) [.int .i64 t557, .int .i64 t558, .int .i64 t559] from (Zz _ _ _ (⟨(⟨t557, t558, t559⟩ : S41)⟩ : S43) )) (Reps.none _ _)))); intro v562 w68 ho69 hb hg_ hnew_; clear hg_ hnew_; (first | rw [← Ny561.out] at ho69 | (simp only [Int.reduceToNat] at ho69; rw [← Ny561.out] at ho69)); have HO563 := am (Kd.R_lower (Kd.R_new' ho69 (Kd.R_lt (wR HO_5))) (jk (w := w) (g := g) (row := none) (kw HK))); replace HO_5 := eR HO_5 (Kd.R_base ho69) hb; replace HK := am (KeepBut.trans (kw HK) (KeepBut.of_below hb g none) (.inl rfl)); replace HB := am (qz (jt HB HI0) hb); replace HI0 := am (IsS112.below (jd HI0) hb); clear hb ho69; obtain ⟨Ao71, co71, eo71⟩ := Kd.R_slice HO563.out; subst eo71) | ((with_reducible refine jh (b := .append) (xs := #[.tmp 62, .tmp 69]) rfl ?_); at_builtin; refine Kd.R_append_rows k43 w.heap.size rfl (.tmp 62) (.tmp 69) 34 43 (.agg #[(.int .i64 0), (.int .i64 0), (.int .i64 0)]) 24 rfl Try.underlying34 qex rfl (by decide) (by omega) v551 y550 y561 _ _ _ (fun k_ => some k_ ≠ (.slice Ao71 y561.length co71 : Value).ownBlock) (fun _ => False) rfl rfl ?aO ?aR (fun _ _ h => h) (fun _ h => h.elim) ?aF (Below.refl _ _) ?aS ?aL ?_; (case aR => exact Kd.C_below (Kd.R_reads' HO563.out).2.2 gs); (case aF => exact (fun k_ hk => Kd.fresh' (Kd.R_lt (wR HO563)) k_ hk)); (case aO => exact (oR_ HO_5 (fun _ hk => hk.2))); (case aS => exact (jk (w := w) (g := g) (row := none) (kw HK))); (case aL => have := LMc65.out; omega); intro v565 w70 ho hb hg hat; rw [← Ny564.out] at ho; replace HO563 := am (Kd.R_after (ok := (fun _ => True)) (wR HO563) hg hat); replace HB := am (Zr (jt HB HI0) HL.out hb); replace HI0 := am (IsS112.grown (jd HI0) hg (IsS112.own_ne HI0.out HO_5.out (by decide))); replace HK := am (KeepBut.trans (kw HK) (KeepBut.of_grown hg g) (Kd.R_base2 HO_5.out)); have HO566 := am (ho); clear HO_5; clear ho hb hg hat))
     go_ret2
     exact ⟨_, fq, Kd.R_below (Kd.R_mono HO566.out (fun _ hk => trivial)) gs, jd HI0, jt HB HI0, kw HK⟩
    ·rw [if_neg c65] at H
     exact absurd H (by simp)
end Go.Proofs.Ytmgbpmihbljngaa.PA

-- Written by xprint.py, a program of this claim's own (over the kit's print.py)
import Derived.Test.YtmgbpmihbljngaaPAx10
namespace Go.Proofs.Ytmgbpmihbljngaa.PA
open Go.RowKit Go.Proofs.YtmgbpmihbljngaaW.PrintWords Go.Proofs.YtmgbpmihbljngaaW.PrintLast Go.Proofs.YtmgbpmihbljngaaW.PrintMore
attribute [local go_sem] j8 j9 Qi Qj jw jy Qa Qb
set_option linter.unusedVariables false
set_option linter.unusedSimpArgs false
def zn.l0 : Nat → Int → List (S43) → Int → List Int → Int → Option (Int × (List (S43)) × Int)
 | 0, _, _, _, _, _ => none
 | k + 1, x4, x5, x6, x1000, x1001 => if x6 < 12 then ((ql.f k x1000 x1001 (wrap64 (x4 - 2))).bind fun bt301 => ((ql.f k x1000 bt301.2 (wrap64 (x4 - 2))).bind fun bt303 => ((ql.f k x1000 bt303.2 (wrap64 (x4 - 2))).bind fun bt306 => ((ql.f k x1000 bt306.2 (wrap64 (x4 - 2))).bind fun bt308 => ((some (([] : List (S43)) : List (S43))).bind fun y311 => (if y311.length + x5.length < 5864062014805 then ((some (y311 ++ x5 : List (S43))).bind fun y314 => ((some (([(⟨(⟨1, wrap64 (2 + bt301.1), wrap64 (2 + bt303.1)⟩ : S41)⟩ : S43), (⟨(⟨1, wrap64 (2 + bt306.1), wrap64 (2 + bt308.1)⟩ : S41)⟩ : S43)] : List (S43)) : List (S43))).bind fun y317 => (if y314.length + y317.length < 5864062014805 then ((some (y314 ++ y317 : List (S43))).bind fun y320 => ((zq.f k x4 y320).bind fun t323 => (if t323 = true then (some (x4, y320, bt308.2)) else (zn.l0 k x4 x5 (wrap64 (x6 + 1)) x1000 bt308.2)))) else (none)))) else (none))))))) else ((jm.f k x1000 x1001 x4).bind fun bt287 => ((jm.f k x1000 bt287.2.2.2 x4).bind fun bt291 => ((some (([(⟨(⟨bt287.1, bt287.2.1, bt287.2.2.1⟩ : S41)⟩ : S43), (⟨(⟨bt291.1, bt291.2.1, bt291.2.2.1⟩ : S41)⟩ : S43)] : List (S43)) : List (S43))).bind fun y295 => (if x5.length + y295.length < 5864062014805 then (some (x4, (x5 ++ y295), bt291.2.2.2)) else (none)))))
def zn.f (k : Nat) (s0_0 : List Int) (s0_1 : Int) : Option (Int × (List (S43)) × Int) := (j4.f k s0_0 s0_1).bind fun bt282 => (zn.l0 k bt282.1 (([(⟨(⟨1, 0, 0⟩ : S41)⟩ : S43), (⟨(⟨0, 1, 0⟩ : S41)⟩ : S43), (⟨(⟨0, 0, 1⟩ : S41)⟩ : S43), (⟨(⟨1, 1, 1⟩ : S41)⟩ : S43)] : List (S43))) 0 s0_0 bt282.2)
theorem zn.mono_l : ∀ k, (∀ y0 y1 y2 y3 y4, LeO (zn.l0 k y0 y1 y2 y3 y4) (zn.l0 (k + 1) y0 y1 y2 y3 y4))
 | 0 => fun _ _ _ _ _ r h => by simp [zn.l0] at h
 | k + 1 => by
  have ih0 := zn.mono_l k
  ·intro y0 y1 y2 y3 y4
   unfold zn.l0
   repeat' first | (with_reducible first | apply ih0 | apply zq.mono | apply ql.mono | apply jm.mono | apply j4.mono | exact LeO.refl _ | exact LeO.none _ | refine LeO.ite ?_ ?_ | refine LeO.bind ?_ (fun _ => ?_)) | (first | apply ih0 | apply zq.mono | apply ql.mono | apply jm.mono | apply j4.mono | exact LeO.none _ | refine LeO.ite ?_ ?_ | refine LeO.bind ?_ (fun _ => ?_))
theorem zn.mono : ∀ a0 a1 k, LeO (zn.f k a0 a1) (zn.f (k + 1) a0 a1) := by
 intro a0 a1 k
 have ih0 := zn.mono_l k
 unfold zn.f
 repeat' first | (with_reducible first | apply ih0 | apply zq.mono | apply ql.mono | apply jm.mono | apply j4.mono | exact LeO.refl _ | exact LeO.none _ | refine LeO.ite ?_ ?_ | refine LeO.bind ?_ (fun _ => ?_)) | (first | apply ih0 | apply zq.mono | apply ql.mono | apply jm.mono | apply j4.mono | exact LeO.none _ | refine LeO.ite ?_ ?_ | refine LeO.bind ?_ (fun _ => ?_))
def zn.T8 : Bool × List (List Nat × List Nat) := (true, [([], []), ([], []), ([0, 1], [0, 1]), ([], []), ([], []), ([3, 4], [3, 4]), ([2, 5, 2], [2, 5]), ([6, 6, 0, 1, 2, 3, 4, 5, 6], [6])])
def zn.B8 : List Nat := [0, 0, 3, 0, 0, 24, 63, 127]
theorem zn.tab8 : rtab .any (Zp Try.f70 8) = zn.T8 := by kernel_rfl
theorem zn.bits8 : Qd zn.T8.2 zn.B8 = true := by kernel_rfl
set_option maxHeartbeats 8000000 in
set_option maxRecDepth 100000 in
theorem zn.calls (k : Nat) (g : Nat) (s0_0 : List Int) (s0_1 : Int) (r1 : Int) (r2 : List (S43)) (r3 : Int) (w0 w : World) (hI : IsS112 w0 w g s0_0 s0_1) (hB : Below w0.heap.size w0 w) (h : zn.f k s0_0 s0_1 = some (r1, r2, r3)) :
  Calls Try.prog 70 #[.pointer (some ⟨g, 0, none⟩)] w fun e w' => ∃ v1_ : Value, e = .returned (.tuple #[.int .i64 r1, v1_]) ∧ Kd.R k43 43 w' w.heap.size (fun _ => True) v1_ r2 ∧ IsS112 w0 w' g s0_0 r3 ∧ Below w0.heap.size w0 w' ∧ KeepBut w w' g none := by
 have hu41 := Try.underlying41
 have hu43 := Try.underlying43
 have HI0 := am hI
 have HK := am (KeepBut.refl w g none)
 have HL := am hB.size
 clear hI
 have HW0 := am hB.size
 have HB := am hB
 clear hB
 have H : ((j4.f k s0_0 s0_1).bind fun bt282 => (zn.l0 k bt282.1 (([(⟨(⟨1, 0, 0⟩ : S41)⟩ : S43), (⟨(⟨0, 1, 0⟩ : S41)⟩ : S43), (⟨(⟨0, 0, 1⟩ : S41)⟩ : S43), (⟨(⟨1, 1, 1⟩ : S41)⟩ : S43)] : List (S43))) 0 s0_0 bt282.2)) = some (r1, r2, r3) := h
 clear h; replace H := bs H
 obtain ⟨⟨t282, t283⟩, A2, H⟩ := H
 dsimp only at H
 generalize hy284 : (([(⟨(⟨1, 0, 0⟩ : S41)⟩ : S43), (⟨(⟨0, 1, 0⟩ : S41)⟩ : S43), (⟨(⟨0, 0, 1⟩ : S41)⟩ : S43), (⟨(⟨1, 1, 1⟩ : S41)⟩ : S43)] : List (S43))) = y284 at H
 have Ny284 := am hy284.symm; clear hy284; have H' := am H; clear H
 go_enter Try.func70, Try.ntmps70
 go_wp2_with (first | ((with_reducible refine qj (f := 117) rfl ?_); refine gl 11 Try.func117 #[.pointer (some ⟨g, 0, none⟩)] ?_; (with_reducible refine (j4.calls k g s0_0 s0_1 t282 t283 w0 _ ?_ ?_ A2.out).mono ?_); (· repeat (first | (with_reducible first | exact HI0.out | apply IsS112.alloc | apply IsS112.drewN | apply IsS112.drew | apply IsS112.set_1) | exact HI0.out)); (· repeat (first | (with_reducible first | exact HB.out | apply zo | apply zg | apply zc | refine z6 ?_ (IsS112.ge HI0.out)) | exact HB.out)); rintro e w3 ⟨rfl, hi, hb, hk⟩; refine ⟨_, rfl, ?_⟩; replace HK := am (KeepBut.trans (kw HK) hk (.inl rfl)); replace HB := am (hb); replace HI0 := am (hi); (try clear hb); (try clear hk); (try clear hi)) | ((with_reducible refine q6 (N := 20) rfl ?_); refine Kd.R_lit k43 _ 43 ?hg (N := 20) ?hd (xs := ([(⟨(⟨1, 0, 0⟩ : S41)⟩ : S43), (⟨(⟨0, 1, 0⟩ : S41)⟩ : S43), (⟨(⟨0, 0, 1⟩ : S41)⟩ : S43), (⟨(⟨1, 1, 1⟩ : S41)⟩ : S43)] : List (S43))) (inner := [.int .i64 1, .int .i64 0, .int .i64 0, .int .i64 0, .int .i64 1, .int .i64 0, .int .i64 0, .int .i64 0, .int .i64 1, .int .i64 1, .int .i64 1, .int .i64 1]) (ok := fun _ => True) (okp := fun _ => True) ?hr ?hp (fun _ hk => hk) trivial (Below.refl _ _) (Nat.le_refl _) (by simp) ?_; (case hd => rfl); (case hg => rfl); (case hr => first | (go_simp; done) | (go_simp; rfl)); (case hp => exact (Reps.c3 (show Kd.M k43 _ _ _ (⟨(⟨1, 0, 0⟩ : S41)⟩ : S43) [.int .i64 1, .int .i64 0, .int .i64 0] from (Zy _ _ _ (⟨(⟨1, 0, 0⟩ : S41)⟩ : S43) )) (Reps.c3 (show Kd.M k43 _ _ _ (⟨(⟨0, 1, 0⟩ : S41)⟩ : S43) [.int .i64 0, .int .i64 1, .int .i64 0] from (Zy _ _ _ (⟨(⟨0, 1, 0⟩ : S41)⟩ : S43) )) (Reps.c3 (show Kd.M k43 _ _ _ (⟨(⟨0, 0, 1⟩ : S41)⟩ : S43) [.int .i64 0, .int .i64 0, .int .i64 1] from (Zy _ _ _ (⟨(⟨0, 0, 1⟩ : S41)⟩ : S43) )) (Reps.c3 (show Kd.M k43 _ _ _ (⟨(⟨1, 1, 1⟩ : S41)⟩ : S43) [.int .i64 1, .int .i64 1, .int .i64 1] from (Zy _ _ _ (⟨(⟨1, 1, 1⟩ : S41)⟩ : S43) )) (Reps.none _ _)))))); intro v285 w4 ho5 hb hg_ hnew_; clear hg_ hnew_; (first | rw [← Ny284.out] at ho5 | (simp only [Int.reduceToNat] at ho5; rw [← Ny284.out] at ho5)); have HO286 := am (Kd.R_lower ho5 (jx (w := w) (g := g) (row := none) (kw HK))); replace HK := am (KeepBut.trans (kw HK) (KeepBut.of_below hb g none) (.inl rfl)); replace HB := am (qo (Qh HB HI0) hb); replace HI0 := am (IsS112.below (jt HI0) hb); clear hb ho5))
 go_loopg [6] k (fun kq v6 w' => ∃ (x6_1 : Int) (x1001_1 : Int), v6 = .int .i64 x6_1 ∧ qb (zn.l0 kq t282 y284 x6_1 s0_0 x1001_1 = some (r1, r2, r3)) ∧ qb (kq ≤ k) ∧ qb (Kd.R k43 43 w' w.heap.size (fun _ => True) v285 y284) ∧ qb (IsS112 w0 w' g s0_0 x1001_1) ∧ qb (KeepBut w w' g none) ∧ qb (Below w0.heap.size w0 w'))
 case atStart => exact ⟨(0), (t283), fr, H', ⟨Nat.le_refl _⟩, ⟨wR HO286⟩, ⟨jt HI0⟩, ⟨kw HK⟩, ⟨Qh HB HI0⟩⟩
 case round =>
  clear H'; try clear c1; try clear p2; try clear c3
  obtain ⟨x6_1, x1001_1, rfl, HA, HK1, HO_5, HI0, HK, HB⟩ := hrel
  cases gk with
  | zero => exact absurd HA.out (by simp [zn.l0])
  | succ k1 =>
   have H := HA.out; clear HA
   simp only [zn.l0] at H
   by_cases c6 : x6_1 < 12
   ·rw [if_pos c6] at H
    have c6b0 := decide_eq_true c6; clear c6; replace H := bs H
    obtain ⟨⟨t301, t302⟩, A7, H⟩ := H
    dsimp only at H
    replace H := bs H
    obtain ⟨⟨t303, t304⟩, A8, H⟩ := H
    dsimp only at H
    replace H := bs H
    obtain ⟨⟨t306, t307⟩, A9, H⟩ := H
    dsimp only at H
    replace H := bs H
    obtain ⟨⟨t308, t309⟩, A10, H⟩ := H
    dsimp only at H
    replace H := bsy H; obtain ⟨y311, Ny311, H⟩ := H; replace H := ifn H; obtain ⟨c11, H⟩ := H; have LMc11 := am c11; clear c11; replace H := bsy H; obtain ⟨y314, Ny314, H⟩ := H; replace H := bsy H; obtain ⟨y317, Ny317, H⟩ := H; replace H := ifn H
    obtain ⟨c12, H⟩ := H; have LMc12 := am c12; clear c12; replace H := bsy H; obtain ⟨y320, Ny320, H⟩ := H; replace H := bs H; obtain ⟨t323, A13, H⟩ := H
    have HQ_ := am H; clear H
    try go_wp2_with (first | ((with_reducible refine qj (f := 71) rfl ?_); refine gl 28 Try.func71 #[.pointer (some ⟨g, 0, none⟩), .int .i64 (wrap64 (t282 - 2))] ?_; (with_reducible refine (ql.calls k1 g s0_0 x1001_1 (wrap64 (t282 - 2)) t301 t302 w0 _ ?side1 ?side2 A7.out).mono ?_); (case side1 => repeat (first | (with_reducible first | exact HI0.out | apply IsS112.alloc | apply IsS112.drewN | apply IsS112.drew | apply IsS112.set_1) | exact HI0.out)); (case side2 => repeat (first | (with_reducible first | exact HB.out | apply zo | apply zg | apply zc | refine z6 ?_ (IsS112.ge HI0.out)) | exact HB.out)); rintro e w15 ⟨rfl, hi, hb, hk⟩; refine ⟨_, rfl, ?_⟩; replace HO_5 := am (Kd.R_mono (Kd.R_keep (IsS112.apart (show IsS112 w0 _ g s0_0 x1001_1 from jt HI0) (wR HO_5) (by decide)) hk (fun _ h => h.2)) (fun _ h => h.1)); replace HK := am (KeepBut.trans (kw HK) hk (.inl rfl)); replace HB := am (hb); replace HI0 := am (hi); (try clear hb); (try clear hb2); (try clear hk); (try clear hi)) | ((with_reducible refine qj (f := 71) rfl ?_); refine gl 33 Try.func71 #[.pointer (some ⟨g, 0, none⟩), .int .i64 (wrap64 (t282 - 2))] ?_; (with_reducible refine (ql.calls k1 g s0_0 t302 (wrap64 (t282 - 2)) t303 t304 w0 _ ?side1 ?side2 A8.out).mono ?_); (case side1 => repeat (first | (with_reducible first | exact HI0.out | apply IsS112.alloc | apply IsS112.drewN | apply IsS112.drew | apply IsS112.set_1) | exact HI0.out)); (case side2 => repeat (first | (with_reducible first | exact HB.out | apply zo | apply zg | apply zc | refine z6 ?_ (IsS112.ge HI0.out)) | exact HB.out)); rintro e w16 ⟨rfl, hi, hb, hk⟩; refine ⟨_, rfl, ?_⟩; replace HO_5 := am (Kd.R_mono (Kd.R_keep (IsS112.apart (show IsS112 w0 _ g s0_0 t302 from jt HI0) (wR HO_5) (by decide)) hk (fun _ h => h.2)) (fun _ h => h.1)); replace HK := am (KeepBut.trans (kw HK) hk (.inl rfl)); replace HB := am (hb); replace HI0 := am (hi); (try clear hb); (try clear hb2); (try clear hk); (try clear hi)) | ((with_reducible refine q6 (N := 7) rfl ?_); refine xe_ 7 43 #[.int .i64 0, .int .i64 0, .int .i64 0] ?_; intro gb305 hg w17 hbox hb; replace HO_5 := am (Kd.R_below (Kd.R_elderB (wR HO_5) gb305 (Nat.le_of_eq hg.symm)) hb); replace HB := am (qo (Qh HB HI0) hb); have BK305 := am (hbox); have GW305 := am ((by rw [hg]; exact (jx (w := w) (g := g) (row := none) (kw HK)) : w.heap.size ≤ gb305)); have GE305 := am ((Nat.le_trans HW0.out (by rw [hg]; exact (jx (w := w) (g := g) (row := none) (kw HK)) : w.heap.size ≤ gb305) : w0.heap.size ≤ gb305)); replace HK := am (KeepBut.trans (kw HK) (KeepBut.of_below hb g none) (.inl rfl)); have NB0_305 := am ((by rw [hg]; exact Nat.ne_of_lt (IsS112.lt (show IsS112 w0 _ g s0_0 t304 from jt HI0)) : g ≠ gb305)); have NB305_0 := am ((by rw [hg]; exact Nat.ne_of_gt (IsS112.lt (show IsS112 w0 _ g s0_0 t304 from jt HI0)) : gb305 ≠ g)); replace HI0 := am (IsS112.below (jt HI0) hb); clear hb hbox hg; have hnb18 := NB305_0.out; have hnc18 := NB0_305.out; have hcz19_0 : w17.cell? ⟨gb305, 0, none⟩ = some (.int .i64 0) := (qa BK305.out 0).trans rfl; have hcz19_1 : w17.cell? ⟨gb305, 1, none⟩ = some (.int .i64 0) := (qa BK305.out 1).trans rfl; have hcz19_2 : w17.cell? ⟨gb305, 2, none⟩ = some (.int .i64 0) := (qa BK305.out 2).trans rfl; have hfz19_0 := qg BK305.out 0; have hfz19_1 := qg BK305.out 1; have hfz19_2 := qg BK305.out 2) | ((with_reducible refine qj (f := 71) rfl ?_); refine gl 40 Try.func71 #[.pointer (some ⟨g, 0, none⟩), .int .i64 (wrap64 (t282 - 2))] ?_; (with_reducible refine (ql.calls k1 g s0_0 t304 (wrap64 (t282 - 2)) t306 t307 w0 _ ?side1 ?side2 A9.out).mono ?_); (case side1 => repeat (first | (with_reducible first | exact HI0.out | apply IsS112.alloc | apply IsS112.drewN | apply IsS112.drew | apply IsS112.set_1 | refine IsS112.far ?_ NB0_305.out _) | exact HI0.out)); (case side2 => repeat (first | (with_reducible first | exact HB.out | apply zo | apply zg | apply zc | refine z6 ?_ (IsS112.ge HI0.out) | refine z6 ?_ GE305.out) | exact HB.out)); rintro e w20 ⟨rfl, hi, hb, hk⟩; refine ⟨_, rfl, ?_⟩; replace HO_5 := am (Kd.R_mono (Kd.R_keep (IsS112.apart (show IsS112 w0 _ g s0_0 t304 from jt HI0) (by (with_reducible repeat (first | apply Kd.R_alloc | apply Kd.R_drewN | apply Kd.R_drew)); exact (Kd.R_mono (Kd.R_far (p := ⟨gb305, 2, none⟩) (Kd.R_far (p := ⟨gb305, 1, none⟩) (Kd.R_far (p := ⟨gb305, 0, none⟩) (Kd.R_mono HO_5.out (fun k_ hk => (⟨hk, hk.2⟩ : _ ∧ k_ ≠ gb305))) (fun _ hk => hk.2) (.int .i64 1)) (fun _ hk => hk.2) (.int .i64 (wrap64 (2 + t301)))) (fun _ hk => hk.2) (.int .i64 (wrap64 (2 + t303)))) (fun _ h_ => h_.1))) (by decide)) hk (fun _ h => h.2)) (fun _ h => h.1)); replace BK305 := am (KeepBut.blk hk (g' := gb305) (o := .cells #[.int .i64 1, .int .i64 (wrap64 (2 + t301)), .int .i64 (wrap64 (2 + t303))] 43 (0, 0)) (by (with_reducible repeat (first | refine qf ?_ _ | refine qh ?_ | refine qe ?_ _)); refine zz (cs := #[.int .i64 1, .int .i64 (wrap64 (2 + t301)), .int .i64 0]) ?_ 2 _ rfl; (with_reducible repeat (first | refine qf ?_ _ | refine qh ?_ | refine qe ?_ _)); refine zz (cs := #[.int .i64 1, .int .i64 0, .int .i64 0]) ?_ 1 _ rfl; (with_reducible repeat (first | refine qf ?_ _ | refine qh ?_ | refine qe ?_ _)); refine zz (cs := #[.int .i64 0, .int .i64 0, .int .i64 0]) ?_ 0 _ rfl; (with_reducible repeat (first | refine qf ?_ _ | refine qh ?_ | refine qe ?_ _)); exact BK305.out) NB305_0.out (by simp)); replace HK := am (KeepBut.trans (kx_ HK) hk (.inl rfl)); replace HB := am (hb); replace HI0 := am (hi); (try clear hb); (try clear hb2); (try clear hk); (try clear hi)) | ((with_reducible refine qj (f := 71) rfl ?_); refine gl 45 Try.func71 #[.pointer (some ⟨g, 0, none⟩), .int .i64 (wrap64 (t282 - 2))] ?_; (with_reducible refine (ql.calls k1 g s0_0 t307 (wrap64 (t282 - 2)) t308 t309 w0 _ ?side1 ?side2 A10.out).mono ?_); (case side1 => repeat (first | (with_reducible first | exact HI0.out | apply IsS112.alloc | apply IsS112.drewN | apply IsS112.drew | apply IsS112.set_1 | refine IsS112.far ?_ NB0_305.out _) | exact HI0.out)); (case side2 => repeat (first | (with_reducible first | exact HB.out | apply zo | apply zg | apply zc | refine z6 ?_ (IsS112.ge HI0.out) | refine z6 ?_ GE305.out) | exact HB.out)); rintro e w21 ⟨rfl, hi, hb, hk⟩; refine ⟨_, rfl, ?_⟩; replace HO_5 := am (Kd.R_mono (Kd.R_keep (IsS112.apart (show IsS112 w0 _ g s0_0 t307 from jt HI0) (wR HO_5) (by decide)) hk (fun _ h => h.2)) (fun _ h => h.1)); replace BK305 := am (KeepBut.blk hk (g' := gb305) (o := .cells #[.int .i64 1, .int .i64 (wrap64 (2 + t301)), .int .i64 (wrap64 (2 + t303))] 43 (0, 0)) (pk_ BK305) NB305_0.out (by simp)); replace HK := am (KeepBut.trans (kx_ HK) hk (.inl rfl)); replace HB := am (hb); replace HI0 := am (hi); (try clear hb); (try clear hb2); (try clear hk); (try clear hi)) | ((with_reducible refine q6 (N := 8) rfl ?_); refine xe_ 8 43 #[.int .i64 0, .int .i64 0, .int .i64 0] ?_; intro gb310 hg w22 hbox hb; replace HO_5 := am (Kd.R_below (Kd.R_elderB (wR HO_5) gb310 (Nat.le_of_eq hg.symm)) hb); replace HB := am (qo (Qh HB HI0) hb); have BK310 := am (hbox); have GW310 := am ((by rw [hg]; exact (jx (w := w) (g := g) (row := none) (kx_ HK)) : w.heap.size ≤ gb310)); have GE310 := am ((Nat.le_trans HW0.out (by rw [hg]; exact (jx (w := w) (g := g) (row := none) (kx_ HK)) : w.heap.size ≤ gb310) : w0.heap.size ≤ gb310)); replace HK := am (KeepBut.trans (kx_ HK) (KeepBut.of_below hb g none) (.inl rfl)); have NB305_310 := am ((by rw [hg]; exact Nat.ne_of_lt (ju (g := gb305) (o := .cells #[.int .i64 1, .int .i64 (wrap64 (2 + t301)), .int .i64 (wrap64 (2 + t303))] 43 (0, 0)) (pk_ BK305)) : gb305 ≠ gb310)); have NB310_305 := am ((by rw [hg]; exact Nat.ne_of_gt (ju (g := gb305) (o := .cells #[.int .i64 1, .int .i64 (wrap64 (2 + t301)), .int .i64 (wrap64 (2 + t303))] 43 (0, 0)) (pk_ BK305)) : gb310 ≠ gb305)); replace BK305 := am (qp (g := gb305) (o := .cells #[.int .i64 1, .int .i64 (wrap64 (2 + t301)), .int .i64 (wrap64 (2 + t303))] 43 (0, 0)) (pk_ BK305) hb); have NB0_310 := am ((by rw [hg]; exact Nat.ne_of_lt (IsS112.lt (show IsS112 w0 _ g s0_0 t309 from jt HI0)) : g ≠ gb310)); have NB310_0 := am ((by rw [hg]; exact Nat.ne_of_gt (IsS112.lt (show IsS112 w0 _ g s0_0 t309 from jt HI0)) : gb310 ≠ g)); replace HI0 := am (IsS112.below (jt HI0) hb); clear hb hbox hg; have hnb23 := NB310_305.out; have hnc23 := NB305_310.out; have hnb24 := NB310_0.out; have hnc24 := NB0_310.out; have hcz25_0 : w22.cell? ⟨gb310, 0, none⟩ = some (.int .i64 0) := (qa BK310.out 0).trans rfl; have hcz25_1 : w22.cell? ⟨gb310, 1, none⟩ = some (.int .i64 0) := (qa BK310.out 1).trans rfl; have hcz25_2 : w22.cell? ⟨gb310, 2, none⟩ = some (.int .i64 0) := (qa BK310.out 2).trans rfl; have hfz25_0 := qg BK310.out 0; have hfz25_1 := qg BK310.out 1; have hfz25_2 := qg BK310.out 2; obtain ⟨Ao26, co26, eo26⟩ := Kd.R_slice HO_5.out; subst eo26))
    have n0_ : qb (Kd.R k43 43 (((w22.setCell ⟨gb310, 0, none⟩ (.int .i64 1)).setCell ⟨gb310, 1, none⟩ (.int .i64 (wrap64 (2 + t306)))).setCell ⟨gb310, 2, none⟩ (.int .i64 (wrap64 (2 + t308)))) w.heap.size (fun k_ => k_ ≠ gb305 ∧ k_ ≠ gb310) (.slice Ao26 y284.length co26) y284) := ⟨by (with_reducible repeat (first | apply Kd.R_alloc | apply Kd.R_drewN | apply Kd.R_drew)); exact Kd.R_mono (Kd.R_far (p := ⟨gb310, 2, none⟩) (Kd.R_far (p := ⟨gb310, 1, none⟩) (Kd.R_far (p := ⟨gb310, 0, none⟩) (Kd.R_mono HO_5.out (fun k_ hk => (⟨hk, hk.2⟩ : _ ∧ k_ ≠ gb310))) (fun _ hk => hk.2) (.int .i64 1)) (fun _ hk => hk.2) (.int .i64 (wrap64 (2 + t306)))) (fun _ hk => hk.2) (.int .i64 (wrap64 (2 + t308)))) (fun _ hk => ⟨hk.1.1.2, hk.1.2⟩)⟩
    have n1_ : qb ((((w22.setCell ⟨gb310, 0, none⟩ (.int .i64 1)).setCell ⟨gb310, 1, none⟩ (.int .i64 (wrap64 (2 + t306)))).setCell ⟨gb310, 2, none⟩ (.int .i64 (wrap64 (2 + t308)))).heap[gb305]? = some (.cells #[.int .i64 1, .int .i64 (wrap64 (2 + t301)), .int .i64 (wrap64 (2 + t303))] 43 (0, 0))) := ⟨by (with_reducible repeat (first | refine qf ?_ _ | refine qh ?_ | refine qe ?_ _)); refine jv ?_ NB305_310.out _; (with_reducible repeat (first | refine qf ?_ _ | refine qh ?_ | refine qe ?_ _)); refine jv ?_ NB305_310.out _; (with_reducible repeat (first | refine qf ?_ _ | refine qh ?_ | refine qe ?_ _)); refine jv ?_ NB305_310.out _; (with_reducible repeat (first | refine qf ?_ _ | refine qh ?_ | refine qe ?_ _)); exact BK305.out⟩
    have n2_ : qb ((((w22.setCell ⟨gb310, 0, none⟩ (.int .i64 1)).setCell ⟨gb310, 1, none⟩ (.int .i64 (wrap64 (2 + t306)))).setCell ⟨gb310, 2, none⟩ (.int .i64 (wrap64 (2 + t308)))).heap[gb310]? = some (.cells #[.int .i64 1, .int .i64 (wrap64 (2 + t306)), .int .i64 (wrap64 (2 + t308))] 43 (0, 0))) := ⟨by (with_reducible repeat (first | refine qf ?_ _ | refine qh ?_ | refine qe ?_ _)); refine zz (cs := #[.int .i64 1, .int .i64 (wrap64 (2 + t306)), .int .i64 0]) ?_ 2 _ rfl; (with_reducible repeat (first | refine qf ?_ _ | refine qh ?_ | refine qe ?_ _)); refine zz (cs := #[.int .i64 1, .int .i64 0, .int .i64 0]) ?_ 1 _ rfl; (with_reducible repeat (first | refine qf ?_ _ | refine qh ?_ | refine qe ?_ _)); refine zz (cs := #[.int .i64 0, .int .i64 0, .int .i64 0]) ?_ 0 _ rfl; (with_reducible repeat (first | refine qf ?_ _ | refine qh ?_ | refine qe ?_ _)); exact BK310.out⟩
    have n3_ : qb (IsS112 w0 (((w22.setCell ⟨gb310, 0, none⟩ (.int .i64 1)).setCell ⟨gb310, 1, none⟩ (.int .i64 (wrap64 (2 + t306)))).setCell ⟨gb310, 2, none⟩ (.int .i64 (wrap64 (2 + t308)))) g s0_0 t309) := ⟨jt HI0⟩
    have n4_ : qb (KeepBut w (((w22.setCell ⟨gb310, 0, none⟩ (.int .i64 1)).setCell ⟨gb310, 1, none⟩ (.int .i64 (wrap64 (2 + t306)))).setCell ⟨gb310, 2, none⟩ (.int .i64 (wrap64 (2 + t308)))) g none) := ⟨kx_ HK⟩
    have n5_ : qb (Below w0.heap.size w0 (((w22.setCell ⟨gb310, 0, none⟩ (.int .i64 1)).setCell ⟨gb310, 1, none⟩ (.int .i64 (wrap64 (2 + t306)))).setCell ⟨gb310, 2, none⟩ (.int .i64 (wrap64 (2 + t308))))) := ⟨Qh HB HI0⟩
    (try clear HO_5)
    (try clear BK305)
    (try clear BK310)
    (try clear HI0)
    (try clear HK)
    (try clear HB)
    generalize (((w22.setCell ⟨gb310, 0, none⟩ (.int .i64 1)).setCell ⟨gb310, 1, none⟩ (.int .i64 (wrap64 (2 + t306)))).setCell ⟨gb310, 2, none⟩ (.int .i64 (wrap64 (2 + t308)))) = w27 at n0_ n1_ n2_ n3_ n4_ n5_ ⊢
    have HO_5 := n0_
    have BK305 := n1_
    have BK310 := n2_
    have HI0 := n3_
    have HK := n4_
    have HB := n5_
    clear n0_ n1_ n2_ n3_ n4_ n5_
    replace HO_5 := am (Kd.R_drew HO_5.out)
    replace BK305 := am (qh BK305.out)
    replace BK310 := am (qh BK310.out)
    replace HI0 := am (IsS112.drew HI0.out)
    replace HK := am (qdo HK.out)
    replace HB := am (zc HB.out)
    refine st 8 (fun w' => w'.cell? ⟨gb305, 0, none⟩ = some (.int .i64 1) ∧ w'.cell? ⟨gb305, 1, none⟩ = some (.int .i64 (wrap64 (2 + t301))) ∧ w'.cell? ⟨gb305, 2, none⟩ = some (.int .i64 (wrap64 (2 + t303))) ∧ w'.cell? ⟨gb310, 0, none⟩ = some (.int .i64 1) ∧ w'.cell? ⟨gb310, 1, none⟩ = some (.int .i64 (wrap64 (2 + t306))) ∧ w'.cell? ⟨gb310, 2, none⟩ = some (.int .i64 (wrap64 (2 + t308)))) [] zn.tab8 zn.bits8 (⟨(qa BK305.out 0).trans rfl, (qa BK305.out 1).trans rfl, (qa BK305.out 2).trans rfl, (qa BK310.out 0).trans rfl, (qa BK310.out 1).trans rfl, (qa BK310.out 2).trans rfl⟩) fun hHeld HT_ HW_ => ?_
    generalize w27.drew = w28 at HO_5 BK305 BK310 HI0 HK HB hHeld ⊢
    refine pz 1 50 HT_ ?_; refine tk 3 52 HT_ HW_ hHeld ?_; refine tk 4 53 HT_ HW_ hHeld ?_
    refine join_ (σ := Value × Value × Value) 2 #[true, true, true, true, true, true, false, false] (fun s_ => [(49, s_.1), (51, s_.2.1), (54, s_.2.2)]) (fun s_ w' => (w'.cell? ⟨gb305, 0, none⟩ = some (.int .i64 1) ∧ w'.cell? ⟨gb305, 1, none⟩ = some (.int .i64 (wrap64 (2 + t301))) ∧ w'.cell? ⟨gb305, 2, none⟩ = some (.int .i64 (wrap64 (2 + t303))) ∧ w'.cell? ⟨gb310, 0, none⟩ = some (.int .i64 1) ∧ w'.cell? ⟨gb310, 1, none⟩ = some (.int .i64 (wrap64 (2 + t306))) ∧ w'.cell? ⟨gb310, 2, none⟩ = some (.int .i64 (wrap64 (2 + t308)))) ∧ (Kd.R k43 43 w' w.heap.size (fun k_ => some k_ ≠ (s_.2.2 : Value).ownBlock ∧ some k_ ≠ (.slice Ao26 y284.length co26 : Value).ownBlock ∧ k_ ≠ gb305 ∧ k_ ≠ gb310) s_.2.1 y314) ∧ (Kd.R k43 43 w' w.heap.size (fun k_ => some k_ ≠ (s_.2.1 : Value).ownBlock ∧ some k_ ≠ (.slice Ao26 y284.length co26 : Value).ownBlock ∧ k_ ≠ gb305 ∧ k_ ≠ gb310) s_.2.2 y317) ∧ (Kd.R k43 43 w' w.heap.size (fun k_ => some k_ ≠ (s_.2.1 : Value).ownBlock ∧ some k_ ≠ (s_.2.2 : Value).ownBlock ∧ k_ ≠ gb305 ∧ k_ ≠ gb310) (.slice Ao26 y284.length co26) y284) ∧ (w'.heap[gb305]? = some (.cells #[.int .i64 1, .int .i64 (wrap64 (2 + t301)), .int .i64 (wrap64 (2 + t303))] 43 (0, 0))) ∧ (w'.heap[gb310]? = some (.cells #[.int .i64 1, .int .i64 (wrap64 (2 + t306)), .int .i64 (wrap64 (2 + t308))] 43 (0, 0))) ∧ (IsS112 w0 w' g s0_0 t309) ∧ (KeepBut w w' g none) ∧ (Below w0.heap.size w0 w')) ?_ ?_
    rotate_left
    ·intro hCont
     refine two_ (i := 0) (j := 5) (Ni := some 49) (Nj := some 54) #[true, true, false, true, true, false, false, false] #[false, true, false, true, true, true, false, false] rfl rfl rfl rfl (qj7 HT_.out (by kernel_rfl)) (by decide) (by decide) (fun K hK => ?_) (fun K hK => ?_)
     ·skip
      refine Kd.R_lit_step k43 _ 43 ?hg (N := 49) ?hd (xs := ([] : List (S43))) (inner := []) (ok := fun _ => True) (okp := fun _ => True) ?hr ?hp (fun _ hk => hk) trivial (Below.refl _ _) (Nat.le_refl _) (by simp) ?_; (case hd => rfl); (case hg => rfl); (case hr => first | (go_simp; done) | (go_simp; rfl)); (case hp => exact (Reps.none _ _))
      intro v312 w29 ho30 hb hg_ hnew_
      clear hg_ hnew_
      (first | rw [← Ny311.out] at ho30 | (simp only [Int.reduceToNat] at ho30; rw [← Ny311.out] at ho30))
      have HO313 := am (Kd.R_lower (Kd.R_newB (Kd.R_newB (Kd.R_new' ho30 (Kd.R_lt (wR HO_5))) (g := gb305) (o := .cells #[.int .i64 1, .int .i64 (wrap64 (2 + t301)), .int .i64 (wrap64 (2 + t303))] 43 (0, 0)) (pk_ BK305)) (g := gb310) (o := .cells #[.int .i64 1, .int .i64 (wrap64 (2 + t306)), .int .i64 (wrap64 (2 + t308))] 43 (0, 0)) (pk_ BK310)) (jx (w := w) (g := g) (row := none) (kx_ HK)))
      replace HO_5 := eR HO_5 (Kd.R_base ho30) hb
      replace BK305 := am (qp (g := gb305) (o := .cells #[.int .i64 1, .int .i64 (wrap64 (2 + t301)), .int .i64 (wrap64 (2 + t303))] 43 (0, 0)) (pk_ BK305) hb)
      replace BK310 := am (qp (g := gb310) (o := .cells #[.int .i64 1, .int .i64 (wrap64 (2 + t306)), .int .i64 (wrap64 (2 + t308))] 43 (0, 0)) (pk_ BK310) hb)
      replace HK := am (KeepBut.trans (kx_ HK) (KeepBut.of_below hb g none) (.inl rfl))
      replace HB := am (qo (Qh HB HI0) hb)
      replace HI0 := am (IsS112.below (jt HI0) hb)
      clear hb ho30
      refine hK.out _ _ ⟨(qa BK305.out 0).trans rfl, (qa BK305.out 1).trans rfl, (qa BK305.out 2).trans rfl, (qa BK310.out 0).trans rfl, (qa BK310.out 1).trans rfl, (qa BK310.out 2).trans rfl⟩ fun hHeld => nz ?_
      clear hK K
      refine two_ (i := 2) (j := 5) (Ni := some 51) (Nj := some 54) #[true, true, true, true, true, false, false, false] #[true, true, false, true, true, true, false, false] rfl rfl rfl rfl (qj7 HT_.out (by kernel_rfl)) (by decide) (by decide) (fun K hK => ?_) (fun K hK => ?_)
      ·skip
       refine Kd.R_append_rows_step k43 w.heap.size (by rfl) (.tmp 49) (.tmp 50) 34 43 (.agg #[(.int .i64 0), (.int .i64 0), (.int .i64 0)]) 24 rfl Try.underlying34 qfa rfl (by decide) (by omega) v312 y311 y284 _ _ _ (fun k_ => some k_ ≠ (.slice Ao26 y284.length co26 : Value).ownBlock ∧ k_ ≠ gb305 ∧ k_ ≠ gb310) (fun _ => False) rfl rfl ?aO ?aR (fun _ _ h => h) (fun _ h => h.elim) ?aF (Below.refl _ _) ?aS ?aL ?_
       (case aR => exact Kd.C_below (Kd.R_reads' HO_5.out).2.2 gs)
       (case aF => exact (fun k_ hk => ⟨Kd.fresh' (Kd.R_lt (wR HO_5)) k_ hk, Kd.freshB (g := gb305) (o := .cells #[.int .i64 1, .int .i64 (wrap64 (2 + t301)), .int .i64 (wrap64 (2 + t303))] 43 (0, 0)) (pk_ BK305) k_ hk, Kd.freshB (g := gb310) (o := .cells #[.int .i64 1, .int .i64 (wrap64 (2 + t306)), .int .i64 (wrap64 (2 + t308))] 43 (0, 0)) (pk_ BK310) k_ hk⟩))
       (case aO => exact (oR_ HO313 (fun _ hk => ⟨hk.1.1.2, ⟨hk.1.2, hk.2⟩⟩)))
       (case aS => exact (jx (w := w) (g := g) (row := none) (kx_ HK)))
       (case aL => have := LMc11.out; omega)
       intro v315 w31 ho hb hg hat
       rw [← Ny314.out] at ho
       replace HO_5 := am (Kd.R_after (ok := (fun k_ => k_ ≠ gb305 ∧ k_ ≠ gb310)) (wR HO_5) hg hat)
       replace BK305 := am (Qe (g := gb305) (o := .cells #[.int .i64 1, .int .i64 (wrap64 (2 + t301)), .int .i64 (wrap64 (2 + t303))] 43 (0, 0)) (pk_ BK305) hg (Kd.R_away HO313.out (fun _ hk => hk.1.2)))
       replace BK310 := am (Qe (g := gb310) (o := .cells #[.int .i64 1, .int .i64 (wrap64 (2 + t306)), .int .i64 (wrap64 (2 + t308))] 43 (0, 0)) (pk_ BK310) hg (Kd.R_away HO313.out (fun _ hk => hk.2)))
       replace HB := am (Jb (Qh HB HI0) HL.out hb)
       replace HI0 := am (IsS112.grown (jt HI0) hg (IsS112.own_ne HI0.out HO313.out (by decide)))
       replace HK := am (KeepBut.trans (kx_ HK) (KeepBut.of_grown hg g) (Kd.R_base2 HO313.out))
       have HO316 := am (ho)
       clear HO313; clear ho hb hg hat
       refine hK.out _ _ ⟨(qa BK305.out 0).trans rfl, (qa BK305.out 1).trans rfl, (qa BK305.out 2).trans rfl, (qa BK310.out 0).trans rfl, (qa BK310.out 1).trans rfl, (qa BK310.out 2).trans rfl⟩ fun hHeld => nz ?_
       clear hK K
       refine on 5 (some 54) HT_ fun K hK => ?_
       refine Kd.R_lit_step k43 _ 43 ?hg (N := 54) ?hd (xs := ([(⟨(⟨1, wrap64 (2 + t301), wrap64 (2 + t303)⟩ : S41)⟩ : S43), (⟨(⟨1, wrap64 (2 + t306), wrap64 (2 + t308)⟩ : S41)⟩ : S43)] : List (S43))) (inner := [.int .i64 1, .int .i64 (wrap64 (2 + t301)), .int .i64 (wrap64 (2 + t303)), .int .i64 1, .int .i64 (wrap64 (2 + t306)), .int .i64 (wrap64 (2 + t308))]) (ok := fun _ => True) (okp := fun _ => True) ?hr ?hp (fun _ hk => hk) trivial (Below.refl _ _) (Nat.le_refl _) (by simp) ?_; (case hd => rfl); (case hg => rfl); (case hr => first | (go_simp; done) | (go_simp; rfl)); (case hp => exact (Reps.c3 (show Kd.M k43 _ _ _ (⟨(⟨1, wrap64 (2 + t301), wrap64 (2 + t303)⟩ : S41)⟩ : S43) [.int .i64 1, .int .i64 (wrap64 (2 + t301)), .int .i64 (wrap64 (2 + t303))] from (Zy _ _ _ (⟨(⟨1, wrap64 (2 + t301), wrap64 (2 + t303)⟩ : S41)⟩ : S43) )) (Reps.c3 (show Kd.M k43 _ _ _ (⟨(⟨1, wrap64 (2 + t306), wrap64 (2 + t308)⟩ : S41)⟩ : S43) [.int .i64 1, .int .i64 (wrap64 (2 + t306)), .int .i64 (wrap64 (2 + t308))] from (Zy _ _ _ (⟨(⟨1, wrap64 (2 + t306), wrap64 (2 + t308)⟩ : S41)⟩ : S43) )) (Reps.none _ _))))
       intro v318 w32 ho33 hb hg_ hnew_
       clear hg_ hnew_
       (first | rw [← Ny317.out] at ho33 | (simp only [Int.reduceToNat] at ho33; rw [← Ny317.out] at ho33))
       have HO319 := am (Kd.R_lower (Kd.R_newB (Kd.R_newB (Kd.R_new' (Kd.R_new' ho33 (Kd.R_lt (wR HO_5))) (Kd.R_lt (wR HO316))) (g := gb305) (o := .cells #[.int .i64 1, .int .i64 (wrap64 (2 + t301)), .int .i64 (wrap64 (2 + t303))] 43 (0, 0)) (pk_ BK305)) (g := gb310) (o := .cells #[.int .i64 1, .int .i64 (wrap64 (2 + t306)), .int .i64 (wrap64 (2 + t308))] 43 (0, 0)) (pk_ BK310)) (jx (w := w) (g := g) (row := none) (kx_ HK)))
       replace HO_5 := eR HO_5 (Kd.R_base ho33) hb
       replace HO316 := eR HO316 (Kd.R_base ho33) hb
       replace BK305 := am (qp (g := gb305) (o := .cells #[.int .i64 1, .int .i64 (wrap64 (2 + t301)), .int .i64 (wrap64 (2 + t303))] 43 (0, 0)) (pk_ BK305) hb)
       replace BK310 := am (qp (g := gb310) (o := .cells #[.int .i64 1, .int .i64 (wrap64 (2 + t306)), .int .i64 (wrap64 (2 + t308))] 43 (0, 0)) (pk_ BK310) hb)
       replace HK := am (KeepBut.trans (kx_ HK) (KeepBut.of_below hb g none) (.inl rfl))
       replace HB := am (qo (Qh HB HI0) hb)
       replace HI0 := am (IsS112.below (jt HI0) hb)
       clear hb ho33
       refine hK.out _ _ ⟨(qa BK305.out 0).trans rfl, (qa BK305.out 1).trans rfl, (qa BK305.out 2).trans rfl, (qa BK310.out 0).trans rfl, (qa BK310.out 1).trans rfl, (qa BK310.out 2).trans rfl⟩ fun hHeld => nz ?_
       clear hK K
       exact qec (by first | (simp only [Z1, Act.put, List.setIfInBounds_toArray, List.set_cons_zero, List.set_cons_succ]; done) | (simp only [Z1, Act.put, List.setIfInBounds_toArray, List.set_cons_zero, List.set_cons_succ]; rfl)) (hCont (v312, v315, v318) _ ⟨hHeld, (oR_ HO316 (fun _ hk => ⟨hk.2, ⟨hk.1.1, ⟨hk.1.2.1, hk.1.2.2⟩⟩⟩)), (oR_ HO319 (fun _ hk => ⟨hk.1.1.2, ⟨hk.1.1.1.2, ⟨hk.1.2, hk.2⟩⟩⟩)), (oR_ HO_5 (fun _ hk => ⟨hk.1.2, ⟨hk.2, ⟨hk.1.1.1, hk.1.1.2⟩⟩⟩)), (pk_ BK305), (pk_ BK310), (jt HI0), (kx_ HK), (Qh HB HI0)⟩)
      ·skip
       refine Kd.R_lit_step k43 _ 43 ?hg (N := 54) ?hd (xs := ([(⟨(⟨1, wrap64 (2 + t301), wrap64 (2 + t303)⟩ : S41)⟩ : S43), (⟨(⟨1, wrap64 (2 + t306), wrap64 (2 + t308)⟩ : S41)⟩ : S43)] : List (S43))) (inner := [.int .i64 1, .int .i64 (wrap64 (2 + t301)), .int .i64 (wrap64 (2 + t303)), .int .i64 1, .int .i64 (wrap64 (2 + t306)), .int .i64 (wrap64 (2 + t308))]) (ok := fun _ => True) (okp := fun _ => True) ?hr ?hp (fun _ hk => hk) trivial (Below.refl _ _) (Nat.le_refl _) (by simp) ?_; (case hd => rfl); (case hg => rfl); (case hr => first | (go_simp; done) | (go_simp; rfl)); (case hp => exact (Reps.c3 (show Kd.M k43 _ _ _ (⟨(⟨1, wrap64 (2 + t301), wrap64 (2 + t303)⟩ : S41)⟩ : S43) [.int .i64 1, .int .i64 (wrap64 (2 + t301)), .int .i64 (wrap64 (2 + t303))] from (Zy _ _ _ (⟨(⟨1, wrap64 (2 + t301), wrap64 (2 + t303)⟩ : S41)⟩ : S43) )) (Reps.c3 (show Kd.M k43 _ _ _ (⟨(⟨1, wrap64 (2 + t306), wrap64 (2 + t308)⟩ : S41)⟩ : S43) [.int .i64 1, .int .i64 (wrap64 (2 + t306)), .int .i64 (wrap64 (2 + t308))] from (Zy _ _ _ (⟨(⟨1, wrap64 (2 + t306), wrap64 (2 + t308)⟩ : S41)⟩ : S43) )) (Reps.none _ _))))
       intro v318 w31 ho32 hb hg_ hnew_
       clear hg_ hnew_
       (first | rw [← Ny317.out] at ho32 | (simp only [Int.reduceToNat] at ho32; rw [← Ny317.out] at ho32))
       have HO319 := am (Kd.R_lower (Kd.R_newB (Kd.R_newB (Kd.R_new' (Kd.R_new' ho32 (Kd.R_lt (wR HO_5))) (Kd.R_lt (wR HO313))) (g := gb305) (o := .cells #[.int .i64 1, .int .i64 (wrap64 (2 + t301)), .int .i64 (wrap64 (2 + t303))] 43 (0, 0)) (pk_ BK305)) (g := gb310) (o := .cells #[.int .i64 1, .int .i64 (wrap64 (2 + t306)), .int .i64 (wrap64 (2 + t308))] 43 (0, 0)) (pk_ BK310)) (jx (w := w) (g := g) (row := none) (kx_ HK)))
       replace HO_5 := eR HO_5 (Kd.R_base ho32) hb
       replace HO313 := eR HO313 (Kd.R_base ho32) hb
       replace BK305 := am (qp (g := gb305) (o := .cells #[.int .i64 1, .int .i64 (wrap64 (2 + t301)), .int .i64 (wrap64 (2 + t303))] 43 (0, 0)) (pk_ BK305) hb)
       replace BK310 := am (qp (g := gb310) (o := .cells #[.int .i64 1, .int .i64 (wrap64 (2 + t306)), .int .i64 (wrap64 (2 + t308))] 43 (0, 0)) (pk_ BK310) hb)
       replace HK := am (KeepBut.trans (kx_ HK) (KeepBut.of_below hb g none) (.inl rfl))
       replace HB := am (qo (Qh HB HI0) hb)
       replace HI0 := am (IsS112.below (jt HI0) hb)
       clear hb ho32
       refine hK.out _ _ ⟨(qa BK305.out 0).trans rfl, (qa BK305.out 1).trans rfl, (qa BK305.out 2).trans rfl, (qa BK310.out 0).trans rfl, (qa BK310.out 1).trans rfl, (qa BK310.out 2).trans rfl⟩ fun hHeld => nz ?_
       clear hK K
       refine on 2 (some 51) HT_ fun K hK => ?_
       refine Kd.R_append_rows_step k43 w.heap.size (by rfl) (.tmp 49) (.tmp 50) 34 43 (.agg #[(.int .i64 0), (.int .i64 0), (.int .i64 0)]) 24 rfl Try.underlying34 qfa rfl (by decide) (by omega) v312 y311 y284 _ _ _ (fun k_ => some k_ ≠ (.slice Ao26 y284.length co26 : Value).ownBlock ∧ some k_ ≠ (v318 : Value).ownBlock ∧ k_ ≠ gb305 ∧ k_ ≠ gb310) (fun _ => False) rfl rfl ?aO ?aR (fun _ _ h => h) (fun _ h => h.elim) ?aF (Below.refl _ _) ?aS ?aL ?_
       (case aR => exact Kd.C_below (Kd.R_reads' HO_5.out).2.2 gs)
       (case aF => exact (fun k_ hk => ⟨Kd.fresh' (Kd.R_lt (wR HO_5)) k_ hk, Kd.fresh' (Kd.R_lt (wR HO319)) k_ hk, Kd.freshB (g := gb305) (o := .cells #[.int .i64 1, .int .i64 (wrap64 (2 + t301)), .int .i64 (wrap64 (2 + t303))] 43 (0, 0)) (pk_ BK305) k_ hk, Kd.freshB (g := gb310) (o := .cells #[.int .i64 1, .int .i64 (wrap64 (2 + t306)), .int .i64 (wrap64 (2 + t308))] 43 (0, 0)) (pk_ BK310) k_ hk⟩))
       (case aO => exact (oR_ HO313 (fun _ hk => ⟨hk.1.1.1.2, ⟨hk.2, ⟨hk.1.1.2, hk.1.2⟩⟩⟩)))
       (case aS => exact (jx (w := w) (g := g) (row := none) (kx_ HK)))
       (case aL => have := LMc11.out; omega)
       intro v315 w33 ho hb hg hat
       rw [← Ny314.out] at ho
       replace HO_5 := am (Kd.R_after (ok := (fun k_ => some k_ ≠ (v318 : Value).ownBlock ∧ k_ ≠ gb305 ∧ k_ ≠ gb310)) (oR_ HO_5 (fun _ hk => ⟨⟨hk.2, ⟨hk.1.1.1, hk.1.1.2⟩⟩, hk.1.2⟩)) hg hat)
       replace BK305 := am (Qe (g := gb305) (o := .cells #[.int .i64 1, .int .i64 (wrap64 (2 + t301)), .int .i64 (wrap64 (2 + t303))] 43 (0, 0)) (pk_ BK305) hg (Kd.R_away HO313.out (fun _ hk => hk.1.1.2)))
       replace BK310 := am (Qe (g := gb310) (o := .cells #[.int .i64 1, .int .i64 (wrap64 (2 + t306)), .int .i64 (wrap64 (2 + t308))] 43 (0, 0)) (pk_ BK310) hg (Kd.R_away HO313.out (fun _ hk => hk.1.2)))
       replace HO319 := am (Kd.R_after (ok := (fun k_ => some k_ ≠ (.slice Ao26 y284.length co26 : Value).ownBlock ∧ k_ ≠ gb305 ∧ k_ ≠ gb310)) (oR_ HO319 (fun _ hk => ⟨⟨hk.1.1.1.2, ⟨hk.1.2, hk.2⟩⟩, hk.1.1.2⟩)) hg hat)
       replace HB := am (Jb (Qh HB HI0) HL.out hb)
       replace HI0 := am (IsS112.grown (jt HI0) hg (IsS112.own_ne HI0.out HO313.out (by decide)))
       replace HK := am (KeepBut.trans (kx_ HK) (KeepBut.of_grown hg g) (Kd.R_base2 HO313.out))
       have HO316 := am (ho)
       clear HO313; clear ho hb hg hat
       refine hK.out _ _ ⟨(qa BK305.out 0).trans rfl, (qa BK305.out 1).trans rfl, (qa BK305.out 2).trans rfl, (qa BK310.out 0).trans rfl, (qa BK310.out 1).trans rfl, (qa BK310.out 2).trans rfl⟩ fun hHeld => nz ?_
       clear hK K
       exact qec (by first | (simp only [Z1, Act.put, List.setIfInBounds_toArray, List.set_cons_zero, List.set_cons_succ]; done) | (simp only [Z1, Act.put, List.setIfInBounds_toArray, List.set_cons_zero, List.set_cons_succ]; rfl)) (hCont (v312, v315, v318) _ ⟨hHeld, (oR_ HO316 (fun _ hk => ⟨hk.2.1, ⟨hk.1, ⟨hk.2.2.1, hk.2.2.2⟩⟩⟩)), (oR_ HO319 (fun _ hk => ⟨hk.2, ⟨hk.1.1, ⟨hk.1.2.1, hk.1.2.2⟩⟩⟩)), (oR_ HO_5 (fun _ hk => ⟨hk.2, ⟨hk.1.1, ⟨hk.1.2.1, hk.1.2.2⟩⟩⟩)), (pk_ BK305), (pk_ BK310), (jt HI0), (kx_ HK), (Qh HB HI0)⟩)
     ·skip
      refine Kd.R_lit_step k43 _ 43 ?hg (N := 54) ?hd (xs := ([(⟨(⟨1, wrap64 (2 + t301), wrap64 (2 + t303)⟩ : S41)⟩ : S43), (⟨(⟨1, wrap64 (2 + t306), wrap64 (2 + t308)⟩ : S41)⟩ : S43)] : List (S43))) (inner := [.int .i64 1, .int .i64 (wrap64 (2 + t301)), .int .i64 (wrap64 (2 + t303)), .int .i64 1, .int .i64 (wrap64 (2 + t306)), .int .i64 (wrap64 (2 + t308))]) (ok := fun _ => True) (okp := fun _ => True) ?hr ?hp (fun _ hk => hk) trivial (Below.refl _ _) (Nat.le_refl _) (by simp) ?_; (case hd => rfl); (case hg => rfl); (case hr => first | (go_simp; done) | (go_simp; rfl)); (case hp => exact (Reps.c3 (show Kd.M k43 _ _ _ (⟨(⟨1, wrap64 (2 + t301), wrap64 (2 + t303)⟩ : S41)⟩ : S43) [.int .i64 1, .int .i64 (wrap64 (2 + t301)), .int .i64 (wrap64 (2 + t303))] from (Zy _ _ _ (⟨(⟨1, wrap64 (2 + t301), wrap64 (2 + t303)⟩ : S41)⟩ : S43) )) (Reps.c3 (show Kd.M k43 _ _ _ (⟨(⟨1, wrap64 (2 + t306), wrap64 (2 + t308)⟩ : S41)⟩ : S43) [.int .i64 1, .int .i64 (wrap64 (2 + t306)), .int .i64 (wrap64 (2 + t308))] from (Zy _ _ _ (⟨(⟨1, wrap64 (2 + t306), wrap64 (2 + t308)⟩ : S41)⟩ : S43) )) (Reps.none _ _))))
      intro v318 w29 ho30 hb hg_ hnew_
      clear hg_ hnew_
      (first | rw [← Ny317.out] at ho30 | (simp only [Int.reduceToNat] at ho30; rw [← Ny317.out] at ho30))
      have HO319 := am (Kd.R_lower (Kd.R_newB (Kd.R_newB (Kd.R_new' ho30 (Kd.R_lt (wR HO_5))) (g := gb305) (o := .cells #[.int .i64 1, .int .i64 (wrap64 (2 + t301)), .int .i64 (wrap64 (2 + t303))] 43 (0, 0)) (pk_ BK305)) (g := gb310) (o := .cells #[.int .i64 1, .int .i64 (wrap64 (2 + t306)), .int .i64 (wrap64 (2 + t308))] 43 (0, 0)) (pk_ BK310)) (jx (w := w) (g := g) (row := none) (kx_ HK)))
      replace HO_5 := eR HO_5 (Kd.R_base ho30) hb
      replace BK305 := am (qp (g := gb305) (o := .cells #[.int .i64 1, .int .i64 (wrap64 (2 + t301)), .int .i64 (wrap64 (2 + t303))] 43 (0, 0)) (pk_ BK305) hb)
      replace BK310 := am (qp (g := gb310) (o := .cells #[.int .i64 1, .int .i64 (wrap64 (2 + t306)), .int .i64 (wrap64 (2 + t308))] 43 (0, 0)) (pk_ BK310) hb)
      replace HK := am (KeepBut.trans (kx_ HK) (KeepBut.of_below hb g none) (.inl rfl))
      replace HB := am (qo (Qh HB HI0) hb)
      replace HI0 := am (IsS112.below (jt HI0) hb)
      clear hb ho30
      refine hK.out _ _ ⟨(qa BK305.out 0).trans rfl, (qa BK305.out 1).trans rfl, (qa BK305.out 2).trans rfl, (qa BK310.out 0).trans rfl, (qa BK310.out 1).trans rfl, (qa BK310.out 2).trans rfl⟩ fun hHeld => nz ?_
      clear hK K
      refine on 0 (some 49) HT_ fun K hK => ?_
      refine Kd.R_lit_step k43 _ 43 ?hg (N := 49) ?hd (xs := ([] : List (S43))) (inner := []) (ok := fun _ => True) (okp := fun _ => True) ?hr ?hp (fun _ hk => hk) trivial (Below.refl _ _) (Nat.le_refl _) (by simp) ?_; (case hd => rfl); (case hg => rfl); (case hr => first | (go_simp; done) | (go_simp; rfl)); (case hp => exact (Reps.none _ _))
      intro v312 w31 ho32 hb hg_ hnew_
      clear hg_ hnew_
      (first | rw [← Ny311.out] at ho32 | (simp only [Int.reduceToNat] at ho32; rw [← Ny311.out] at ho32))
      have HO313 := am (Kd.R_lower (Kd.R_newB (Kd.R_newB (Kd.R_new' (Kd.R_new' ho32 (Kd.R_lt (wR HO_5))) (Kd.R_lt (wR HO319))) (g := gb305) (o := .cells #[.int .i64 1, .int .i64 (wrap64 (2 + t301)), .int .i64 (wrap64 (2 + t303))] 43 (0, 0)) (pk_ BK305)) (g := gb310) (o := .cells #[.int .i64 1, .int .i64 (wrap64 (2 + t306)), .int .i64 (wrap64 (2 + t308))] 43 (0, 0)) (pk_ BK310)) (jx (w := w) (g := g) (row := none) (kx_ HK)))
      replace HO_5 := eR HO_5 (Kd.R_base ho32) hb
      replace HO319 := eR HO319 (Kd.R_base ho32) hb
      replace BK305 := am (qp (g := gb305) (o := .cells #[.int .i64 1, .int .i64 (wrap64 (2 + t301)), .int .i64 (wrap64 (2 + t303))] 43 (0, 0)) (pk_ BK305) hb)
      replace BK310 := am (qp (g := gb310) (o := .cells #[.int .i64 1, .int .i64 (wrap64 (2 + t306)), .int .i64 (wrap64 (2 + t308))] 43 (0, 0)) (pk_ BK310) hb)
      replace HK := am (KeepBut.trans (kx_ HK) (KeepBut.of_below hb g none) (.inl rfl))
      replace HB := am (qo (Qh HB HI0) hb)
      replace HI0 := am (IsS112.below (jt HI0) hb)
      clear hb ho32
      refine hK.out _ _ ⟨(qa BK305.out 0).trans rfl, (qa BK305.out 1).trans rfl, (qa BK305.out 2).trans rfl, (qa BK310.out 0).trans rfl, (qa BK310.out 1).trans rfl, (qa BK310.out 2).trans rfl⟩ fun hHeld => nz ?_
      clear hK K
      refine on 2 (some 51) HT_ fun K hK => ?_
      refine Kd.R_append_rows_step k43 w.heap.size (by rfl) (.tmp 49) (.tmp 50) 34 43 (.agg #[(.int .i64 0), (.int .i64 0), (.int .i64 0)]) 24 rfl Try.underlying34 qfa rfl (by decide) (by omega) v312 y311 y284 _ _ _ (fun k_ => some k_ ≠ (.slice Ao26 y284.length co26 : Value).ownBlock ∧ some k_ ≠ (v318 : Value).ownBlock ∧ k_ ≠ gb305 ∧ k_ ≠ gb310) (fun _ => False) rfl rfl ?aO ?aR (fun _ _ h => h) (fun _ h => h.elim) ?aF (Below.refl _ _) ?aS ?aL ?_
      (case aR => exact Kd.C_below (Kd.R_reads' HO_5.out).2.2 gs)
      (case aF => exact (fun k_ hk => ⟨Kd.fresh' (Kd.R_lt (wR HO_5)) k_ hk, Kd.fresh' (Kd.R_lt (wR HO319)) k_ hk, Kd.freshB (g := gb305) (o := .cells #[.int .i64 1, .int .i64 (wrap64 (2 + t301)), .int .i64 (wrap64 (2 + t303))] 43 (0, 0)) (pk_ BK305) k_ hk, Kd.freshB (g := gb310) (o := .cells #[.int .i64 1, .int .i64 (wrap64 (2 + t306)), .int .i64 (wrap64 (2 + t308))] 43 (0, 0)) (pk_ BK310) k_ hk⟩))
      (case aO => exact (oR_ HO313 (fun _ hk => ⟨hk.1.1.1.2, ⟨hk.1.1.2, ⟨hk.1.2, hk.2⟩⟩⟩)))
      (case aS => exact (jx (w := w) (g := g) (row := none) (kx_ HK)))
      (case aL => have := LMc11.out; omega)
      intro v315 w33 ho hb hg hat
      rw [← Ny314.out] at ho
      replace HO_5 := am (Kd.R_after (ok := (fun k_ => some k_ ≠ (v318 : Value).ownBlock ∧ k_ ≠ gb305 ∧ k_ ≠ gb310)) (oR_ HO_5 (fun _ hk => ⟨⟨hk.1.2, ⟨hk.1.1.1, hk.1.1.2⟩⟩, hk.2⟩)) hg hat)
      replace BK305 := am (Qe (g := gb305) (o := .cells #[.int .i64 1, .int .i64 (wrap64 (2 + t301)), .int .i64 (wrap64 (2 + t303))] 43 (0, 0)) (pk_ BK305) hg (Kd.R_away HO313.out (fun _ hk => hk.1.2)))
      replace BK310 := am (Qe (g := gb310) (o := .cells #[.int .i64 1, .int .i64 (wrap64 (2 + t306)), .int .i64 (wrap64 (2 + t308))] 43 (0, 0)) (pk_ BK310) hg (Kd.R_away HO313.out (fun _ hk => hk.2)))
      replace HO319 := am (Kd.R_after (ok := (fun k_ => some k_ ≠ (.slice Ao26 y284.length co26 : Value).ownBlock ∧ k_ ≠ gb305 ∧ k_ ≠ gb310)) (oR_ HO319 (fun _ hk => ⟨⟨hk.1.1.1.2, ⟨hk.1.1.2, hk.1.2⟩⟩, hk.2⟩)) hg hat)
      replace HB := am (Jb (Qh HB HI0) HL.out hb)
      replace HI0 := am (IsS112.grown (jt HI0) hg (IsS112.own_ne HI0.out HO313.out (by decide)))
      replace HK := am (KeepBut.trans (kx_ HK) (KeepBut.of_grown hg g) (Kd.R_base2 HO313.out))
      have HO316 := am (ho)
      clear HO313; clear ho hb hg hat
      refine hK.out _ _ ⟨(qa BK305.out 0).trans rfl, (qa BK305.out 1).trans rfl, (qa BK305.out 2).trans rfl, (qa BK310.out 0).trans rfl, (qa BK310.out 1).trans rfl, (qa BK310.out 2).trans rfl⟩ fun hHeld => nz ?_
      clear hK K
      exact qec (by first | (simp only [Z1, Act.put, List.setIfInBounds_toArray, List.set_cons_zero, List.set_cons_succ]; done) | (simp only [Z1, Act.put, List.setIfInBounds_toArray, List.set_cons_zero, List.set_cons_succ]; rfl)) (hCont (v312, v315, v318) _ ⟨hHeld, (oR_ HO316 (fun _ hk => ⟨hk.2.1, ⟨hk.1, ⟨hk.2.2.1, hk.2.2.2⟩⟩⟩)), (oR_ HO319 (fun _ hk => ⟨hk.2, ⟨hk.1.1, ⟨hk.1.2.1, hk.1.2.2⟩⟩⟩)), (oR_ HO_5 (fun _ hk => ⟨hk.2, ⟨hk.1.1, ⟨hk.1.2.1, hk.1.2.2⟩⟩⟩)), (pk_ BK305), (pk_ BK310), (jt HI0), (kx_ HK), (Qh HB HI0)⟩)
    rintro ⟨v312, v315, v318⟩ w34 ⟨hS_, h0_, h1_, h2_, h3_, h4_, h5_, h6_, h7_⟩
    have n0_ : qb (Kd.R k43 43 w34 w.heap.size (fun k_ => some k_ ≠ (v318 : Value).ownBlock ∧ some k_ ≠ (.slice Ao26 y284.length co26 : Value).ownBlock ∧ k_ ≠ gb305 ∧ k_ ≠ gb310) v315 y314) := ⟨h0_⟩
    have n1_ : qb (Kd.R k43 43 w34 w.heap.size (fun k_ => some k_ ≠ (v315 : Value).ownBlock ∧ some k_ ≠ (.slice Ao26 y284.length co26 : Value).ownBlock ∧ k_ ≠ gb305 ∧ k_ ≠ gb310) v318 y317) := ⟨h1_⟩
    have n2_ : qb (Kd.R k43 43 w34 w.heap.size (fun k_ => some k_ ≠ (v315 : Value).ownBlock ∧ some k_ ≠ (v318 : Value).ownBlock ∧ k_ ≠ gb305 ∧ k_ ≠ gb310) (.slice Ao26 y284.length co26) y284) := ⟨h2_⟩
    have n3_ : qb (w34.heap[gb305]? = some (.cells #[.int .i64 1, .int .i64 (wrap64 (2 + t301)), .int .i64 (wrap64 (2 + t303))] 43 (0, 0))) := ⟨h3_⟩
    have n4_ : qb (w34.heap[gb310]? = some (.cells #[.int .i64 1, .int .i64 (wrap64 (2 + t306)), .int .i64 (wrap64 (2 + t308))] 43 (0, 0))) := ⟨h4_⟩
    have n5_ : qb (IsS112 w0 w34 g s0_0 t309) := ⟨h5_⟩
    have n6_ : qb (KeepBut w w34 g none) := ⟨h6_⟩
    have n7_ : qb (Below w0.heap.size w0 w34) := ⟨h7_⟩
    clear HO_5; clear BK305; clear BK310; clear HI0; clear HK; clear HB; clear h0_ h1_ h2_ h3_ h4_ h5_ h6_ h7_
    have HO316 := n0_
    have HO319 := n1_
    have HO_5 := n2_
    have BK305 := n3_
    have BK310 := n4_
    have HI0 := n5_
    have HK := n6_
    have HB := n7_
    clear n0_ n1_ n2_ n3_ n4_ n5_ n6_ n7_
    have hHeld : w34.cell? ⟨gb305, 0, none⟩ = some (.int .i64 1) ∧ w34.cell? ⟨gb305, 1, none⟩ = some (.int .i64 (wrap64 (2 + t301))) ∧ w34.cell? ⟨gb305, 2, none⟩ = some (.int .i64 (wrap64 (2 + t303))) ∧ w34.cell? ⟨gb310, 0, none⟩ = some (.int .i64 1) ∧ w34.cell? ⟨gb310, 1, none⟩ = some (.int .i64 (wrap64 (2 + t306))) ∧ w34.cell? ⟨gb310, 2, none⟩ = some (.int .i64 (wrap64 (2 + t308))) := hS_
    obtain ⟨Ao36, co36, eo36⟩ := Kd.R_slice HO319.out
    (first | subst eo36 | (injection eo36 with f1_ f2_ f3_; have f4_ := f1_.symm; have f5_ := f3_.symm; clear f1_ f2_ f3_; subst f4_; subst f5_))
    refine qec (a' := ?_) ?_ ?_
    rotate_left
    ·simp only [Z1, Act.put, List.setIfInBounds_toArray, List.set_cons_zero, List.set_cons_succ]
     rfl
    refine on 6 (some 55) HT_ fun K hK => ?_
    refine Kd.R_append_rows_step k43 w.heap.size (by rfl) (.tmp 51) (.tmp 54) 34 43 (.agg #[(.int .i64 0), (.int .i64 0), (.int .i64 0)]) 24 rfl Try.underlying34 qfa rfl (by decide) (by omega) v315 y314 y317 _ _ _ (fun k_ => some k_ ≠ (.slice Ao26 y284.length co26 : Value).ownBlock ∧ some k_ ≠ (.slice Ao36 y317.length co36 : Value).ownBlock ∧ k_ ≠ gb305 ∧ k_ ≠ gb310) (fun _ => False) rfl rfl ?aO ?aR (fun _ _ h => h) (fun _ h => h.elim) ?aF (Below.refl _ _) ?aS ?aL ?_
    (case aR => exact Kd.C_below (Kd.R_reads' HO319.out).2.2 gs)
    (case aF => exact (fun k_ hk => ⟨Kd.fresh' (Kd.R_lt (wR HO_5)) k_ hk, Kd.fresh' (Kd.R_lt (wR HO319)) k_ hk, Kd.freshB (g := gb305) (o := .cells #[.int .i64 1, .int .i64 (wrap64 (2 + t301)), .int .i64 (wrap64 (2 + t303))] 43 (0, 0)) (pk_ BK305) k_ hk, Kd.freshB (g := gb310) (o := .cells #[.int .i64 1, .int .i64 (wrap64 (2 + t306)), .int .i64 (wrap64 (2 + t308))] 43 (0, 0)) (pk_ BK310) k_ hk⟩))
    (case aO => exact (oR_ HO316 (fun _ hk => ⟨hk.2.1, ⟨hk.1, ⟨hk.2.2.1, hk.2.2.2⟩⟩⟩)))
    (case aS => exact (jx (w := w) (g := g) (row := none) (kx_ HK)))
    (case aL => have := LMc12.out; omega)
    intro v321 w35 ho hb hg hat
    rw [← Ny320.out] at ho
    replace HO_5 := am (Kd.R_after (ok := (fun k_ => some k_ ≠ (.slice Ao36 y317.length co36 : Value).ownBlock ∧ k_ ≠ gb305 ∧ k_ ≠ gb310)) (oR_ HO_5 (fun _ hk => ⟨⟨hk.2.1, ⟨hk.2.2.1, hk.2.2.2⟩⟩, hk.1⟩)) hg hat)
    replace BK305 := am (Qe (g := gb305) (o := .cells #[.int .i64 1, .int .i64 (wrap64 (2 + t301)), .int .i64 (wrap64 (2 + t303))] 43 (0, 0)) (pk_ BK305) hg (Kd.R_away HO316.out (fun _ hk => hk.2.2.1)))
    replace BK310 := am (Qe (g := gb310) (o := .cells #[.int .i64 1, .int .i64 (wrap64 (2 + t306)), .int .i64 (wrap64 (2 + t308))] 43 (0, 0)) (pk_ BK310) hg (Kd.R_away HO316.out (fun _ hk => hk.2.2.2)))
    replace HO319 := am (Kd.R_after (ok := (fun k_ => some k_ ≠ (.slice Ao26 y284.length co26 : Value).ownBlock ∧ k_ ≠ gb305 ∧ k_ ≠ gb310)) (oR_ HO319 (fun _ hk => ⟨⟨hk.2.1, ⟨hk.2.2.1, hk.2.2.2⟩⟩, hk.1⟩)) hg hat)
    replace HB := am (Jb (Qh HB HI0) HL.out hb)
    replace HI0 := am (IsS112.grown (jt HI0) hg (IsS112.own_ne HI0.out HO316.out (by decide)))
    replace HK := am (KeepBut.trans (kx_ HK) (KeepBut.of_grown hg g) (Kd.R_base2 HO316.out))
    have HO322 := am (ho)
    clear HO316; clear ho hb hg hat
    refine hK.out _ _ ⟨(qa BK305.out 0).trans rfl, (qa BK305.out 1).trans rfl, (qa BK305.out 2).trans rfl, (qa BK310.out 0).trans rfl, (qa BK310.out 1).trans rfl, (qa BK310.out 2).trans rfl⟩ fun hHeld => nz ?_
    clear hK K; refine pz 7 9 HT_ ?_
    refine Q4 (Qg HT_.out (by kernel_rfl)) ?_
    obtain ⟨Ao37, co37, eo37⟩ := Kd.R_slice HO322.out
    subst eo37
    by_cases c14 : t323 = true
    ·have H := HQ_.out; clear HQ_
     subst c14
     rw [if_pos rfl] at H
     simp only [Option.some.injEq, Prod.mk.injEq] at H
     obtain ⟨rfl, rfl, rfl⟩ := H
     try go_wp2_with (first | ((with_reducible refine qj (f := 62) rfl ?_); refine gl 58 Try.func62 #[.int .i64 t282, .slice Ao37 y320.length co37] ?_; (with_reducible refine (zq.calls k1 t282 _ _ y320 true _ ?side1 ?side2 A13.out).mono ?_); (case side1 => exact Kd.C_below (Kd.R_reads' HO322.out).2.2 gs); (case side2 => exact (Kd.R_reads' HO322.out).2.1); rintro e w38 ⟨rfl, hb⟩; refine ⟨_, rfl, ?_⟩; replace HO_5 := am (Kd.R_below (wR HO_5) hb); replace HO319 := am (Kd.R_below (wR HO319) hb); replace HO322 := am (Kd.R_below (wR HO322) hb); replace BK305 := am (qp (g := gb305) (o := .cells #[.int .i64 1, .int .i64 (wrap64 (2 + t301)), .int .i64 (wrap64 (2 + t303))] 43 (0, 0)) (pk_ BK305) hb); replace BK310 := am (qp (g := gb310) (o := .cells #[.int .i64 1, .int .i64 (wrap64 (2 + t306)), .int .i64 (wrap64 (2 + t308))] 43 (0, 0)) (pk_ BK310) hb); replace HK := am (KeepBut.trans (kx_ HK) (KeepBut.of_below hb g none) (.inl rfl)); replace HB := am (qo (Qh HB HI0) hb); replace HI0 := am (IsS112.below (jt HI0) hb); (try clear hb); (try clear hb2); (try clear hk); (try clear hi)))
     go_ret2
     exact ⟨_, fq, Kd.R_below (Kd.R_mono HO322.out (fun _ hk => trivial)) gs, jt HI0, Qh HB HI0, kx_ HK⟩
    ·have H := HQ_.out; clear HQ_
     replace c14 := Bool.eq_false_iff.mpr c14
     subst c14
     rw [if_neg (show ¬ (false = true) by decide)] at H
     have H' := am H; clear H
     try go_wp2_with (first | ((with_reducible refine qj (f := 62) rfl ?_); refine gl 58 Try.func62 #[.int .i64 t282, .slice Ao37 y320.length co37] ?_; (with_reducible refine (zq.calls k1 t282 _ _ y320 false _ ?side1 ?side2 A13.out).mono ?_); (case side1 => exact Kd.C_below (Kd.R_reads' HO322.out).2.2 gs); (case side2 => exact (Kd.R_reads' HO322.out).2.1); rintro e w62 ⟨rfl, hb⟩; refine ⟨_, rfl, ?_⟩; replace HO_5 := am (Kd.R_below (wR HO_5) hb); replace HO319 := am (Kd.R_below (wR HO319) hb); replace HO322 := am (Kd.R_below (wR HO322) hb); replace BK305 := am (qp (g := gb305) (o := .cells #[.int .i64 1, .int .i64 (wrap64 (2 + t301)), .int .i64 (wrap64 (2 + t303))] 43 (0, 0)) (pk_ BK305) hb); replace BK310 := am (qp (g := gb310) (o := .cells #[.int .i64 1, .int .i64 (wrap64 (2 + t306)), .int .i64 (wrap64 (2 + t308))] 43 (0, 0)) (pk_ BK310) hb); replace HK := am (KeepBut.trans (kx_ HK) (KeepBut.of_below hb g none) (.inl rfl)); replace HB := am (qo (Qh HB HI0) hb); replace HI0 := am (IsS112.below (jt HI0) hb); (try clear hb); (try clear hb2); (try clear hk); (try clear hi)))
     go_roundg k1
     case measure => have := HK1.out; omega
     case rel => exact ⟨(wrap64 (x6_1 + 1)), (t309), fr, H', ⟨by have := HK1.out; omega⟩, ⟨Kd.R_below (Kd.R_mono HO_5.out (fun _ hk => trivial)) gs⟩, ⟨jt HI0⟩, ⟨kx_ HK⟩, ⟨Qh HB HI0⟩⟩
   ·rw [if_neg c6] at H
    have c6b0 := decide_eq_false c6; clear c6; replace H := bs H
    obtain ⟨⟨t287, t288, t289, t290⟩, A63, H⟩ := H
    dsimp only at H
    replace H := bs H
    obtain ⟨⟨t291, t292, t293, t294⟩, A64, H⟩ := H
    dsimp only at H
    replace H := bsy H; obtain ⟨y295, Ny295, H⟩ := H
    by_cases c65 : y284.length + y295.length < 5864062014805
    ·rw [if_pos c65] at H
     have LMc65 := am c65; clear c65
     generalize hy298 : (y284 ++ y295 : List (S43)) = y298 at H
     have Ny298 := am hy298.symm; clear hy298
     simp only [Option.some.injEq, Prod.mk.injEq] at H
     obtain ⟨rfl, rfl, rfl⟩ := H
     go_wp2_with (first | ((with_reducible refine qj (f := 72) rfl ?_); refine gl 65 Try.func72 #[.pointer (some ⟨g, 0, none⟩), .int .i64 t282] ?_; (with_reducible refine (jm.calls k1 g s0_0 x1001_1 t282 t287 t288 t289 t290 w0 _ ?_ ?_ A63.out).mono ?_); (· repeat (first | (with_reducible first | exact HI0.out | apply IsS112.alloc | apply IsS112.drewN | apply IsS112.drew | apply IsS112.set_1) | exact HI0.out)); (· repeat (first | (with_reducible first | exact HB.out | apply zo | apply zg | apply zc | refine z6 ?_ (IsS112.ge HI0.out)) | exact HB.out)); rintro e w66 ⟨rfl, hi, hb, hk⟩; refine ⟨_, rfl, ?_⟩; replace HO_5 := am (Kd.R_mono (Kd.R_keep (IsS112.apart (show IsS112 w0 _ g s0_0 x1001_1 from jt HI0) (wR HO_5) (by decide)) hk (fun _ h => h.2)) (fun _ h => h.1)); replace HK := am (KeepBut.trans (kw HK) hk (.inl rfl)); replace HB := am (hb); replace HI0 := am (hi); (try clear hb); (try clear hk); (try clear hi)) | ((with_reducible refine qj (f := 72) rfl ?_); refine gl 68 Try.func72 #[.pointer (some ⟨g, 0, none⟩), .int .i64 t282] ?_; (with_reducible refine (jm.calls k1 g s0_0 t290 t282 t291 t292 t293 t294 w0 _ ?_ ?_ A64.out).mono ?_); (· repeat (first | (with_reducible first | exact HI0.out | apply IsS112.alloc | apply IsS112.drewN | apply IsS112.drew | apply IsS112.set_1) | exact HI0.out)); (· repeat (first | (with_reducible first | exact HB.out | apply zo | apply zg | apply zc | refine z6 ?_ (IsS112.ge HI0.out)) | exact HB.out)); rintro e w67 ⟨rfl, hi, hb, hk⟩; refine ⟨_, rfl, ?_⟩; replace HO_5 := am (Kd.R_mono (Kd.R_keep (IsS112.apart (show IsS112 w0 _ g s0_0 t290 from jt HI0) (wR HO_5) (by decide)) hk (fun _ h => h.2)) (fun _ h => h.1)); replace HK := am (KeepBut.trans (kw HK) hk (.inl rfl)); replace HB := am (hb); replace HI0 := am (hi); (try clear hb); (try clear hk); (try clear hi)) | ((with_reducible refine q6 (N := 69) rfl ?_); refine Kd.R_lit k43 _ 43 ?hg (N := 69) ?hd (xs := ([(⟨(⟨t287, t288, t289⟩ : S41)⟩ : S43), (⟨(⟨t291, t292, t293⟩ : S41)⟩ : S43)] : List (S43))) (inner := [.int .i64 t287, .int .i64 t288, .int .i64 t289, .int .i64 t291, .int .i64 t292, .int .i64 t293]) (ok := fun _ => True) (okp := fun _ => True) ?hr ?hp (fun _ hk => hk) trivial (Below.refl _ _) (Nat.le_refl _) (by simp) ?_; (case hd => rfl); (case hg => rfl); (case hr => first | (go_simp; done) | (go_simp; rfl)); (case hp => exact (Reps.c3 (show Kd.M k43 _ _ _ (⟨(⟨t287, t288, t289⟩ : S41)⟩ : S43) [.int .i64 t287, .int .i64 t288, .int .i64 t289] from (Zy _ _ _ (⟨(⟨t287, t288, t289⟩ : S41)⟩ : S43) )) (Reps.c3 (show Kd.M k43 _ _ _ (⟨(⟨t291, t292, t293⟩ : S41)⟩ : S43) [.int .i64 t291, .int .i64 t292, .int .i64 t293] from (Zy _ _ _ (⟨(⟨t291, t292, t293⟩ : S41)⟩ : S43) )) (Reps.none _ _)))); intro v296 w68 ho69 hb hg_ hnew_; clear hg_ hnew_; (first | rw [← Ny295.out] at ho69 | (simp only [Int.reduceToNat] at ho69; rw [← Ny295.out] at ho69)); have HO297 := am (Kd.R_lower (Kd.R_new' ho69 (Kd.R_lt (wR HO_5))) (jx (w := w) (g := g) (row := none) (kw HK))); replace HO_5 := eR HO_5 (Kd.R_base ho69) hb; replace HK := am (KeepBut.trans (kw HK) (KeepBut.of_below hb g none) (.inl rfl)); replace HB := am (qo (Qh HB HI0) hb); replace HI0 := am (IsS112.below (jt HI0) hb); clear hb ho69; obtain ⟨Ao71, co71, eo71⟩ := Kd.R_slice HO297.out; subst eo71) | ((with_reducible refine jp (b := .append) (xs := #[.tmp 62, .tmp 69]) rfl ?_); at_builtin; refine Kd.R_append_rows k43 w.heap.size rfl (.tmp 62) (.tmp 69) 34 43 (.agg #[(.int .i64 0), (.int .i64 0), (.int .i64 0)]) 24 rfl Try.underlying34 qfa rfl (by decide) (by omega) v285 y284 y295 _ _ _ (fun k_ => some k_ ≠ (.slice Ao71 y295.length co71 : Value).ownBlock) (fun _ => False) rfl rfl ?aO ?aR (fun _ _ h => h) (fun _ h => h.elim) ?aF (Below.refl _ _) ?aS ?aL ?_; (case aR => exact Kd.C_below (Kd.R_reads' HO297.out).2.2 gs); (case aF => exact (fun k_ hk => Kd.fresh' (Kd.R_lt (wR HO297)) k_ hk)); (case aO => exact (oR_ HO_5 (fun _ hk => hk.2))); (case aS => exact (jx (w := w) (g := g) (row := none) (kw HK))); (case aL => have := LMc65.out; omega); intro v299 w70 ho hb hg hat; rw [← Ny298.out] at ho; replace HO297 := am (Kd.R_after (ok := (fun _ => True)) (wR HO297) hg hat); replace HB := am (Jb (Qh HB HI0) HL.out hb); replace HI0 := am (IsS112.grown (jt HI0) hg (IsS112.own_ne HI0.out HO_5.out (by decide))); replace HK := am (KeepBut.trans (kw HK) (KeepBut.of_grown hg g) (Kd.R_base2 HO_5.out)); have HO300 := am (ho); clear HO_5; clear ho hb hg hat))
     go_ret2
     exact ⟨_, fq, Kd.R_below (Kd.R_mono HO300.out (fun _ hk => trivial)) gs, jt HI0, Qh HB HI0, kw HK⟩
    ·rw [if_neg c65] at H
     exact absurd H (by simp)
end Go.Proofs.Ytmgbpmihbljngaa.PA

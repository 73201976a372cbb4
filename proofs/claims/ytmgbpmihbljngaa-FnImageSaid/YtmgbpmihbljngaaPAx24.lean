-- Written by xprint.py, a program of this claim's own (over the kit's print.py)
import Derived.Test.YtmgbpmihbljngaaPAx20
import Derived.Test.YtmgbpmihbljngaaPAx23
namespace Go.Proofs.Ytmgbpmihbljngaa.PA
open Go.RowKit Go.Proofs.YtmgbpmihbljngaaW.PrintWords Go.Proofs.YtmgbpmihbljngaaW.PrintLast Go.Proofs.YtmgbpmihbljngaaW.PrintMore
attribute [local go_sem] j8 j9 Qi Qj jw jy Qa Qb
set_option linter.unusedVariables false
set_option linter.unusedSimpArgs false
mutual
def laws_FnImage.j0 : Nat → Int → List (S43) → List Int → Bool → List Int → Bool → Bool → Int → Int → Int → Option (Bool)
 | 0, _, _, _, _, _, _, _, _, _, _ => none
 | k + 1, x3, x4, x6, x7, x8, x9, x53, x577000, x577001, x577002 => if x53 = true then (if (x7 == x9) = true then ((q9.f k x6 x8).bind fun t586 => (some t586)) else (some false)) else ((jk.f k x3 x4).bind fun bt587 => (laws_FnImage.l0 k x3 x4 x6 bt587.1 bt587.2 0 x577000 x577001 x577002))
def laws_FnImage.l0 : Nat → Int → List (S43) → List Int → List (List Int) → Bool → Int → Int → Int → Int → Option (Bool)
 | 0, _, _, _, _, _, _, _, _, _ => none
 | k + 1, x3, x4, x6, x10, x11, x12, x577000, x577001, x577002 => if x12 < 4 then (laws_FnImage.j2 k x3 x4 x6 x10 x11 x12 x11 x577000 x577001 x577002) else (laws_FnImage.j2 k x3 x4 x6 x10 x11 x12 false x577000 x577001 x577002)
def laws_FnImage.j2 : Nat → Int → List (S43) → List Int → List (List Int) → Bool → Int → Bool → Int → Int → Int → Option (Bool)
 | 0, _, _, _, _, _, _, _, _, _, _ => none
 | k + 1, x3, x4, x6, x10, x11, x12, x72, x577000, x577001, x577002 => if x72 = true then (laws_FnImage.l1 k x3 x4 x6 x10 x11 x12 0 x577000 x577001 x577002) else (if x11 = true then ((Je.f x3 x6).bind fun t591 => (if t591 = true then ((jg.f k x3 x4 x6).bind fun t592 => (some t592)) else (some false))) else (some false))
def laws_FnImage.l1 : Nat → Int → List (S43) → List Int → List (List Int) → Bool → Int → Int → Int → Int → Int → Option (Bool)
 | 0, _, _, _, _, _, _, _, _, _, _ => none
 | k + 1, x3, x4, x6, x10, x11, x12, x13, x577000, x577001, x577002 => if x13 < 4 then (if 0 ≤ x12 then (if x12 < (x10.length : Int) then ((qz.f k x3 (jl x10 x12) x577000 x577001 x577002).bind fun bt594 => (if 0 ≤ x13 then (if x13 < (x10.length : Int) then ((qz.f k x3 (jl x10 x13) x577000 x577001 x577002).bind fun bt597 => (if bt594.2 = true then (if bt597.2 = true then (if x13 < (x6.length : Int) then (if x12 < (x6.length : Int) then (if x3 = 0 then (none) else (if (Int.tmod (wrap64 ((wrap64 (bt594.1 * (rd x6 x13))) - (wrap64 (bt597.1 * (rd x6 x12))))) x3) = 0 then (laws_FnImage.l1 k x3 x4 x6 x10 x11 x12 (wrap64 (x13 + 1)) x577000 x577001 x577002) else (some false))) else (none)) else (none)) else (some false)) else (some false))) else (none)) else (none))) else (none)) else (none)) else (laws_FnImage.l0 k x3 x4 x6 x10 x11 (wrap64 (x12 + 1)) x577000 x577001 x577002)
end
def laws_FnImage.f (k : Nat) (l0 : List Int) : Option (Bool) := if (l0.length : Int) > 1048576 then (some true) else ((qx.f k l0).bind fun bt569 => ((qu.f k bt569.1 bt569.2.1 bt569.2.2.1 bt569.2.2.2.1 bt569.2.2.2.2).bind fun bt577 => ((qy.f k bt569.1 bt569.2.1 bt569.2.2.1 bt569.2.2.2.1 bt569.2.2.2.2).bind fun bt581 => (if (bt577.2 != bt581.2) = true then (laws_FnImage.j0 k bt569.1 bt569.2.1 bt577.1 bt577.2 bt581.1 bt581.2 true bt569.2.2.1 bt569.2.2.2.1 bt569.2.2.2.2) else ((q9.f k bt577.1 bt581.1).bind fun t585 => (if t585 = true then (laws_FnImage.j0 k bt569.1 bt569.2.1 bt577.1 bt577.2 bt581.1 bt581.2 (!bt577.2) bt569.2.2.1 bt569.2.2.2.1 bt569.2.2.2.2) else (laws_FnImage.j0 k bt569.1 bt569.2.1 bt577.1 bt577.2 bt581.1 bt581.2 true bt569.2.2.1 bt569.2.2.2.1 bt569.2.2.2.2)))))))
theorem laws_FnImage.mono_l : ∀ k, (∀ y0 y1 y2 y3 y4 y5 y6 y7 y8 y9, LeO (laws_FnImage.j0 k y0 y1 y2 y3 y4 y5 y6 y7 y8 y9) (laws_FnImage.j0 (k + 1) y0 y1 y2 y3 y4 y5 y6 y7 y8 y9)) ∧ (∀ y0 y1 y2 y3 y4 y5 y6 y7 y8, LeO (laws_FnImage.l0 k y0 y1 y2 y3 y4 y5 y6 y7 y8) (laws_FnImage.l0 (k + 1) y0 y1 y2 y3 y4 y5 y6 y7 y8)) ∧ (∀ y0 y1 y2 y3 y4 y5 y6 y7 y8 y9, LeO (laws_FnImage.j2 k y0 y1 y2 y3 y4 y5 y6 y7 y8 y9) (laws_FnImage.j2 (k + 1) y0 y1 y2 y3 y4 y5 y6 y7 y8 y9)) ∧ (∀ y0 y1 y2 y3 y4 y5 y6 y7 y8 y9, LeO (laws_FnImage.l1 k y0 y1 y2 y3 y4 y5 y6 y7 y8 y9) (laws_FnImage.l1 (k + 1) y0 y1 y2 y3 y4 y5 y6 y7 y8 y9))
 | 0 => ⟨fun _ _ _ _ _ _ _ _ _ _ r h => by simp [laws_FnImage.j0] at h, fun _ _ _ _ _ _ _ _ _ r h => by simp [laws_FnImage.l0] at h, fun _ _ _ _ _ _ _ _ _ _ r h => by simp [laws_FnImage.j2] at h, fun _ _ _ _ _ _ _ _ _ _ r h => by simp [laws_FnImage.l1] at h⟩
 | k + 1 => by
  obtain ⟨ih0, ih1, ih2, ih3⟩ := laws_FnImage.mono_l k
  refine ⟨?_, ?_, ?_, ?_⟩
  ·intro y0 y1 y2 y3 y4 y5 y6 y7 y8 y9
   unfold laws_FnImage.j0
   repeat' first | (with_reducible first | apply ih0 | apply ih1 | apply ih2 | apply ih3 | apply jk.mono | apply qu.mono | apply qz.mono | apply jg.mono | apply q9.mono | apply qy.mono | apply qx.mono | exact LeO.refl _ | exact LeO.none _ | refine LeO.ite ?_ ?_ | refine LeO.bind ?_ (fun _ => ?_)) | (first | apply ih0 | apply ih1 | apply ih2 | apply ih3 | apply jk.mono | apply qu.mono | apply qz.mono | apply jg.mono | apply q9.mono | apply qy.mono | apply qx.mono | exact LeO.none _ | refine LeO.ite ?_ ?_ | refine LeO.bind ?_ (fun _ => ?_))
  ·intro y0 y1 y2 y3 y4 y5 y6 y7 y8
   unfold laws_FnImage.l0
   repeat' first | (with_reducible first | apply ih0 | apply ih1 | apply ih2 | apply ih3 | apply jk.mono | apply qu.mono | apply qz.mono | apply jg.mono | apply q9.mono | apply qy.mono | apply qx.mono | exact LeO.refl _ | exact LeO.none _ | refine LeO.ite ?_ ?_ | refine LeO.bind ?_ (fun _ => ?_)) | (first | apply ih0 | apply ih1 | apply ih2 | apply ih3 | apply jk.mono | apply qu.mono | apply qz.mono | apply jg.mono | apply q9.mono | apply qy.mono | apply qx.mono | exact LeO.none _ | refine LeO.ite ?_ ?_ | refine LeO.bind ?_ (fun _ => ?_))
  ·intro y0 y1 y2 y3 y4 y5 y6 y7 y8 y9
   unfold laws_FnImage.j2
   repeat' first | (with_reducible first | apply ih0 | apply ih1 | apply ih2 | apply ih3 | apply jk.mono | apply qu.mono | apply qz.mono | apply jg.mono | apply q9.mono | apply qy.mono | apply qx.mono | exact LeO.refl _ | exact LeO.none _ | refine LeO.ite ?_ ?_ | refine LeO.bind ?_ (fun _ => ?_)) | (first | apply ih0 | apply ih1 | apply ih2 | apply ih3 | apply jk.mono | apply qu.mono | apply qz.mono | apply jg.mono | apply q9.mono | apply qy.mono | apply qx.mono | exact LeO.none _ | refine LeO.ite ?_ ?_ | refine LeO.bind ?_ (fun _ => ?_))
  ·intro y0 y1 y2 y3 y4 y5 y6 y7 y8 y9
   unfold laws_FnImage.l1
   repeat' first | (with_reducible first | apply ih0 | apply ih1 | apply ih2 | apply ih3 | apply jk.mono | apply qu.mono | apply qz.mono | apply jg.mono | apply q9.mono | apply qy.mono | apply qx.mono | exact LeO.refl _ | exact LeO.none _ | refine LeO.ite ?_ ?_ | refine LeO.bind ?_ (fun _ => ?_)) | (first | apply ih0 | apply ih1 | apply ih2 | apply ih3 | apply jk.mono | apply qu.mono | apply qz.mono | apply jg.mono | apply q9.mono | apply qy.mono | apply qx.mono | exact LeO.none _ | refine LeO.ite ?_ ?_ | refine LeO.bind ?_ (fun _ => ?_))
theorem laws_FnImage.mono : ∀ a0 k, LeO (laws_FnImage.f k a0) (laws_FnImage.f (k + 1) a0) := by
 intro a0 k
 obtain ⟨ih0, ih1, ih2, ih3⟩ := laws_FnImage.mono_l k
 unfold laws_FnImage.f
 repeat' first | (with_reducible first | apply ih0 | apply ih1 | apply ih2 | apply ih3 | apply jk.mono | apply qu.mono | apply qz.mono | apply jg.mono | apply q9.mono | apply qy.mono | apply qx.mono | exact LeO.refl _ | exact LeO.none _ | refine LeO.ite ?_ ?_ | refine LeO.bind ?_ (fun _ => ?_)) | (first | apply ih0 | apply ih1 | apply ih2 | apply ih3 | apply jk.mono | apply qu.mono | apply qz.mono | apply jg.mono | apply q9.mono | apply qy.mono | apply qx.mono | exact LeO.none _ | refine LeO.ite ?_ ?_ | refine LeO.bind ?_ (fun _ => ?_))
def laws_FnImage.T15 : Bool × List (List Nat × List Nat) := (true, [([], []), ([], []), ([], []), ([1, 2], [1, 2]), ([3], [3]), ([], []), ([0, 4, 5], [0, 4, 5]), ([6], [6]), ([7], [7]), ([7], [7]), ([8, 6, 0, 1, 2, 3, 4, 5, 6, 7, 8], [8]), ([9, 10, 0, 1, 2, 3, 4, 5, 6, 7, 8, 9, 10], [9])])
def laws_FnImage.B15 : List Nat := [0, 0, 0, 6, 14, 0, 63, 127, 255, 255, 511, 2047]
theorem laws_FnImage.tab15 : rtab .any (Zp Try.f6 15) = laws_FnImage.T15 := by kernel_rfl
theorem laws_FnImage.bits15 : Qd laws_FnImage.T15.2 laws_FnImage.B15 = true := by kernel_rfl
def laws_FnImage.T16 : Bool × List (List Nat × List Nat) := (true, [([], []), ([], []), ([], []), ([1, 2], [1, 2]), ([3], [3]), ([], []), ([0, 4, 5], [0, 4, 5]), ([6], [6]), ([7], [7]), ([7], [7]), ([8, 6, 0, 1, 2, 3, 4, 5, 6, 7, 8], [8]), ([9, 10, 0, 1, 2, 3, 4, 5, 6, 7, 8, 9, 10], [9])])
def laws_FnImage.B16 : List Nat := [0, 0, 0, 6, 14, 0, 63, 127, 255, 255, 511, 2047]
theorem laws_FnImage.tab16 : rtab .any (Zp Try.f6 16) = laws_FnImage.T16 := by kernel_rfl
theorem laws_FnImage.bits16 : Qd laws_FnImage.T16.2 laws_FnImage.B16 = true := by kernel_rfl
def laws_FnImage.T17 : Bool × List (List Nat × List Nat) := (true, [([], []), ([0], [0]), ([1], [1]), ([2], [2]), ([3, 2], [2, 3]), ([2, 4], [2, 4]), ([5, 2], [5]), ([6], [6]), ([6], [6]), ([6], [6]), ([8, 9, 6], [6, 8, 9]), ([10, 6], [6, 10]), ([7, 11, 6], [6, 7, 11]), ([6], [6]), ([6], [6]), ([6], [6]), ([14, 15, 6], [6, 14, 15]), ([16, 6], [6, 16]), ([13, 17, 6], [6, 13, 17]), ([12, 18, 6], [6, 12, 18]), ([6], [6]), ([19, 20, 6], [6, 19, 20]), ([21, 6], [6, 21]), ([6, 22], [6, 22])])
def laws_FnImage.B17 : List Nat := [0, 1, 3, 7, 15, 31, 63, 127, 127, 127, 895, 1919, 4095, 127, 127, 127, 49279, 114815, 254079, 524287, 127, 2097151, 4194303, 8388607]
theorem laws_FnImage.tab17 : rtab .any (Zp Try.f6 17) = laws_FnImage.T17 := by kernel_rfl
theorem laws_FnImage.bits17 : Qd laws_FnImage.T17.2 laws_FnImage.B17 = true := by kernel_rfl
set_option maxHeartbeats 8000000 in
set_option maxRecDepth 100000 in
theorem laws_FnImage.calls (k : Nat) (A0 : Option Addr) (c0 : Nat) (l0 : List Int) (r : Bool) (w : World) (hr0 : Kd.C (Kd.int .u8) w A0 l0.length l0) (hc0 : l0.length ≤ c0) (hT : r = true) (h : laws_FnImage.f k l0 = some r) :
  Calls Try.prog 6 #[.slice A0 l0.length c0] w fun e w' => e = .returned (.bool r) ∧ Below w.heap.size w w' := by
 have HT := am hT
 clear hT
 have hu43 := Try.underlying43
 have HR0 := am hr0
 have HC0 := am hc0
 clear hr0 hc0
 have HB := am (Below.refl w.heap.size w)
 have H : (if (l0.length : Int) > 1048576 then (some true) else ((qx.f k l0).bind fun bt569 => ((qu.f k bt569.1 bt569.2.1 bt569.2.2.1 bt569.2.2.2.1 bt569.2.2.2.2).bind fun bt577 => ((qy.f k bt569.1 bt569.2.1 bt569.2.2.1 bt569.2.2.2.1 bt569.2.2.2.2).bind fun bt581 => (if (bt577.2 != bt581.2) = true then (laws_FnImage.j0 k bt569.1 bt569.2.1 bt577.1 bt577.2 bt581.1 bt581.2 true bt569.2.2.1 bt569.2.2.2.1 bt569.2.2.2.2) else ((q9.f k bt577.1 bt581.1).bind fun t585 => (if t585 = true then (laws_FnImage.j0 k bt569.1 bt569.2.1 bt577.1 bt577.2 bt581.1 bt581.2 (!bt577.2) bt569.2.2.1 bt569.2.2.2.1 bt569.2.2.2.2) else (laws_FnImage.j0 k bt569.1 bt569.2.1 bt577.1 bt577.2 bt581.1 bt581.2 true bt569.2.2.1 bt569.2.2.2.1 bt569.2.2.2.2)))))))) = some r := h
 clear h
 by_cases c2 : (l0.length : Int) > 1048576
 ·rw [if_pos c2] at H
  have c2b0 := decide_eq_true c2
  have c2b1 : decide (1048576 < l0.length) = true := decide_eq_true (by omega)
  clear c2; obtain rfl := Option.some.inj H
  go_enter Try.func6, Try.ntmps6
  go_wp2; go_ret
  exact ⟨fq, bw HB⟩
 ·rw [if_neg c2] at H
  have c2b0 := decide_eq_false c2
  have c2b1 : decide (1048576 < l0.length) = false := decide_eq_false (by omega)
  clear c2; replace H := bs H
  obtain ⟨⟨t569, t570, t573, t574, t575⟩, A3, H⟩ := H
  dsimp only at H
  replace H := bs H
  obtain ⟨⟨t577, t580⟩, A4, H⟩ := H
  dsimp only at H
  replace H := bs H
  obtain ⟨⟨t581, t584⟩, A5, H⟩ := H
  dsimp only at H
  have HC6 := am H
  clear H
  go_enter Try.func6, Try.ntmps6
  go_upto_region 6 with (first | ((with_reducible refine qj (f := 28) rfl ?_); refine gl 23 Try.func28 #[.slice A0 l0.length c0] ?_; (with_reducible refine (qx.calls k _ _ l0 t569 t570 t573 t574 t575 _ ?_ ?_ A3.out).mono ?_); exact wC HR0; exact HC0.out; rintro e w7 ⟨v571, rfl, ho0, hb⟩; refine ⟨_, rfl, ?_⟩; have HO572 := am (Kd.R_lower ho0 (bz HB)); replace HB := bq HB hb; (try clear hb); (try clear ho0)) | ((with_reducible refine q6 (N := 5) rfl ?_); refine xe_ 5 43 #[.int .i64 0, .int .i64 0, .int .i64 0] ?_; intro gb576 hg w8 hbox hb; replace HO572 := am (Kd.R_below (Kd.R_elderB (wR HO572) gb576 (Nat.le_of_eq hg.symm)) hb); have BK576 := am (hbox); have GW576 := am ((by rw [hg]; exact (bz HB) : w.heap.size ≤ gb576)); have GE576 := am ((by rw [hg]; exact (bz HB) : w.heap.size ≤ gb576)); replace HB := bq HB hb; clear hb hbox hg; have hcz9_0 : w8.cell? ⟨gb576, 0, none⟩ = some (.int .i64 0) := (qa BK576.out 0).trans rfl; have hcz9_1 : w8.cell? ⟨gb576, 1, none⟩ = some (.int .i64 0) := (qa BK576.out 1).trans rfl; have hcz9_2 : w8.cell? ⟨gb576, 2, none⟩ = some (.int .i64 0) := (qa BK576.out 2).trans rfl; have hfz9_0 := qg BK576.out 0; have hfz9_1 := qg BK576.out 1; have hfz9_2 := qg BK576.out 2; obtain ⟨Ao10, co10, eo10⟩ := Kd.R_slice HO572.out; subst eo10) | ((with_reducible refine qj (f := 29) rfl ?_); refine gl 31 Try.func29 #[.int .i64 t569, .slice Ao10 t570.length co10, .agg #[.int .i64 t573, .int .i64 t574, .int .i64 t575]] ?_; (with_reducible refine (qu.calls k t569 _ _ t570 t573 t574 t575 t577 t580 _ ?_ ?_ A4.out).mono ?_); (· refine (Kd.R_reads' (e := 43) (base := w.heap.size) (ok := fun k_ => (True ∧ k_ ≠ gb576)) (n := t570.length) (c := co10) ?_).2.2; exact (by (with_reducible repeat (first | apply Kd.R_alloc | apply Kd.R_drewN | apply Kd.R_drew)); exact (Kd.R_mono (Kd.R_far (p := ⟨gb576, 2, none⟩) (Kd.R_far (p := ⟨gb576, 1, none⟩) (Kd.R_far (p := ⟨gb576, 0, none⟩) (Kd.R_mono HO572.out (fun k_ hk => (⟨hk, hk.2⟩ : _ ∧ k_ ≠ gb576))) (fun _ hk => hk.2) (.int .i64 t573)) (fun _ hk => hk.2) (.int .i64 t574)) (fun _ hk => hk.2) (.int .i64 t575)) (fun _ h_ => h_.1)))); exact (Kd.R_reads' HO572.out).2.1; rintro e w11 ⟨v578, rfl, ho0, hb⟩; refine ⟨_, rfl, ?_⟩; replace HO572 := am (Kd.R_below (by (with_reducible repeat (first | apply Kd.R_alloc | apply Kd.R_drewN | apply Kd.R_drew)); exact (Kd.R_mono (Kd.R_far (p := ⟨gb576, 2, none⟩) (Kd.R_far (p := ⟨gb576, 1, none⟩) (Kd.R_far (p := ⟨gb576, 0, none⟩) (Kd.R_mono HO572.out (fun k_ hk => (⟨hk, hk.2⟩ : _ ∧ k_ ≠ gb576))) (fun _ hk => hk.2) (.int .i64 t573)) (fun _ hk => hk.2) (.int .i64 t574)) (fun _ hk => hk.2) (.int .i64 t575)) (fun _ h_ => h_.1))) hb); have HO579 := am (Kd.R_lower ho0 (q4 (bx_ HB))); replace BK576 := am (qp (g := gb576) (o := .cells #[.int .i64 t573, .int .i64 t574, .int .i64 t575] 43 (0, 0)) (by (with_reducible repeat (first | refine qf ?_ _ | refine qh ?_ | refine qe ?_ _)); refine zz (cs := #[.int .i64 t573, .int .i64 t574, .int .i64 0]) ?_ 2 _ rfl; (with_reducible repeat (first | refine qf ?_ _ | refine qh ?_ | refine qe ?_ _)); refine zz (cs := #[.int .i64 t573, .int .i64 0, .int .i64 0]) ?_ 1 _ rfl; (with_reducible repeat (first | refine qf ?_ _ | refine qh ?_ | refine qe ?_ _)); refine zz (cs := #[.int .i64 0, .int .i64 0, .int .i64 0]) ?_ 0 _ rfl; (with_reducible repeat (first | refine qf ?_ _ | refine qh ?_ | refine qe ?_ _)); exact BK576.out) hb); replace HB := am (qo (bx_ HB) hb); (try clear hb); (try clear ho0); have hcz12_0 : w11.cell? ⟨gb576, 0, none⟩ = some (.int .i64 t573) := (qa BK576.out 0).trans rfl; have hcz12_1 : w11.cell? ⟨gb576, 1, none⟩ = some (.int .i64 t574) := (qa BK576.out 1).trans rfl; have hcz12_2 : w11.cell? ⟨gb576, 2, none⟩ = some (.int .i64 t575) := (qa BK576.out 2).trans rfl; have hfz12_0 := qg BK576.out 0; have hfz12_1 := qg BK576.out 1; have hfz12_2 := qg BK576.out 2) | ((with_reducible refine qj (f := 30) rfl ?_); refine gl 38 Try.func30 #[.int .i64 t569, .slice Ao10 t570.length co10, .agg #[.int .i64 t573, .int .i64 t574, .int .i64 t575]] ?_; (with_reducible refine (qy.calls k t569 _ _ t570 t573 t574 t575 t581 t584 _ ?_ ?_ A5.out).mono ?_); exact Kd.C_below (Kd.R_reads' HO572.out).2.2 gs; exact (Kd.R_reads' HO572.out).2.1; rintro e w13 ⟨v582, rfl, ho0, hb⟩; refine ⟨_, rfl, ?_⟩; replace HO572 := am (Kd.R_below (wR HO572) hb); have HO583 := am (Kd.R_lower (Kd.R_new' ho0 (Kd.R_lt (wR HO579))) (q4 (bx_ HB))); replace HO579 := eR HO579 (Kd.R_base ho0) hb; replace BK576 := am (qp (g := gb576) (o := .cells #[.int .i64 t573, .int .i64 t574, .int .i64 t575] 43 (0, 0)) (pk_ BK576) hb); replace HB := am (qo (bx_ HB) hb); (try clear hb); (try clear ho0)))
  (try simp only [Act.put, List.setIfInBounds_toArray, List.set_cons_zero, List.set_cons_succ])
  go_cut [53] (fun v53 wc => ∃ (kq : Nat) (x53_5 : Bool), v53 = .bool x53_5 ∧ qb (laws_FnImage.j0 kq t569 t570 t577 t580 t581 t584 x53_5 t573 t574 t575 = some r) ∧ qb (kq ≤ k) ∧ qb (Kd.R k43 43 wc w.heap.size (fun k_ => k_ ≠ gb576) (.slice Ao10 t570.length co10) t570) ∧ qb (Kd.R (Kd.int .i64) 3 wc w.heap.size (fun k_ => some k_ ≠ (v582 : Value).ownBlock) v578 t577) ∧ qb (Kd.R (Kd.int .i64) 3 wc w.heap.size (fun k_ => some k_ ≠ (v578 : Value).ownBlock) v582 t581) ∧ qb (wc.heap[gb576]? = some (.cells #[.int .i64 t573, .int .i64 t574, .int .i64 t575] 43 (0, 0))) ∧ qb (Below w.heap.size w wc))
  case first =>
   have H := HC6.out
   clear HC6
   by_cases c14 : (t580 != t584) = true
   ·rw [if_pos c14] at H
    have c14b0 : (t580 != t584) = true := c14
    (try (have c14b1 : decide (t580 = t584) = false := by simpa using c14))
    (try (have c14b2 : (t580 == t584) = false := by simpa using c14))
    (try (have c14b3 : ¬ (t580 = t584) := by simpa using c14))
    clear c14
    (first | rw [c14b0] | (simp only [Qx, Q2]; rw [c14b0]) | skip)
    have H' := am H; clear H; go_wp2
    go_meet
    case rel => exact ⟨_, (true), fr, H', ⟨by first | omega | exact Nat.le_refl _⟩, ⟨Kd.R_below (Kd.R_mono HO572.out (fun _ hk => hk.2)) gs⟩, ⟨Kd.R_below (Kd.R_mono HO579.out (fun _ hk => hk.2)) gs⟩, ⟨Kd.R_below (Kd.R_mono HO583.out (fun _ hk => hk.2)) gs⟩, ⟨by (with_reducible repeat (first | refine qf ?_ _ | refine qh ?_ | refine qe ?_ _)); exact BK576.out⟩, ⟨bx_ HB⟩⟩
   ·rw [if_neg c14] at H
    have c14b0 : (t580 != t584) = false := by simpa using c14
    (try (have c14b1 : decide (t580 = t584) = true := by simpa using c14))
    (try (have c14b2 : (t580 == t584) = true := by simpa using c14))
    clear c14
    (first | rw [c14b0] | (simp only [Qx, Q2]; rw [c14b0]) | skip)
    replace H := bs H; obtain ⟨t585, A15, H⟩ := H
    by_cases c16 : t585 = true
    ·subst c16
     rw [if_pos rfl] at H
     have H' := am H; clear H
     obtain ⟨Ao17, co17, eo17⟩ := Kd.R_slice HO579.out
     subst eo17
     obtain ⟨Ao18, co18, eo18⟩ := Kd.R_slice HO583.out
     subst eo18
     go_wp2_with (first | (go_at_call 31; (with_reducible refine (q9.calls k _ _ t577 _ _ t581 true _ ?_ ?_ ?_ ?_ A15.out).mono ?_); exact Kd.C_below (Kd.R_reads' HO579.out).2.2 gs; exact (Kd.R_reads' HO579.out).2.1; exact Kd.C_below (Kd.R_reads' HO583.out).2.2 gs; exact (Kd.R_reads' HO583.out).2.1; rintro e w' ⟨rfl, ⟨nd, rfl⟩⟩))
     go_meet
     case rel => exact ⟨_, (!t580), fr, H', ⟨by first | omega | exact Nat.le_refl _⟩, ⟨Kd.R_below (Kd.R_mono HO572.out (fun _ hk => hk.2)) gs⟩, ⟨Kd.R_below (Kd.R_mono HO579.out (fun _ hk => hk.2)) gs⟩, ⟨Kd.R_below (Kd.R_mono HO583.out (fun _ hk => hk.2)) gs⟩, ⟨by (with_reducible repeat (first | refine qf ?_ _ | refine qh ?_ | refine qe ?_ _)); exact BK576.out⟩, ⟨bx_ HB⟩⟩
    ·replace c16 := Bool.eq_false_iff.mpr c16
     subst c16
     rw [if_neg (show ¬ (false = true) by decide)] at H
     have H' := am H; clear H
     obtain ⟨Ao19, co19, eo19⟩ := Kd.R_slice HO579.out
     subst eo19
     obtain ⟨Ao20, co20, eo20⟩ := Kd.R_slice HO583.out
     subst eo20
     go_wp2_with (first | (go_at_call 31; (with_reducible refine (q9.calls k _ _ t577 _ _ t581 false _ ?_ ?_ ?_ ?_ A15.out).mono ?_); exact Kd.C_below (Kd.R_reads' HO579.out).2.2 gs; exact (Kd.R_reads' HO579.out).2.1; exact Kd.C_below (Kd.R_reads' HO583.out).2.2 gs; exact (Kd.R_reads' HO583.out).2.1; rintro e w' ⟨rfl, ⟨nd, rfl⟩⟩))
     go_meet
     case rel => exact ⟨_, (true), fr, H', ⟨by first | omega | exact Nat.le_refl _⟩, ⟨Kd.R_below (Kd.R_mono HO572.out (fun _ hk => hk.2)) gs⟩, ⟨Kd.R_below (Kd.R_mono HO579.out (fun _ hk => hk.2)) gs⟩, ⟨Kd.R_below (Kd.R_mono HO583.out (fun _ hk => hk.2)) gs⟩, ⟨by (with_reducible repeat (first | refine qf ?_ _ | refine qh ?_ | refine qe ?_ _)); exact BK576.out⟩, ⟨bx_ HB⟩⟩
  case rest =>
   clear HC6; try clear c1; try clear c2; try clear c2b0; try clear c2b1; try clear p2; try clear c3; try clear c6; try clear c14; try clear c14b0; try clear c14b1; try clear c14b2; try clear c16; try clear hcz12_0; try clear hcz12_1; try clear hcz12_2
   try clear hcz9_0; try clear hcz9_1; try clear hcz9_2; try clear hfz12_0; try clear hfz12_1; try clear hfz12_2; try clear hfz9_0; try clear hfz9_1; try clear hfz9_2
   obtain ⟨kq, x53_5, rfl, HA, HJ5, HO_4, HO_6, HO_8, BK576, HB⟩ := hcut
   cases kq with
   | zero => exact absurd HA.out (by simp [laws_FnImage.j0])
   | succ kj5 =>
    have H := HA.out; clear HA
    simp only [laws_FnImage.j0] at H
    by_cases c21 : x53_5 = true
    ·subst c21
     rw [if_pos rfl] at H
     by_cases c22 : (t580 == t584) = true
     ·rw [if_pos c22] at H
      have c22b0 : (t580 == t584) = true := c22
      (try (have c22b1 : decide (t580 = t584) = true := by simpa using c22))
      (try (have c22b2 : (t580 == t584) = true := by simpa using c22))
      clear c22; replace H := bs H; obtain ⟨t586, A23, H⟩ := H; obtain rfl := Option.some.inj H
      obtain ⟨Ao24, co24, eo24⟩ := Kd.R_slice HO_6.out
      subst eo24
      obtain ⟨Ao25, co25, eo25⟩ := Kd.R_slice HO_8.out
      subst eo25
      go_wp2_with (first | (go_at_call 31; (with_reducible refine (q9.calls kj5 _ _ t577 _ _ t581 t586 _ ?_ ?_ ?_ ?_ A23.out).mono ?_); exact Kd.C_below (Kd.R_reads' HO_6.out).2.2 gs; exact (Kd.R_reads' HO_6.out).2.1; exact Kd.C_below (Kd.R_reads' HO_8.out).2.2 gs; exact (Kd.R_reads' HO_8.out).2.1; rintro e w' ⟨rfl, ⟨nd, rfl⟩⟩))
      go_ret
      exact ⟨fq, bx_ HB⟩
     ·rw [if_neg c22] at H
      have c22b0 : (t580 == t584) = false := by simpa using c22
      (try (have c22b1 : decide (t580 = t584) = false := by simpa using c22))
      (try (have c22b2 : (t580 == t584) = false := by simpa using c22))
      (try (have c22b3 : ¬ (t580 = t584) := by simpa using c22))
      clear c22
      exact absurd (H.trans (congrArg some HT.out)) (by simp)
    ·replace c21 := Bool.eq_false_iff.mpr c21
     subst c21
     rw [if_neg (show ¬ (false = true) by decide)] at H
     replace H := bs H
     obtain ⟨⟨t587, t588⟩, A26, H⟩ := H
     dsimp only at H
     have H' := am H; clear H
     go_wp2_with (first | ((with_reducible refine qj (f := 32) rfl ?_); refine gl 65 Try.func32 #[.int .i64 t569, .slice Ao10 t570.length co10] ?_; (with_reducible refine (jk.calls kj5 t569 _ _ t570 t587 t588 _ ?_ ?_ A26.out).mono ?_); exact Kd.C_below (Kd.R_reads' HO_4.out).2.2 gs; exact (Kd.R_reads' HO_4.out).2.1; rintro e w27 ⟨v589, rfl, ho0, hb⟩; refine ⟨_, rfl, ?_⟩; replace HO_4 := am (Kd.R_below (wR HO_4) hb); have HO590 := am (Kd.S_lower (Kd.S_new' (Kd.S_new' ho0 (Kd.R_lt (wR HO_6))) (Kd.R_lt (wR HO_8))) (q4 (bx_ HB))); replace HO_6 := am (Kd.R_below (wR HO_6) hb); replace HO_8 := am (Kd.R_below (wR HO_8) hb); replace BK576 := am (qp (g := gb576) (o := .cells #[.int .i64 t573, .int .i64 t574, .int .i64 t575] 43 (0, 0)) (pk_ BK576) hb); replace HB := am (qo (bx_ HB) hb); (try clear hb); (try clear ho0)))
     go_loopg [12] kj5 (fun kq v12 w' => ∃ (x12_2 : Int), v12 = .int .i64 x12_2 ∧ qb (laws_FnImage.l0 kq t569 t570 t577 t587 t588 x12_2 t573 t574 t575 = some r) ∧ qb (kq ≤ kj5) ∧ qb (Kd.R k43 43 w' w.heap.size (fun k_ => k_ ≠ gb576) (.slice Ao10 t570.length co10) t570) ∧ qb (Kd.R (Kd.int .i64) 3 w' w.heap.size (fun _ => True) v578 t577) ∧ qb (Kd.S (Kd.slice 3 (Kd.int .i64)) 23 w' w.heap.size (fun k_ => some k_ ≠ (v578 : Value).ownBlock) v589 t587) ∧ qb (w'.heap[gb576]? = some (.cells #[.int .i64 t573, .int .i64 t574, .int .i64 t575] 43 (0, 0))) ∧ qb (Below w.heap.size w w'))
     case atStart => exact ⟨(0), fr, H', ⟨Nat.le_refl _⟩, ⟨wR HO_4⟩, ⟨Kd.R_below (Kd.R_mono HO_6.out (fun _ hk => trivial)) gs⟩, ⟨Kd.S_below (Kd.S_mono HO590.out (fun _ hk => hk.1.2)) gs⟩, ⟨by (with_reducible repeat (first | refine qf ?_ _ | refine qh ?_ | refine qe ?_ _)); exact BK576.out⟩, ⟨bx_ HB⟩⟩
     case round =>
      clear H'; try clear c1; try clear c2; try clear c2b0; try clear c2b1; try clear p2; try clear c3; try clear c6; try clear c14; try clear c14b0; try clear c14b1; try clear c14b2; try clear c16; try clear c21; try clear c22; try clear c22b0; try clear c22b1
      try clear c22b2; try clear hcz12_0; try clear hcz12_1; try clear hcz12_2; try clear hcz9_0; try clear hcz9_1; try clear hcz9_2; try clear hfz12_0; try clear hfz12_1; try clear hfz12_2; try clear hfz9_0; try clear hfz9_1; try clear hfz9_2; try clear p2
      obtain ⟨x12_2, rfl, HA, HK2, HO_4, HO_6, HO_10, BK576, HB⟩ := hrel
      cases gk with
      | zero => exact absurd HA.out (by simp [laws_FnImage.l0])
      | succ k2 =>
       have H := HA.out; clear HA
       simp only [laws_FnImage.l0] at H
       have HC28 := am H
       clear H
       go_upto_region 10 with (fail)
       go_cut [72] (fun v72 wc => ∃ (kq : Nat) (x72_27 : Bool), v72 = .bool x72_27 ∧ qb (laws_FnImage.j2 kq t569 t570 t577 t587 t588 x12_2 x72_27 t573 t574 t575 = some r) ∧ qb (kq ≤ k2) ∧ qb (Kd.R k43 43 wc w.heap.size (fun k_ => k_ ≠ gb576) (.slice Ao10 t570.length co10) t570) ∧ qb (Kd.R (Kd.int .i64) 3 wc w.heap.size (fun _ => True) v578 t577) ∧ qb (Kd.S (Kd.slice 3 (Kd.int .i64)) 23 wc w.heap.size (fun k_ => some k_ ≠ (v578 : Value).ownBlock) v589 t587) ∧ qb (wc.heap[gb576]? = some (.cells #[.int .i64 t573, .int .i64 t574, .int .i64 t575] 43 (0, 0))) ∧ qb (Below w.heap.size w wc))
       case first =>
        have H := HC28.out
        clear HC28
        by_cases c29 : x12_2 < 4
        ·rw [if_pos c29] at H
         have c29b0 := decide_eq_true c29; clear c29
         (first | rw [c29b0] | (simp only [Qx, Q2]; rw [c29b0]) | skip)
         have H' := am H; clear H; go_wp2
         go_meet
         case rel => exact ⟨_, (t588), fr, H', ⟨by have := HJ5.out; have := HK2.out; first | omega | exact Nat.le_refl _⟩, ⟨wR HO_4⟩, ⟨wR HO_6⟩, ⟨wS HO_10⟩, ⟨by (with_reducible repeat (first | refine qf ?_ _ | refine qh ?_ | refine qe ?_ _)); exact BK576.out⟩, ⟨bx_ HB⟩⟩
        ·rw [if_neg c29] at H
         have c29b0 := decide_eq_false c29; clear c29
         (first | rw [c29b0] | (simp only [Qx, Q2]; rw [c29b0]) | skip)
         have H' := am H; clear H; go_wp2
         go_meet
         case rel => exact ⟨_, (false), fr, H', ⟨by have := HJ5.out; have := HK2.out; first | omega | exact Nat.le_refl _⟩, ⟨wR HO_4⟩, ⟨wR HO_6⟩, ⟨wS HO_10⟩, ⟨by (with_reducible repeat (first | refine qf ?_ _ | refine qh ?_ | refine qe ?_ _)); exact BK576.out⟩, ⟨bx_ HB⟩⟩
       case rest =>
        clear HC28; try clear c1; try clear c2; try clear c2b0; try clear c2b1; try clear p2; try clear c3; try clear c6; try clear c14; try clear c14b0; try clear c14b1; try clear c14b2; try clear c16; try clear c21; try clear c22; try clear c22b0
        try clear c22b1; try clear c22b2; try clear c28; try clear c29; try clear c29b0; try clear hcz12_0; try clear hcz12_1; try clear hcz12_2; try clear hcz9_0; try clear hcz9_1; try clear hcz9_2; try clear hfz12_0; try clear hfz12_1; try clear hfz12_2
        try clear hfz9_0; try clear hfz9_1; try clear hfz9_2; try clear p2
        obtain ⟨kq, x72_27, rfl, HA, HJ27, HO_4, HO_6, HO_10, BK576, HB⟩ := hcut
        cases kq with
        | zero => exact absurd HA.out (by simp [laws_FnImage.j2])
        | succ kj27 =>
         have H := HA.out; clear HA
         simp only [laws_FnImage.j2] at H
         by_cases c30 : x72_27 = true
         ·subst c30
          rw [if_pos rfl] at H
          have H' := am H; clear H; go_wp2
          go_loopg [13] kj27 (fun kq v13 w' => ∃ (x13_4 : Int), v13 = .int .i64 x13_4 ∧ qb (laws_FnImage.l1 kq t569 t570 t577 t587 t588 x12_2 x13_4 t573 t574 t575 = some r) ∧ qb (kq ≤ kj27) ∧ qb (Kd.R k43 43 w' w.heap.size (fun k_ => k_ ≠ gb576) (.slice Ao10 t570.length co10) t570) ∧ qb (Kd.R (Kd.int .i64) 3 w' w.heap.size (fun _ => True) v578 t577) ∧ qb (Kd.S (Kd.slice 3 (Kd.int .i64)) 23 w' w.heap.size (fun k_ => some k_ ≠ (v578 : Value).ownBlock) v589 t587) ∧ qb (w'.heap[gb576]? = some (.cells #[.int .i64 t573, .int .i64 t574, .int .i64 t575] 43 (0, 0))) ∧ qb (Below w.heap.size w w'))
          case atStart => exact ⟨(0), fr, H', ⟨Nat.le_refl _⟩, ⟨wR HO_4⟩, ⟨wR HO_6⟩, ⟨wS HO_10⟩, ⟨by (with_reducible repeat (first | refine qf ?_ _ | refine qh ?_ | refine qe ?_ _)); exact BK576.out⟩, ⟨bx_ HB⟩⟩
          case round =>
           clear H'; try clear c1; try clear c2; try clear c2b0; try clear c2b1; try clear p2; try clear c3; try clear c6; try clear c14; try clear c14b0; try clear c14b1; try clear c14b2; try clear c16; try clear c21; try clear c22; try clear c22b0; try clear c22b1
           try clear c22b2; try clear c28; try clear c29; try clear c29b0; try clear c30; try clear hcz12_0; try clear hcz12_1; try clear hcz12_2; try clear hcz9_0; try clear hcz9_1; try clear hcz9_2; try clear hfz12_0; try clear hfz12_1; try clear hfz12_2
           try clear hfz9_0; try clear hfz9_1; try clear hfz9_2; try clear p2
           obtain ⟨x13_4, rfl, HA, HK4, HO_4, HO_6, HO_10, BK576, HB⟩ := hrel
           cases gk with
           | zero => exact absurd HA.out (by simp [laws_FnImage.l1])
           | succ k4 =>
            have H := HA.out; clear HA
            simp only [laws_FnImage.l1] at H
            by_cases c31 : x13_4 < 4
            ·rw [if_pos c31] at H
             have c31b0 := decide_eq_true c31; clear c31; replace H := ifn H; obtain ⟨c32, H⟩ := H; have c32b0 := decide_eq_true c32; clear c32; replace H := ifn H; obtain ⟨c33, H⟩ := H; have c33b0 := decide_eq_true c33; clear c33; replace H := bs H
             obtain ⟨⟨t594, t595⟩, A34, H⟩ := H
             dsimp only at H
             replace H := ifn H; obtain ⟨c35, H⟩ := H; have c35b0 := decide_eq_true c35; clear c35; replace H := ifn H; obtain ⟨c36, H⟩ := H; have c36b0 := decide_eq_true c36; clear c36; replace H := bs H
             obtain ⟨⟨t597, t598⟩, A37, H⟩ := H
             dsimp only at H
             by_cases c38 : t595 = true
             ·subst c38
              rw [if_pos rfl] at H
              by_cases c39 : t598 = true
              ·subst c39
               rw [if_pos rfl] at H
               replace H := ifn H; obtain ⟨c40, H⟩ := H; have c40b0 := decide_eq_true c40; clear c40; replace H := ifn H; obtain ⟨c41, H⟩ := H; have c41b0 := decide_eq_true c41; clear c41; replace H := ifm H; obtain ⟨c42, H⟩ := H; have c42b0 := beq_eq_false_iff_ne.mpr c42
               have c42b1 := bne_iff_ne.mpr c42
               by_cases c43 : (Int.tmod (wrap64 ((wrap64 (t594 * (rd t577 x13_4))) - (wrap64 (t597 * (rd t577 x12_2))))) t569) = 0
               ·rw [if_pos c43] at H
                have c43b0 := beq_iff_eq.mpr c43; have c43b1 := bne_eq_false_iff_eq.mpr c43; clear c43; have H' := am H; clear H
                try go_wp2
                replace HO_4 := am (Kd.R_drew HO_4.out)
                replace HO_6 := am (Kd.R_drew HO_6.out)
                replace HO_10 := am (Kd.S_drew HO_10.out)
                replace BK576 := am (qh BK576.out)
                replace HB := am (zc HB.out)
                obtain ⟨Ao45, co45, eo45⟩ := Kd.S_slice HO_10.out
                (first | subst eo45 | (injection eo45 with f1_ f2_ f3_; have f4_ := f1_.symm; have f5_ := f3_.symm; clear f1_ f2_ f3_; subst f4_; subst f5_))
                have p593 : 0 ≤ (x12_2 : Int) := od
                have q593 : x12_2 < (t587.length : Int) := od
                obtain ⟨ad593, A593_0, c593_0, e593, hx593_0, hl593_0, hi593_0⟩ := qad (Kd.S_reads' HO_10.out).2.2 x12_2 p593 q593
                cases e593
                obtain ⟨ce593, hce593, hMe593, hcc593⟩ := Kd.S_get HO_10.out [] x12_2 p593 (by first | exact q593 | exact od | (have e_ := (Kd.S_reads' HO_10.out).1; omega))
                obtain ⟨ve593_0, rfl, ge593_0⟩ := hMe593
                have hv593_0 := hcc593 0 _ rfl
                rw [Nat.add_zero, show ((Kd.slice 3 (Kd.int .i64))).sz = 1 from rfl, Nat.mul_one] at hv593_0
                replace hv593_0 := Option.some.inj (hv593_0.symm.trans hx593_0)
                rw [hv593_0] at ge593_0
                have HL593_0 := am (show Kd.R (Kd.int .i64) 3 _ _ _ _ (jl t587 x12_2) from ge593_0)
                clear hv593_0 ge593_0; clear hcc593 hce593
                have HR593_0 := am hi593_0
                have HC593_0 := am hl593_0
                clear hi593_0 hl593_0; replace p593 := eq_true p593; replace q593 := eq_true q593
                refine st 12 (fun w' => w'.cell? ⟨gb576, 0, none⟩ = some (.int .i64 t573) ∧ w'.cell? ⟨gb576, 1, none⟩ = some (.int .i64 t574) ∧ w'.cell? ⟨gb576, 2, none⟩ = some (.int .i64 t575) ∧ w'.cell? (ad593.add (x12_2).toNat) = some (.slice A593_0 (jl t587 x12_2).length c593_0)) [] laws_FnImage.tab15 laws_FnImage.bits15 (⟨(qa BK576.out 0).trans rfl, (qa BK576.out 1).trans rfl, (qa BK576.out 2).trans rfl, hx593_0⟩) fun hHeld HT_ HW_ => ?_
                generalize wr.drew = w44 at HO_4 HO_6 HO_10 BK576 HB HL593_0 HR593_0 hx593_0 hHeld ⊢
                refine pz 0 80 HT_ ?_; refine pz 1 81 HT_ ?_; refine pz 2 82 HT_ ?_; refine pz 3 83 HT_ ?_; refine tk 4 84 HT_ HW_ hHeld ?_; refine tk 5 85 HT_ HW_ hHeld ?_
                refine on 6 (some 86) HT_ fun K hK => ?_
                refine gs_ Try.func33 #[.int .i64 t569, .slice A593_0 (jl t587 x12_2).length c593_0, .agg #[.int .i64 t573, .int .i64 t574, .int .i64 t575]] ?_
                with_reducible refine (qz.calls k4 t569 _ _ (jl t587 x12_2) t573 t574 t575 t594 true _ ?side1 ?side2 A34.out).mono ?_
                (case side1 => exact wC HR593_0)
                (case side2 => exact HC593_0.out)
                rintro e w46 ⟨rfl, hb⟩
                have HS3_ := (hb.cell (World.block_lt_of_cell? _ _ (hHeld.2.2.2))).trans (hHeld.2.2.2)
                refine ⟨_, rfl, ?_⟩
                replace HO_4 := am (Kd.R_below (wR HO_4) hb)
                replace HO_6 := am (Kd.R_below (wR HO_6) hb)
                replace HO_10 := am (Kd.S_below (wS HO_10) hb)
                replace HL593_0 := am (Kd.R_below (wR HL593_0) hb)
                replace BK576 := am (qp (g := gb576) (o := .cells #[.int .i64 t573, .int .i64 t574, .int .i64 t575] 43 (0, 0)) (pk_ BK576) hb)
                replace HR593_0 := am (Kd.C_below (wC HR593_0) hb)
                replace HB := am (qo (bx_ HB) hb)
                (try clear hb)
                (try clear hb2)
                (try clear hk)
                (try clear hi)
                refine hK.out _ _ ⟨(qa BK576.out 0).trans rfl, (qa BK576.out 1).trans rfl, (qa BK576.out 2).trans rfl, HS3_⟩ fun hHeld => nz ?_
                clear hK K; refine pz 7 79 HT_ ?_; refine pz 8 87 HT_ ?_; refine pz 9 88 HT_ ?_; refine pz 10 14 HT_ ?_; refine pz 11 15 HT_ ?_
                refine Q4 (Qg HT_.out (by kernel_rfl)) ?_
                try go_wp2
                replace HO_4 := am (Kd.R_drew HO_4.out)
                replace HO_6 := am (Kd.R_drew HO_6.out)
                replace HO_10 := am (Kd.S_drew HO_10.out)
                replace HL593_0 := am (Kd.R_drew HL593_0.out)
                replace BK576 := am (qh BK576.out)
                replace HR593_0 := am (Kd.C_drew HR593_0.out)
                replace HB := am (zc HB.out)
                have p596 : 0 ≤ (x13_4 : Int) := od
                have q596 : x13_4 < (t587.length : Int) := od
                obtain ⟨ad596, A596_0, c596_0, e596, hx596_0, hl596_0, hi596_0⟩ := qad (Kd.S_reads' HO_10.out).2.2 x13_4 p596 q596
                obtain rfl : ad593 = ad596 := (by injection e596)
                obtain ⟨ce596, hce596, hMe596, hcc596⟩ := Kd.S_get HO_10.out [] x13_4 p596 (by first | exact q596 | exact od | (have e_ := (Kd.S_reads' HO_10.out).1; omega))
                obtain ⟨ve596_0, rfl, ge596_0⟩ := hMe596
                have hv596_0 := hcc596 0 _ rfl
                rw [Nat.add_zero, show ((Kd.slice 3 (Kd.int .i64))).sz = 1 from rfl, Nat.mul_one] at hv596_0
                replace hv596_0 := Option.some.inj (hv596_0.symm.trans hx596_0)
                rw [hv596_0] at ge596_0
                have HL596_0 := am (show Kd.R (Kd.int .i64) 3 _ _ _ _ (jl t587 x13_4) from ge596_0)
                clear hv596_0 ge596_0; clear hcc596 hce596
                have HR596_0 := am hi596_0
                have HC596_0 := am hl596_0
                clear hi596_0 hl596_0; replace p596 := eq_true p596; replace q596 := eq_true q596
                refine st 12 (fun w' => w'.cell? ⟨gb576, 0, none⟩ = some (.int .i64 t573) ∧ w'.cell? ⟨gb576, 1, none⟩ = some (.int .i64 t574) ∧ w'.cell? ⟨gb576, 2, none⟩ = some (.int .i64 t575) ∧ w'.cell? (ad593.add (x13_4).toNat) = some (.slice A596_0 (jl t587 x13_4).length c596_0)) [] laws_FnImage.tab16 laws_FnImage.bits16 (⟨(qa BK576.out 0).trans rfl, (qa BK576.out 1).trans rfl, (qa BK576.out 2).trans rfl, hx596_0⟩) fun hHeld HT_ HW_ => ?_
                generalize w46.drew = w47 at HO_4 HO_6 HO_10 HL593_0 BK576 HR593_0 HB HL596_0 HR596_0 hx596_0 hHeld ⊢
                refine pz 0 90 HT_ ?_; refine pz 1 91 HT_ ?_; refine pz 2 92 HT_ ?_; refine pz 3 93 HT_ ?_; refine tk 4 94 HT_ HW_ hHeld ?_; refine tk 5 95 HT_ HW_ hHeld ?_
                refine on 6 (some 96) HT_ fun K hK => ?_
                refine gs_ Try.func33 #[.int .i64 t569, .slice A596_0 (jl t587 x13_4).length c596_0, .agg #[.int .i64 t573, .int .i64 t574, .int .i64 t575]] ?_
                with_reducible refine (qz.calls k4 t569 _ _ (jl t587 x13_4) t573 t574 t575 t597 true _ ?side1 ?side2 A37.out).mono ?_
                (case side1 => exact wC HR596_0)
                (case side2 => exact HC596_0.out)
                rintro e w48 ⟨rfl, hb⟩
                have HS3_ := (hb.cell (World.block_lt_of_cell? _ _ (hHeld.2.2.2))).trans (hHeld.2.2.2)
                refine ⟨_, rfl, ?_⟩
                replace HO_4 := am (Kd.R_below (wR HO_4) hb)
                replace HO_6 := am (Kd.R_below (wR HO_6) hb)
                replace HO_10 := am (Kd.S_below (wS HO_10) hb)
                replace HL593_0 := am (Kd.R_below (wR HL593_0) hb)
                replace HL596_0 := am (Kd.R_below (wR HL596_0) hb)
                replace BK576 := am (qp (g := gb576) (o := .cells #[.int .i64 t573, .int .i64 t574, .int .i64 t575] 43 (0, 0)) (pk_ BK576) hb)
                replace HR593_0 := am (Kd.C_below (wC HR593_0) hb)
                replace HR596_0 := am (Kd.C_below (wC HR596_0) hb)
                replace HB := am (qo (bx_ HB) hb)
                (try clear hb)
                (try clear hb2)
                (try clear hk)
                (try clear hi)
                refine hK.out _ _ ⟨(qa BK576.out 0).trans rfl, (qa BK576.out 1).trans rfl, (qa BK576.out 2).trans rfl, HS3_⟩ fun hHeld => nz ?_
                clear hK K; refine pz 7 89 HT_ ?_; refine pz 8 97 HT_ ?_; refine pz 9 98 HT_ ?_; refine pz 10 16 HT_ ?_; refine pz 11 17 HT_ ?_
                refine Q4 (Qg HT_.out (by kernel_rfl)) ?_
                try go_wp2
                replace HO_4 := am (Kd.R_drew HO_4.out)
                replace HO_6 := am (Kd.R_drew HO_6.out)
                replace HO_10 := am (Kd.S_drew HO_10.out)
                replace HL593_0 := am (Kd.R_drew HL593_0.out)
                replace HL596_0 := am (Kd.R_drew HL596_0.out)
                replace BK576 := am (qh BK576.out)
                replace HR593_0 := am (Kd.C_drew HR593_0.out)
                replace HR596_0 := am (Kd.C_drew HR596_0.out)
                replace HB := am (zc HB.out)
                obtain ⟨Ao50, co50, eo50⟩ := Kd.R_slice HO_6.out
                (first | subst eo50 | (injection eo50 with f1_ f2_ f3_; have f4_ := f1_.symm; have f5_ := f3_.symm; clear f1_ f2_ f3_; subst f4_; subst f5_))
                have p599 : 0 ≤ (x13_4 : Int) := od
                have q599 : x13_4 < (t577.length : Int) := od
                obtain ⟨ad599, e599, hx599_0⟩ := Kd.at_int (Kd.R_reads' HO_6.out).2.2 x13_4 p599 q599
                cases e599; replace p599 := eq_true p599; replace q599 := eq_true q599
                have p600 : 0 ≤ (x12_2 : Int) := od
                have q600 : x12_2 < (t577.length : Int) := od
                obtain ⟨ad600, e600, hx600_0⟩ := Kd.at_int (Kd.R_reads' HO_6.out).2.2 x12_2 p600 q600
                obtain rfl : ad599 = ad600 := (by injection e600)
                replace p600 := eq_true p600; replace q600 := eq_true q600
                refine st 24 (fun w' => w'.cell? (ad599.add (x13_4).toNat) = some (.int .i64 (rd t577 x13_4)) ∧ w'.cell? (ad599.add (x12_2).toNat) = some (.int .i64 (rd t577 x12_2))) [] laws_FnImage.tab17 laws_FnImage.bits17 (⟨hx599_0, hx600_0⟩) fun hHeld HT_ HW_ => ?_
                generalize w48.drew = w49 at HO_4 HO_6 HO_10 HL593_0 HL596_0 BK576 HR593_0 HR596_0 HB hx599_0 hx600_0 hHeld ⊢
                refine pz 0 99 HT_ ?_; refine pz 1 100 HT_ ?_; refine pz 2 101 HT_ ?_; refine pz 3 102 HT_ ?_; refine pz 4 103 HT_ ?_; refine pz 5 104 HT_ ?_; refine pz 6 105 HT_ ?_; refine pz 7 106 HT_ ?_; refine pz 8 107 HT_ ?_; refine pz 9 108 HT_ ?_; refine pz 10 109 HT_ ?_
                refine pz 13 112 HT_ ?_; refine pz 14 113 HT_ ?_; refine pz 15 114 HT_ ?_; refine pz 16 115 HT_ ?_; refine pz 20 119 HT_ ?_; refine tk 11 110 HT_ HW_ hHeld ?_; refine pz 12 111 HT_ ?_; refine tk 17 116 HT_ HW_ hHeld ?_; refine pz 18 117 HT_ ?_
                refine pz 19 118 HT_ ?_; refine pz 21 120 HT_ ?_; refine pz 22 121 HT_ ?_; refine pz 23 122 HT_ ?_
                refine Q4 (Qg HT_.out (by kernel_rfl)) ?_
                try go_wp2
                go_roundg k4
                case measure => have := HJ5.out; have := HK2.out; have := HJ27.out; have := HK4.out; omega
                case rel => exact ⟨(wrap64 (x13_4 + 1)), fr, H', ⟨by have := HJ5.out; have := HK2.out; have := HJ27.out; have := HK4.out; omega⟩, ⟨wR HO_4⟩, ⟨wR HO_6⟩, ⟨wS HO_10⟩, ⟨by (with_reducible repeat (first | refine qf ?_ _ | refine qh ?_ | refine qe ?_ _)); exact BK576.out⟩, ⟨bx_ HB⟩⟩
               ·rw [if_neg c43] at H
                have c43b0 := beq_eq_false_iff_ne.mpr c43; have c43b1 := bne_iff_ne.mpr c43
                exact absurd (H.trans (congrArg some HT.out)) (by simp)
              ·replace c39 := Bool.eq_false_iff.mpr c39
               subst c39
               rw [if_neg (show ¬ (false = true) by decide)] at H
               exact absurd (H.trans (congrArg some HT.out)) (by simp)
             ·replace c38 := Bool.eq_false_iff.mpr c38
              subst c38
              rw [if_neg (show ¬ (false = true) by decide)] at H
              exact absurd (H.trans (congrArg some HT.out)) (by simp)
            ·rw [if_neg c31] at H
             have c31b0 := decide_eq_false c31; clear c31; have H' := am H; clear H; go_wp2
             go_roundg k4
             case measure => have := HJ5.out; have := HK2.out; have := HJ27.out; have := HK4.out; omega
             case rel => exact ⟨(wrap64 (x12_2 + 1)), fr, H', ⟨by have := HJ5.out; have := HK2.out; have := HJ27.out; have := HK4.out; omega⟩, ⟨wR HO_4⟩, ⟨wR HO_6⟩, ⟨wS HO_10⟩, ⟨by (with_reducible repeat (first | refine qf ?_ _ | refine qh ?_ | refine qe ?_ _)); exact BK576.out⟩, ⟨bx_ HB⟩⟩
         ·replace c30 := Bool.eq_false_iff.mpr c30
          subst c30
          rw [if_neg (show ¬ (false = true) by decide)] at H
          by_cases c51 : t588 = true
          ·subst c51
           rw [if_pos rfl] at H
           replace H := bs H; obtain ⟨t591, A52, H⟩ := H
           by_cases c53 : t591 = true
           ·subst c53
            rw [if_pos rfl] at H
            replace H := bs H; obtain ⟨t592, A54, H⟩ := H; obtain rfl := Option.some.inj H
            obtain ⟨Ao55, co55, eo55⟩ := Kd.R_slice HO_6.out
            subst eo55
            go_wp2_with (first | (go_at_call 34; (with_reducible refine (Je.calls t569 _ _ t577 true _ ?_ ?_ A52.out).mono ?_); exact Kd.C_below (Kd.R_reads' HO_6.out).2.2 gs; exact (Kd.R_reads' HO_6.out).2.1; rintro e w56 ⟨rfl, hb⟩; replace HO_4 := am (Kd.R_below (wR HO_4) hb); replace HO_6 := am (Kd.R_below (wR HO_6) hb); replace HO_10 := am (Kd.S_below (wS HO_10) hb); replace BK576 := am (qp (g := gb576) (o := .cells #[.int .i64 t573, .int .i64 t574, .int .i64 t575] 43 (0, 0)) (pk_ BK576) hb); replace HB := am (qo (bx_ HB) hb); (try clear hb)) | (go_at_call 35; (with_reducible refine (jg.calls kj27 t569 _ _ t570 _ _ t577 t592 _ ?_ ?_ ?_ ?_ A54.out).mono ?_); exact Kd.C_below (Kd.R_reads' HO_4.out).2.2 gs; exact (Kd.R_reads' HO_4.out).2.1; exact Kd.C_below (Kd.R_reads' HO_6.out).2.2 gs; exact (Kd.R_reads' HO_6.out).2.1; rintro e w57 ⟨rfl, hb⟩; replace HO_4 := am (Kd.R_below (wR HO_4) hb); replace HO_6 := am (Kd.R_below (wR HO_6) hb); replace HO_10 := am (Kd.S_below (wS HO_10) hb); replace BK576 := am (qp (g := gb576) (o := .cells #[.int .i64 t573, .int .i64 t574, .int .i64 t575] 43 (0, 0)) (pk_ BK576) hb); replace HB := am (qo (bx_ HB) hb); (try clear hb)))
            go_ret
            exact ⟨fq, bx_ HB⟩
           ·replace c53 := Bool.eq_false_iff.mpr c53
            subst c53
            rw [if_neg (show ¬ (false = true) by decide)] at H
            exact absurd (H.trans (congrArg some HT.out)) (by simp)
          ·replace c51 := Bool.eq_false_iff.mpr c51
           subst c51
           rw [if_neg (show ¬ (false = true) by decide)] at H
           exact absurd (H.trans (congrArg some HT.out)) (by simp)
def laws_FnImage.Pure : Prop := ∀ (l0 : List Int), l0.length ≤ maxLen → l0.length * 1 ≤ 140737488351232 → (∀ x ∈ l0, (Lit.int .u8 x).wf = true) → ∃ k, laws_FnImage.f k l0 = some true
theorem laws_FnImage.walk (P : laws_FnImage.Pure) (a0 : Option Addr) (len0 cap0 : Nat) (z0 : List Int) (w : World) (w0 : (a0 = none ∧ len0 = 0 ∧ cap0 = 0 ∧ z0 = []) ∨ ∃ x, a0 = some x ∧ len0 ≤ cap0 ∧ cap0 ≤ maxLen ∧ z0.length = cap0 ∧ (∀ i, i < z0.length → w.cell? (x.add i) = some (.int .u8 (z0.getD i 0))) ∧ ∀ n ∈ z0, (Lit.int .u8 n).wf = true) (y0 : len0 * 1 ≤ 140737488351232) :
  Calls Try.prog 6 #[.slice a0 len0 cap0] w fun e w' => e = .returned (.bool true) ∧ Below w.heap.size w w' := by
 obtain ⟨l0, rfl, hr0, hm0, hw0, hc0⟩ := ReadsInt.ofRowC w0
 obtain ⟨k, h⟩ := P l0 hm0 y0 hw0
 refine (laws_FnImage.calls k _ _ l0 true w (Kd.C_of_reads (d := (0 : Int)) (h1 := fun _ => rfl) hr0) hc0 rfl h).mono ?_
 rintro e w' ⟨rfl, hd⟩
 exact ⟨rfl, hd⟩
end Go.Proofs.Ytmgbpmihbljngaa.PA

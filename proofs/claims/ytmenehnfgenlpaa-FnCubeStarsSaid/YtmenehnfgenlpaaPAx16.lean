-- Written by xprint.py, a program of this claim's own (over the kit's print.py)
import Derived.Test.YtmenehnfgenlpaaPAx0
import Derived.Test.YtmenehnfgenlpaaPAx2
import Derived.Test.YtmenehnfgenlpaaPAx4
import Derived.Test.YtmenehnfgenlpaaPAx15
namespace Go.Proofs.Ytmenehnfgenlpaa.PA
open Go.RowKit Go.Proofs.YtmenehnfgenlpaaW.PrintWords Go.Proofs.YtmenehnfgenlpaaW.PrintLast Go.Proofs.YtmenehnfgenlpaaW.PrintMore
attribute [local go_sem] max2_int min2_int max_two min_two max_three min_three max_four min_four   -- for this text's walks alone
set_option linter.unusedVariables false
set_option linter.unusedSimpArgs false

/-! ### spec_SpacePlace: function 13 -/
mutual
def spec_SpacePlace.l0 : Nat → Int → List Int → List Int → List (List Int) → Int → Option (List Int × Bool)
 | 0, _, _, _, _, _ => none
 | k + 1, x0, x1, x2, x8, x9 => if x9 < 4 then (if 0 ≤ x9 then (if x9 < (x1.length : Int) then (if 0 ≤ (wrap64 (4 + x9)) then (if (wrap64 (4 + x9)) < (x1.length : Int) then (if x9 < (x2.length : Int) then ((spec_l4Mod.f x0 (wrap64 (-(rd x2 x9)))).bind fun t489 => (if (wrap64 (4 + x9)) < (x2.length : Int) then ((spec_l4Mod.f x0 (wrap64 (-(rd x2 (wrap64 (4 + x9)))))).bind fun t491 => (if x8.length < 5864062014805 then (spec_SpacePlace.l0 k x0 x1 x2 (x8 ++ [(([rd x1 x9, rd x1 (wrap64 (4 + x9)), t489, t491] : List Int))]) (wrap64 (x9 + 1))) else (none))) else (none))) else (none)) else (none)) else (none)) else (none)) else (none)) else ((spec_l4Null.f k x0 x8 4).bind fun t498 => (if 0 < (t498.length : Int) then (spec_SpacePlace.l1 k x0 x1 (rd_L1 t498 0) (([] : List Int)) 0) else (none)))
def spec_SpacePlace.l1 : Nat → Int → List Int → List Int → List Int → Int → Option (List Int × Bool)
 | 0, _, _, _, _, _ => none
 | k + 1, x0, x1, x10, x11, x12 => if x12 < 4 then (if 0 < (x10.length : Int) then (if 0 ≤ x12 then (if x12 < (x1.length : Int) then (if 1 < (x10.length : Int) then (if 0 ≤ (wrap64 (4 + x12)) then (if (wrap64 (4 + x12)) < (x1.length : Int) then (if x0 = 0 then (none) else (if x11.length < 17592186044416 then (spec_SpacePlace.l1 k x0 x1 x10 (x11 ++ [Int.tmod (wrap64 ((wrap64 ((rd x10 0) * (rd x1 x12))) + (wrap64 ((rd x10 1) * (rd x1 (wrap64 (4 + x12))))))) x0]) (wrap64 (x12 + 1))) else (none))) else (none)) else (none)) else (none)) else (none)) else (none)) else (none)) else ((spec_l4Row.f k x0 x11).bind fun t512 => (some (t512, true)))
end
def spec_SpacePlace.f (k : Nat) (a0 : Int) (l1 : List Int) (l2 : List Int) : Option (List Int × Bool) := (spec_SpaceCross.f k a0 l1 l2).bind fun t479 => (if t479 = true then (spec_SpacePlace.l0 k a0 l1 l2 (([] : List (List Int))) 0) else (some ((([] : List Int)), false)))
theorem spec_SpacePlace.mono_l : ∀ k, (∀ y0 y1 y2 y3 y4, LeO (spec_SpacePlace.l0 k y0 y1 y2 y3 y4) (spec_SpacePlace.l0 (k + 1) y0 y1 y2 y3 y4)) ∧ (∀ y0 y1 y2 y3 y4, LeO (spec_SpacePlace.l1 k y0 y1 y2 y3 y4) (spec_SpacePlace.l1 (k + 1) y0 y1 y2 y3 y4))
 | 0 => ⟨fun _ _ _ _ _ r h => by simp [spec_SpacePlace.l0] at h, fun _ _ _ _ _ r h => by simp [spec_SpacePlace.l1] at h⟩
 | k + 1 => by
  obtain ⟨ih0, ih1⟩ := spec_SpacePlace.mono_l k
  refine ⟨?_, ?_⟩
  ·intro y0 y1 y2 y3 y4
   unfold spec_SpacePlace.l0
   repeat' first | (with_reducible first | apply ih0 | apply ih1 | apply spec_SpaceCross.mono | apply spec_l4Null.mono | apply spec_l4Row.mono | exact LeO.refl _ | exact LeO.none _ | refine LeO.ite ?_ ?_ | refine LeO.bind ?_ (fun _ => ?_)) | (first | apply ih0 | apply ih1 | apply spec_SpaceCross.mono | apply spec_l4Null.mono | apply spec_l4Row.mono | exact LeO.none _ | refine LeO.ite ?_ ?_ | refine LeO.bind ?_ (fun _ => ?_))
  ·intro y0 y1 y2 y3 y4
   unfold spec_SpacePlace.l1
   repeat' first | (with_reducible first | apply ih0 | apply ih1 | apply spec_SpaceCross.mono | apply spec_l4Null.mono | apply spec_l4Row.mono | exact LeO.refl _ | exact LeO.none _ | refine LeO.ite ?_ ?_ | refine LeO.bind ?_ (fun _ => ?_)) | (first | apply ih0 | apply ih1 | apply spec_SpaceCross.mono | apply spec_l4Null.mono | apply spec_l4Row.mono | exact LeO.none _ | refine LeO.ite ?_ ?_ | refine LeO.bind ?_ (fun _ => ?_))
theorem spec_SpacePlace.mono : ∀ a0 a1 a2 k, LeO (spec_SpacePlace.f k a0 a1 a2) (spec_SpacePlace.f (k + 1) a0 a1 a2) := by
 intro a0 a1 a2 k
 obtain ⟨ih0, ih1⟩ := spec_SpacePlace.mono_l k
 unfold spec_SpacePlace.f
 repeat' first | (with_reducible first | apply ih0 | apply ih1 | apply spec_SpaceCross.mono | apply spec_l4Null.mono | apply spec_l4Row.mono | exact LeO.refl _ | exact LeO.none _ | refine LeO.ite ?_ ?_ | refine LeO.bind ?_ (fun _ => ?_)) | (first | apply ih0 | apply ih1 | apply spec_SpaceCross.mono | apply spec_l4Null.mono | apply spec_l4Row.mono | exact LeO.none _ | refine LeO.ite ?_ ?_ | refine LeO.bind ?_ (fun _ => ?_))
def spec_SpacePlace.T7 : Bool × List (List Nat × List Nat) := (true, [([], []), ([], []), ([], []), ([1, 2], [1, 2]), ([3], [3]), ([], []), ([], []), ([6], [6]), ([5, 7], [5, 7]), ([8], [8]), ([], []), ([], []), ([], []), ([11, 12], [11, 12]), ([13], [13]), ([14], [14]), ([10, 15], [10, 15]), ([], []), ([], []), ([], []), ([19], [19]), ([18, 20], [18, 20]), ([21], [21]), ([22], [22]), ([17, 23, 16], [17, 23]), ([4, 9, 16, 24], [4, 9, 16, 24]), ([25], [25]), ([0, 26, 24], [0, 26]), ([27, 27, 0, 1, 2, 3, 4, 5, 6, 7, 8, 9, 10, 11, 12, 13, 14, 15, 16, 17, 18, 19, 20, 21, 22, 23, 24, 25, 26, 27], [0, 27])])
def spec_SpacePlace.B7 : List Nat := [0, 0, 0, 6, 14, 0, 0, 64, 224, 480, 0, 0, 0, 6144, 14336, 30720, 64512, 0, 0, 0, 524288, 1835008, 3932160, 8126464, 16776192, 33554430, 67108862, 134217727, 268435455]
theorem spec_SpacePlace.tab7 : rtab .any (opsOf Try.f13 7) = spec_SpacePlace.T7 := by kernel_rfl
theorem spec_SpacePlace.bits7 : waitsOk spec_SpacePlace.T7.2 spec_SpacePlace.B7 = true := by kernel_rfl
def spec_SpacePlace.T13 : Bool × List (List Nat × List Nat) := (true, [([], []), ([], []), ([1], [1]), ([2], [2]), ([], []), ([], []), ([4, 5], [4, 5]), ([6], [6]), ([3, 7], [3, 7]), ([], []), ([9], [9]), ([10], [10]), ([], []), ([], []), ([13], [13]), ([12, 14], [12, 14]), ([15], [15]), ([11, 16], [11, 16]), ([8, 17], [8, 17]), ([], []), ([18, 19], [18, 19]), ([20], [20]), ([0, 21], [0, 21]), ([22, 22, 0, 1, 2, 3, 4, 5, 6, 7, 8, 9, 10, 11, 12, 13, 14, 15, 16, 17, 18, 19, 20, 21, 22], [0, 22])])
def spec_SpacePlace.B13 : List Nat := [0, 0, 2, 6, 0, 0, 48, 112, 254, 0, 512, 1536, 0, 0, 8192, 28672, 61440, 130560, 262142, 0, 1048574, 2097150, 4194303, 8388607]
theorem spec_SpacePlace.tab13 : rtab .any (opsOf Try.f13 13) = spec_SpacePlace.T13 := by kernel_rfl
theorem spec_SpacePlace.bits13 : waitsOk spec_SpacePlace.T13.2 spec_SpacePlace.B13 = true := by kernel_rfl
theorem spec_SpacePlace.rcell0 {w : World} {base n c : Nat} {ok : Nat → Prop} {ad : Addr} {xs : List Int} (h : Kd.V (Kd.int .i64) 3 w base ok (.slice (some ad) n c) xs) (hi : 0 < xs.length) : w.cell? ad = some (.int .i64 (rd xs 0)) := by
 obtain ⟨ad', e, hc⟩ := Kd.at_int (Kd.V_reads' h).2.2 0 (by omega) (by omega)
 cases e
 rw [show ((0 : Int)).toNat = 0 from rfl, Addr.add_zero'] at hc
 exact hc
theorem spec_SpacePlace.rcell1 {w : World} {base n c : Nat} {ok : Nat → Prop} {ad : Addr} {xs : List Int} (h : Kd.V (Kd.int .i64) 3 w base ok (.slice (some ad) n c) xs) (hi : 1 < xs.length) : w.cell? ⟨ad.block, ad.off + 1, none⟩ = some (.int .i64 (rd xs 1)) := by
 obtain ⟨ad', e, hc⟩ := Kd.at_int (Kd.V_reads' h).2.2 1 (by omega) (by omega)
 cases e
 exact hc
set_option maxHeartbeats 8000000 in
set_option maxRecDepth 100000 in
theorem spec_SpacePlace.calls (k : Nat) (a0 : Int) (A1 : Option Addr) (c1 : Nat) (l1 : List Int) (A2 : Option Addr) (c2 : Nat) (l2 : List Int) (r1 : List Int) (r2 : Bool) (w : World) (hr1 : Kd.C (Kd.int .i64) w A1 l1.length l1) (hc1 : l1.length ≤ c1) (hr2 : Kd.C (Kd.int .i64) w A2 l2.length l2) (hc2 : l2.length ≤ c2) (h : spec_SpacePlace.f k a0 l1 l2 = some (r1, r2)) :
  Calls Try.prog 13 #[.int .i64 a0, .slice A1 l1.length c1, .slice A2 l2.length c2] w fun e w' => ∃ v0_ : Value, e = .returned (.tuple #[v0_, .bool r2]) ∧ Kd.R (Kd.int .i64) 3 w' w.heap.size (fun _ => True) v0_ r1 ∧ Below w.heap.size w w' := by
 have HR1 := am hr1
 have HC1 := am hc1
 clear hr1 hc1
 have HR2 := am hr2
 have HC2 := am hc2
 clear hr2 hc2
 have HB := am (Below.refl w.heap.size w)
 have H : ((spec_SpaceCross.f k a0 l1 l2).bind fun t479 => (if t479 = true then (spec_SpacePlace.l0 k a0 l1 l2 (([] : List (List Int))) 0) else (some ((([] : List Int)), false)))) = some (r1, r2) := h
 clear h; replace H := bs H; obtain ⟨t479, A4, H⟩ := H
 by_cases c5 : t479 = true
 ·subst c5
  rw [if_pos rfl] at H
  generalize hy483 : (([] : List (List Int))) = y483 at H
  have Ny483 := am hy483.symm; clear hy483; have H' := am H; clear H
  go_enter Try.func13, Try.ntmps13
  go_wp2_with (first | ((with_reducible refine gate_callee (f := 37) rfl ?_); refine gl 16 Try.func37 #[.int .i64 a0, .slice A1 l1.length c1, .slice A2 l2.length c2] ?_; (with_reducible refine (spec_SpaceCross.calls k a0 _ _ l1 _ _ l2 true _ ?_ ?_ ?_ ?_ A4.out).mono ?_); exact wC HR1; exact HC1.out; exact wC HR2; exact HC2.out; rintro e w6 ⟨rfl, hb⟩; refine ⟨_, rfl, ?_⟩; replace HB := bq HB hb; (try clear hb)) | ((with_reducible refine gate_dst (N := 19) rfl ?_); refine Kd.N_lit (Kd.slice 3 (Kd.int .i64)) _ 22 ?hg (N' := 19) ?hd (xs := ([] : List (List Int))) (inner := []) (ok := (fun _ => True)) (okp := (fun _ => True)) ?hr ?hp (fun _ hk => hk) ((show ∀ k_, w6.heap.size ≤ k_ → (fun _ => True) k_ from fun k_ hk => trivial) _ (Nat.le_refl _)) (Below.refl _ _) (Nat.le_refl _) (by simp) ?_; (case hd => rfl); (case hg => rfl); (case hr => first | (go_simp; done) | (go_simp; rfl)); (case hp => exact (Reps.none _ _)); intro v484 w7 ho8 hb hg_ hnew_; clear hg_ hnew_; (first | rw [← Ny483.out] at ho8 | (simp only [Int.reduceToNat] at ho8; rw [← Ny483.out] at ho8)); have HO485 := am (Kd.N_lower ho8 (bz HB)); replace HB := bq HB hb; clear hb ho8))
  go_loopg [8, 9] k (fun kq v8 v9 w' => ∃ (x8_1 : List (List Int)) (x9_1 : Int), v9 = .int .i64 x9_1 ∧ Aside0 (spec_SpacePlace.l0 kq a0 l1 l2 x8_1 x9_1 = some (r1, r2)) ∧ Aside0 (kq ≤ k) ∧ Aside0 (Kd.N (Kd.slice 3 (Kd.int .i64)) 22 w' w.heap.size (fun _ => True) v8 x8_1) ∧ Aside0 (Below w.heap.size w w'))
  case atStart => exact ⟨(y483), (0), fr, H', ⟨Nat.le_refl _⟩, ⟨wN HO485⟩, ⟨bw HB⟩⟩
  case round =>
   clear H'; try clear c1; try clear c2; try clear p2; try clear c3; try clear c5
   obtain ⟨x8_1, x9_1, rfl, HA, HK1, HO_8, HB⟩ := hrel
   cases gk with
   | zero => exact absurd HA.out (by simp [spec_SpacePlace.l0])
   | succ k1 =>
    have H := HA.out; clear HA
    simp only [spec_SpacePlace.l0] at H
    by_cases c9 : x9_1 < 4
    ·rw [if_pos c9] at H
     have c9b0 := decide_eq_true c9; clear c9; replace H := ifn H; obtain ⟨c10, H⟩ := H; have c10b0 := decide_eq_true c10; clear c10; replace H := ifn H; obtain ⟨c11, H⟩ := H; have c11b0 := decide_eq_true c11; clear c11
     obtain ⟨ji12, hji12⟩ : ∃ j_ : Int, (wrap64 (4 + x9_1)) = j_ := ⟨_, rfl⟩
     (first | rw [hji12] at H | simp only [hji12] at H)
     have hji12w : (IntKind.i64.wrap (4 + x9_1)) = ji12 := (i64_w _).trans hji12
     replace H := ifn H; obtain ⟨c13, H⟩ := H; have c13b0 := decide_eq_true c13; clear c13; replace H := ifn H; obtain ⟨c14, H⟩ := H; have c14b0 := decide_eq_true c14; clear c14; replace H := ifn H; obtain ⟨c15, H⟩ := H; have c15b0 := decide_eq_true c15
     clear c15; replace H := bs H; obtain ⟨t489, A16, H⟩ := H; replace H := ifn H; obtain ⟨c17, H⟩ := H; have c17b0 := decide_eq_true c17; clear c17; replace H := bs H; obtain ⟨t491, A18, H⟩ := H
     generalize hy492 : (([rd l1 x9_1, rd l1 (ji12), t489, t491] : List Int)) = y492 at H
     have Ny492 := am hy492.symm; clear hy492; replace H := ifn H; obtain ⟨c19, H⟩ := H; have LMc19 := am c19; clear c19
     generalize hy495 : (x8_1 ++ [y492] : List (List Int)) = y495 at H
     have Ny495 := am hy495.symm; clear hy495; have H' := am H; clear H
     try go_wp2
     replace HO_8 := am (Kd.N_drew HO_8.out)
     replace HB := am (below_drew1 HB.out)
     have p486 : 0 ≤ (x9_1 : Int) := od
     have q486 : x9_1 < (l1.length : Int) := od
     obtain ⟨ad486, e486, hx486_0⟩ := Kd.at_int HR1.out x9_1 p486 q486
     have hw486_0 := hx486_0
     cases e486
     replace hx486_0 := wcl HB hx486_0
     replace p486 := eq_true p486; replace q486 := eq_true q486
     have p487 : 0 ≤ ((ji12) : Int) := od
     have q487 : (ji12) < (l1.length : Int) := od
     obtain ⟨ad487, e487, hx487_0⟩ := Kd.at_int HR1.out (ji12) p487 q487
     have hw487_0 := hx487_0
     obtain rfl : ad486 = ad487 := (by injection e487)
     replace hx487_0 := wcl HB hx487_0
     replace p487 := eq_true p487; replace q487 := eq_true q487
     have p488 : 0 ≤ (x9_1 : Int) := od
     have q488 : x9_1 < (l2.length : Int) := od
     obtain ⟨ad488, e488, hx488_0⟩ := Kd.at_int HR2.out x9_1 p488 q488
     have hw488_0 := hx488_0
     cases e488
     replace hx488_0 := wcl HB hx488_0
     replace p488 := eq_true p488; replace q488 := eq_true q488
     have p490 : 0 ≤ ((ji12) : Int) := od
     have q490 : (ji12) < (l2.length : Int) := od
     obtain ⟨ad490, e490, hx490_0⟩ := Kd.at_int HR2.out (ji12) p490 q490
     have hw490_0 := hx490_0
     obtain rfl : ad488 = ad490 := (by injection e490)
     replace hx490_0 := wcl HB hx490_0
     replace p490 := eq_true p490; replace q490 := eq_true q490
     refine st 29 (fun w' => w'.cell? (ad486.add (x9_1).toNat) = some (.int .i64 (rd l1 x9_1)) ∧ w'.cell? (ad486.add ((ji12)).toNat) = some (.int .i64 (rd l1 (ji12))) ∧ w'.cell? (ad488.add (x9_1).toNat) = some (.int .i64 (rd l2 x9_1)) ∧ w'.cell? (ad488.add ((ji12)).toNat) = some (.int .i64 (rd l2 (ji12)))) [] spec_SpacePlace.tab7 spec_SpacePlace.bits7 (⟨(wcl HB hw486_0), (wcl HB hw487_0), (wcl HB hw488_0), (wcl HB hw490_0)⟩) fun hHeld HT_ HW_ => ?_
     generalize wr.drew = w20 at HO_8 HB hx486_0 hx487_0 hx488_0 hx490_0 hHeld ⊢
     refine pz 0 24 HT_ ?_; refine pz 1 25 HT_ ?_; refine pz 2 26 HT_ ?_; refine pz 3 27 HT_ ?_; refine pz 5 29 HT_ ?_; refine pz 6 30 HT_ ?_; refine pz 7 31 HT_ ?_; refine pz 8 32 HT_ ?_; refine pz 10 34 HT_ ?_; refine pz 11 35 HT_ ?_; refine pz 12 36 HT_ ?_
     refine pz 13 37 HT_ ?_; refine pz 17 41 HT_ ?_; refine pz 18 42 HT_ ?_; refine pz 19 43 HT_ ?_; refine pz 20 44 HT_ ?_; refine pz 21 45 HT_ ?_; refine tk 4 28 HT_ HW_ hHeld ?_; refine tk 9 33 HT_ HW_ hHeld ?_; refine tk 14 38 HT_ HW_ hHeld ?_
     refine pz 15 39 HT_ ?_; refine tk 22 46 HT_ HW_ hHeld ?_; refine pz 23 47 HT_ ?_
     refine on 16 (some 40) HT_ fun K hK => ?_
     refine gs_ Try.func42 #[.int .i64 a0, .int .i64 (wrap64 (-(rd l2 x9_1)))] ?_
     with_reducible refine (spec_l4Mod.calls a0 (wrap64 (-(rd l2 x9_1))) t489 _ A16.out).mono ?_
     rintro e w' ⟨rfl, ⟨nd, rfl⟩⟩
     refine ⟨_, rfl, ?_⟩
     refine hK.out _ _ ⟨(wcl HB hw486_0), (wcl HB hw487_0), (wcl HB hw488_0), (wcl HB hw490_0)⟩ fun hHeld => nz ?_
     clear hK K
     refine on 24 (some 48) HT_ fun K hK => ?_
     refine gs_ Try.func42 #[.int .i64 a0, .int .i64 (wrap64 (-(rd l2 (ji12))))] ?_ (hargs := by (try simp only [List.map_toArray, List.map_cons, List.map_nil]); first | done | (simp only [hji12]; rfl) | rfl | (simp only [List.length_drop, List.length_take]; rfl))
     with_reducible refine (spec_l4Mod.calls a0 (wrap64 (-(rd l2 (ji12)))) t491 _ A18.out).mono ?_
     rintro e w' ⟨rfl, ⟨nd, rfl⟩⟩
     refine ⟨_, rfl, ?_⟩
     refine hK.out _ _ ⟨(wcl HB hw486_0), (wcl HB hw487_0), (wcl HB hw488_0), (wcl HB hw490_0)⟩ fun hHeld => nz ?_
     clear hK K
     refine on 25 (some 49) HT_ fun K hK => ?_
     refine Kd.R_lit_step (Kd.int .i64) _ 3 ?hg (N := 49) ?hd (xs := ([rd l1 x9_1, rd l1 (ji12), t489, t491] : List Int)) (inner := [.int .i64 (rd l1 x9_1), .int .i64 (rd l1 (ji12)), .int .i64 t489, .int .i64 t491]) (ok := fun _ => True) (okp := fun _ => True) ?hr ?hp (fun _ hk => hk) trivial (Below.refl _ _) (Nat.le_refl _) (by simp) ?_; (case hd => rfl); (case hg => rfl); (case hr => first | (go_simp; done) | (go_simp; rfl)); (case hp => exact (Reps.one (show Kd.M (Kd.int .i64) _ _ _ (rd l1 x9_1) [.int .i64 (rd l1 x9_1)] from rfl) (Reps.one (show Kd.M (Kd.int .i64) _ _ _ (rd l1 (ji12)) [.int .i64 (rd l1 (ji12))] from rfl) (Reps.one (show Kd.M (Kd.int .i64) _ _ _ t489 [.int .i64 t489] from rfl) (Reps.one (show Kd.M (Kd.int .i64) _ _ _ t491 [.int .i64 t491] from rfl) (Reps.none _ _))))))
     intro v493 w21 ho22 hb hg_ hnew_
     clear hg_ hnew_
     (first | rw [← Ny492.out] at ho22 | (simp only [Int.reduceToNat] at ho22; rw [← Ny492.out] at ho22))
     replace HO_8 := eN HO_8 (Kd.R_base ho22) hb
     have HO494 := am (Kd.R_lower ho22 (bz HB))
     replace HB := bq HB hb
     clear hb ho22
     obtain ⟨Ao24, co24, eo24⟩ := Kd.R_slice HO494.out
     (first | subst eo24 | (injection eo24 with f1_ f2_ f3_; have f4_ := f1_.symm; have f5_ := f3_.symm; clear f1_ f2_ f3_; subst f4_; subst f5_))
     refine hK.out _ _ ⟨(wcl HB hw486_0), (wcl HB hw487_0), (wcl HB hw488_0), (wcl HB hw490_0)⟩ fun hHeld => nz ?_
     clear hK K
     refine on 26 (some 50) HT_ fun K hK => ?_
     refine value_ (w1 := ?_) (v := ?_) (by rfl) rfl ?_ ?_
     rotate_left 2
     ·go_simp
      constructor
      ·rfl
      ·rfl
     refine hK.out _ _ ⟨(World.cell?_alloc_lt _ _ _ (World.block_lt_of_cell? _ _ ((wcl HB hw486_0)))).trans ((wcl HB hw486_0)), (World.cell?_alloc_lt _ _ _ (World.block_lt_of_cell? _ _ ((wcl HB hw487_0)))).trans ((wcl HB hw487_0)), (World.cell?_alloc_lt _ _ _ (World.block_lt_of_cell? _ _ ((wcl HB hw488_0)))).trans ((wcl HB hw488_0)), (World.cell?_alloc_lt _ _ _ (World.block_lt_of_cell? _ _ ((wcl HB hw490_0)))).trans ((wcl HB hw490_0))⟩ fun hHeld => nz ?_
     clear hK K
     refine on 27 (some 51) HT_ fun K hK => ?_
     refine Kd.N_append_step (Kd.slice 3 (Kd.int .i64)) (w0 := w) w.heap.size (by rfl) (.tmp 24) (.tmp 50) 45 22 (.slice none 0 0) 24 rfl Try.underlying45 info22 rfl (by decide) (by omega) u8 x8_1 y492 [.slice Ao24 y492.length co24] (fun _ => True) (fun k_ => ((fun _ => True)) k_ ∧ some k_ ≠ (u8 : Value).ownBlock) rfl rfl ?aP (fun _ hk => hk) ?aF ?aO ?aB ?aS ?aL ?_
     (case aP => exact (Kd.FK_slice_mk (Kd.R_reads' (Kd.R_mono (ok' := (fun k_ => ((fun _ => True)) k_ ∧ some k_ ≠ (u8 : Value).ownBlock)) (Kd.R_apart' (HO494.out) (Kd.N_typed HO_8.out) (by decide)) (fun k_ hk => ⟨trivial, hk.2⟩))).2.1 (Kd.R_F (Kd.R_mono (ok' := (fun k_ => ((fun _ => True)) k_ ∧ some k_ ≠ (u8 : Value).ownBlock)) (Kd.R_apart' (HO494.out) (Kd.N_typed HO_8.out) (by decide)) (fun k_ hk => ⟨trivial, hk.2⟩)))))
     (case aB => exact (bw HB))
     (case aF => exact (fun _ _ => trivial))
     (case aO => exact (by (with_reducible repeat (first | apply Kd.N_alloc | apply Kd.N_drewN | apply Kd.N_drew)); exact Kd.N_mono HO_8.out (fun _ hk => trivial)))
     (case aS => exact (bz HB))
     (case aL => have := LMc19.out; omega)
     intro v496 w23 ho hb hg hat
     rw [← Ny495.out] at ho
     replace HB := am (hb)
     have HO497 := am (ho)
     clear HO_8 HO494; clear ho hb hg hat
     refine hK.out _ _ ⟨(wcl HB hw486_0), (wcl HB hw487_0), (wcl HB hw488_0), (wcl HB hw490_0)⟩ fun hHeld => nz ?_
     clear hK K; refine pz 28 8 HT_ ?_
     refine done_ (done_of HT_.out (by kernel_rfl)) ?_
     try go_wp2
     go_roundg k1
     case measure => have := HK1.out; omega
     case rel => exact ⟨(y495), (wrap64 (x9_1 + 1)), fr, H', ⟨by have := HK1.out; omega⟩, ⟨wN HO497⟩, ⟨bw HB⟩⟩
    ·rw [if_neg c9] at H
     have c9b0 := decide_eq_false c9; clear c9; replace H := bs H; obtain ⟨t498, A25, H⟩ := H; replace H := ifn H; obtain ⟨c26, H⟩ := H; have c26b0 := decide_eq_true c26
     have c26b1 : decide (0 < t498.length) = true := decide_eq_true (by omega)
     clear c26
     generalize hy502 : (([] : List Int)) = y502 at H
     have Ny502 := am hy502.symm; clear hy502; have H' := am H; clear H
     obtain ⟨Ao27, co27, eo27⟩ := Kd.N_slice HO_8.out
     subst eo27
     go_wp2_with (first | ((with_reducible refine gate_callee (f := 43) rfl ?_); refine gl 54 Try.func43 #[.int .i64 a0, .slice Ao27 x8_1.length co27, .int .i64 4] ?_; (with_reducible refine (spec_l4Null.calls k1 a0 (fun k_ => True) _ _ x8_1 4 t498 _ ?_ A25.out).mono ?_); exact Kd.N_V (HO_8.out); rintro e w28 ⟨v499, rfl, ho0, hb⟩; refine ⟨_, rfl, ?_⟩; replace HO_8 := eN HO_8 (Kd.N_base ho0) hb; have HO500 := am (Kd.N_lower (Kd.N_mono (ok' := fun k_ => True) ho0 (fun k_ hk_ => trivial)) (bz HB)); replace HB := bq HB hb; (try clear hb); (try clear ho0); obtain ⟨Ao29, co29, eo29⟩ := Kd.N_slice HO500.out; subst eo29; have p501 : 0 ≤ (0 : Int) := (by omega); have q501 : 0 < (t498.length : Int) := od; obtain ⟨ad501, A501_0, c501_0, e501, hx501_0, hl501_0, hi501_0⟩ := at_L1 (Kd.N_reads' HO500.out).2.2 0 p501 q501; cases e501; obtain ⟨ce501, hce501, hMe501, hcc501⟩ := Kd.N_get HO500.out [] 0 p501 (by first | exact q501 | exact od | (have e_ := (Kd.N_reads' HO500.out).1; omega)); obtain ⟨ua501_0, uc501_0, rfl, ul501_0, ge501_0⟩ := Kd.FK_slice_open hMe501; have hv501_0 := hcc501 0 _ rfl; rw [Nat.add_zero, show ((Kd.slice 3 (Kd.int .i64))).sz = 1 from rfl, Nat.mul_one] at hv501_0; replace hv501_0 := Option.some.inj (hv501_0.symm.trans hx501_0); injection hv501_0 with hva_ hvn_ hvc_; rw [hva_] at ge501_0; rw [hvc_] at ul501_0; have HL501_0 := am (show Kd.V (Kd.int .i64) 3 _ w.heap.size _ _ (rd_L1 t498 0) from Kd.V_mk ul501_0 ge501_0); clear hva_ hvn_ hvc_ ge501_0 ul501_0; clear hcc501 hce501; have qi501 : (0 < t498.length) = True := eq_true (by omega); (try rw [show ((0 : Int)).toNat = 0 from rfl] at hx501_0); (try rw [Addr.add_zero'] at hx501_0); have HR501_0 := am hi501_0; have HC501_0 := am hl501_0; clear hi501_0 hl501_0; replace p501 := eq_true p501; replace q501 := eq_true q501) | ((with_reducible refine gate_dst (N := 57) rfl ?_); refine li 3 ([] : List Int) ?_; intro v503 w30 ho31 hb; (first | rw [← Ny502.out] at ho31 | (simp only [Int.reduceToNat] at ho31; rw [← Ny502.out] at ho31)); replace HO_8 := eN HO_8 (Kd.R_base ho31) hb; replace HO500 := eN HO500 (Kd.R_base ho31) hb; replace HL501_0 := eV HL501_0 (Kd.R_base ho31) hb; have HO504 := am (Kd.R_lower ho31 (bz HB)); replace HR501_0 := am (Kd.C_below (wC HR501_0) hb); replace HB := bq HB hb; clear hb ho31))
     go_loopg [11, 12] k1 (fun kq v11 v12 w' => ∃ (x11_2 : List Int) (x12_2 : Int), v12 = .int .i64 x12_2 ∧ Aside0 (spec_SpacePlace.l1 kq a0 l1 (rd_L1 t498 0) x11_2 x12_2 = some (r1, r2)) ∧ Aside0 (kq ≤ k1) ∧ Aside0 (Kd.R (Kd.int .i64) 3 w' w.heap.size (fun _ => True) v11 x11_2) ∧ Aside0 (Kd.V (Kd.int .i64) 3 w' w.heap.size (fun k_ => some k_ ≠ (v11 : Value).ownBlock) (.slice A501_0 (rd_L1 t498 0).length c501_0) (rd_L1 t498 0)) ∧ Aside0 (Below w.heap.size w w'))
     case atStart => exact ⟨(y502), (0), fr, H', ⟨Nat.le_refl _⟩, ⟨wR HO504⟩, ⟨Kd.V_below (Kd.V_mono HL501_0.out (fun _ hk => hk.2)) gs⟩, ⟨bw HB⟩⟩
     case round =>
      clear H'; try clear c1; try clear c2; try clear p2; try clear c3; try clear c4; try clear p4; try clear q4; try clear hx4; try clear c5; try clear p5; try clear q5; try clear hx5; try clear qi5; try clear p6; try clear c9; try clear c9b0; try clear c10
      try clear c10b0; try clear c11; try clear c11b0; try clear c13; try clear c13b0; try clear c14; try clear c14b0; try clear c15; try clear c15b0; try clear c17; try clear c17b0; try clear c19; try clear c26; try clear c26b0; try clear c26b1; try clear hx486_0
      try clear hx487_0; try clear hx488_0; try clear hx490_0; try clear hx501_0; try clear p2; try clear p486; try clear p487; try clear p488; try clear p490; try clear p501; try clear q486; try clear q487; try clear q488; try clear q490; try clear q501
      obtain ⟨x11_2, x12_2, rfl, HA, HK2, HO_11, HX_, HB⟩ := hrel
      cases gk with
      | zero => exact absurd HA.out (by simp [spec_SpacePlace.l1])
      | succ k2 =>
       have H := HA.out; clear HA
       simp only [spec_SpacePlace.l1] at H
       by_cases c32 : x12_2 < 4
       ·rw [if_pos c32] at H
        have c32b0 := decide_eq_true c32; clear c32; replace H := ifn H; obtain ⟨c33, H⟩ := H; have c33b0 := decide_eq_true c33
        have c33b1 : decide (0 < (rd_L1 t498 0).length) = true := decide_eq_true (by omega)
        clear c33; replace H := ifn H; obtain ⟨c34, H⟩ := H; have c34b0 := decide_eq_true c34; clear c34; replace H := ifn H; obtain ⟨c35, H⟩ := H; have c35b0 := decide_eq_true c35; clear c35; replace H := ifn H; obtain ⟨c36, H⟩ := H; have c36b0 := decide_eq_true c36
        have c36b1 : decide (1 < (rd_L1 t498 0).length) = true := decide_eq_true (by omega)
        clear c36
        obtain ⟨ji37, hji37⟩ : ∃ j_ : Int, (wrap64 (4 + x12_2)) = j_ := ⟨_, rfl⟩
        (first | rw [hji37] at H | simp only [hji37] at H)
        have hji37w : (IntKind.i64.wrap (4 + x12_2)) = ji37 := (i64_w _).trans hji37
        replace H := ifn H; obtain ⟨c38, H⟩ := H; have c38b0 := decide_eq_true c38; clear c38; replace H := ifn H; obtain ⟨c39, H⟩ := H; have c39b0 := decide_eq_true c39; clear c39; replace H := ifm H; obtain ⟨c40, H⟩ := H; have c40b0 := beq_eq_false_iff_ne.mpr c40
        have c40b1 := bne_iff_ne.mpr c40; replace H := ifn H; obtain ⟨c41, H⟩ := H; have LMc41 := am c41; clear c41
        generalize hy509 : (x11_2 ++ [Int.tmod (wrap64 ((wrap64 ((rd (rd_L1 t498 0) 0) * (rd l1 x12_2))) + (wrap64 ((rd (rd_L1 t498 0) 1) * (rd l1 (ji37)))))) a0] : List Int) = y509 at H
        have Ny509 := am hy509.symm; clear hy509; have H' := am H; clear H
        try go_wp2
        have n0_ := am (Kd.R_drew HO_11.out)
        have n1_ := am (below_drew1 HB.out)
        have nx_ := am (Kd.V_drew HX_.out)
        clear HX_
        have HX_ := nx_
        clear nx_; clear HO_11; clear HB
        have HO_11 := n0_
        have HB := n1_
        clear n0_ n1_
        have p505 : 0 ≤ (0 : Int) := (by omega)
        have q505 : 0 < ((rd_L1 t498 0).length : Int) := od
        obtain ⟨ad505, e505, hx505_0⟩ := Kd.at_int (Kd.V_reads' HX_.out).2.2 0 p505 q505
        have hw505_0 := hx505_0
        (try rw [show ((0 : Int)).toNat = 0 from rfl] at hw505_0)
        (try rw [show 0 * 1 = 0 from rfl] at hw505_0)
        (try rw [Addr.add_zero'] at hw505_0)
        cases e505
        have qi505 : (0 < (rd_L1 t498 0).length) = True := eq_true (by omega)
        (try rw [show ((0 : Int)).toNat = 0 from rfl] at hx505_0)
        (try rw [Addr.add_zero'] at hx505_0)
        replace p505 := eq_true p505; replace q505 := eq_true q505
        have p506 : 0 ≤ (x12_2 : Int) := od
        have q506 : x12_2 < (l1.length : Int) := od
        obtain ⟨ad506, e506, hx506_0⟩ := Kd.at_int HR1.out x12_2 p506 q506
        have hw506_0 := hx506_0
        cases e506
        replace hx506_0 := wcl HB hx506_0
        replace p506 := eq_true p506; replace q506 := eq_true q506
        have p507 : 0 ≤ (1 : Int) := (by omega)
        have q507 : 1 < ((rd_L1 t498 0).length : Int) := od
        obtain ⟨ad507, e507, hx507_0⟩ := Kd.at_int (Kd.V_reads' HX_.out).2.2 1 p507 q507
        have hw507_0 := hx507_0
        (try rw [show ((1 : Int)).toNat = 1 from rfl] at hw507_0)
        (try rw [show 1 * 1 = 1 from rfl] at hw507_0)
        (try simp only [Nat.reduceMul, Nat.reduceEqDiff, Go.Addr.add, ↓reduceIte] at hw507_0)
        obtain rfl : ad505 = ad507 := (by injection e507)
        (try simp only [show (1 : Int).toNat = 1 from rfl, Nat.reduceMul, Nat.reduceEqDiff, Go.Addr.add, ↓reduceIte] at hx507_0)
        have qi507 : (1 < (rd_L1 t498 0).length) = True := eq_true (by omega)
        (try rw [show ((1 : Int)).toNat = 1 from rfl] at hx507_0)
        replace p507 := eq_true p507; replace q507 := eq_true q507
        have p508 : 0 ≤ ((ji37) : Int) := od
        have q508 : (ji37) < (l1.length : Int) := od
        obtain ⟨ad508, e508, hx508_0⟩ := Kd.at_int HR1.out (ji37) p508 q508
        have hw508_0 := hx508_0
        obtain rfl : ad506 = ad508 := (by injection e508)
        replace hx508_0 := wcl HB hx508_0
        replace p508 := eq_true p508; replace q508 := eq_true q508
        refine st 24 (fun w' => w'.cell? ad505 = some (.int .i64 (rd (rd_L1 t498 0) 0)) ∧ w'.cell? (ad506.add (x12_2).toNat) = some (.int .i64 (rd l1 x12_2)) ∧ w'.cell? ⟨ad505.block, ad505.off + 1, none⟩ = some (.int .i64 (rd (rd_L1 t498 0) 1)) ∧ w'.cell? (ad506.add ((ji37)).toNat) = some (.int .i64 (rd l1 (ji37)))) [] spec_SpacePlace.tab13 spec_SpacePlace.bits13 (⟨hw505_0, (wcl HB hw506_0), hw507_0, (wcl HB hw508_0)⟩) fun hHeld HT_ HW_ => ?_
        generalize wr.drew = w42 at HX_ hw505_0 hw507_0 HO_11 HB hx505_0 hx506_0 hx507_0 hx508_0 hHeld ⊢
        refine pz 0 62 HT_ ?_; refine pz 1 63 HT_ ?_; refine pz 2 64 HT_ ?_; refine pz 4 66 HT_ ?_; refine pz 5 67 HT_ ?_; refine pz 6 68 HT_ ?_; refine pz 9 71 HT_ ?_; refine pz 10 72 HT_ ?_; refine pz 12 74 HT_ ?_; refine pz 13 75 HT_ ?_; refine pz 14 76 HT_ ?_
        refine pz 15 77 HT_ ?_; refine pz 19 81 HT_ ?_; refine tk 3 65 HT_ HW_ hHeld ?_; refine tk 7 69 HT_ HW_ hHeld ?_; refine pz 8 70 HT_ ?_; refine tk 11 73 HT_ HW_ hHeld ?_; refine tk 16 78 HT_ HW_ hHeld ?_; refine pz 17 79 HT_ ?_; refine pz 18 80 HT_ ?_
        refine pz 20 82 HT_ ?_
        refine on 21 (some 83) HT_ fun K hK => ?_
        refine value_ (w1 := ?_) (v := ?_) (by rfl) rfl ?_ ?_
        rotate_left 2
        ·go_simp
         constructor
         ·rfl
         ·rfl
        refine hK.out _ _ ⟨(World.cell?_alloc_lt _ _ _ (World.block_lt_of_cell? _ _ (hw505_0))).trans (hw505_0), (World.cell?_alloc_lt _ _ _ (World.block_lt_of_cell? _ _ ((wcl HB hw506_0)))).trans ((wcl HB hw506_0)), (World.cell?_alloc_lt _ _ _ (World.block_lt_of_cell? _ _ (hw507_0))).trans (hw507_0), (World.cell?_alloc_lt _ _ _ (World.block_lt_of_cell? _ _ ((wcl HB hw508_0)))).trans ((wcl HB hw508_0))⟩ fun hHeld => nz ?_
        clear hK K
        refine on 22 (some 84) HT_ fun K hK => ?_
        refine Kd.R_append_step (Kd.int .i64) (w0 := w) w.heap.size (by rfl) (.tmp 62) (.tmp 83) 22 3 (.int .i64 0) 8 rfl Try.underlying22 info3 rfl (by decide) (by omega) u11 x11_2 (Int.tmod (wrap64 ((wrap64 ((rd (rd_L1 t498 0) 0) * (rd l1 x12_2))) + (wrap64 ((rd (rd_L1 t498 0) 1) * (rd l1 (ji37)))))) a0) [.int .i64 (Int.tmod (wrap64 ((wrap64 ((rd (rd_L1 t498 0) 0) * (rd l1 x12_2))) + (wrap64 ((rd (rd_L1 t498 0) 1) * (rd l1 (ji37)))))) a0)] (fun _ => True) (fun _ => False) rfl rfl ?aP (fun _ hk => hk.elim) ?aF ?aO ?aB ?aS ?aL ?_
        (case aP => exact rfl)
        (case aB => exact (bw HB))
        (case aF => exact (fun _ _ => trivial))
        (case aO => exact (wR HO_11))
        (case aS => exact (bz HB))
        (case aL => have := LMc41.out; omega)
        intro v510 w43 ho hb hg hat
        have nx_ := am (Kd.V_afterv (v := u11) (v1 := v510) (ok := fun _ => True) (Kd.V_mono (wV HX_) (fun _ hk => ⟨trivial, hk⟩)) hg hat)
        clear HX_
        have HX_ := nx_
        clear nx_
        rw [← Ny509.out] at ho
        replace HB := am (hb)
        have HO511 := am (ho)
        clear HO_11; clear ho hb hg hat
        refine hK.out _ _ ⟨(spec_SpacePlace.rcell0 HX_.out (of_eq_true qi505)), (wcl HB hw506_0), (spec_SpacePlace.rcell1 HX_.out (of_eq_true qi507)), (wcl HB hw508_0)⟩ fun hHeld => nz ?_
        clear hK K; refine pz 23 11 HT_ ?_
        refine done_ (done_of HT_.out (by kernel_rfl)) ?_
        try go_wp2
        go_roundg k2
        case measure => have := HK1.out; have := HK2.out; omega
        case rel => exact ⟨(y509), (wrap64 (x12_2 + 1)), fr, H', ⟨by have := HK1.out; have := HK2.out; omega⟩, ⟨wR HO511⟩, ⟨Kd.V_below (Kd.V_mono HX_.out (fun _ hk => hk.2)) gs⟩, ⟨bw HB⟩⟩
       ·rw [if_neg c32] at H
        have c32b0 := decide_eq_false c32; clear c32; replace H := bs H; obtain ⟨t512, A44, H⟩ := H
        simp only [Option.some.injEq, Prod.mk.injEq] at H
        obtain ⟨rfl, rfl⟩ := H
        obtain ⟨Ao45, co45, eo45⟩ := Kd.R_slice HO_11.out
        subst eo45
        go_wp2_with (first | ((with_reducible refine gate_callee (f := 44) rfl ?_); refine gl 87 Try.func44 #[.int .i64 a0, .slice Ao45 x11_2.length co45] ?_; (with_reducible refine (spec_l4Row.calls k2 a0 _ _ x11_2 t512 _ ?_ ?_ A44.out).mono ?_); exact Kd.C_below (Kd.R_reads' HO_11.out).2.2 gs; exact (Kd.R_reads' HO_11.out).2.1; rintro e w46 ⟨v513, rfl, ho0, hb⟩; refine ⟨_, rfl, ?_⟩; have HO514 := am (Kd.R_lower (Kd.R_new' ho0 (Kd.R_lt (wR HO_11))) (bz HB)); replace HO_11 := eR HO_11 (Kd.R_base ho0) hb; replace HB := bq HB hb; (try clear hb); (try clear ho0)))
        go_ret2
        exact ⟨_, fq, Kd.R_below (Kd.R_mono HO514.out (fun _ hk => trivial)) gs, bw HB⟩
 ·replace c5 := Bool.eq_false_iff.mpr c5
  subst c5
  rw [if_neg (show ¬ (false = true) by decide)] at H
  generalize hy480 : (([] : List Int)) = y480 at H
  have Ny480 := am hy480.symm; clear hy480
  simp only [Option.some.injEq, Prod.mk.injEq] at H
  obtain ⟨rfl, rfl⟩ := H
  go_enter Try.func13, Try.ntmps13
  go_wp2_with (first | ((with_reducible refine gate_callee (f := 37) rfl ?_); refine gl 16 Try.func37 #[.int .i64 a0, .slice A1 l1.length c1, .slice A2 l2.length c2] ?_; (with_reducible refine (spec_SpaceCross.calls k a0 _ _ l1 _ _ l2 false _ ?_ ?_ ?_ ?_ A4.out).mono ?_); exact wC HR1; exact HC1.out; exact wC HR2; exact HC2.out; rintro e w47 ⟨rfl, hb⟩; refine ⟨_, rfl, ?_⟩; replace HB := bq HB hb; (try clear hb)) | ((with_reducible refine gate_dst (N := 18) rfl ?_); refine li 3 ([] : List Int) ?_; intro v481 w48 ho49 hb; (first | rw [← Ny480.out] at ho49 | (simp only [Int.reduceToNat] at ho49; rw [← Ny480.out] at ho49)); have HO482 := am (Kd.R_lower ho49 (bz HB)); replace HB := bq HB hb; clear hb ho49))
  go_ret2
  exact ⟨_, fq, wR HO482, bw HB⟩
end Go.Proofs.Ytmenehnfgenlpaa.PA

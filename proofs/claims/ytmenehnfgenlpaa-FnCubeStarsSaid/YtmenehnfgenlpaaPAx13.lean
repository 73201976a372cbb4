-- Written by xprint.py, a program of this claim's own (over the kit's print.py)
import Derived.Test.YtmenehnfgenlpaaPAx0
import Derived.Test.YtmenehnfgenlpaaPAx12
import Derived.Deep.Cut
import Derived.BigQuiet
import Derived.Deep.QuietTactic
namespace Go.Proofs.Ytmenehnfgenlpaa.PA
open Go.RowKit Go.Proofs.YtmenehnfgenlpaaW.PrintWords Go.Proofs.YtmenehnfgenlpaaW.PrintLast Go.Proofs.YtmenehnfgenlpaaW.PrintMore
attribute [local go_sem] max2_int min2_int max_two min_two max_three min_three max_four min_four   -- for this text's walks alone
set_option linter.unusedVariables false
set_option linter.unusedSimpArgs false

/-! ### spec_l6Rd_pick: function 64 -/
def spec_l6Rd_pick.j0 : Nat → Int → Bool → List Int → Int → Option (Int × Int)
 | 0, _, _, _, _ => none
 | k + 1, x1, x24, x1000, x1001 => if x24 = true then (some (0, x1001)) else (if (wrap64 (x1001 - 1)) < (x1000.length : Int) then (if 0 ≤ (wrap64 (x1001 - 1)) then (if x1 = 0 then (none) else (some (Int.tmod (wrap64 (rd x1000 (wrap64 (x1001 - 1)))) x1, x1001))) else (none)) else (if (x1000.length : Int) = 0 then (none) else (if 0 ≤ (Int.tmod (wrap64 (x1001 - 1)) (x1000.length : Int)) then (if (Int.tmod (wrap64 (x1001 - 1)) (x1000.length : Int)) < (x1000.length : Int) then (if 0 ≤ (Int.tmod (wrap64 ((wrap64 ((wrap64 (x1001 - 1)) * 7)) + 3)) (x1000.length : Int)) then (if (Int.tmod (wrap64 ((wrap64 ((wrap64 (x1001 - 1)) * 7)) + 3)) (x1000.length : Int)) < (x1000.length : Int) then (if x1 = 0 then (none) else (some (Int.tmod (Go.bits .xor .i64 (wrap64 ((wrap64 ((wrap64 ((wrap64 ((wrap64 (rd x1000 (Int.tmod (wrap64 (x1001 - 1)) (x1000.length : Int)))) * 131)) + (wrap64 ((wrap64 (rd x1000 (Int.tmod (wrap64 ((wrap64 ((wrap64 (x1001 - 1)) * 7)) + 3)) (x1000.length : Int)))) * 1117)))) + (wrap64 ((wrap64 (x1001 - 1)) * 29)))) + (wrap64 ((wrap64 (Int.tdiv (wrap64 (x1001 - 1)) (x1000.length : Int))) * 53)))) (wrap64 (Int.tdiv (wrap64 ((wrap64 ((wrap64 ((wrap64 ((wrap64 (rd x1000 (Int.tmod (wrap64 (x1001 - 1)) (x1000.length : Int)))) * 131)) + (wrap64 ((wrap64 (rd x1000 (Int.tmod (wrap64 ((wrap64 ((wrap64 (x1001 - 1)) * 7)) + 3)) (x1000.length : Int)))) * 1117)))) + (wrap64 ((wrap64 (x1001 - 1)) * 29)))) + (wrap64 ((wrap64 (Int.tdiv (wrap64 (x1001 - 1)) (x1000.length : Int))) * 53)))) 64))) x1, x1001))) else (none)) else (none)) else (none)) else (none))))
def spec_l6Rd_pick.f (k : Nat) (s0_0 : List Int) (s0_1 : Int) (a1 : Int) : Option (Int × Int) := if a1 < 1 then (spec_l6Rd_pick.j0 k a1 true s0_0 (wrap64 (s0_1 + 1))) else (spec_l6Rd_pick.j0 k a1 ((s0_0.length : Int) == 0) s0_0 (wrap64 (s0_1 + 1)))
theorem spec_l6Rd_pick.mono_l : ∀ k, (∀ y0 y1 y2 y3, LeO (spec_l6Rd_pick.j0 k y0 y1 y2 y3) (spec_l6Rd_pick.j0 (k + 1) y0 y1 y2 y3))
 | 0 => fun _ _ _ _ r h => by simp [spec_l6Rd_pick.j0] at h
 | k + 1 => by
  have ih0 := spec_l6Rd_pick.mono_l k
  ·intro y0 y1 y2 y3
   unfold spec_l6Rd_pick.j0
   repeat' first | (with_reducible first | apply ih0 | exact LeO.refl _ | exact LeO.none _ | refine LeO.ite ?_ ?_ | refine LeO.bind ?_ (fun _ => ?_)) | (first | apply ih0 | exact LeO.none _ | refine LeO.ite ?_ ?_ | refine LeO.bind ?_ (fun _ => ?_))
theorem spec_l6Rd_pick.mono : ∀ a0 a1 a2 k, LeO (spec_l6Rd_pick.f k a0 a1 a2) (spec_l6Rd_pick.f (k + 1) a0 a1 a2) := by
 intro a0 a1 a2 k
 have ih0 := spec_l6Rd_pick.mono_l k
 unfold spec_l6Rd_pick.f
 repeat' first | (with_reducible first | apply ih0 | exact LeO.refl _ | exact LeO.none _ | refine LeO.ite ?_ ?_ | refine LeO.bind ?_ (fun _ => ?_)) | (first | apply ih0 | exact LeO.none _ | refine LeO.ite ?_ ?_ | refine LeO.bind ?_ (fun _ => ?_))
set_option maxHeartbeats 8000000 in
set_option maxRecDepth 100000 in
theorem spec_l6Rd_pick.calls (k : Nat) (g : Nat) (s0_0 : List Int) (s0_1 : Int) (a1 : Int) (r1 : Int) (r2 : Int) (w0 w : World) (hI : IsS78 w0 w g s0_0 s0_1) (hB : Below w0.heap.size w0 w) (h : spec_l6Rd_pick.f k s0_0 s0_1 a1 = some (r1, r2)) :
  Calls Try.prog 64 #[.pointer (some ⟨g, 0, none⟩), .int .i64 a1] w fun e w' => e = .returned (.int .i64 r1) ∧ IsS78 w0 w' g s0_0 r2 ∧ Below w0.heap.size w0 w' ∧ KeepBut w w' g none := by
 have HI0 := am hI
 have HK := am (KeepBut.refl w g none)
 have HL := am hB.size
 clear hI
 have HW0 := am hB.size
 have HB := am hB
 clear hB
 have H : (if a1 < 1 then (spec_l6Rd_pick.j0 k a1 true s0_0 (wrap64 (s0_1 + 1))) else (spec_l6Rd_pick.j0 k a1 ((s0_0.length : Int) == 0) s0_0 (wrap64 (s0_1 + 1)))) = some (r1, r2) := h
 clear h
 have HC3 := am H
 clear H
 obtain ⟨ASz4_0, cSz4_0, HGz4, hgz4, HSz4_0⟩ := HI0.out
 have hcz4_0 := cellS78_0 HGz4
 have hcz4_1 := cellS78_1 HGz4
 have hfz4_1 := blk_frozen HGz4 1
 clear HGz4 hgz4
 go_enter Try.func64, Try.ntmps64
 go_upto_region 2 with (fail)
 repeat (go_quiet (fail); go_upto_region 2 with (fail))
 go_cut [24] (fun v24 wc => ∃ (kq : Nat) (x24_2 : Bool), v24 = .bool x24_2 ∧ Aside0 (spec_l6Rd_pick.j0 kq a1 x24_2 s0_0 (wrap64 (s0_1 + 1)) = some (r1, r2)) ∧ Aside0 (kq ≤ k) ∧ Aside0 (IsS78 w0 wc g s0_0 (wrap64 (s0_1 + 1))) ∧ Aside0 (KeepBut w wc g none) ∧ Aside0 (Below w0.heap.size w0 wc))
 case first =>
  have H := HC3.out
  clear HC3
  by_cases c5 : a1 < 1
  ·rw [if_pos c5] at H
   have c5b0 := decide_eq_true c5; clear c5
   (first | rw [c5b0] | (simp only [i64_w, i32_w]; rw [c5b0]) | skip)
   have H' := am H; clear H; go_wp2
   repeat (go_quiet (fail); try go_wp2)
   go_meet
   case rel => exact ⟨_, (true), fr, H', ⟨by first | omega | exact Nat.le_refl _⟩, ⟨iw78 HI0⟩, ⟨kw HK⟩, ⟨bi78 HB HI0⟩⟩
  ·rw [if_neg c5] at H
   have c5b0 := decide_eq_false c5; clear c5
   (first | rw [c5b0] | (simp only [i64_w, i32_w]; rw [c5b0]) | skip)
   have H' := am H; clear H
   obtain ⟨ASz6_0, cSz6_0, HGz6, hgz6, HSz6_0⟩ := HI0.out
   have hcz6_0 := cellS78_0 HGz6
   have hcz6_1 := cellS78_1 HGz6
   have hfz6_1 := blk_frozen HGz6 1
   clear HGz6 hgz6; go_wp2
   repeat (go_quiet (fail); try go_wp2)
   go_meet
   case rel => exact ⟨_, (((s0_0.length : Int) == 0)), fr, H', ⟨by first | omega | exact Nat.le_refl _⟩, ⟨iw78 HI0⟩, ⟨kw HK⟩, ⟨bi78 HB HI0⟩⟩
 case rest =>
  clear HC3; try clear p2; try clear c5; try clear c5b0; try clear c6; try clear p6; try clear hcz4_0; try clear hcz4_1; try clear hcz6_0; try clear hcz6_1; try clear hfz4_1; try clear hfz6_1
  obtain ⟨kq, x24_2, rfl, HA, HJ2, HI0, HK, HB⟩ := hcut
  cases kq with
  | zero => exact absurd HA.out (by simp [spec_l6Rd_pick.j0])
  | succ kj2 =>
   have H := HA.out; clear HA
   simp only [spec_l6Rd_pick.j0] at H
   by_cases c7 : x24_2 = true
   ·subst c7
    rw [if_pos rfl] at H
    simp only [Option.some.injEq, Prod.mk.injEq] at H
    obtain ⟨rfl, rfl⟩ := H; go_wp2
    repeat (go_quiet (fail); try go_wp2)
    go_ret
    exact ⟨fq, iw78 HI0, bi78 HB HI0, kw HK⟩
   ·replace c7 := Bool.eq_false_iff.mpr c7
    subst c7
    rw [if_neg (show ¬ (false = true) by decide)] at H
    by_cases c8 : (wrap64 ((wrap64 (s0_1 + 1)) - 1)) < (s0_0.length : Int)
    ·rw [if_pos c8] at H
     have c8b0 := decide_eq_true c8; clear c8
     obtain ⟨ji9, hji9⟩ : ∃ j_ : Int, (wrap64 ((wrap64 (s0_1 + 1)) - 1)) = j_ := ⟨_, rfl⟩
     (first | rw [hji9] at H | simp only [hji9] at H)
     (try rw [hji9] at c8b0)
     have hji9w : (IntKind.i64.wrap ((wrap64 (s0_1 + 1)) - 1)) = ji9 := (i64_w _).trans hji9
     replace H := ifn H; obtain ⟨c10, H⟩ := H; have c10b0 := decide_eq_true c10; clear c10; replace H := ifm H; obtain ⟨c11, H⟩ := H; have c11b0 := beq_eq_false_iff_ne.mpr c11; have c11b1 := bne_iff_ne.mpr c11
     simp only [Option.some.injEq, Prod.mk.injEq] at H
     obtain ⟨rfl, rfl⟩ := H
     obtain ⟨ASz12_0, cSz12_0, HGz12, hgz12, HSz12_0⟩ := HI0.out
     have hcz12_0 := cellS78_0 HGz12
     have hcz12_1 := cellS78_1 HGz12
     have hfz12_1 := blk_frozen HGz12 1
     clear HGz12 hgz12
     have p401 : 0 ≤ ((ji9) : Int) := od
     have q401 : (ji9) < (s0_0.length : Int) := od
     obtain ⟨ad401, e401, hx401_0⟩ := Kd.at_int HSz12_0 (ji9) p401 q401
     cases e401
     replace hx401_0 := pw_cell_below HB.out hx401_0
     replace p401 := eq_true p401; replace q401 := eq_true q401; go_wp2
     repeat (go_quiet (fail); try go_wp2)
     go_ret
     exact ⟨by first | rfl | (simp [errW_none, errW_some] <;> rfl) | (simp only [← hji9]; first | rfl | (simp [errW_none, errW_some] <;> rfl)) | (simp [*, errW_none, errW_some] <;> rfl), iw78 HI0, bi78 HB HI0, kw HK⟩
    ·rw [if_neg c8] at H
     have c8b0 := decide_eq_false c8; clear c8; replace H := ifm H; obtain ⟨c13, H⟩ := H; have c13b0 := beq_eq_false_iff_ne.mpr c13; have c13b1 := bne_iff_ne.mpr c13
     have c13b2 : ¬ (s0_0 = []) := fun h_ => c13 (by rw [h_]; rfl)
     obtain ⟨ji14, hji14⟩ : ∃ j_ : Int, (Int.tmod (wrap64 ((wrap64 (s0_1 + 1)) - 1)) (s0_0.length : Int)) = j_ := ⟨_, rfl⟩
     (first | rw [hji14] at H | simp only [hji14] at H)
     by_cases c15 : 0 ≤ (ji14)
     ·rw [if_pos c15] at H
      have c15b0 := decide_eq_true c15; clear c15; replace H := ifn H; obtain ⟨c16, H⟩ := H; have c16b0 := decide_eq_true c16; clear c16
      obtain ⟨ji17, hji17⟩ : ∃ j_ : Int, (Int.tmod (wrap64 ((wrap64 ((wrap64 ((wrap64 (s0_1 + 1)) - 1)) * 7)) + 3)) (s0_0.length : Int)) = j_ := ⟨_, rfl⟩
      (first | rw [hji17] at H | simp only [hji17] at H)
      replace H := ifn H; obtain ⟨c18, H⟩ := H; have c18b0 := decide_eq_true c18; clear c18; replace H := ifn H; obtain ⟨c19, H⟩ := H; have c19b0 := decide_eq_true c19; clear c19; replace H := ifm H; obtain ⟨c20, H⟩ := H; have c20b0 := beq_eq_false_iff_ne.mpr c20
      have c20b1 := bne_iff_ne.mpr c20
      simp only [Option.some.injEq, Prod.mk.injEq] at H
      obtain ⟨rfl, rfl⟩ := H
      obtain ⟨ASz21_0, cSz21_0, HGz21, hgz21, HSz21_0⟩ := HI0.out
      have hcz21_0 := cellS78_0 HGz21
      have hcz21_1 := cellS78_1 HGz21
      have hfz21_1 := blk_frozen HGz21 1
      clear HGz21 hgz21
      have p402 : 0 ≤ ((ji14) : Int) := od
      have q402 : (ji14) < (s0_0.length : Int) := od
      obtain ⟨ad402, e402, hx402_0⟩ := Kd.at_int HSz21_0 (ji14) p402 q402
      cases e402
      replace hx402_0 := pw_cell_below HB.out hx402_0
      replace p402 := eq_true p402; replace q402 := eq_true q402
      have p403 : 0 ≤ ((ji17) : Int) := od
      have q403 : (ji17) < (s0_0.length : Int) := od
      obtain ⟨ad403, e403, hx403_0⟩ := Kd.at_int HSz21_0 (ji17) p403 q403
      obtain rfl : ad402 = ad403 := (by injection e403)
      replace hx403_0 := pw_cell_below HB.out hx403_0
      replace p403 := eq_true p403; replace q403 := eq_true q403; go_wp2
      repeat (go_quiet (fail); try go_wp2)
      go_ret
      exact ⟨by first | rfl | (simp [errW_none, errW_some] <;> rfl) | (simp only [← hji14, ← hji17]; first | rfl | (simp [errW_none, errW_some] <;> rfl)) | (simp [*, errW_none, errW_some] <;> rfl), iw78 HI0, bi78 HB HI0, kw HK⟩
     ·rw [if_neg c15] at H
      exact absurd H (by simp)/-! ### spec_l91Index: function 90 -/
def spec_l91Index.f (k : Nat) (s0_0 : List Int) (s0_1 : Int) : Option (Int × Int) := (spec_l6Rd_pick.f k s0_0 s0_1 20).bind fun bt404 => (if bt404.1 = 0 then ((some (([(-1), 27] : List Int) : List Int)).bind fun y406 => ((spec_l6Rd_pick.f k s0_0 bt404.2 2).bind fun bt409 => (if 0 ≤ bt409.1 then (if bt409.1 < (y406.length : Int) then (some (rd y406 bt409.1, bt409.2)) else (none)) else (none)))) else ((spec_l6Rd_pick.f k s0_0 bt404.2 27).bind fun bt412 => (some (bt412.1, bt412.2))))
theorem spec_l91Index.mono : ∀ a0 a1 k, LeO (spec_l91Index.f k a0 a1) (spec_l91Index.f (k + 1) a0 a1) := by
 intro a0 a1 k
 unfold spec_l91Index.f
 repeat' first | (with_reducible first | apply spec_l6Rd_pick.mono | exact LeO.refl _ | exact LeO.none _ | refine LeO.ite ?_ ?_ | refine LeO.bind ?_ (fun _ => ?_)) | (first | apply spec_l6Rd_pick.mono | exact LeO.none _ | refine LeO.ite ?_ ?_ | refine LeO.bind ?_ (fun _ => ?_))
set_option maxHeartbeats 8000000 in
set_option maxRecDepth 100000 in
theorem spec_l91Index.calls (k : Nat) (g : Nat) (s0_0 : List Int) (s0_1 : Int) (r1 : Int) (r2 : Int) (w0 w : World) (hI : IsS78 w0 w g s0_0 s0_1) (hB : Below w0.heap.size w0 w) (h : spec_l91Index.f k s0_0 s0_1 = some (r1, r2)) :
  Calls Try.prog 90 #[.pointer (some ⟨g, 0, none⟩)] w fun e w' => e = .returned (.int .i64 r1) ∧ IsS78 w0 w' g s0_0 r2 ∧ Below w0.heap.size w0 w' ∧ KeepBut w w' g none := by
 have HI0 := am hI
 have HK := am (KeepBut.refl w g none)
 have HL := am hB.size
 clear hI
 have HW0 := am hB.size
 have HB := am hB
 clear hB
 have H : ((spec_l6Rd_pick.f k s0_0 s0_1 20).bind fun bt404 => (if bt404.1 = 0 then ((some (([(-1), 27] : List Int) : List Int)).bind fun y406 => ((spec_l6Rd_pick.f k s0_0 bt404.2 2).bind fun bt409 => (if 0 ≤ bt409.1 then (if bt409.1 < (y406.length : Int) then (some (rd y406 bt409.1, bt409.2)) else (none)) else (none)))) else ((spec_l6Rd_pick.f k s0_0 bt404.2 27).bind fun bt412 => (some (bt412.1, bt412.2))))) = some (r1, r2) := h
 clear h; replace H := bs H
 obtain ⟨⟨t404, t405⟩, A2, H⟩ := H
 dsimp only at H
 by_cases c3 : t404 = 0
 ·rw [if_pos c3] at H
  have c3b0 := beq_iff_eq.mpr c3; have c3b1 := bne_eq_false_iff_eq.mpr c3; clear c3; replace H := bsy H; obtain ⟨y406, Ny406, H⟩ := H; replace H := bs H
  obtain ⟨⟨t409, t410⟩, A4, H⟩ := H
  dsimp only at H
  replace H := ifn H; obtain ⟨c5, H⟩ := H; have c5b0 := decide_eq_true c5; clear c5; replace H := ifn H; obtain ⟨c6, H⟩ := H; have c6b0 := decide_eq_true c6; clear c6
  simp only [Option.some.injEq, Prod.mk.injEq] at H
  obtain ⟨rfl, rfl⟩ := H
  go_enter Try.func90, Try.ntmps90
  go_wp2_with (first | ((with_reducible refine gate_callee (f := 64) rfl ?_); refine gl 4 Try.func64 #[.pointer (some ⟨g, 0, none⟩), .int .i64 20] ?_; (with_reducible refine (spec_l6Rd_pick.calls k g s0_0 s0_1 20 t404 t405 w0 _ ?_ ?_ A2.out).mono ?_); (· repeat (first | (with_reducible first | exact HI0.out | apply IsS78.alloc | apply IsS78.drewN | apply IsS78.drew | apply IsS78.set_1) | exact HI0.out)); (· repeat (first | (with_reducible first | exact HB.out | apply below_alloc | apply pw_below_drewN | apply below_drew1 | refine below_set ?_ (IsS78.ge HI0.out)) | exact HB.out)); rintro e w7 ⟨rfl, hi, hb, hk⟩; refine ⟨_, rfl, ?_⟩; replace HK := am (KeepBut.trans (kw HK) hk (.inl rfl)); replace HB := am (hb); replace HI0 := am (hi); (try clear hb); (try clear hk); (try clear hi)) | ((with_reducible refine gate_dst (N := 6) rfl ?_); refine li 3 [(-1), 27] ?_; intro v407 w8 ho9 hb; (first | rw [← Ny406.out] at ho9 | (simp only [Int.reduceToNat] at ho9; rw [← Ny406.out] at ho9)); have HO408 := am (Kd.R_lower ho9 (keep_size (w := w) (g := g) (row := none) (kw HK))); replace HK := am (KeepBut.trans (kw HK) (KeepBut.of_below hb g none) (.inl rfl)); replace HB := am (below_step (bi78 HB HI0) hb); replace HI0 := am (IsS78.below (iw78 HI0) hb); clear hb ho9) | ((with_reducible refine gate_callee (f := 64) rfl ?_); refine gl 8 Try.func64 #[.pointer (some ⟨g, 0, none⟩), .int .i64 2] ?_; (with_reducible refine (spec_l6Rd_pick.calls k g s0_0 t405 2 t409 t410 w0 _ ?_ ?_ A4.out).mono ?_); (· repeat (first | (with_reducible first | exact HI0.out | apply IsS78.alloc | apply IsS78.drewN | apply IsS78.drew | apply IsS78.set_1) | exact HI0.out)); (· repeat (first | (with_reducible first | exact HB.out | apply below_alloc | apply pw_below_drewN | apply below_drew1 | refine below_set ?_ (IsS78.ge HI0.out)) | exact HB.out)); rintro e w10 ⟨rfl, hi, hb, hk⟩; refine ⟨_, rfl, ?_⟩; replace HO408 := am (Kd.R_mono (Kd.R_keep (IsS78.apart (show IsS78 w0 _ g s0_0 t405 from iw78 HI0) (wR HO408) (by decide)) hk (fun _ h => h.2)) (fun _ h => h.1)); replace HK := am (KeepBut.trans (kw HK) hk (.inl rfl)); replace HB := am (hb); replace HI0 := am (hi); (try clear hb); (try clear hk); (try clear hi); obtain ⟨Ao11, co11, eo11⟩ := Kd.R_slice HO408.out; subst eo11; have p411 : 0 ≤ (t409 : Int) := od; have q411 : t409 < (y406.length : Int) := od; obtain ⟨ad411, e411, hx411_0⟩ := Kd.at_int (Kd.R_reads' HO408.out).2.2 t409 p411 q411; cases e411; replace p411 := eq_true p411; replace q411 := eq_true q411))
  go_ret
  exact ⟨fq, iw78 HI0, bi78 HB HI0, kw HK⟩
 ·rw [if_neg c3] at H
  have c3b0 := beq_eq_false_iff_ne.mpr c3; have c3b1 := bne_iff_ne.mpr c3; replace H := bs H
  obtain ⟨⟨t412, t413⟩, A12, H⟩ := H
  dsimp only at H
  simp only [Option.some.injEq, Prod.mk.injEq] at H
  obtain ⟨rfl, rfl⟩ := H
  go_enter Try.func90, Try.ntmps90
  go_wp2_with (first | ((with_reducible refine gate_callee (f := 64) rfl ?_); refine gl 4 Try.func64 #[.pointer (some ⟨g, 0, none⟩), .int .i64 20] ?_; (with_reducible refine (spec_l6Rd_pick.calls k g s0_0 s0_1 20 t404 t405 w0 _ ?_ ?_ A2.out).mono ?_); (· repeat (first | (with_reducible first | exact HI0.out | apply IsS78.alloc | apply IsS78.drewN | apply IsS78.drew | apply IsS78.set_1) | exact HI0.out)); (· repeat (first | (with_reducible first | exact HB.out | apply below_alloc | apply pw_below_drewN | apply below_drew1 | refine below_set ?_ (IsS78.ge HI0.out)) | exact HB.out)); rintro e w13 ⟨rfl, hi, hb, hk⟩; refine ⟨_, rfl, ?_⟩; replace HK := am (KeepBut.trans (kw HK) hk (.inl rfl)); replace HB := am (hb); replace HI0 := am (hi); (try clear hb); (try clear hk); (try clear hi)) | ((with_reducible refine gate_callee (f := 64) rfl ?_); refine gl 12 Try.func64 #[.pointer (some ⟨g, 0, none⟩), .int .i64 27] ?_; (with_reducible refine (spec_l6Rd_pick.calls k g s0_0 t405 27 t412 t413 w0 _ ?_ ?_ A12.out).mono ?_); (· repeat (first | (with_reducible first | exact HI0.out | apply IsS78.alloc | apply IsS78.drewN | apply IsS78.drew | apply IsS78.set_1) | exact HI0.out)); (· repeat (first | (with_reducible first | exact HB.out | apply below_alloc | apply pw_below_drewN | apply below_drew1 | refine below_set ?_ (IsS78.ge HI0.out)) | exact HB.out)); rintro e w14 ⟨rfl, hi, hb, hk⟩; refine ⟨_, rfl, ?_⟩; replace HK := am (KeepBut.trans (kw HK) hk (.inl rfl)); replace HB := am (hb); replace HI0 := am (hi); (try clear hb); (try clear hk); (try clear hi)))
  go_ret
  exact ⟨fq, iw78 HI0, bi78 HB HI0, kw HK⟩/-! ### spec_l92Cube: function 70 -/
def spec_l92Cube.f (k : Nat) (l0 : List Int) : Option (Int × Int) := (spec_l6Open.f l0).bind fun bt414 => ((some (([7, 13, 19, 31, 7, 13, 11, 9] : List Int) : List Int)).bind fun y417 => ((spec_l6Rd_pick.f k bt414.1 bt414.2 8).bind fun bt420 => (if 0 ≤ bt420.1 then (if bt420.1 < (y417.length : Int) then ((spec_l91Index.f k bt414.1 bt420.2).bind fun bt423 => (some (rd y417 bt420.1, bt423.1))) else (none)) else (none))))
theorem spec_l92Cube.mono : ∀ a0 k, LeO (spec_l92Cube.f k a0) (spec_l92Cube.f (k + 1) a0) := by
 intro a0 k
 unfold spec_l92Cube.f
 repeat' first | (with_reducible first | apply spec_l6Rd_pick.mono | apply spec_l91Index.mono | exact LeO.refl _ | exact LeO.none _ | refine LeO.ite ?_ ?_ | refine LeO.bind ?_ (fun _ => ?_)) | (first | apply spec_l6Rd_pick.mono | apply spec_l91Index.mono | exact LeO.none _ | refine LeO.ite ?_ ?_ | refine LeO.bind ?_ (fun _ => ?_))
set_option maxHeartbeats 8000000 in
set_option maxRecDepth 100000 in
theorem spec_l92Cube.calls (k : Nat) (A0 : Option Addr) (c0 : Nat) (l0 : List Int) (r1 : Int) (r2 : Int) (w : World) (hr0 : Kd.C (Kd.int .u8) w A0 l0.length l0) (hc0 : l0.length ≤ c0) (h : spec_l92Cube.f k l0 = some (r1, r2)) :
  Calls Try.prog 70 #[.slice A0 l0.length c0] w fun e w' => e = .returned (.tuple #[.int .i64 r1, .int .i64 r2]) ∧ Below w.heap.size w w' := by
 have HR0 := am hr0
 have HC0 := am hc0
 clear hr0 hc0
 have HB := am (Below.refl w.heap.size w)
 have H : ((spec_l6Open.f l0).bind fun bt414 => ((some (([7, 13, 19, 31, 7, 13, 11, 9] : List Int) : List Int)).bind fun y417 => ((spec_l6Rd_pick.f k bt414.1 bt414.2 8).bind fun bt420 => (if 0 ≤ bt420.1 then (if bt420.1 < (y417.length : Int) then ((spec_l91Index.f k bt414.1 bt420.2).bind fun bt423 => (some (rd y417 bt420.1, bt423.1))) else (none)) else (none))))) = some (r1, r2) := h
 clear h; replace H := bs H
 obtain ⟨⟨t414, t415⟩, A2, H⟩ := H
 dsimp only at H
 replace H := bsy H; obtain ⟨y417, Ny417, H⟩ := H; replace H := bs H
 obtain ⟨⟨t420, t421⟩, A3, H⟩ := H
 dsimp only at H
 by_cases c4 : 0 ≤ t420
 ·rw [if_pos c4] at H
  have c4b0 := decide_eq_true c4; clear c4; replace H := ifn H; obtain ⟨c5, H⟩ := H; have c5b0 := decide_eq_true c5; clear c5; replace H := bs H
  obtain ⟨⟨t423, t424⟩, A6, H⟩ := H
  dsimp only at H
  simp only [Option.some.injEq, Prod.mk.injEq] at H
  obtain ⟨rfl, rfl⟩ := H
  go_enter Try.func70, Try.ntmps70
  go_wp2_with (first | ((with_reducible refine gate_callee (f := 56) rfl ?_); refine gl 7 Try.func56 #[.slice A0 l0.length c0] ?_; (with_reducible refine (spec_l6Open.calls _ _ l0 t414 t415 w _ ?_ ?_ ?_ A2.out).mono ?_); (· repeat (first | (with_reducible first | exact HB.out | apply below_alloc | apply pw_below_drewN | apply below_drew1) | exact HB.out)); exact HR0.out; exact HC0.out; rintro e w7 ⟨g416, rfl, hi, hb, hb2⟩; refine ⟨_, rfl, ?_⟩; replace HB := am (hb); have HI416 := am (hi); (try clear hb); (try clear hb2); (try clear hi)) | ((with_reducible refine gate_dst (N := 8) rfl ?_); refine li 3 [7, 13, 19, 31, 7, 13, 11, 9] ?_; intro v418 w8 ho9 hb; (first | rw [← Ny417.out] at ho9 | (simp only [Int.reduceToNat] at ho9; rw [← Ny417.out] at ho9)); have HO419 := am (Kd.R_lower ho9 (below_size (bi78 HB HI416))); replace HB := am (below_step (bi78 HB HI416) hb); replace HI416 := am (IsS78.below (iw78 HI416) hb); clear hb ho9) | ((with_reducible refine gate_callee (f := 64) rfl ?_); refine gl 10 Try.func64 #[.pointer (some ⟨g416, 0, none⟩), .int .i64 8] ?_; (with_reducible refine (spec_l6Rd_pick.calls k g416 t414 t415 8 t420 t421 w _ ?_ ?_ A3.out).mono ?_); (· repeat (first | (with_reducible first | exact HI416.out | apply IsS78.alloc | apply IsS78.drewN | apply IsS78.drew | apply IsS78.set_1) | exact HI416.out)); (· repeat (first | (with_reducible first | exact HB.out | apply below_alloc | apply pw_below_drewN | apply below_drew1 | refine below_set ?_ (IsS78.ge HI416.out)) | exact HB.out)); rintro e w10 ⟨rfl, hi, hb, hk⟩; refine ⟨_, rfl, ?_⟩; replace HO419 := am (Kd.R_mono (Kd.R_keep (IsS78.apart (show IsS78 w _ g416 t414 t415 from iw78 HI416) (wR HO419) (by decide)) hk (fun _ h => h.2)) (fun _ h => h.1)); replace HB := am (hb); replace HI416 := am (hi); (try clear hb); (try clear hk); (try clear hi); obtain ⟨Ao11, co11, eo11⟩ := Kd.R_slice HO419.out; subst eo11; have p422 : 0 ≤ (t420 : Int) := od; have q422 : t420 < (y417.length : Int) := od; obtain ⟨ad422, e422, hx422_0⟩ := Kd.at_int (Kd.R_reads' HO419.out).2.2 t420 p422 q422; cases e422; replace p422 := eq_true p422; replace q422 := eq_true q422) | ((with_reducible refine gate_callee (f := 90) rfl ?_); refine gl 15 Try.func90 #[.pointer (some ⟨g416, 0, none⟩)] ?_; (with_reducible refine (spec_l91Index.calls k g416 t414 t421 t423 t424 w _ ?_ ?_ A6.out).mono ?_); (· repeat (first | (with_reducible first | exact HI416.out | apply IsS78.alloc | apply IsS78.drewN | apply IsS78.drew | apply IsS78.set_1) | exact HI416.out)); (· repeat (first | (with_reducible first | exact HB.out | apply below_alloc | apply pw_below_drewN | apply below_drew1 | refine below_set ?_ (IsS78.ge HI416.out)) | exact HB.out)); rintro e w12 ⟨rfl, hi, hb, hk⟩; refine ⟨_, rfl, ?_⟩; replace HO419 := am (Kd.R_mono (Kd.R_keep (IsS78.apart (show IsS78 w _ g416 t414 t421 from iw78 HI416) (wR HO419) (by decide)) hk (fun _ h => h.2)) (fun _ h => h.1)); replace HB := am (hb); replace HI416 := am (hi); (try clear hb); (try clear hk); (try clear hi)))
  go_ret2
  exact ⟨fq, bi78 HB HI416⟩
 ·rw [if_neg c4] at H
  exact absurd H (by simp)/-! ### spec_DrawCubeMeeting: function 35 -/
def spec_DrawCubeMeeting.f (k : Nat) (l0 : List Int) : Option (Int × Int) := (spec_l92Cube.f k l0).bind fun bt425 => (some (bt425.1, bt425.2))
theorem spec_DrawCubeMeeting.mono : ∀ a0 k, LeO (spec_DrawCubeMeeting.f k a0) (spec_DrawCubeMeeting.f (k + 1) a0) := by
 intro a0 k
 unfold spec_DrawCubeMeeting.f
 repeat' first | (with_reducible first | apply spec_l92Cube.mono | exact LeO.refl _ | exact LeO.none _ | refine LeO.ite ?_ ?_ | refine LeO.bind ?_ (fun _ => ?_)) | (first | apply spec_l92Cube.mono | exact LeO.none _ | refine LeO.ite ?_ ?_ | refine LeO.bind ?_ (fun _ => ?_))
set_option maxHeartbeats 8000000 in
set_option maxRecDepth 100000 in
theorem spec_DrawCubeMeeting.calls (k : Nat) (A0 : Option Addr) (c0 : Nat) (l0 : List Int) (r1 : Int) (r2 : Int) (w : World) (hr0 : Kd.C (Kd.int .u8) w A0 l0.length l0) (hc0 : l0.length ≤ c0) (h : spec_DrawCubeMeeting.f k l0 = some (r1, r2)) :
  Calls Try.prog 35 #[.slice A0 l0.length c0] w fun e w' => e = .returned (.tuple #[.int .i64 r1, .int .i64 r2]) ∧ Below w.heap.size w w' := by
 have HR0 := am hr0
 have HC0 := am hc0
 clear hr0 hc0
 have HB := am (Below.refl w.heap.size w)
 have H : ((spec_l92Cube.f k l0).bind fun bt425 => (some (bt425.1, bt425.2))) = some (r1, r2) := h
 clear h; replace H := bs H
 obtain ⟨⟨t425, t426⟩, A2, H⟩ := H
 dsimp only at H
 simp only [Option.some.injEq, Prod.mk.injEq] at H
 obtain ⟨rfl, rfl⟩ := H
 go_enter Try.func35, Try.ntmps35
 go_wp2_with (first | ((with_reducible refine gate_callee (f := 70) rfl ?_); refine gl 5 Try.func70 #[.slice A0 l0.length c0] ?_; (with_reducible refine (spec_l92Cube.calls k _ _ l0 t425 t426 _ ?_ ?_ A2.out).mono ?_); exact wC HR0; exact HC0.out; rintro e w3 ⟨rfl, hb⟩; refine ⟨_, rfl, ?_⟩; replace HB := bq HB hb; (try clear hb)))
 go_ret2
 exact ⟨fq, bw HB⟩
end Go.Proofs.Ytmenehnfgenlpaa.PA

-- Written by xprint.py, a program of this claim's own (over the kit's print.py)
import Derived.Test.YtmenehnfgenlpaaPAx0
import Derived.Test.YtmenehnfgenlpaaPAx1
namespace Go.Proofs.Ytmenehnfgenlpaa.PA
open Go.RowKit Go.Proofs.YtmenehnfgenlpaaW.PrintWords Go.Proofs.YtmenehnfgenlpaaW.PrintLast Go.Proofs.YtmenehnfgenlpaaW.PrintMore
attribute [local go_sem] max2_int min2_int max_two min_two max_three min_three max_four min_four   -- for this text's walks alone
set_option linter.unusedVariables false
set_option linter.unusedSimpArgs false

/-! ### spec_l4Row: function 44 -/
def spec_l4Row.l0 : Nat → Int → List Int → List Int → Int → Int → Option (List Int)
 | 0, _, _, _, _, _ => none
 | k + 1, x0, x1, x5, x6, x7 => if x7 < (x1.length : Int) then (if x6 = 0 then (if 0 ≤ x7 then ((spec_l4Turned.f k x0 (rd x1 x7)).bind fun t125 => (if x0 = 0 then (none) else (if x5.length < 17592186044416 then (spec_l4Row.l0 k x0 x1 (x5 ++ [Int.tmod (wrap64 ((rd x1 x7) * t125)) x0]) t125 (wrap64 (x7 + 1))) else (none)))) else (none)) else (if 0 ≤ x7 then (if x0 = 0 then (none) else (if x5.length < 17592186044416 then (spec_l4Row.l0 k x0 x1 (x5 ++ [Int.tmod (wrap64 ((rd x1 x7) * x6)) x0]) x6 (wrap64 (x7 + 1))) else (none))) else (none))) else (some x5)
def spec_l4Row.f (k : Nat) (a0 : Int) (l1 : List Int) : Option (List Int) := spec_l4Row.l0 k a0 l1 (([] : List Int)) 0 0
theorem spec_l4Row.mono_l : ∀ k, (∀ y0 y1 y2 y3 y4, LeO (spec_l4Row.l0 k y0 y1 y2 y3 y4) (spec_l4Row.l0 (k + 1) y0 y1 y2 y3 y4))
 | 0 => fun _ _ _ _ _ r h => by simp [spec_l4Row.l0] at h
 | k + 1 => by
  have ih0 := spec_l4Row.mono_l k
  ·intro y0 y1 y2 y3 y4
   unfold spec_l4Row.l0
   repeat' first | (with_reducible first | apply ih0 | apply spec_l4Turned.mono | exact LeO.refl _ | exact LeO.none _ | refine LeO.ite ?_ ?_ | refine LeO.bind ?_ (fun _ => ?_)) | (first | apply ih0 | apply spec_l4Turned.mono | exact LeO.none _ | refine LeO.ite ?_ ?_ | refine LeO.bind ?_ (fun _ => ?_))
theorem spec_l4Row.mono : ∀ a0 a1 k, LeO (spec_l4Row.f k a0 a1) (spec_l4Row.f (k + 1) a0 a1) := by
 intro a0 a1 k
 have ih0 := spec_l4Row.mono_l k
 unfold spec_l4Row.f
 repeat' first | (with_reducible first | apply ih0 | apply spec_l4Turned.mono | exact LeO.refl _ | exact LeO.none _ | refine LeO.ite ?_ ?_ | refine LeO.bind ?_ (fun _ => ?_)) | (first | apply ih0 | apply spec_l4Turned.mono | exact LeO.none _ | refine LeO.ite ?_ ?_ | refine LeO.bind ?_ (fun _ => ?_))
set_option maxHeartbeats 8000000 in
set_option maxRecDepth 100000 in
theorem spec_l4Row.calls (k : Nat) (a0 : Int) (A1 : Option Addr) (c1 : Nat) (l1 : List Int) (r : List Int) (w : World) (hr1 : Kd.C (Kd.int .i64) w A1 l1.length l1) (hc1 : l1.length ≤ c1) (h : spec_l4Row.f k a0 l1 = some r) :
  Calls Try.prog 44 #[.int .i64 a0, .slice A1 l1.length c1] w fun e w' => ∃ v0_ : Value, e = .returned (v0_) ∧ Kd.R (Kd.int .i64) 3 w' w.heap.size (fun _ => True) v0_ r ∧ Below w.heap.size w w' := by
 have HR1 := am hr1
 have HC1 := am hc1
 clear hr1 hc1
 have HB := am (Below.refl w.heap.size w)
 have H : (spec_l4Row.l0 k a0 l1 (([] : List Int)) 0 0) = some r := h
 clear h
 generalize hy121 : (([] : List Int)) = y121 at H
 have Ny121 := am hy121.symm; clear hy121; have H' := am H; clear H
 go_enter Try.func44, Try.ntmps44
 go_wp2_with (first | ((with_reducible refine gate_dst (N := 8) rfl ?_); refine li 3 ([] : List Int) ?_; intro v122 w3 ho4 hb; (first | rw [← Ny121.out] at ho4 | (simp only [Int.reduceToNat] at ho4; rw [← Ny121.out] at ho4)); have HO123 := am (Kd.R_lower ho4 (bz HB)); replace HB := bq HB hb; clear hb ho4))
 go_loopg [5, 6, 7] k (fun kq v5 v6 v7 w' => ∃ (x5_1 : List Int) (x6_1 : Int) (x7_1 : Int), v6 = .int .i64 x6_1 ∧ v7 = .int .i64 x7_1 ∧ Aside0 (spec_l4Row.l0 kq a0 l1 x5_1 x6_1 x7_1 = some r) ∧ Aside0 (kq ≤ k) ∧ Aside0 (Kd.R (Kd.int .i64) 3 w' w.heap.size (fun _ => True) v5 x5_1) ∧ Aside0 (Below w.heap.size w w'))
 case atStart => exact ⟨(y121), (0), (0), fr, fr, H', ⟨Nat.le_refl _⟩, ⟨wR HO123⟩, ⟨bw HB⟩⟩
 case round =>
  clear H'; try clear c1; try clear p2; try clear c4
  obtain ⟨x5_1, x6_1, x7_1, rfl, rfl, HA, HK1, HO_5, HB⟩ := hrel
  cases gk with
  | zero => exact absurd HA.out (by simp [spec_l4Row.l0])
  | succ k1 =>
   have H := HA.out; clear HA
   simp only [spec_l4Row.l0] at H
   by_cases c5 : x7_1 < (l1.length : Int)
   ·rw [if_pos c5] at H
    have c5b0 := decide_eq_true c5; clear c5
    by_cases c6 : x6_1 = 0
    ·rw [if_pos c6] at H
     have c6b0 := beq_iff_eq.mpr c6; have c6b1 := bne_eq_false_iff_eq.mpr c6; clear c6; replace H := ifn H; obtain ⟨c7, H⟩ := H; have c7b0 := decide_eq_true c7; clear c7; replace H := bs H; obtain ⟨t125, A8, H⟩ := H; replace H := ifm H; obtain ⟨c9, H⟩ := H
     have c9b0 := beq_eq_false_iff_ne.mpr c9; have c9b1 := bne_iff_ne.mpr c9; replace H := ifn H; obtain ⟨c10, H⟩ := H; have LMc10 := am c10; clear c10
     generalize hy127 : (x5_1 ++ [Int.tmod (wrap64 ((rd l1 x7_1) * t125)) a0] : List Int) = y127 at H
     have Ny127 := am hy127.symm; clear hy127; have H' := am H; clear H
     have p124 : 0 ≤ (x7_1 : Int) := od
     have q124 : x7_1 < (l1.length : Int) := od
     obtain ⟨ad124, e124, hx124_0⟩ := Kd.at_int HR1.out x7_1 p124 q124
     cases e124
     replace hx124_0 := wcl HB hx124_0
     replace p124 := eq_true p124; replace q124 := eq_true q124
     go_wp2_with (first | ((with_reducible refine gate_callee (f := 80) rfl ?_); refine gl 22 Try.func80 #[.int .i64 a0, .int .i64 (rd l1 x7_1)] ?_; (with_reducible refine (spec_l4Turned.calls k1 a0 (rd l1 x7_1) t125 _ A8.out).mono ?_); rintro e w' ⟨rfl, ⟨nd, rfl⟩⟩; refine ⟨_, rfl, ?_⟩; have p126 : 0 ≤ (x7_1 : Int) := od; have q126 : x7_1 < (l1.length : Int) := od; obtain ⟨ad126, e126, hx126_0⟩ := Kd.at_int HR1.out x7_1 p126 q126; obtain rfl : ad124 = ad126 := (by injection e126); replace hx126_0 := wcl HB hx126_0; replace p126 := eq_true p126; replace q126 := eq_true q126) | ((with_reducible refine gate_builtin (b := .append) (xs := #[.tmp 23, .tmp 32]) rfl ?_); at_builtin; refine Kd.R_append (Kd.int .i64) (w0 := w) w.heap.size rfl (.tmp 23) (.tmp 32) 22 3 (.int .i64 0) 8 rfl Try.underlying22 info3 rfl (by decide) (by omega) u5 x5_1 (Int.tmod (wrap64 ((rd l1 x7_1) * t125)) a0) [.int .i64 (Int.tmod (wrap64 ((rd l1 x7_1) * t125)) a0)] (fun _ => True) (fun _ => False) rfl rfl ?aP (fun _ hk => hk.elim) ?aF ?aO ?aB ?aS ?aL ?_; (case aP => exact rfl); (case aB => exact (bw HB)); (case aF => exact (fun _ _ => trivial)); (case aO => exact (wR HO_5)); (case aS => exact (bz HB)); (case aL => have := LMc10.out; omega); intro v128 w11 ho hb hg hat; rw [← Ny127.out] at ho; replace HB := am (hb); have HO129 := am (ho); clear HO_5; clear ho hb hg hat))
     go_roundg k1
     case measure => have := HK1.out; omega
     case rel => exact ⟨(y127), (t125), (wrap64 (x7_1 + 1)), fr, fr, H', ⟨by have := HK1.out; omega⟩, ⟨wR HO129⟩, ⟨bw HB⟩⟩
    ·rw [if_neg c6] at H
     have c6b0 := beq_eq_false_iff_ne.mpr c6; have c6b1 := bne_iff_ne.mpr c6; replace H := ifn H; obtain ⟨c12, H⟩ := H; have c12b0 := decide_eq_true c12; clear c12; replace H := ifm H; obtain ⟨c13, H⟩ := H; have c13b0 := beq_eq_false_iff_ne.mpr c13
     have c13b1 := bne_iff_ne.mpr c13; replace H := ifn H; obtain ⟨c14, H⟩ := H; have LMc14 := am c14; clear c14
     generalize hy131 : (x5_1 ++ [Int.tmod (wrap64 ((rd l1 x7_1) * x6_1)) a0] : List Int) = y131 at H
     have Ny131 := am hy131.symm; clear hy131; have H' := am H; clear H
     have p130 : 0 ≤ (x7_1 : Int) := od
     have q130 : x7_1 < (l1.length : Int) := od
     obtain ⟨ad130, e130, hx130_0⟩ := Kd.at_int HR1.out x7_1 p130 q130
     cases e130
     replace hx130_0 := wcl HB hx130_0
     replace p130 := eq_true p130; replace q130 := eq_true q130
     go_wp2_with (first | ((with_reducible refine gate_builtin (b := .append) (xs := #[.tmp 23, .tmp 32]) rfl ?_); at_builtin; refine Kd.R_append (Kd.int .i64) (w0 := w) w.heap.size rfl (.tmp 23) (.tmp 32) 22 3 (.int .i64 0) 8 rfl Try.underlying22 info3 rfl (by decide) (by omega) u5 x5_1 (Int.tmod (wrap64 ((rd l1 x7_1) * x6_1)) a0) [.int .i64 (Int.tmod (wrap64 ((rd l1 x7_1) * x6_1)) a0)] (fun _ => True) (fun _ => False) rfl rfl ?aP (fun _ hk => hk.elim) ?aF ?aO ?aB ?aS ?aL ?_; (case aP => exact rfl); (case aB => exact (bw HB)); (case aF => exact (fun _ _ => trivial)); (case aO => exact (wR HO_5)); (case aS => exact (bz HB)); (case aL => have := LMc14.out; omega); intro v132 w15 ho hb hg hat; rw [← Ny131.out] at ho; replace HB := am (hb); have HO133 := am (ho); clear HO_5; clear ho hb hg hat))
     go_roundg k1
     case measure => have := HK1.out; omega
     case rel => exact ⟨(y131), (x6_1), (wrap64 (x7_1 + 1)), fr, fr, H', ⟨by have := HK1.out; omega⟩, ⟨wR HO133⟩, ⟨bw HB⟩⟩
   ·rw [if_neg c5] at H
    have c5b0 := decide_eq_false c5; clear c5; obtain rfl := Option.some.inj H; go_wp2; go_ret
    exact ⟨_, fq, wR HO_5, bw HB⟩/-! ### spec_l4Mod: function 42 -/
def spec_l4Mod.f (a0 : Int) (a1 : Int) : Option (Int) := if a0 = 0 then (none) else (some (Int.tmod (wrap64 ((Int.tmod a1 a0) + a0)) a0))
set_option maxHeartbeats 8000000 in
set_option maxRecDepth 100000 in
theorem spec_l4Mod.calls (a0 : Int) (a1 : Int) (r : Int) (w : World) (h : spec_l4Mod.f a0 a1 = some r) :
  Calls Try.prog 42 #[.int .i64 a0, .int .i64 a1] w fun e w' => e = .returned (.int .i64 r) ∧ Drawn0 w w' := by
 have H : (if a0 = 0 then (none) else (some (Int.tmod (wrap64 ((Int.tmod a1 a0) + a0)) a0))) = some r := h
 clear h; replace H := ifm H; obtain ⟨c3, H⟩ := H; have c3b0 := beq_eq_false_iff_ne.mpr c3; have c3b1 := bne_iff_ne.mpr c3; obtain rfl := Option.some.inj H
 go_enter Try.func42, Try.ntmps42
 go_wp2; go_ret
 exact ⟨fr, df⟩/-! ### spec_l4Less: function 87 -/
def spec_l4Less.l0 : Nat → Int → List Int → Int → List Int → List Int → Int → Option (List Int)
 | 0, _, _, _, _, _, _ => none
 | k + 1, x0, x1, x2, x3, x9, x10 => if x10 < (x1.length : Int) then (if 0 ≤ x10 then (if x10 < (x3.length : Int) then ((spec_l4Mod.f x0 (wrap64 ((rd x1 x10) - (wrap64 (x2 * (rd x3 x10)))))).bind fun t139 => (if x9.length < 17592186044416 then (spec_l4Less.l0 k x0 x1 x2 x3 (x9 ++ [t139]) (wrap64 (x10 + 1))) else (none))) else (none)) else (none)) else (some x9)
def spec_l4Less.f (k : Nat) (a0 : Int) (l1 : List Int) (a2 : Int) (l3 : List Int) : Option (List Int) := spec_l4Less.l0 k a0 l1 a2 l3 (([] : List Int)) 0
theorem spec_l4Less.mono_l : ∀ k, (∀ y0 y1 y2 y3 y4 y5, LeO (spec_l4Less.l0 k y0 y1 y2 y3 y4 y5) (spec_l4Less.l0 (k + 1) y0 y1 y2 y3 y4 y5))
 | 0 => fun _ _ _ _ _ _ r h => by simp [spec_l4Less.l0] at h
 | k + 1 => by
  have ih0 := spec_l4Less.mono_l k
  ·intro y0 y1 y2 y3 y4 y5
   unfold spec_l4Less.l0
   repeat' first | (with_reducible first | apply ih0 | exact LeO.refl _ | exact LeO.none _ | refine LeO.ite ?_ ?_ | refine LeO.bind ?_ (fun _ => ?_)) | (first | apply ih0 | exact LeO.none _ | refine LeO.ite ?_ ?_ | refine LeO.bind ?_ (fun _ => ?_))
theorem spec_l4Less.mono : ∀ a0 a1 a2 a3 k, LeO (spec_l4Less.f k a0 a1 a2 a3) (spec_l4Less.f (k + 1) a0 a1 a2 a3) := by
 intro a0 a1 a2 a3 k
 have ih0 := spec_l4Less.mono_l k
 unfold spec_l4Less.f
 repeat' first | (with_reducible first | apply ih0 | exact LeO.refl _ | exact LeO.none _ | refine LeO.ite ?_ ?_ | refine LeO.bind ?_ (fun _ => ?_)) | (first | apply ih0 | exact LeO.none _ | refine LeO.ite ?_ ?_ | refine LeO.bind ?_ (fun _ => ?_))
def spec_l4Less.T5 : Bool × List (List Nat × List Nat) := (true, [([], []), ([], []), ([], []), ([], []), ([2, 3], [2, 3]), ([4], [4]), ([], []), ([], []), ([], []), ([7, 8], [7, 8]), ([9], [9]), ([6, 10], [6, 10]), ([5, 11], [5, 11]), ([1, 12], [1, 12]), ([13], [13]), ([0, 14, 13], [0, 14]), ([15, 15, 0, 1, 2, 3, 4, 5, 6, 7, 8, 9, 10, 11, 12, 13, 14, 15], [0, 15])])
def spec_l4Less.B5 : List Nat := [0, 0, 0, 0, 12, 28, 0, 0, 0, 384, 896, 1984, 4092, 8190, 16382, 32767, 65535]
theorem spec_l4Less.tab5 : rtab .any (opsOf Try.f87 5) = spec_l4Less.T5 := by kernel_rfl
theorem spec_l4Less.bits5 : waitsOk spec_l4Less.T5.2 spec_l4Less.B5 = true := by kernel_rfl
set_option maxHeartbeats 8000000 in
set_option maxRecDepth 100000 in
theorem spec_l4Less.calls (k : Nat) (a0 : Int) (A1 : Option Addr) (c1 : Nat) (l1 : List Int) (a2 : Int) (A3 : Option Addr) (c3 : Nat) (l3 : List Int) (r : List Int) (w : World) (hr1 : Kd.C (Kd.int .i64) w A1 l1.length l1) (hc1 : l1.length ≤ c1) (hr3 : Kd.C (Kd.int .i64) w A3 l3.length l3) (hc3 : l3.length ≤ c3) (h : spec_l4Less.f k a0 l1 a2 l3 = some r) :
  Calls Try.prog 87 #[.int .i64 a0, .slice A1 l1.length c1, .int .i64 a2, .slice A3 l3.length c3] w fun e w' => ∃ v0_ : Value, e = .returned (v0_) ∧ Kd.R (Kd.int .i64) 3 w' w.heap.size (fun _ => True) v0_ r ∧ Below w.heap.size w w' := by
 have HR1 := am hr1
 have HC1 := am hc1
 clear hr1 hc1
 have HR3 := am hr3
 have HC3 := am hc3
 clear hr3 hc3
 have HB := am (Below.refl w.heap.size w)
 have H : (spec_l4Less.l0 k a0 l1 a2 l3 (([] : List Int)) 0) = some r := h
 clear h
 generalize hy134 : (([] : List Int)) = y134 at H
 have Ny134 := am hy134.symm; clear hy134; have H' := am H; clear H
 go_enter Try.func87, Try.ntmps87
 go_wp2_with (first | ((with_reducible refine gate_dst (N := 11) rfl ?_); refine li 3 ([] : List Int) ?_; intro v135 w5 ho6 hb; (first | rw [← Ny134.out] at ho6 | (simp only [Int.reduceToNat] at ho6; rw [← Ny134.out] at ho6)); have HO136 := am (Kd.R_lower ho6 (bz HB)); replace HB := bq HB hb; clear hb ho6))
 go_loopg [9, 10] k (fun kq v9 v10 w' => ∃ (x9_1 : List Int) (x10_1 : Int), v10 = .int .i64 x10_1 ∧ Aside0 (spec_l4Less.l0 kq a0 l1 a2 l3 x9_1 x10_1 = some r) ∧ Aside0 (kq ≤ k) ∧ Aside0 (Kd.R (Kd.int .i64) 3 w' w.heap.size (fun _ => True) v9 x9_1) ∧ Aside0 (Below w.heap.size w w'))
 case atStart => exact ⟨(y134), (0), fr, H', ⟨Nat.le_refl _⟩, ⟨wR HO136⟩, ⟨bw HB⟩⟩
 case round =>
  clear H'; try clear c1; try clear p2; try clear c3
  obtain ⟨x9_1, x10_1, rfl, HA, HK1, HO_9, HB⟩ := hrel
  cases gk with
  | zero => exact absurd HA.out (by simp [spec_l4Less.l0])
  | succ k1 =>
   have H := HA.out; clear HA
   simp only [spec_l4Less.l0] at H
   by_cases c7 : x10_1 < (l1.length : Int)
   ·rw [if_pos c7] at H
    have c7b0 := decide_eq_true c7; clear c7; replace H := ifn H; obtain ⟨c8, H⟩ := H; have c8b0 := decide_eq_true c8; clear c8; replace H := ifn H; obtain ⟨c9, H⟩ := H; have c9b0 := decide_eq_true c9; clear c9; replace H := bs H; obtain ⟨t139, A10, H⟩ := H
    replace H := ifn H; obtain ⟨c11, H⟩ := H; have LMc11 := am c11; clear c11
    generalize hy140 : (x9_1 ++ [t139] : List Int) = y140 at H
    have Ny140 := am hy140.symm; clear hy140; have H' := am H; clear H
    try go_wp2
    replace HO_9 := am (Kd.R_drew HO_9.out)
    replace HB := am (below_drew1 HB.out)
    have p137 : 0 ≤ (x10_1 : Int) := od
    have q137 : x10_1 < (l1.length : Int) := od
    obtain ⟨ad137, e137, hx137_0⟩ := Kd.at_int HR1.out x10_1 p137 q137
    have hw137_0 := hx137_0
    cases e137
    replace hx137_0 := wcl HB hx137_0
    replace p137 := eq_true p137; replace q137 := eq_true q137
    have p138 : 0 ≤ (x10_1 : Int) := od
    have q138 : x10_1 < (l3.length : Int) := od
    obtain ⟨ad138, e138, hx138_0⟩ := Kd.at_int HR3.out x10_1 p138 q138
    have hw138_0 := hx138_0
    cases e138
    replace hx138_0 := wcl HB hx138_0
    replace p138 := eq_true p138; replace q138 := eq_true q138
    refine st 17 (fun w' => w'.cell? (ad137.add (x10_1).toNat) = some (.int .i64 (rd l1 x10_1)) ∧ w'.cell? (ad138.add (x10_1).toNat) = some (.int .i64 (rd l3 x10_1))) [] spec_l4Less.tab5 spec_l4Less.bits5 (⟨(wcl HB hw137_0), (wcl HB hw138_0)⟩) fun hHeld HT_ HW_ => ?_
    generalize wr.drew = w12 at HO_9 HB hx137_0 hx138_0 hHeld ⊢
    refine pz 0 18 HT_ ?_; refine pz 1 19 HT_ ?_; refine pz 2 20 HT_ ?_; refine pz 3 21 HT_ ?_; refine pz 4 22 HT_ ?_; refine pz 6 24 HT_ ?_; refine pz 7 25 HT_ ?_; refine pz 8 26 HT_ ?_; refine pz 9 27 HT_ ?_; refine tk 5 23 HT_ HW_ hHeld ?_; refine tk 10 28 HT_ HW_ hHeld ?_
    refine pz 11 29 HT_ ?_; refine pz 12 30 HT_ ?_
    refine on 13 (some 31) HT_ fun K hK => ?_
    refine gs_ Try.func42 #[.int .i64 a0, .int .i64 (wrap64 ((rd l1 x10_1) - (wrap64 (a2 * (rd l3 x10_1)))))] ?_
    with_reducible refine (spec_l4Mod.calls a0 (wrap64 ((rd l1 x10_1) - (wrap64 (a2 * (rd l3 x10_1))))) t139 _ A10.out).mono ?_
    rintro e w' ⟨rfl, ⟨nd, rfl⟩⟩
    refine ⟨_, rfl, ?_⟩
    refine hK.out _ _ ⟨(wcl HB hw137_0), (wcl HB hw138_0)⟩ fun hHeld => nz ?_
    clear hK K
    refine on 14 (some 32) HT_ fun K hK => ?_
    refine value_ (w1 := ?_) (v := ?_) (by rfl) rfl ?_ ?_
    rotate_left 2
    ·go_simp
     constructor
     ·rfl
     ·rfl
    refine hK.out _ _ ⟨(World.cell?_alloc_lt _ _ _ (World.block_lt_of_cell? _ _ ((wcl HB hw137_0)))).trans ((wcl HB hw137_0)), (World.cell?_alloc_lt _ _ _ (World.block_lt_of_cell? _ _ ((wcl HB hw138_0)))).trans ((wcl HB hw138_0))⟩ fun hHeld => nz ?_
    clear hK K
    refine on 15 (some 33) HT_ fun K hK => ?_
    refine Kd.R_append_step (Kd.int .i64) (w0 := w) w.heap.size (by rfl) (.tmp 18) (.tmp 32) 22 3 (.int .i64 0) 8 rfl Try.underlying22 info3 rfl (by decide) (by omega) u9 x9_1 t139 [.int .i64 t139] (fun _ => True) (fun _ => False) rfl rfl ?aP (fun _ hk => hk.elim) ?aF ?aO ?aB ?aS ?aL ?_
    (case aP => exact rfl)
    (case aB => exact (bw HB))
    (case aF => exact (fun _ _ => trivial))
    (case aO => exact (wR HO_9))
    (case aS => exact (bz HB))
    (case aL => have := LMc11.out; omega)
    intro v141 w13 ho hb hg hat
    rw [← Ny140.out] at ho
    replace HB := am (hb)
    have HO142 := am (ho)
    clear HO_9; clear ho hb hg hat
    refine hK.out _ _ ⟨(wcl HB hw137_0), (wcl HB hw138_0)⟩ fun hHeld => nz ?_
    clear hK K; refine pz 16 9 HT_ ?_
    refine done_ (done_of HT_.out (by kernel_rfl)) ?_
    try go_wp2
    go_roundg k1
    case measure => have := HK1.out; omega
    case rel => exact ⟨(y140), (wrap64 (x10_1 + 1)), fr, H', ⟨by have := HK1.out; omega⟩, ⟨wR HO142⟩, ⟨bw HB⟩⟩
   ·rw [if_neg c7] at H
    have c7b0 := decide_eq_false c7; clear c7; obtain rfl := Option.some.inj H; go_wp2; go_ret
    exact ⟨_, fq, wR HO_9, bw HB⟩
end Go.Proofs.Ytmenehnfgenlpaa.PA

-- Written by xprint.py, a program of this claim's own (over the kit's print.py)
import Derived.Test.YtmenehnfgenlpaaPAx0
namespace Go.Proofs.Ytmenehnfgenlpaa.PA
open Go.RowKit Go.Proofs.YtmenehnfgenlpaaW.PrintWords Go.Proofs.YtmenehnfgenlpaaW.PrintLast Go.Proofs.YtmenehnfgenlpaaW.PrintMore
attribute [local go_sem] max2_int min2_int max_two min_two max_three min_three max_four min_four   -- for this text's walks alone
set_option linter.unusedVariables false
set_option linter.unusedSimpArgs false

/-! ### spec_l6In: function 49 -/
def spec_l6In.f (a0 : Int) (a1 : Int) (a2 : Int) : Option (Bool) := if a0 ≥ a1 then (some (decide (a0 ≤ a2))) else (some false)
set_option maxHeartbeats 8000000 in
set_option maxRecDepth 100000 in
theorem spec_l6In.calls (a0 : Int) (a1 : Int) (a2 : Int) (r : Bool) (w : World) (h : spec_l6In.f a0 a1 a2 = some r) :
  Calls Try.prog 49 #[.int .i64 a0, .int .i64 a1, .int .i64 a2] w fun e w' => e = .returned (.bool r) ∧ Drawn0 w w' := by
 have H : (if a0 ≥ a1 then (some (decide (a0 ≤ a2))) else (some false)) = some r := h
 clear h
 by_cases c4 : a0 ≥ a1
 ·rw [if_pos c4] at H
  have c4b0 := decide_eq_true c4; clear c4; obtain rfl := Option.some.inj H
  go_enter Try.func49, Try.ntmps49
  go_wp2; go_ret
  exact ⟨fr, df⟩
 ·rw [if_neg c4] at H
  have c4b0 := decide_eq_false c4; clear c4; obtain rfl := Option.some.inj H
  go_enter Try.func49, Try.ntmps49
  go_wp2; go_ret
  exact ⟨fr, df⟩/-! ### spec_PrimeIn: function 59 -/
def spec_PrimeIn.f (a0 : Int) : Option (Bool) := if a0 = 7 then (some true) else (if a0 = 11 then (some true) else (if a0 = 13 then (some true) else (if a0 = 17 then (some true) else (if a0 = 19 then (some true) else (if a0 = 23 then (some true) else (if a0 = 29 then (some true) else (if a0 = 31 then (some true) else (some false))))))))
set_option maxHeartbeats 8000000 in
set_option maxRecDepth 100000 in
theorem spec_PrimeIn.calls (a0 : Int) (r : Bool) (w : World) (h : spec_PrimeIn.f a0 = some r) :
  Calls Try.prog 59 #[.int .i64 a0] w fun e w' => e = .returned (.bool r) ∧ Drawn0 w w' := by
 have H : (if a0 = 7 then (some true) else (if a0 = 11 then (some true) else (if a0 = 13 then (some true) else (if a0 = 17 then (some true) else (if a0 = 19 then (some true) else (if a0 = 23 then (some true) else (if a0 = 29 then (some true) else (if a0 = 31 then (some true) else (some false))))))))) = some r := h
 clear h
 by_cases c2 : a0 = 7
 ·rw [if_pos c2] at H
  have c2b0 := beq_iff_eq.mpr c2; have c2b1 := bne_eq_false_iff_eq.mpr c2; clear c2; obtain rfl := Option.some.inj H
  go_enter Try.func59, Try.ntmps59
  go_wp2; go_ret
  exact ⟨fr, df⟩
 ·rw [if_neg c2] at H
  have c2b0 := beq_eq_false_iff_ne.mpr c2; have c2b1 := bne_iff_ne.mpr c2
  by_cases c3 : a0 = 11
  ·rw [if_pos c3] at H
   have c3b0 := beq_iff_eq.mpr c3; have c3b1 := bne_eq_false_iff_eq.mpr c3; clear c3; obtain rfl := Option.some.inj H
   go_enter Try.func59, Try.ntmps59
   go_wp2; go_ret
   exact ⟨fr, df⟩
  ·rw [if_neg c3] at H
   have c3b0 := beq_eq_false_iff_ne.mpr c3; have c3b1 := bne_iff_ne.mpr c3
   by_cases c4 : a0 = 13
   ·rw [if_pos c4] at H
    have c4b0 := beq_iff_eq.mpr c4; have c4b1 := bne_eq_false_iff_eq.mpr c4; clear c4; obtain rfl := Option.some.inj H
    go_enter Try.func59, Try.ntmps59
    go_wp2; go_ret
    exact ⟨fr, df⟩
   ·rw [if_neg c4] at H
    have c4b0 := beq_eq_false_iff_ne.mpr c4; have c4b1 := bne_iff_ne.mpr c4
    by_cases c5 : a0 = 17
    ·rw [if_pos c5] at H
     have c5b0 := beq_iff_eq.mpr c5; have c5b1 := bne_eq_false_iff_eq.mpr c5; clear c5; obtain rfl := Option.some.inj H
     go_enter Try.func59, Try.ntmps59
     go_wp2; go_ret
     exact ⟨fr, df⟩
    ·rw [if_neg c5] at H
     have c5b0 := beq_eq_false_iff_ne.mpr c5; have c5b1 := bne_iff_ne.mpr c5
     by_cases c6 : a0 = 19
     ·rw [if_pos c6] at H
      have c6b0 := beq_iff_eq.mpr c6; have c6b1 := bne_eq_false_iff_eq.mpr c6; clear c6; obtain rfl := Option.some.inj H
      go_enter Try.func59, Try.ntmps59
      go_wp2; go_ret
      exact ⟨fr, df⟩
     ·rw [if_neg c6] at H
      have c6b0 := beq_eq_false_iff_ne.mpr c6; have c6b1 := bne_iff_ne.mpr c6
      by_cases c7 : a0 = 23
      ·rw [if_pos c7] at H
       have c7b0 := beq_iff_eq.mpr c7; have c7b1 := bne_eq_false_iff_eq.mpr c7; clear c7; obtain rfl := Option.some.inj H
       go_enter Try.func59, Try.ntmps59
       go_wp2; go_ret
       exact ⟨fr, df⟩
      ·rw [if_neg c7] at H
       have c7b0 := beq_eq_false_iff_ne.mpr c7; have c7b1 := bne_iff_ne.mpr c7
       by_cases c8 : a0 = 29
       ·rw [if_pos c8] at H
        have c8b0 := beq_iff_eq.mpr c8; have c8b1 := bne_eq_false_iff_eq.mpr c8; clear c8; obtain rfl := Option.some.inj H
        go_enter Try.func59, Try.ntmps59
        go_wp2; go_ret
        exact ⟨fr, df⟩
       ·rw [if_neg c8] at H
        have c8b0 := beq_eq_false_iff_ne.mpr c8; have c8b1 := bne_iff_ne.mpr c8
        by_cases c9 : a0 = 31
        ·rw [if_pos c9] at H
         have c9b0 := beq_iff_eq.mpr c9; have c9b1 := bne_eq_false_iff_eq.mpr c9; clear c9; obtain rfl := Option.some.inj H
         go_enter Try.func59, Try.ntmps59
         go_wp2; go_ret
         exact ⟨fr, df⟩
        ·rw [if_neg c9] at H
         have c9b0 := beq_eq_false_iff_ne.mpr c9; have c9b1 := bne_iff_ne.mpr c9; obtain rfl := Option.some.inj H
         go_enter Try.func59, Try.ntmps59
         go_wp2; go_ret
         exact ⟨fr, df⟩/-! ### spec_l4Turned: function 80 -/
def spec_l4Turned.l0 : Nat → Int → Int → Int → Option (Int)
 | 0, _, _, _ => none
 | k + 1, x0, x1, x5 => if x5 < x0 then (if x0 = 0 then (none) else (if (Int.tmod (wrap64 (x5 * x1)) x0) = 1 then (some x5) else (spec_l4Turned.l0 k x0 x1 (wrap64 (x5 + 1))))) else (some 0)
def spec_l4Turned.f (k : Nat) (a0 : Int) (a1 : Int) : Option (Int) := spec_l4Turned.l0 k a0 a1 1
theorem spec_l4Turned.mono_l : ∀ k, (∀ y0 y1 y2, LeO (spec_l4Turned.l0 k y0 y1 y2) (spec_l4Turned.l0 (k + 1) y0 y1 y2))
 | 0 => fun _ _ _ r h => by simp [spec_l4Turned.l0] at h
 | k + 1 => by
  have ih0 := spec_l4Turned.mono_l k
  ·intro y0 y1 y2
   unfold spec_l4Turned.l0
   repeat' first | (with_reducible first | apply ih0 | exact LeO.refl _ | exact LeO.none _ | refine LeO.ite ?_ ?_ | refine LeO.bind ?_ (fun _ => ?_)) | (first | apply ih0 | exact LeO.none _ | refine LeO.ite ?_ ?_ | refine LeO.bind ?_ (fun _ => ?_))
theorem spec_l4Turned.mono : ∀ a0 a1 k, LeO (spec_l4Turned.f k a0 a1) (spec_l4Turned.f (k + 1) a0 a1) := by
 intro a0 a1 k
 have ih0 := spec_l4Turned.mono_l k
 unfold spec_l4Turned.f
 repeat' first | (with_reducible first | apply ih0 | exact LeO.refl _ | exact LeO.none _ | refine LeO.ite ?_ ?_ | refine LeO.bind ?_ (fun _ => ?_)) | (first | apply ih0 | exact LeO.none _ | refine LeO.ite ?_ ?_ | refine LeO.bind ?_ (fun _ => ?_))
set_option maxHeartbeats 8000000 in
set_option maxRecDepth 100000 in
theorem spec_l4Turned.calls (k : Nat) (a0 : Int) (a1 : Int) (r : Int) (w : World) (h : spec_l4Turned.f k a0 a1 = some r) :
  Calls Try.prog 80 #[.int .i64 a0, .int .i64 a1] w fun e w' => e = .returned (.int .i64 r) ∧ Drawn0 w w' := by
 have H : (spec_l4Turned.l0 k a0 a1 1) = some r := h
 clear h; have H' := am H; clear H
 go_enter Try.func80, Try.ntmps80
 go_wp2
 go_loopg [5] k (fun kq v5 w' => ∃ (x5_1 : Int), v5 = .int .i64 x5_1 ∧ Aside0 (spec_l4Turned.l0 kq a0 a1 x5_1 = some r) ∧ Aside0 (kq ≤ k) ∧ Drawn0 w w')
 case atStart => exact ⟨(1), fr, H', ⟨Nat.le_refl _⟩, df⟩
 case round =>
  clear H'; try clear p2
  obtain ⟨x5_1, rfl, HA, HK1, ⟨m1, rfl⟩⟩ := hrel
  cases gk with
  | zero => exact absurd HA.out (by simp [spec_l4Turned.l0])
  | succ k1 =>
   have H := HA.out; clear HA
   simp only [spec_l4Turned.l0] at H
   by_cases c3 : x5_1 < a0
   ·rw [if_pos c3] at H
    have c3b0 := decide_eq_true c3; clear c3; replace H := ifm H; obtain ⟨c4, H⟩ := H; have c4b0 := beq_eq_false_iff_ne.mpr c4; have c4b1 := bne_iff_ne.mpr c4
    by_cases c5 : (Int.tmod (wrap64 (x5_1 * a1)) a0) = 1
    ·rw [if_pos c5] at H
     have c5b0 := beq_iff_eq.mpr c5; have c5b1 := bne_eq_false_iff_eq.mpr c5; clear c5; obtain rfl := Option.some.inj H; go_wp2; go_ret
     exact ⟨fr, df⟩
    ·rw [if_neg c5] at H
     have c5b0 := beq_eq_false_iff_ne.mpr c5; have c5b1 := bne_iff_ne.mpr c5; have H' := am H; clear H; go_wp2
     go_roundg k1
     case measure => have := HK1.out; omega
     case rel => exact ⟨(wrap64 (x5_1 + 1)), fr, H', ⟨by have := HK1.out; omega⟩, df⟩
   ·rw [if_neg c3] at H
    have c3b0 := decide_eq_false c3; clear c3; obtain rfl := Option.some.inj H; go_wp2; go_ret
    exact ⟨fr, df⟩/-! ### spec_l4Row: function 44 -/
def spec_l4Row.l0 : Nat → Int → List Int → List Int → Int → Int → Option (List Int)
 | 0, _, _, _, _, _ => none
 | k + 1, x0, x1, x5, x6, x7 => if x7 < (x1.length : Int) then (if x6 = 0 then (if 0 ≤ x7 then ((spec_l4Turned.f k x0 (rd x1 x7)).bind fun t105 => (if x0 = 0 then (none) else (if x5.length < 17592186044416 then (spec_l4Row.l0 k x0 x1 (x5 ++ [Int.tmod (wrap64 ((rd x1 x7) * t105)) x0]) t105 (wrap64 (x7 + 1))) else (none)))) else (none)) else (if 0 ≤ x7 then (if x0 = 0 then (none) else (if x5.length < 17592186044416 then (spec_l4Row.l0 k x0 x1 (x5 ++ [Int.tmod (wrap64 ((rd x1 x7) * x6)) x0]) x6 (wrap64 (x7 + 1))) else (none))) else (none))) else (some x5)
def spec_l4Row.f (k : Nat) (a0 : Int) (l1 : List Int) : Option (List Int) := spec_l4Row.l0 k a0 l1 (([] : List Int)) 0 0
theorem spec_l4Row.mono_l : ∀ k, (∀ y0 y1 y2 y3 y4, LeO (spec_l4Row.l0 k y0 y1 y2 y3 y4) (spec_l4Row.l0 (k + 1) y0 y1 y2 y3 y4))
 | 0 => fun _ _ _ _ _ r h => by simp [spec_l4Row.l0] at h
 | k + 1 => by
  have ih0 := spec_l4Row.mono_l k
  ·intro y0 y1 y2 y3 y4
   unfold spec_l4Row.l0
   repeat' first | (with_reducible first | apply ih0 | apply spec_l4Turned.mono | exact LeO.refl _ | exact LeO.none _ | refine LeO.ite ?_ ?_ | refine LeO.bind ?_ (fun _ => ?_)) | (first | apply ih0 | apply spec_l4Turned.mono | exact LeO.none _ | refine LeO.ite ?_ ?_ | refine LeO.bind ?_ (fun _ => ?_))
theorem spec_l4Row.mono : ∀ a0 a1 k, LeO (spec_l4Row.f k a0 a1) (spec_l4Row.f (k + 1) a0 a1) := by
 intro a0 a1 k
 have ih0 := spec_l4Row.mono_l k
 unfold spec_l4Row.f
 repeat' first | (with_reducible first | apply ih0 | apply spec_l4Turned.mono | exact LeO.refl _ | exact LeO.none _ | refine LeO.ite ?_ ?_ | refine LeO.bind ?_ (fun _ => ?_)) | (first | apply ih0 | apply spec_l4Turned.mono | exact LeO.none _ | refine LeO.ite ?_ ?_ | refine LeO.bind ?_ (fun _ => ?_))
set_option maxHeartbeats 8000000 in
set_option maxRecDepth 100000 in
theorem spec_l4Row.calls (k : Nat) (a0 : Int) (A1 : Option Addr) (c1 : Nat) (l1 : List Int) (r : List Int) (w : World) (hr1 : Kd.C (Kd.int .i64) w A1 l1.length l1) (hc1 : l1.length ≤ c1) (h : spec_l4Row.f k a0 l1 = some r) :
  Calls Try.prog 44 #[.int .i64 a0, .slice A1 l1.length c1] w fun e w' => ∃ v0_ : Value, e = .returned (v0_) ∧ Kd.R (Kd.int .i64) 3 w' w.heap.size (fun _ => True) v0_ r ∧ Below w.heap.size w w' := by
 have HR1 := am hr1
 have HC1 := am hc1
 clear hr1 hc1
 have HB := am (Below.refl w.heap.size w)
 have H : (spec_l4Row.l0 k a0 l1 (([] : List Int)) 0 0) = some r := h
 clear h
 generalize hy101 : (([] : List Int)) = y101 at H
 have Ny101 := am hy101.symm; clear hy101; have H' := am H; clear H
 go_enter Try.func44, Try.ntmps44
 go_wp2_with (first | ((with_reducible refine gate_dst (N := 8) rfl ?_); refine li 3 ([] : List Int) ?_; intro v102 w3 ho4 hb; (first | rw [← Ny101.out] at ho4 | (simp only [Int.reduceToNat] at ho4; rw [← Ny101.out] at ho4)); have HO103 := am (Kd.R_lower ho4 (bz HB)); replace HB := bq HB hb; clear hb ho4))
 go_loopg [5, 6, 7] k (fun kq v5 v6 v7 w' => ∃ (x5_1 : List Int) (x6_1 : Int) (x7_1 : Int), v6 = .int .i64 x6_1 ∧ v7 = .int .i64 x7_1 ∧ Aside0 (spec_l4Row.l0 kq a0 l1 x5_1 x6_1 x7_1 = some r) ∧ Aside0 (kq ≤ k) ∧ Aside0 (Kd.R (Kd.int .i64) 3 w' w.heap.size (fun _ => True) v5 x5_1) ∧ Aside0 (Below w.heap.size w w'))
 case atStart => exact ⟨(y101), (0), (0), fr, fr, H', ⟨Nat.le_refl _⟩, ⟨wR HO103⟩, ⟨bw HB⟩⟩
 case round =>
  clear H'; try clear c1; try clear p2; try clear c4
  obtain ⟨x5_1, x6_1, x7_1, rfl, rfl, HA, HK1, HO_5, HB⟩ := hrel
  cases gk with
  | zero => exact absurd HA.out (by simp [spec_l4Row.l0])
  | succ k1 =>
   have H := HA.out; clear HA
   simp only [spec_l4Row.l0] at H
   by_cases c5 : x7_1 < (l1.length : Int)
   ·rw [if_pos c5] at H
    have c5b0 := decide_eq_true c5; clear c5
    by_cases c6 : x6_1 = 0
    ·rw [if_pos c6] at H
     have c6b0 := beq_iff_eq.mpr c6; have c6b1 := bne_eq_false_iff_eq.mpr c6; clear c6; replace H := ifn H; obtain ⟨c7, H⟩ := H; have c7b0 := decide_eq_true c7; clear c7; replace H := bs H; obtain ⟨t105, A8, H⟩ := H; replace H := ifm H; obtain ⟨c9, H⟩ := H
     have c9b0 := beq_eq_false_iff_ne.mpr c9; have c9b1 := bne_iff_ne.mpr c9; replace H := ifn H; obtain ⟨c10, H⟩ := H; have LMc10 := am c10; clear c10
     generalize hy107 : (x5_1 ++ [Int.tmod (wrap64 ((rd l1 x7_1) * t105)) a0] : List Int) = y107 at H
     have Ny107 := am hy107.symm; clear hy107; have H' := am H; clear H
     have p104 : 0 ≤ (x7_1 : Int) := od
     have q104 : x7_1 < (l1.length : Int) := od
     obtain ⟨ad104, e104, hx104_0⟩ := Kd.at_int HR1.out x7_1 p104 q104
     cases e104
     replace hx104_0 := wc HB hx104_0
     replace p104 := eq_true p104; replace q104 := eq_true q104
     go_wp2_with (first | ((with_reducible refine gate_callee (f := 80) rfl ?_); refine gl 22 Try.func80 #[.int .i64 a0, .int .i64 (rd l1 x7_1)] ?_; (with_reducible refine (spec_l4Turned.calls k1 a0 (rd l1 x7_1) t105 _ A8.out).mono ?_); rintro e w' ⟨rfl, ⟨nd, rfl⟩⟩; refine ⟨_, rfl, ?_⟩; have p106 : 0 ≤ (x7_1 : Int) := od; have q106 : x7_1 < (l1.length : Int) := od; obtain ⟨ad106, e106, hx106_0⟩ := Kd.at_int HR1.out x7_1 p106 q106; obtain rfl : ad104 = ad106 := (by injection e106); replace hx106_0 := wc HB hx106_0; replace p106 := eq_true p106; replace q106 := eq_true q106) | ((with_reducible refine gate_builtin (b := .append) (xs := #[.tmp 23, .tmp 32]) rfl ?_); at_builtin; refine Kd.R_append (Kd.int .i64) (w0 := w) w.heap.size rfl (.tmp 23) (.tmp 32) 22 3 (.int .i64 0) 8 rfl Try.underlying22 info3 rfl (by decide) (by omega) u5 x5_1 (Int.tmod (wrap64 ((rd l1 x7_1) * t105)) a0) [.int .i64 (Int.tmod (wrap64 ((rd l1 x7_1) * t105)) a0)] (fun _ => True) (fun _ => False) rfl rfl ?aP (fun _ hk => hk.elim) ?aF ?aO ?aB ?aS ?aL ?_; (case aP => exact rfl); (case aB => exact (bw HB)); (case aF => exact (fun _ _ => trivial)); (case aO => exact (wR HO_5)); (case aS => exact (bz HB)); (case aL => have := LMc10.out; omega); intro v108 w11 ho hb hg hat; rw [← Ny107.out] at ho; replace HB := am (hb); have HO109 := am (ho); clear HO_5; clear ho hb hg hat))
     go_roundg k1
     case measure => have := HK1.out; omega
     case rel => exact ⟨(y107), (t105), (wrap64 (x7_1 + 1)), fr, fr, H', ⟨by have := HK1.out; omega⟩, ⟨wR HO109⟩, ⟨bw HB⟩⟩
    ·rw [if_neg c6] at H
     have c6b0 := beq_eq_false_iff_ne.mpr c6; have c6b1 := bne_iff_ne.mpr c6; replace H := ifn H; obtain ⟨c12, H⟩ := H; have c12b0 := decide_eq_true c12; clear c12; replace H := ifm H; obtain ⟨c13, H⟩ := H; have c13b0 := beq_eq_false_iff_ne.mpr c13
     have c13b1 := bne_iff_ne.mpr c13; replace H := ifn H; obtain ⟨c14, H⟩ := H; have LMc14 := am c14; clear c14
     generalize hy111 : (x5_1 ++ [Int.tmod (wrap64 ((rd l1 x7_1) * x6_1)) a0] : List Int) = y111 at H
     have Ny111 := am hy111.symm; clear hy111; have H' := am H; clear H
     have p110 : 0 ≤ (x7_1 : Int) := od
     have q110 : x7_1 < (l1.length : Int) := od
     obtain ⟨ad110, e110, hx110_0⟩ := Kd.at_int HR1.out x7_1 p110 q110
     cases e110
     replace hx110_0 := wc HB hx110_0
     replace p110 := eq_true p110; replace q110 := eq_true q110
     go_wp2_with (first | ((with_reducible refine gate_builtin (b := .append) (xs := #[.tmp 23, .tmp 32]) rfl ?_); at_builtin; refine Kd.R_append (Kd.int .i64) (w0 := w) w.heap.size rfl (.tmp 23) (.tmp 32) 22 3 (.int .i64 0) 8 rfl Try.underlying22 info3 rfl (by decide) (by omega) u5 x5_1 (Int.tmod (wrap64 ((rd l1 x7_1) * x6_1)) a0) [.int .i64 (Int.tmod (wrap64 ((rd l1 x7_1) * x6_1)) a0)] (fun _ => True) (fun _ => False) rfl rfl ?aP (fun _ hk => hk.elim) ?aF ?aO ?aB ?aS ?aL ?_; (case aP => exact rfl); (case aB => exact (bw HB)); (case aF => exact (fun _ _ => trivial)); (case aO => exact (wR HO_5)); (case aS => exact (bz HB)); (case aL => have := LMc14.out; omega); intro v112 w15 ho hb hg hat; rw [← Ny111.out] at ho; replace HB := am (hb); have HO113 := am (ho); clear HO_5; clear ho hb hg hat))
     go_roundg k1
     case measure => have := HK1.out; omega
     case rel => exact ⟨(y111), (x6_1), (wrap64 (x7_1 + 1)), fr, fr, H', ⟨by have := HK1.out; omega⟩, ⟨wR HO113⟩, ⟨bw HB⟩⟩
   ·rw [if_neg c5] at H
    have c5b0 := decide_eq_false c5; clear c5; obtain rfl := Option.some.inj H; go_wp2; go_ret
    exact ⟨_, fq, wR HO_5, bw HB⟩/-! ### spec_l4Mod: function 42 -/
def spec_l4Mod.f (a0 : Int) (a1 : Int) : Option (Int) := if a0 = 0 then (none) else (some (Int.tmod (wrap64 ((Int.tmod a1 a0) + a0)) a0))
set_option maxHeartbeats 8000000 in
set_option maxRecDepth 100000 in
theorem spec_l4Mod.calls (a0 : Int) (a1 : Int) (r : Int) (w : World) (h : spec_l4Mod.f a0 a1 = some r) :
  Calls Try.prog 42 #[.int .i64 a0, .int .i64 a1] w fun e w' => e = .returned (.int .i64 r) ∧ Drawn0 w w' := by
 have H : (if a0 = 0 then (none) else (some (Int.tmod (wrap64 ((Int.tmod a1 a0) + a0)) a0))) = some r := h
 clear h; replace H := ifm H; obtain ⟨c3, H⟩ := H; have c3b0 := beq_eq_false_iff_ne.mpr c3; have c3b1 := bne_iff_ne.mpr c3; obtain rfl := Option.some.inj H
 go_enter Try.func42, Try.ntmps42
 go_wp2; go_ret
 exact ⟨fr, df⟩/-! ### spec_l4Less: function 87 -/
def spec_l4Less.l0 : Nat → Int → List Int → Int → List Int → List Int → Int → Option (List Int)
 | 0, _, _, _, _, _, _ => none
 | k + 1, x0, x1, x2, x3, x9, x10 => if x10 < (x1.length : Int) then (if 0 ≤ x10 then (if x10 < (x3.length : Int) then ((spec_l4Mod.f x0 (wrap64 ((rd x1 x10) - (wrap64 (x2 * (rd x3 x10)))))).bind fun t119 => (if x9.length < 17592186044416 then (spec_l4Less.l0 k x0 x1 x2 x3 (x9 ++ [t119]) (wrap64 (x10 + 1))) else (none))) else (none)) else (none)) else (some x9)
def spec_l4Less.f (k : Nat) (a0 : Int) (l1 : List Int) (a2 : Int) (l3 : List Int) : Option (List Int) := spec_l4Less.l0 k a0 l1 a2 l3 (([] : List Int)) 0
theorem spec_l4Less.mono_l : ∀ k, (∀ y0 y1 y2 y3 y4 y5, LeO (spec_l4Less.l0 k y0 y1 y2 y3 y4 y5) (spec_l4Less.l0 (k + 1) y0 y1 y2 y3 y4 y5))
 | 0 => fun _ _ _ _ _ _ r h => by simp [spec_l4Less.l0] at h
 | k + 1 => by
  have ih0 := spec_l4Less.mono_l k
  ·intro y0 y1 y2 y3 y4 y5
   unfold spec_l4Less.l0
   repeat' first | (with_reducible first | apply ih0 | exact LeO.refl _ | exact LeO.none _ | refine LeO.ite ?_ ?_ | refine LeO.bind ?_ (fun _ => ?_)) | (first | apply ih0 | exact LeO.none _ | refine LeO.ite ?_ ?_ | refine LeO.bind ?_ (fun _ => ?_))
theorem spec_l4Less.mono : ∀ a0 a1 a2 a3 k, LeO (spec_l4Less.f k a0 a1 a2 a3) (spec_l4Less.f (k + 1) a0 a1 a2 a3) := by
 intro a0 a1 a2 a3 k
 have ih0 := spec_l4Less.mono_l k
 unfold spec_l4Less.f
 repeat' first | (with_reducible first | apply ih0 | exact LeO.refl _ | exact LeO.none _ | refine LeO.ite ?_ ?_ | refine LeO.bind ?_ (fun _ => ?_)) | (first | apply ih0 | exact LeO.none _ | refine LeO.ite ?_ ?_ | refine LeO.bind ?_ (fun _ => ?_))
def spec_l4Less.T5 : Bool × List (List Nat × List Nat) := (true, [([], []), ([], []), ([], []), ([], []), ([2, 3], [2, 3]), ([4], [4]), ([], []), ([], []), ([], []), ([7, 8], [7, 8]), ([9], [9]), ([6, 10], [6, 10]), ([5, 11], [5, 11]), ([1, 12], [1, 12]), ([13], [13]), ([0, 14, 13], [0, 14]), ([15, 15, 0, 1, 2, 3, 4, 5, 6, 7, 8, 9, 10, 11, 12, 13, 14, 15], [0, 15])])
def spec_l4Less.B5 : List Nat := [0, 0, 0, 0, 12, 28, 0, 0, 0, 384, 896, 1984, 4092, 8190, 16382, 32767, 65535]
theorem spec_l4Less.tab5 : rtab .any (opsOf Try.f87 5) = spec_l4Less.T5 := by kernel_rfl
theorem spec_l4Less.bits5 : waitsOk spec_l4Less.T5.2 spec_l4Less.B5 = true := by kernel_rfl
set_option maxHeartbeats 8000000 in
set_option maxRecDepth 100000 in
theorem spec_l4Less.calls (k : Nat) (a0 : Int) (A1 : Option Addr) (c1 : Nat) (l1 : List Int) (a2 : Int) (A3 : Option Addr) (c3 : Nat) (l3 : List Int) (r : List Int) (w : World) (hr1 : Kd.C (Kd.int .i64) w A1 l1.length l1) (hc1 : l1.length ≤ c1) (hr3 : Kd.C (Kd.int .i64) w A3 l3.length l3) (hc3 : l3.length ≤ c3) (h : spec_l4Less.f k a0 l1 a2 l3 = some r) :
  Calls Try.prog 87 #[.int .i64 a0, .slice A1 l1.length c1, .int .i64 a2, .slice A3 l3.length c3] w fun e w' => ∃ v0_ : Value, e = .returned (v0_) ∧ Kd.R (Kd.int .i64) 3 w' w.heap.size (fun _ => True) v0_ r ∧ Below w.heap.size w w' := by
 have HR1 := am hr1
 have HC1 := am hc1
 clear hr1 hc1
 have HR3 := am hr3
 have HC3 := am hc3
 clear hr3 hc3
 have HB := am (Below.refl w.heap.size w)
 have H : (spec_l4Less.l0 k a0 l1 a2 l3 (([] : List Int)) 0) = some r := h
 clear h
 generalize hy114 : (([] : List Int)) = y114 at H
 have Ny114 := am hy114.symm; clear hy114; have H' := am H; clear H
 go_enter Try.func87, Try.ntmps87
 go_wp2_with (first | ((with_reducible refine gate_dst (N := 11) rfl ?_); refine li 3 ([] : List Int) ?_; intro v115 w5 ho6 hb; (first | rw [← Ny114.out] at ho6 | (simp only [Int.reduceToNat] at ho6; rw [← Ny114.out] at ho6)); have HO116 := am (Kd.R_lower ho6 (bz HB)); replace HB := bq HB hb; clear hb ho6))
 go_loopg [9, 10] k (fun kq v9 v10 w' => ∃ (x9_1 : List Int) (x10_1 : Int), v10 = .int .i64 x10_1 ∧ Aside0 (spec_l4Less.l0 kq a0 l1 a2 l3 x9_1 x10_1 = some r) ∧ Aside0 (kq ≤ k) ∧ Aside0 (Kd.R (Kd.int .i64) 3 w' w.heap.size (fun _ => True) v9 x9_1) ∧ Aside0 (Below w.heap.size w w'))
 case atStart => exact ⟨(y114), (0), fr, H', ⟨Nat.le_refl _⟩, ⟨wR HO116⟩, ⟨bw HB⟩⟩
 case round =>
  clear H'; try clear c1; try clear p2; try clear c3
  obtain ⟨x9_1, x10_1, rfl, HA, HK1, HO_9, HB⟩ := hrel
  cases gk with
  | zero => exact absurd HA.out (by simp [spec_l4Less.l0])
  | succ k1 =>
   have H := HA.out; clear HA
   simp only [spec_l4Less.l0] at H
   by_cases c7 : x10_1 < (l1.length : Int)
   ·rw [if_pos c7] at H
    have c7b0 := decide_eq_true c7; clear c7; replace H := ifn H; obtain ⟨c8, H⟩ := H; have c8b0 := decide_eq_true c8; clear c8; replace H := ifn H; obtain ⟨c9, H⟩ := H; have c9b0 := decide_eq_true c9; clear c9; replace H := bs H; obtain ⟨t119, A10, H⟩ := H
    replace H := ifn H; obtain ⟨c11, H⟩ := H; have LMc11 := am c11; clear c11
    generalize hy120 : (x9_1 ++ [t119] : List Int) = y120 at H
    have Ny120 := am hy120.symm; clear hy120; have H' := am H; clear H
    try go_wp2
    replace HO_9 := am (Kd.R_drew HO_9.out)
    replace HB := am (below_drew1 HB.out)
    have p117 : 0 ≤ (x10_1 : Int) := od
    have q117 : x10_1 < (l1.length : Int) := od
    obtain ⟨ad117, e117, hx117_0⟩ := Kd.at_int HR1.out x10_1 p117 q117
    have hw117_0 := hx117_0
    cases e117
    replace hx117_0 := wc HB hx117_0
    replace p117 := eq_true p117; replace q117 := eq_true q117
    have p118 : 0 ≤ (x10_1 : Int) := od
    have q118 : x10_1 < (l3.length : Int) := od
    obtain ⟨ad118, e118, hx118_0⟩ := Kd.at_int HR3.out x10_1 p118 q118
    have hw118_0 := hx118_0
    cases e118
    replace hx118_0 := wc HB hx118_0
    replace p118 := eq_true p118; replace q118 := eq_true q118
    refine st 17 (fun w' => w'.cell? (ad117.add (x10_1).toNat) = some (.int .i64 (rd l1 x10_1)) ∧ w'.cell? (ad118.add (x10_1).toNat) = some (.int .i64 (rd l3 x10_1))) [] spec_l4Less.tab5 spec_l4Less.bits5 (⟨(wc HB hw117_0), (wc HB hw118_0)⟩) fun hHeld HT_ HW_ => ?_
    generalize wr.drew = w12 at HO_9 HB hx117_0 hx118_0 hHeld ⊢
    refine pz 0 18 HT_ ?_; refine pz 1 19 HT_ ?_; refine pz 2 20 HT_ ?_; refine pz 3 21 HT_ ?_; refine pz 4 22 HT_ ?_; refine pz 6 24 HT_ ?_; refine pz 7 25 HT_ ?_; refine pz 8 26 HT_ ?_; refine pz 9 27 HT_ ?_; refine tk 5 23 HT_ HW_ hHeld ?_; refine tk 10 28 HT_ HW_ hHeld ?_
    refine pz 11 29 HT_ ?_; refine pz 12 30 HT_ ?_
    refine on 13 (some 31) HT_ fun K hK => ?_
    refine gs_ Try.func42 #[.int .i64 a0, .int .i64 (wrap64 ((rd l1 x10_1) - (wrap64 (a2 * (rd l3 x10_1)))))] ?_
    with_reducible refine (spec_l4Mod.calls a0 (wrap64 ((rd l1 x10_1) - (wrap64 (a2 * (rd l3 x10_1))))) t119 _ A10.out).mono ?_
    rintro e w' ⟨rfl, ⟨nd, rfl⟩⟩
    refine ⟨_, rfl, ?_⟩
    refine hK.out _ _ ⟨(wc HB hw117_0), (wc HB hw118_0)⟩ fun hHeld => nz ?_
    clear hK K
    refine on 14 (some 32) HT_ fun K hK => ?_
    refine value_ (w1 := ?_) (v := ?_) (by rfl) rfl ?_ ?_
    rotate_left 2
    ·go_simp
     constructor
     ·rfl
     ·rfl
    refine hK.out _ _ ⟨(World.cell?_alloc_lt _ _ _ (World.block_lt_of_cell? _ _ ((wc HB hw117_0)))).trans ((wc HB hw117_0)), (World.cell?_alloc_lt _ _ _ (World.block_lt_of_cell? _ _ ((wc HB hw118_0)))).trans ((wc HB hw118_0))⟩ fun hHeld => nz ?_
    clear hK K
    refine on 15 (some 33) HT_ fun K hK => ?_
    refine Kd.R_append_step (Kd.int .i64) (w0 := w) w.heap.size (by rfl) (.tmp 18) (.tmp 32) 22 3 (.int .i64 0) 8 rfl Try.underlying22 info3 rfl (by decide) (by omega) u9 x9_1 t119 [.int .i64 t119] (fun _ => True) (fun _ => False) rfl rfl ?aP (fun _ hk => hk.elim) ?aF ?aO ?aB ?aS ?aL ?_
    (case aP => exact rfl)
    (case aB => exact (bw HB))
    (case aF => exact (fun _ _ => trivial))
    (case aO => exact (wR HO_9))
    (case aS => exact (bz HB))
    (case aL => have := LMc11.out; omega)
    intro v121 w13 ho hb hg hat
    rw [← Ny120.out] at ho
    replace HB := am (hb)
    have HO122 := am (ho)
    clear HO_9; clear ho hb hg hat
    refine hK.out _ _ ⟨(wc HB hw117_0), (wc HB hw118_0)⟩ fun hHeld => nz ?_
    clear hK K; refine pz 16 9 HT_ ?_
    refine done_ (done_of HT_.out (by kernel_rfl)) ?_
    try go_wp2
    go_roundg k1
    case measure => have := HK1.out; omega
    case rel => exact ⟨(y120), (wrap64 (x10_1 + 1)), fr, H', ⟨by have := HK1.out; omega⟩, ⟨wR HO122⟩, ⟨bw HB⟩⟩
   ·rw [if_neg c7] at H
    have c7b0 := decide_eq_false c7; clear c7; obtain rfl := Option.some.inj H; go_wp2; go_ret
    exact ⟨_, fq, wR HO_9, bw HB⟩
end Go.Proofs.Ytmenehnfgenlpaa.PA

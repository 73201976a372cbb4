-- Written by xprint.py, a program of this claim's own (over the kit's print.py)
import Derived.Test.YtmenehnfgenlpaaPAx0
import Derived.Test.YtmenehnfgenlpaaPAx3
import Derived.Test.YtmenehnfgenlpaaPAx10
import Derived.Deep.Cut
import Derived.BigQuiet
import Derived.Deep.QuietTactic
namespace Go.Proofs.Ytmenehnfgenlpaa.PA
open Go.RowKit Go.Proofs.YtmenehnfgenlpaaW.PrintWords Go.Proofs.YtmenehnfgenlpaaW.PrintLast Go.Proofs.YtmenehnfgenlpaaW.PrintMore
attribute [local go_sem] max2_int min2_int max_two min_two max_three min_three max_four min_four   -- for this text's walks alone
set_option linter.unusedVariables false
set_option linter.unusedSimpArgs false

/-! ### impl_valueAt: function 77 -/
mutual
def impl_valueAt.l0 : Nat → Int → List Int → List Int → Int → Int → Int → Option (Int)
 | 0, _, _, _, _, _, _ => none
 | k + 1, x0, x1, x2, x7, x8, x13 => if x13 < 4 then (impl_valueAt.l1 k x0 x1 x2 x7 x8 x13 x13 x13) else (if x0 = 0 then (none) else (some (Int.tmod x7 x0)))
def impl_valueAt.l1 : Nat → Int → List Int → List Int → Int → Int → Int → Int → Int → Option (Int)
 | 0, _, _, _, _, _, _, _, _ => none
 | k + 1, x0, x1, x2, x7, x8, x9, x10, x13 => if x10 < 4 then (if 0 ≤ x9 then (if x9 < (x2.length : Int) then (if 0 ≤ x10 then (if x10 < (x2.length : Int) then (impl_valueAt.l2 k x0 x1 x2 x7 x8 x9 x10 (wrap64 ((rd x2 x9) * (rd x2 x10))) x10 x13) else (none)) else (none)) else (none)) else (none)) else (impl_valueAt.l0 k x0 x1 x2 x7 x8 (wrap64 (x13 + 1)))
def impl_valueAt.l2 : Nat → Int → List Int → List Int → Int → Int → Int → Int → Int → Int → Int → Option (Int)
 | 0, _, _, _, _, _, _, _, _, _, _ => none
 | k + 1, x0, x1, x2, x7, x8, x9, x10, x11, x12, x13 => if x12 < 4 then (if 0 ≤ x8 then (if x8 < (x1.length : Int) then (if 0 ≤ x12 then (if x12 < (x2.length : Int) then (impl_valueAt.l2 k x0 x1 x2 (wrap64 (x7 + (wrap64 ((wrap64 ((rd x1 x8) * x11)) * (rd x2 x12))))) (wrap64 (x8 + 1)) x9 x10 x11 (wrap64 (x12 + 1)) x13) else (none)) else (none)) else (none)) else (none)) else (impl_valueAt.l1 k x0 x1 x2 x7 x8 x9 (wrap64 (x10 + 1)) x13)
end
def impl_valueAt.f (k : Nat) (a0 : Int) (l1 : List Int) (l2 : List Int) : Option (Int) := impl_valueAt.l0 k a0 l1 l2 0 0 0
theorem impl_valueAt.mono_l : ∀ k, (∀ y0 y1 y2 y3 y4 y5, LeO (impl_valueAt.l0 k y0 y1 y2 y3 y4 y5) (impl_valueAt.l0 (k + 1) y0 y1 y2 y3 y4 y5)) ∧ (∀ y0 y1 y2 y3 y4 y5 y6 y7, LeO (impl_valueAt.l1 k y0 y1 y2 y3 y4 y5 y6 y7) (impl_valueAt.l1 (k + 1) y0 y1 y2 y3 y4 y5 y6 y7)) ∧ (∀ y0 y1 y2 y3 y4 y5 y6 y7 y8 y9, LeO (impl_valueAt.l2 k y0 y1 y2 y3 y4 y5 y6 y7 y8 y9) (impl_valueAt.l2 (k + 1) y0 y1 y2 y3 y4 y5 y6 y7 y8 y9))
 | 0 => ⟨fun _ _ _ _ _ _ r h => by simp [impl_valueAt.l0] at h, fun _ _ _ _ _ _ _ _ r h => by simp [impl_valueAt.l1] at h, fun _ _ _ _ _ _ _ _ _ _ r h => by simp [impl_valueAt.l2] at h⟩
 | k + 1 => by
  obtain ⟨ih0, ih1, ih2⟩ := impl_valueAt.mono_l k
  refine ⟨?_, ?_, ?_⟩
  ·intro y0 y1 y2 y3 y4 y5
   unfold impl_valueAt.l0
   repeat' first | (with_reducible first | apply ih0 | apply ih1 | apply ih2 | exact LeO.refl _ | exact LeO.none _ | refine LeO.ite ?_ ?_ | refine LeO.bind ?_ (fun _ => ?_)) | (first | apply ih0 | apply ih1 | apply ih2 | exact LeO.none _ | refine LeO.ite ?_ ?_ | refine LeO.bind ?_ (fun _ => ?_))
  ·intro y0 y1 y2 y3 y4 y5 y6 y7
   unfold impl_valueAt.l1
   repeat' first | (with_reducible first | apply ih0 | apply ih1 | apply ih2 | exact LeO.refl _ | exact LeO.none _ | refine LeO.ite ?_ ?_ | refine LeO.bind ?_ (fun _ => ?_)) | (first | apply ih0 | apply ih1 | apply ih2 | exact LeO.none _ | refine LeO.ite ?_ ?_ | refine LeO.bind ?_ (fun _ => ?_))
  ·intro y0 y1 y2 y3 y4 y5 y6 y7 y8 y9
   unfold impl_valueAt.l2
   repeat' first | (with_reducible first | apply ih0 | apply ih1 | apply ih2 | exact LeO.refl _ | exact LeO.none _ | refine LeO.ite ?_ ?_ | refine LeO.bind ?_ (fun _ => ?_)) | (first | apply ih0 | apply ih1 | apply ih2 | exact LeO.none _ | refine LeO.ite ?_ ?_ | refine LeO.bind ?_ (fun _ => ?_))
theorem impl_valueAt.mono : ∀ a0 a1 a2 k, LeO (impl_valueAt.f k a0 a1 a2) (impl_valueAt.f (k + 1) a0 a1 a2) := by
 intro a0 a1 a2 k
 obtain ⟨ih0, ih1, ih2⟩ := impl_valueAt.mono_l k
 unfold impl_valueAt.f
 repeat' first | (with_reducible first | apply ih0 | apply ih1 | apply ih2 | exact LeO.refl _ | exact LeO.none _ | refine LeO.ite ?_ ?_ | refine LeO.bind ?_ (fun _ => ?_)) | (first | apply ih0 | apply ih1 | apply ih2 | exact LeO.none _ | refine LeO.ite ?_ ?_ | refine LeO.bind ?_ (fun _ => ?_))
set_option maxHeartbeats 8000000 in
set_option maxRecDepth 100000 in
theorem impl_valueAt.calls (k : Nat) (a0 : Int) (A1 : Option Addr) (c1 : Nat) (l1 : List Int) (A2 : Option Addr) (c2 : Nat) (l2 : List Int) (r : Int) (w : World) (hr1 : Kd.C (Kd.int .i64) w A1 l1.length l1) (hc1 : l1.length ≤ c1) (hr2 : Kd.C (Kd.int .i64) w A2 l2.length l2) (hc2 : l2.length ≤ c2) (h : impl_valueAt.f k a0 l1 l2 = some r) :
  Calls Try.prog 77 #[.int .i64 a0, .slice A1 l1.length c1, .slice A2 l2.length c2] w fun e w' => e = .returned (.int .i64 r) ∧ Drawn0 w w' := by
 have HR1 := am hr1
 have HC1 := am hc1
 clear hr1 hc1
 have HR2 := am hr2
 have HC2 := am hc2
 clear hr2 hc2
 have H : (impl_valueAt.l0 k a0 l1 l2 0 0 0) = some r := h
 clear h; have H' := am H; clear H
 go_enter Try.func77, Try.ntmps77
 go_wp2
 repeat (go_quiet (fail); try go_wp2)
 go_loopg [7, 8, 13] k (fun kq v7 v8 v13 w' => ∃ (x7_1 : Int) (x8_1 : Int) (x13_1 : Int), v7 = .int .i64 x7_1 ∧ v8 = .int .i64 x8_1 ∧ v13 = .int .i64 x13_1 ∧ Aside0 (impl_valueAt.l0 kq a0 l1 l2 x7_1 x8_1 x13_1 = some r) ∧ Aside0 (kq ≤ k) ∧ Drawn0 w w')
 case atStart => exact ⟨(0), (0), (0), fr, fr, fr, H', ⟨Nat.le_refl _⟩, df⟩
 case round =>
  clear H'; try clear c1; try clear c2; try clear p2
  obtain ⟨x7_1, x8_1, x13_1, rfl, rfl, rfl, HA, HK1, ⟨m1, rfl⟩⟩ := hrel
  cases gk with
  | zero => exact absurd HA.out (by simp [impl_valueAt.l0])
  | succ k1 =>
   have H := HA.out; clear HA
   simp only [impl_valueAt.l0] at H
   by_cases c4 : x13_1 < 4
   ·rw [if_pos c4] at H
    have c4b0 := decide_eq_true c4; clear c4; have H' := am H; clear H; go_wp2
    repeat (go_quiet (fail); try go_wp2)
    go_loopg [7, 8, 10] k1 (fun kq v7 v8 v10 w' => ∃ (x7_2 : Int) (x8_2 : Int) (x10_2 : Int), v7 = .int .i64 x7_2 ∧ v8 = .int .i64 x8_2 ∧ v10 = .int .i64 x10_2 ∧ Aside0 (impl_valueAt.l1 kq a0 l1 l2 x7_2 x8_2 x13_1 x10_2 x13_1 = some r) ∧ Aside0 (kq ≤ k1) ∧ Drawn0 w w')
    case atStart => exact ⟨(x7_1), (x8_1), (x13_1), fr, fr, fr, H', ⟨Nat.le_refl _⟩, df⟩
    case round =>
     clear H'; try clear c1; try clear c2; try clear p2; try clear c4; try clear c4b0; try clear p2
     obtain ⟨x7_2, x8_2, x10_2, rfl, rfl, rfl, HA, HK2, ⟨m2, rfl⟩⟩ := hrel
     cases gk with
     | zero => exact absurd HA.out (by simp [impl_valueAt.l1])
     | succ k2 =>
      have H := HA.out; clear HA
      simp only [impl_valueAt.l1] at H
      by_cases c5 : x10_2 < 4
      ·rw [if_pos c5] at H
       have c5b0 := decide_eq_true c5; clear c5; replace H := ifn H; obtain ⟨c6, H⟩ := H; have c6b0 := decide_eq_true c6; clear c6; replace H := ifn H; obtain ⟨c7, H⟩ := H; have c7b0 := decide_eq_true c7; clear c7; replace H := ifn H; obtain ⟨c8, H⟩ := H
       have c8b0 := decide_eq_true c8; clear c8; replace H := ifn H; obtain ⟨c9, H⟩ := H; have c9b0 := decide_eq_true c9; clear c9; have H' := am H; clear H
       have p396 : 0 ≤ (x13_1 : Int) := od
       have q396 : x13_1 < (l2.length : Int) := od
       obtain ⟨ad396, e396, hx396_0⟩ := Kd.at_int HR2.out x13_1 p396 q396
       cases e396; replace p396 := eq_true p396; replace q396 := eq_true q396
       have p397 : 0 ≤ (x10_2 : Int) := od
       have q397 : x10_2 < (l2.length : Int) := od
       obtain ⟨ad397, e397, hx397_0⟩ := Kd.at_int HR2.out x10_2 p397 q397
       obtain rfl : ad396 = ad397 := (by injection e397)
       replace p397 := eq_true p397; replace q397 := eq_true q397; go_wp2
       repeat (go_quiet (fail); try go_wp2)
       go_loopg [7, 8, 12] k2 (fun kq v7 v8 v12 w' => ∃ (x7_3 : Int) (x8_3 : Int) (x12_3 : Int), v7 = .int .i64 x7_3 ∧ v8 = .int .i64 x8_3 ∧ v12 = .int .i64 x12_3 ∧ Aside0 (impl_valueAt.l2 kq a0 l1 l2 x7_3 x8_3 x13_1 x10_2 (wrap64 ((rd l2 x13_1) * (rd l2 x10_2))) x12_3 x13_1 = some r) ∧ Aside0 (kq ≤ k2) ∧ Drawn0 w w')
       case atStart => exact ⟨(x7_2), (x8_2), (x10_2), fr, fr, fr, H', ⟨Nat.le_refl _⟩, df⟩
       case round =>
        clear H'; try clear c1; try clear c2; try clear p2; try clear p3; try clear q3; try clear hx3; try clear c4; try clear c4b0; try clear c5; try clear c5b0; try clear c6; try clear c6b0; try clear p6; try clear c7; try clear c7b0; try clear c8
        try clear c8b0; try clear c9; try clear c9b0; try clear hx396_0; try clear hx397_0; try clear p2; try clear p396; try clear p397; try clear q396; try clear q397
        obtain ⟨x7_3, x8_3, x12_3, rfl, rfl, rfl, HA, HK3, ⟨m3, rfl⟩⟩ := hrel
        cases gk with
        | zero => exact absurd HA.out (by simp [impl_valueAt.l2])
        | succ k3 =>
         have H := HA.out; clear HA
         simp only [impl_valueAt.l2] at H
         by_cases c10 : x12_3 < 4
         ·rw [if_pos c10] at H
          have c10b0 := decide_eq_true c10; clear c10; replace H := ifn H; obtain ⟨c11, H⟩ := H; have c11b0 := decide_eq_true c11; clear c11; replace H := ifn H; obtain ⟨c12, H⟩ := H; have c12b0 := decide_eq_true c12; clear c12; replace H := ifn H; obtain ⟨c13, H⟩ := H
          have c13b0 := decide_eq_true c13; clear c13; replace H := ifn H; obtain ⟨c14, H⟩ := H; have c14b0 := decide_eq_true c14; clear c14; have H' := am H; clear H
          have p398 : 0 ≤ (x8_3 : Int) := od
          have q398 : x8_3 < (l1.length : Int) := od
          obtain ⟨ad398, e398, hx398_0⟩ := Kd.at_int HR1.out x8_3 p398 q398
          cases e398; replace p398 := eq_true p398; replace q398 := eq_true q398
          have p399 : 0 ≤ (x12_3 : Int) := od
          have q399 : x12_3 < (l2.length : Int) := od
          obtain ⟨ad399, e399, hx399_0⟩ := Kd.at_int HR2.out x12_3 p399 q399
          obtain rfl : ad396 = ad399 := (by injection e399)
          replace p399 := eq_true p399; replace q399 := eq_true q399; go_wp2
          repeat (go_quiet (fail); try go_wp2)
          go_roundg k3
          case measure => have := HK1.out; have := HK2.out; have := HK3.out; omega
          case rel => exact ⟨(wrap64 (x7_3 + (wrap64 ((wrap64 ((rd l1 x8_3) * (wrap64 ((rd l2 x13_1) * (rd l2 x10_2))))) * (rd l2 x12_3))))), (wrap64 (x8_3 + 1)), (wrap64 (x12_3 + 1)), fr, fr, fr, H', ⟨by have := HK1.out; have := HK2.out; have := HK3.out; omega⟩, df⟩
         ·rw [if_neg c10] at H
          have c10b0 := decide_eq_false c10; clear c10; have H' := am H; clear H; go_wp2
          repeat (go_quiet (fail); try go_wp2)
          go_roundg k3
          case measure => have := HK1.out; have := HK2.out; have := HK3.out; omega
          case rel => exact ⟨(x7_3), (x8_3), (wrap64 (x10_2 + 1)), fr, fr, fr, H', ⟨by have := HK1.out; have := HK2.out; have := HK3.out; omega⟩, df⟩
      ·rw [if_neg c5] at H
       have c5b0 := decide_eq_false c5; clear c5; have H' := am H; clear H; go_wp2
       repeat (go_quiet (fail); try go_wp2)
       go_roundg k2
       case measure => have := HK1.out; have := HK2.out; omega
       case rel => exact ⟨(x7_2), (x8_2), (wrap64 (x13_1 + 1)), fr, fr, fr, H', ⟨by have := HK1.out; have := HK2.out; omega⟩, df⟩
   ·rw [if_neg c4] at H
    have c4b0 := decide_eq_false c4; clear c4; replace H := ifm H; obtain ⟨c15, H⟩ := H; have c15b0 := beq_eq_false_iff_ne.mpr c15; have c15b1 := bne_iff_ne.mpr c15; obtain rfl := Option.some.inj H; go_wp2
    repeat (go_quiet (fail); try go_wp2)
    go_ret
    exact ⟨fr, df⟩
theorem wrap_small {i : Int} (h0 : 0 ≤ i) (h : i ≤ 1000000000) : wrap64 (i + 1) = i + 1 := by unfold wrap64; omega
/-- the innermost sums of a form's value, as the program wraps them -/
def vs2 (f a : List Int) (two : Int) : Nat → Int → Int → Int → Int
 | 0, s, _, _ => s
 | d + 1, s, n, l => vs2 f a two d (wrap64 (s + (wrap64 ((wrap64 ((rd f n) * two)) * (rd a l))))) (n + 1) (l + 1)
def vs1 (f a : List Int) (i : Int) : Nat → Int → Int → Int → Int × Int
 | 0, s, n, _ => (s, n)
 | d + 1, s, n, j => vs1 f a i d (vs2 f a (wrap64 ((rd a i) * (rd a j))) (d + 1) s n j) (n + (d + 1 : Nat)) (j + 1)
def vs0 (f a : List Int) : Nat → Int → Int → Int → Int
 | 0, s, _, _ => s
 | d + 1, s, n, i => vs0 f a d (vs1 f a i (d + 1) s n i).1 (vs1 f a i (d + 1) s n i).2 (i + 1)
/-- the value of a form at a place, as the program reckons it -/
def valI (p : Int) (f a : List Int) : Int := Int.tmod (vs0 f a 4 0 0 0) p
theorem valueAt_l2 (p : Int) (f a : List Int) (i j two i' : Int) (hf : f.length = 20) (ha : a.length = 4) (r : Int) : ∀ (d : Nat) (s n l : Int), 0 ≤ n → n + d ≤ 20 → 0 ≤ l → l + d = 4 →
  Ev (fun k => impl_valueAt.l1 k p f a (vs2 f a two d s n l) (n + d) i (wrap64 (j + 1)) i') r → Ev (fun k => impl_valueAt.l2 k p f a s n i j two l i') r
 | 0, s, n, l, h1, h2, h3, h4, h => by
  refine Ev.step (f := fun k => impl_valueAt.l1 k p f a s n i (wrap64 (j + 1)) i') (fun k => ?_) (by simpa [vs2] using h)
  rw [impl_valueAt.l2, if_neg (by omega)]
 | d + 1, s, n, l, h1, h2, h3, h4, h => by
  refine Ev.step (f := fun k => impl_valueAt.l2 k p f a (wrap64 (s + (wrap64 ((wrap64 ((rd f n) * two)) * (rd a l))))) (n + 1) i j two (l + 1) i') (fun k => ?_) ?_
  ·rw [impl_valueAt.l2, if_pos (by omega), if_pos h1, if_pos (by omega), if_pos h3, if_pos (by omega), wrap_small h1 (by omega), wrap_small h3 (by omega)]
  ·refine valueAt_l2 p f a i j two i' hf ha r d _ _ _ (by omega) (by omega) (by omega) (by omega) ?_
   rw [show n + 1 + (d : Int) = n + ((d + 1 : Nat) : Int) from by omega]
   exact h
def tri : Nat → Nat
 | 0 => 0
 | d + 1 => d + 1 + tri d
theorem vs1_n (f a : List Int) (i : Int) : ∀ (d : Nat) (s n j : Int), (vs1 f a i d s n j).2 = n + tri d
 | 0, s, n, j => by simp [vs1, tri]
 | d + 1, s, n, j => by rw [vs1, vs1_n f a i d, tri]; omega
theorem valueAt_l1 (p : Int) (f a : List Int) (i i' : Int) (hf : f.length = 20) (ha : a.length = 4) (hi : 0 ≤ i ∧ i < 4) (r : Int) : ∀ (d : Nat) (s n j : Int), 0 ≤ n → n + tri d ≤ 20 → 0 ≤ j → j + d = 4 →
  Ev (fun k => impl_valueAt.l0 k p f a (vs1 f a i d s n j).1 (vs1 f a i d s n j).2 (wrap64 (i' + 1))) r → Ev (fun k => impl_valueAt.l1 k p f a s n i j i') r
 | 0, s, n, j, h1, h2, h3, h4, h => by
  refine Ev.step (f := fun k => impl_valueAt.l0 k p f a s n (wrap64 (i' + 1))) (fun k => ?_) (by simpa [vs1] using h)
  rw [impl_valueAt.l1, if_neg (by omega)]
 | d + 1, s, n, j, h1, h2, h3, h4, h => by
  rw [tri] at h2
  refine Ev.step (f := fun k => impl_valueAt.l2 k p f a s n i j (wrap64 ((rd a i) * (rd a j))) j i') (fun k => ?_) ?_
  ·rw [impl_valueAt.l1, if_pos (by omega), if_pos hi.1, if_pos (by omega), if_pos h3, if_pos (by omega)]
  ·refine valueAt_l2 p f a i j _ i' hf ha r (d + 1) _ _ _ (by omega) (by omega) (by omega) (by omega) ?_
   rw [wrap_small h3 (by omega)]
   exact valueAt_l1 p f a i i' hf ha hi r d _ _ _ (by omega) (by omega) (by omega) (by omega) h
theorem valueAt_ev (p : Int) (f a : List Int) (hp : p ≠ 0) (hf : f.length = 20) (ha : a.length = 4) : Ev (fun k => impl_valueAt.f k p f a) (valI p f a) := by
 have step : ∀ (i s n : Int) (d : Nat), i + (d + 1 : Nat) = 4 → 0 ≤ i → 0 ≤ n → n + tri (d + 1) ≤ 20 → Ev (fun k => impl_valueAt.l0 k p f a (vs1 f a i (d + 1) s n i).1 (vs1 f a i (d + 1) s n i).2 (i + 1)) (valI p f a) → Ev (fun k => impl_valueAt.l0 k p f a s n i) (valI p f a) := by
  intro i s n d h1 h2 h3 h4 h
  refine Ev.step (f := fun k => impl_valueAt.l1 k p f a s n i i i) (fun k => ?_) ?_
  ·rw [impl_valueAt.l0, if_pos (by omega)]
  ·refine valueAt_l1 p f a i i hf ha (by omega) _ (d + 1) _ _ _ h3 h4 h2 (by omega) ?_
   rw [wrap_small h2 (by omega)]
   exact h
 unfold impl_valueAt.f
 refine step 0 0 0 3 (by omega) (by omega) (by omega) (by simp [tri]) ?_
 refine step 1 _ _ 2 (by omega) (by omega) (by rw [vs1_n]; omega) (by rw [vs1_n]; simp [tri]) ?_
 refine step 2 _ _ 1 (by omega) (by omega) (by simp only [vs1_n]; omega) (by simp only [vs1_n]; simp [tri]) ?_
 refine step 3 _ _ 0 (by omega) (by omega) (by simp only [vs1_n]; omega) (by simp only [vs1_n]; simp [tri]) ?_
 refine Ev.step (f := fun _ => some (valI p f a)) (fun k => ?_) (Ev.now _)
 rw [impl_valueAt.l0, if_neg (by omega), if_neg hp]
 rfl/-! ### impl_SurfaceWhole: function 34 -/
mutual
def impl_SurfaceWhole.j0 : Nat → Int → List Int → List Int → Bool → Option (Bool)
 | 0, _, _, _, _ => none
 | k + 1, x0, x1, x2, x18 => if x18 = true then (some false) else ((impl_placesOn.f k x0 x2).bind fun t402 => (impl_SurfaceWhole.l0 k x0 x1 t402 (t402.length : Int) 0))
def impl_SurfaceWhole.l0 : Nat → Int → List Int → List (List Int) → Int → Int → Option (Bool)
 | 0, _, _, _, _, _ => none
 | k + 1, x0, x1, x21, x22, x23 => if x23 < x22 then (if 0 ≤ x23 then (if x23 < (x21.length : Int) then ((impl_valueAt.f k x0 x1 (rd_L1 x21 x23)).bind fun t406 => (if t406 = 0 then (impl_SurfaceWhole.l0 k x0 x1 x21 x22 (wrap64 (x23 + 1))) else (some false))) else (none)) else (none)) else (some true)
end
def impl_SurfaceWhole.f (k : Nat) (a0 : Int) (l1 : List Int) (l2 : List Int) : Option (Bool) := (impl_areNumbers.f a0 l1 20).bind fun t400 => (if t400 = true then ((impl_isSpaceLine.f k a0 l2).bind fun t401 => (impl_SurfaceWhole.j0 k a0 l1 l2 (!t401))) else (impl_SurfaceWhole.j0 k a0 l1 l2 true))
theorem impl_SurfaceWhole.mono_l : ∀ k, (∀ y0 y1 y2 y3, LeO (impl_SurfaceWhole.j0 k y0 y1 y2 y3) (impl_SurfaceWhole.j0 (k + 1) y0 y1 y2 y3)) ∧ (∀ y0 y1 y2 y3 y4, LeO (impl_SurfaceWhole.l0 k y0 y1 y2 y3 y4) (impl_SurfaceWhole.l0 (k + 1) y0 y1 y2 y3 y4))
 | 0 => ⟨fun _ _ _ _ r h => by simp [impl_SurfaceWhole.j0] at h, fun _ _ _ _ _ r h => by simp [impl_SurfaceWhole.l0] at h⟩
 | k + 1 => by
  obtain ⟨ih0, ih1⟩ := impl_SurfaceWhole.mono_l k
  refine ⟨?_, ?_⟩
  ·intro y0 y1 y2 y3
   unfold impl_SurfaceWhole.j0
   repeat' first | (with_reducible first | apply ih0 | apply ih1 | apply impl_isSpaceLine.mono | apply impl_placesOn.mono | apply impl_valueAt.mono | exact LeO.refl _ | exact LeO.none _ | refine LeO.ite ?_ ?_ | refine LeO.bind ?_ (fun _ => ?_)) | (first | apply ih0 | apply ih1 | apply impl_isSpaceLine.mono | apply impl_placesOn.mono | apply impl_valueAt.mono | exact LeO.none _ | refine LeO.ite ?_ ?_ | refine LeO.bind ?_ (fun _ => ?_))
  ·intro y0 y1 y2 y3 y4
   unfold impl_SurfaceWhole.l0
   repeat' first | (with_reducible first | apply ih0 | apply ih1 | apply impl_isSpaceLine.mono | apply impl_placesOn.mono | apply impl_valueAt.mono | exact LeO.refl _ | exact LeO.none _ | refine LeO.ite ?_ ?_ | refine LeO.bind ?_ (fun _ => ?_)) | (first | apply ih0 | apply ih1 | apply impl_isSpaceLine.mono | apply impl_placesOn.mono | apply impl_valueAt.mono | exact LeO.none _ | refine LeO.ite ?_ ?_ | refine LeO.bind ?_ (fun _ => ?_))
theorem impl_SurfaceWhole.mono : ∀ a0 a1 a2 k, LeO (impl_SurfaceWhole.f k a0 a1 a2) (impl_SurfaceWhole.f (k + 1) a0 a1 a2) := by
 intro a0 a1 a2 k
 obtain ⟨ih0, ih1⟩ := impl_SurfaceWhole.mono_l k
 unfold impl_SurfaceWhole.f
 repeat' first | (with_reducible first | apply ih0 | apply ih1 | apply impl_isSpaceLine.mono | apply impl_placesOn.mono | apply impl_valueAt.mono | exact LeO.refl _ | exact LeO.none _ | refine LeO.ite ?_ ?_ | refine LeO.bind ?_ (fun _ => ?_)) | (first | apply ih0 | apply ih1 | apply impl_isSpaceLine.mono | apply impl_placesOn.mono | apply impl_valueAt.mono | exact LeO.none _ | refine LeO.ite ?_ ?_ | refine LeO.bind ?_ (fun _ => ?_))
set_option maxHeartbeats 8000000 in
set_option maxRecDepth 100000 in
theorem impl_SurfaceWhole.calls (k : Nat) (a0 : Int) (A1 : Option Addr) (c1 : Nat) (l1 : List Int) (A2 : Option Addr) (c2 : Nat) (l2 : List Int) (r : Bool) (w : World) (hr1 : Kd.C (Kd.int .i64) w A1 l1.length l1) (hc1 : l1.length ≤ c1) (hr2 : Kd.C (Kd.int .i64) w A2 l2.length l2) (hc2 : l2.length ≤ c2) (h : impl_SurfaceWhole.f k a0 l1 l2 = some r) :
  Calls Try.prog 34 #[.int .i64 a0, .slice A1 l1.length c1, .slice A2 l2.length c2] w fun e w' => e = .returned (.bool r) ∧ Below w.heap.size w w' := by
 have HR1 := am hr1
 have HC1 := am hc1
 clear hr1 hc1
 have HR2 := am hr2
 have HC2 := am hc2
 clear hr2 hc2
 have HB := am (Below.refl w.heap.size w)
 have H : ((impl_areNumbers.f a0 l1 20).bind fun t400 => (if t400 = true then ((impl_isSpaceLine.f k a0 l2).bind fun t401 => (impl_SurfaceWhole.j0 k a0 l1 l2 (!t401))) else (impl_SurfaceWhole.j0 k a0 l1 l2 true))) = some r := h
 clear h
 have HC4 := am H
 clear H
 go_enter Try.func34, Try.ntmps34
 go_upto_region 1 with (fail)
 go_cut [18] (fun v18 wc => ∃ (kq : Nat) (x18_3 : Bool), v18 = .bool x18_3 ∧ Aside0 (impl_SurfaceWhole.j0 kq a0 l1 l2 x18_3 = some r) ∧ Aside0 (kq ≤ k) ∧ Aside0 (Below w.heap.size w wc))
 case first =>
  have H := HC4.out
  clear HC4; replace H := bs H; obtain ⟨t400, A5, H⟩ := H
  by_cases c6 : t400 = true
  ·subst c6
   rw [if_pos rfl] at H
   replace H := bs H; obtain ⟨t401, A7, H⟩ := H; have H' := am H; clear H
   go_wp2_with (first | ((with_reducible refine gate_callee (f := 75) rfl ?_); refine gl 11 Try.func75 #[.int .i64 a0, .slice A1 l1.length c1, .int .i64 20] ?_; (with_reducible refine (impl_areNumbers.calls a0 _ _ l1 20 true _ ?_ ?_ A5.out).mono ?_); exact Kd.C_below HR1.out (bw HB); exact HC1.out; rintro e w8 ⟨rfl, hb⟩; refine ⟨_, rfl, ?_⟩; replace HB := bq HB hb; (try clear hb)) | (go_at_call 45; (with_reducible refine (impl_isSpaceLine.calls k a0 _ _ l2 t401 _ ?_ ?_ A7.out).mono ?_); exact Kd.C_below HR2.out (bw HB); exact HC2.out; rintro e w9 ⟨rfl, hb⟩; replace HB := bq HB hb; (try clear hb)))
   go_meet
   case rel => exact ⟨_, (!t401), fr, H', ⟨by first | omega | exact Nat.le_refl _⟩, ⟨bw HB⟩⟩
  ·replace c6 := Bool.eq_false_iff.mpr c6
   subst c6
   rw [if_neg (show ¬ (false = true) by decide)] at H
   have H' := am H; clear H
   go_wp2_with (first | ((with_reducible refine gate_callee (f := 75) rfl ?_); refine gl 11 Try.func75 #[.int .i64 a0, .slice A1 l1.length c1, .int .i64 20] ?_; (with_reducible refine (impl_areNumbers.calls a0 _ _ l1 20 false _ ?_ ?_ A5.out).mono ?_); exact Kd.C_below HR1.out (bw HB); exact HC1.out; rintro e w10 ⟨rfl, hb⟩; refine ⟨_, rfl, ?_⟩; replace HB := bq HB hb; (try clear hb)))
   go_meet
   case rel => exact ⟨_, (true), fr, H', ⟨by first | omega | exact Nat.le_refl _⟩, ⟨bw HB⟩⟩
 case rest =>
  clear HC4; try clear c1; try clear c2; try clear p2; try clear c3; try clear c6; try clear c7
  obtain ⟨kq, x18_3, rfl, HA, HJ3, HB⟩ := hcut
  cases kq with
  | zero => exact absurd HA.out (by simp [impl_SurfaceWhole.j0])
  | succ kj3 =>
   have H := HA.out; clear HA
   simp only [impl_SurfaceWhole.j0] at H
   by_cases c11 : x18_3 = true
   ·subst c11
    rw [if_pos rfl] at H
    obtain rfl := Option.some.inj H; go_wp2; go_ret
    exact ⟨fq, bw HB⟩
   ·replace c11 := Bool.eq_false_iff.mpr c11
    subst c11
    rw [if_neg (show ¬ (false = true) by decide)] at H
    replace H := bs H; obtain ⟨t402, A12, H⟩ := H; have H' := am H; clear H
    go_wp2_with (first | ((with_reducible refine gate_callee (f := 76) rfl ?_); refine gl 21 Try.func76 #[.int .i64 a0, .slice A2 l2.length c2] ?_; (with_reducible refine (impl_placesOn.calls kj3 a0 _ _ l2 t402 _ ?_ ?_ A12.out).mono ?_); exact Kd.C_below HR2.out (bw HB); exact HC2.out; rintro e w13 ⟨v403, rfl, ho0, hb⟩; refine ⟨_, rfl, ?_⟩; have HO404 := am (Kd.N_lower (Kd.N_mono (ok' := fun k_ => True) ho0 (fun k_ hk_ => trivial)) (bz HB)); replace HB := bq HB hb; (try clear hb); (try clear ho0); obtain ⟨Ao14, co14, eo14⟩ := Kd.N_slice HO404.out; subst eo14))
    go_loopg [23] kj3 (fun kq v23 w' => ∃ (x23_2 : Int), v23 = .int .i64 x23_2 ∧ Aside0 (impl_SurfaceWhole.l0 kq a0 l1 t402 (t402.length : Int) x23_2 = some r) ∧ Aside0 (kq ≤ kj3) ∧ Aside0 (Kd.N (Kd.slice 3 (Kd.int .i64)) 22 w' w.heap.size (fun _ => True) (.slice Ao14 t402.length co14) t402) ∧ Aside0 (Below w.heap.size w w'))
    case atStart => exact ⟨(0), fr, H', ⟨Nat.le_refl _⟩, ⟨wN HO404⟩, ⟨bw HB⟩⟩
    case round =>
     clear H'; try clear c1; try clear c2; try clear p2; try clear c3; try clear c6; try clear c7; try clear c11; try clear p2
     obtain ⟨x23_2, rfl, HA, HK2, HO_21, HB⟩ := hrel
     cases gk with
     | zero => exact absurd HA.out (by simp [impl_SurfaceWhole.l0])
     | succ k2 =>
      have H := HA.out; clear HA
      simp only [impl_SurfaceWhole.l0] at H
      by_cases c15 : x23_2 < (t402.length : Int)
      ·rw [if_pos c15] at H
       have c15b0 := decide_eq_true c15; clear c15; replace H := ifn H; obtain ⟨c16, H⟩ := H; have c16b0 := decide_eq_true c16; clear c16; replace H := ifn H; obtain ⟨c17, H⟩ := H; have c17b0 := decide_eq_true c17; clear c17; replace H := bs H; obtain ⟨t406, A18, H⟩ := H
       by_cases c19 : t406 = 0
       ·rw [if_pos c19] at H
        have c19b0 := beq_iff_eq.mpr c19; have c19b1 := bne_eq_false_iff_eq.mpr c19; clear c19; have H' := am H; clear H
        have p405 : 0 ≤ (x23_2 : Int) := od
        have q405 : x23_2 < (t402.length : Int) := od
        obtain ⟨ad405, A405_0, c405_0, e405, hx405_0, hl405_0, hi405_0⟩ := at_L1 (Kd.N_reads' HO_21.out).2.2 x23_2 p405 q405
        cases e405
        obtain ⟨ce405, hce405, hMe405, hcc405⟩ := Kd.N_get HO_21.out [] x23_2 p405 (by first | exact q405 | exact od | (have e_ := (Kd.N_reads' HO_21.out).1; omega))
        obtain ⟨ua405_0, uc405_0, rfl, ul405_0, ge405_0⟩ := Kd.FK_slice_open hMe405
        have hv405_0 := hcc405 0 _ rfl
        rw [Nat.add_zero, show ((Kd.slice 3 (Kd.int .i64))).sz = 1 from rfl, Nat.mul_one] at hv405_0
        replace hv405_0 := Option.some.inj (hv405_0.symm.trans hx405_0)
        injection hv405_0 with hva_ hvn_ hvc_
        rw [hva_] at ge405_0
        rw [hvc_] at ul405_0
        have HL405_0 := am (show Kd.V (Kd.int .i64) 3 _ w.heap.size _ _ (rd_L1 t402 x23_2) from Kd.V_mk ul405_0 ge405_0)
        clear hva_ hvn_ hvc_ ge405_0 ul405_0; clear hcc405 hce405
        have HR405_0 := am hi405_0
        have HC405_0 := am hl405_0
        clear hi405_0 hl405_0; replace p405 := eq_true p405; replace q405 := eq_true q405
        go_wp2_with (first | ((with_reducible refine gate_callee (f := 77) rfl ?_); refine gl 30 Try.func77 #[.int .i64 a0, .slice A1 l1.length c1, .slice A405_0 (rd_L1 t402 x23_2).length c405_0] ?_; (with_reducible refine (impl_valueAt.calls k2 a0 _ _ l1 _ _ (rd_L1 t402 x23_2) t406 _ ?_ ?_ ?_ ?_ A18.out).mono ?_); exact Kd.C_below HR1.out (bw HB); exact HC1.out; exact wC HR405_0; exact HC405_0.out; rintro e w' ⟨rfl, ⟨nd, rfl⟩⟩; refine ⟨_, rfl, ?_⟩))
        go_roundg k2
        case measure => have := HJ3.out; have := HK2.out; omega
        case rel => exact ⟨(wrap64 (x23_2 + 1)), fr, H', ⟨by have := HJ3.out; have := HK2.out; omega⟩, ⟨wN HO_21⟩, ⟨bw HB⟩⟩
       ·rw [if_neg c19] at H
        have c19b0 := beq_eq_false_iff_ne.mpr c19; have c19b1 := bne_iff_ne.mpr c19; obtain rfl := Option.some.inj H
        have p405 : 0 ≤ (x23_2 : Int) := od
        have q405 : x23_2 < (t402.length : Int) := od
        obtain ⟨ad405, A405_0, c405_0, e405, hx405_0, hl405_0, hi405_0⟩ := at_L1 (Kd.N_reads' HO_21.out).2.2 x23_2 p405 q405
        cases e405
        obtain ⟨ce405, hce405, hMe405, hcc405⟩ := Kd.N_get HO_21.out [] x23_2 p405 (by first | exact q405 | exact od | (have e_ := (Kd.N_reads' HO_21.out).1; omega))
        obtain ⟨ua405_0, uc405_0, rfl, ul405_0, ge405_0⟩ := Kd.FK_slice_open hMe405
        have hv405_0 := hcc405 0 _ rfl
        rw [Nat.add_zero, show ((Kd.slice 3 (Kd.int .i64))).sz = 1 from rfl, Nat.mul_one] at hv405_0
        replace hv405_0 := Option.some.inj (hv405_0.symm.trans hx405_0)
        injection hv405_0 with hva_ hvn_ hvc_
        rw [hva_] at ge405_0
        rw [hvc_] at ul405_0
        have HL405_0 := am (show Kd.V (Kd.int .i64) 3 _ w.heap.size _ _ (rd_L1 t402 x23_2) from Kd.V_mk ul405_0 ge405_0)
        clear hva_ hvn_ hvc_ ge405_0 ul405_0; clear hcc405 hce405
        have HR405_0 := am hi405_0
        have HC405_0 := am hl405_0
        clear hi405_0 hl405_0; replace p405 := eq_true p405; replace q405 := eq_true q405
        go_wp2_with (first | ((with_reducible refine gate_callee (f := 77) rfl ?_); refine gl 30 Try.func77 #[.int .i64 a0, .slice A1 l1.length c1, .slice A405_0 (rd_L1 t402 x23_2).length c405_0] ?_; (with_reducible refine (impl_valueAt.calls k2 a0 _ _ l1 _ _ (rd_L1 t402 x23_2) t406 _ ?_ ?_ ?_ ?_ A18.out).mono ?_); exact Kd.C_below HR1.out (bw HB); exact HC1.out; exact wC HR405_0; exact HC405_0.out; rintro e w' ⟨rfl, ⟨nd, rfl⟩⟩; refine ⟨_, rfl, ?_⟩))
        go_ret
        exact ⟨fq, bw HB⟩
      ·rw [if_neg c15] at H
       have c15b0 := decide_eq_false c15; clear c15; obtain rfl := Option.some.inj H; go_wp2; go_ret
       exact ⟨fq, bw HB⟩
end Go.Proofs.Ytmenehnfgenlpaa.PA

-- Written by xprint.py, a program of this claim's own (over the kit's print.py)
import Derived.Test.YtmgbpmihbljngaaPAx8
namespace Go.Proofs.Ytmgbpmihbljngaa.PA
set_option maxHeartbeats 8000000
set_option maxRecDepth 100000
open Go.RowKit Go.Proofs.YtmgbpmihbljngaaW.PrintWords Go.Proofs.YtmgbpmihbljngaaW.PrintLast Go.Proofs.YtmgbpmihbljngaaW.PrintMore
attribute [local go_sem] j9 j8 Qf Qg js jr j6 j7
set_option linter.unusedVariables false
set_option linter.unusedSimpArgs false
mutual
def qt.l0 : Nat → Int → List Int → List Int → Int → Int → Int → Option (Int)
 | 0, _, _, _, _, _, _ => none
 | k + 1, x0, x1, x2, x7, x8, x13 => if x13 < 4 then (qt.l1 k x0 x1 x2 x7 x8 x13 x13 x13) else (if x0 = 0 then (none) else (some (Int.tmod x7 x0)))
def qt.l1 : Nat → Int → List Int → List Int → Int → Int → Int → Int → Int → Option (Int)
 | 0, _, _, _, _, _, _, _, _ => none
 | k + 1, x0, x1, x2, x7, x8, x9, x10, x13 => if x10 < 4 then (if 0 ≤ x9 then (if x9 < (x2.length : Int) then (if 0 ≤ x10 then (if x10 < (x2.length : Int) then (qt.l2 k x0 x1 x2 x7 x8 x9 x10 (wrap64 ((rd x2 x9) * (rd x2 x10))) x10 x13) else (none)) else (none)) else (none)) else (none)) else (qt.l0 k x0 x1 x2 x7 x8 (wrap64 (x13 + 1)))
def qt.l2 : Nat → Int → List Int → List Int → Int → Int → Int → Int → Int → Int → Int → Option (Int)
 | 0, _, _, _, _, _, _, _, _, _, _ => none
 | k + 1, x0, x1, x2, x7, x8, x9, x10, x11, x12, x13 => if x12 < 4 then (if 0 ≤ x8 then (if x8 < (x1.length : Int) then (if 0 ≤ x12 then (if x12 < (x2.length : Int) then (qt.l2 k x0 x1 x2 (wrap64 (x7 + (wrap64 ((wrap64 ((rd x1 x8) * x11)) * (rd x2 x12))))) (wrap64 (x8 + 1)) x9 x10 x11 (wrap64 (x12 + 1)) x13) else (none)) else (none)) else (none)) else (none)) else (qt.l1 k x0 x1 x2 x7 x8 x9 (wrap64 (x10 + 1)) x13)
end
def qt.f (k : Nat) (a0 : Int) (l1 : List Int) (l2 : List Int) : Option (Int) := qt.l0 k a0 l1 l2 0 0 0
theorem qt.mono_l : ∀ k, (∀ y0 y1 y2 y3 y4 y5, LeO (qt.l0 k y0 y1 y2 y3 y4 y5) (qt.l0 (k + 1) y0 y1 y2 y3 y4 y5)) ∧ (∀ y0 y1 y2 y3 y4 y5 y6 y7, LeO (qt.l1 k y0 y1 y2 y3 y4 y5 y6 y7) (qt.l1 (k + 1) y0 y1 y2 y3 y4 y5 y6 y7)) ∧ (∀ y0 y1 y2 y3 y4 y5 y6 y7 y8 y9, LeO (qt.l2 k y0 y1 y2 y3 y4 y5 y6 y7 y8 y9) (qt.l2 (k + 1) y0 y1 y2 y3 y4 y5 y6 y7 y8 y9))
 | 0 => ⟨fun _ _ _ _ _ _ r h => by simp [qt.l0] at h, fun _ _ _ _ _ _ _ _ r h => by simp [qt.l1] at h, fun _ _ _ _ _ _ _ _ _ _ r h => by simp [qt.l2] at h⟩
 | k + 1 => by
  obtain ⟨ih0, ih1, ih2⟩ := qt.mono_l k
  refine ⟨?_, ?_, ?_⟩
  ·intro y0 y1 y2 y3 y4 y5
   unfold qt.l0
   repeat' first | (with_reducible first | apply ih0 | apply ih1 | apply ih2 | exact LeO.refl _ | exact LeO.none _ | refine LeO.ite ?_ ?_ | refine LeO.bind ?_ (fun _ => ?_)) | (first | apply ih0 | apply ih1 | apply ih2 | exact LeO.none _ | refine LeO.ite ?_ ?_ | refine LeO.bind ?_ (fun _ => ?_))
  ·intro y0 y1 y2 y3 y4 y5 y6 y7
   unfold qt.l1
   repeat' first | (with_reducible first | apply ih0 | apply ih1 | apply ih2 | exact LeO.refl _ | exact LeO.none _ | refine LeO.ite ?_ ?_ | refine LeO.bind ?_ (fun _ => ?_)) | (first | apply ih0 | apply ih1 | apply ih2 | exact LeO.none _ | refine LeO.ite ?_ ?_ | refine LeO.bind ?_ (fun _ => ?_))
  ·intro y0 y1 y2 y3 y4 y5 y6 y7 y8 y9
   unfold qt.l2
   repeat' first | (with_reducible first | apply ih0 | apply ih1 | apply ih2 | exact LeO.refl _ | exact LeO.none _ | refine LeO.ite ?_ ?_ | refine LeO.bind ?_ (fun _ => ?_)) | (first | apply ih0 | apply ih1 | apply ih2 | exact LeO.none _ | refine LeO.ite ?_ ?_ | refine LeO.bind ?_ (fun _ => ?_))
theorem qt.mono : ∀ a0 a1 a2 k, LeO (qt.f k a0 a1 a2) (qt.f (k + 1) a0 a1 a2) := by
 intro a0 a1 a2 k
 obtain ⟨ih0, ih1, ih2⟩ := qt.mono_l k
 unfold qt.f
 repeat' first | (with_reducible first | apply ih0 | apply ih1 | apply ih2 | exact LeO.refl _ | exact LeO.none _ | refine LeO.ite ?_ ?_ | refine LeO.bind ?_ (fun _ => ?_)) | (first | apply ih0 | apply ih1 | apply ih2 | exact LeO.none _ | refine LeO.ite ?_ ?_ | refine LeO.bind ?_ (fun _ => ?_))
theorem qt.calls (k : Nat) (a0 : Int) (A1 : Option Addr) (c1 : Nat) (l1 : List Int) (A2 : Option Addr) (c2 : Nat) (l2 : List Int) (r : Int) (w : World) (hr1 : Kd.C (Kd.int .i64) w A1 l1.length l1) (hc1 : l1.length ≤ c1) (hr2 : Kd.C (Kd.int .i64) w A2 l2.length l2) (hc2 : l2.length ≤ c2) (h : qt.f k a0 l1 l2 = some r) :
  Calls Try.prog 55 #[.int .i64 a0, .slice A1 l1.length c1, .slice A2 l2.length c2] w fun e w' => e = .returned (.int .i64 r) ∧ Drawn0 w w' := by
 have HR1 := am hr1
 have HC1 := am hc1
 clear hr1 hc1
 have HR2 := am hr2
 have HC2 := am hc2
 clear hr2 hc2
 have H : (qt.l0 k a0 l1 l2 0 0 0) = some r := h
 clear h; have H' := am H; clear H
 go_enter Try.func55, Try.ntmps55
 go_wp2
 repeat (go_quiet (fail); try go_wp2)
 go_loopg [7, 8, 13] k (fun kq v7 v8 v13 w' => ∃ (x7_1 : Int) (x8_1 : Int) (x13_1 : Int), v7 = .int .i64 x7_1 ∧ v8 = .int .i64 x8_1 ∧ v13 = .int .i64 x13_1 ∧ qb (qt.l0 kq a0 l1 l2 x7_1 x8_1 x13_1 = some r) ∧ qb (kq ≤ k) ∧ Drawn0 w w')
 case atStart => exact ⟨(0), (0), (0), fr, fr, fr, H', ⟨Nat.le_refl _⟩, df⟩
 case round =>
  clear H'; try clear c1; try clear c2; try clear p2
  obtain ⟨x7_1, x8_1, x13_1, rfl, rfl, rfl, HA, HK1, ⟨m1, rfl⟩⟩ := hrel
  cases gk with
  | zero => exact absurd HA.out (by simp [qt.l0])
  | succ k1 =>
   have H := HA.out; clear HA
   simp only [qt.l0] at H
   by_cases c4 : x13_1 < 4
   ·rw [if_pos c4] at H
    have c4b0 := decide_eq_true c4; clear c4; have H' := am H; clear H; go_wp2
    repeat (go_quiet (fail); try go_wp2)
    go_loopg [7, 8, 10] k1 (fun kq v7 v8 v10 w' => ∃ (x7_2 : Int) (x8_2 : Int) (x10_2 : Int), v7 = .int .i64 x7_2 ∧ v8 = .int .i64 x8_2 ∧ v10 = .int .i64 x10_2 ∧ qb (qt.l1 kq a0 l1 l2 x7_2 x8_2 x13_1 x10_2 x13_1 = some r) ∧ qb (kq ≤ k1) ∧ Drawn0 w w')
    case atStart => exact ⟨(x7_1), (x8_1), (x13_1), fr, fr, fr, H', ⟨Nat.le_refl _⟩, df⟩
    case round =>
     clear H'; try clear c1; try clear c2; try clear p2; try clear c4; try clear c4b0; try clear p2
     obtain ⟨x7_2, x8_2, x10_2, rfl, rfl, rfl, HA, HK2, ⟨m2, rfl⟩⟩ := hrel
     cases gk with
     | zero => exact absurd HA.out (by simp [qt.l1])
     | succ k2 =>
      have H := HA.out; clear HA
      simp only [qt.l1] at H
      by_cases c5 : x10_2 < 4
      ·rw [if_pos c5] at H
       have c5b0 := decide_eq_true c5; clear c5; replace H := ifn H; obtain ⟨c6, H⟩ := H; have c6b0 := decide_eq_true c6; clear c6; replace H := ifn H; obtain ⟨c7, H⟩ := H; have c7b0 := decide_eq_true c7; clear c7; replace H := ifn H; obtain ⟨c8, H⟩ := H
       have c8b0 := decide_eq_true c8; clear c8; replace H := ifn H; obtain ⟨c9, H⟩ := H; have c9b0 := decide_eq_true c9; clear c9; have H' := am H; clear H
       have p213 : 0 ≤ (x13_1 : Int) := od
       have q213 : x13_1 < (l2.length : Int) := od
       obtain ⟨ad213, e213, hx213_0⟩ := Kd.at_int HR2.out x13_1 p213 q213
       cases e213; replace p213 := eq_true p213; replace q213 := eq_true q213
       have p214 : 0 ≤ (x10_2 : Int) := od
       have q214 : x10_2 < (l2.length : Int) := od
       obtain ⟨ad214, e214, hx214_0⟩ := Kd.at_int HR2.out x10_2 p214 q214
       obtain rfl : ad213 = ad214 := (by injection e214)
       replace p214 := eq_true p214; replace q214 := eq_true q214; go_wp2
       repeat (go_quiet (fail); try go_wp2)
       go_loopg [7, 8, 12] k2 (fun kq v7 v8 v12 w' => ∃ (x7_3 : Int) (x8_3 : Int) (x12_3 : Int), v7 = .int .i64 x7_3 ∧ v8 = .int .i64 x8_3 ∧ v12 = .int .i64 x12_3 ∧ qb (qt.l2 kq a0 l1 l2 x7_3 x8_3 x13_1 x10_2 (wrap64 ((rd l2 x13_1) * (rd l2 x10_2))) x12_3 x13_1 = some r) ∧ qb (kq ≤ k2) ∧ Drawn0 w w')
       case atStart => exact ⟨(x7_2), (x8_2), (x10_2), fr, fr, fr, H', ⟨Nat.le_refl _⟩, df⟩
       case round =>
        clear H'; try clear c1; try clear c2; try clear p2; try clear q2; try clear hx2; try clear c4; try clear c4b0; try clear c5; try clear c5b0; try clear c6; try clear c6b0; try clear p6; try clear c7; try clear c7b0; try clear c8; try clear c8b0
        try clear c9; try clear c9b0; try clear hx213_0; try clear hx214_0; try clear p2; try clear p213; try clear p214; try clear q213; try clear q214
        obtain ⟨x7_3, x8_3, x12_3, rfl, rfl, rfl, HA, HK3, ⟨m3, rfl⟩⟩ := hrel
        cases gk with
        | zero => exact absurd HA.out (by simp [qt.l2])
        | succ k3 =>
         have H := HA.out; clear HA
         simp only [qt.l2] at H
         by_cases c10 : x12_3 < 4
         ·rw [if_pos c10] at H
          have c10b0 := decide_eq_true c10; clear c10; replace H := ifn H; obtain ⟨c11, H⟩ := H; have c11b0 := decide_eq_true c11; clear c11; replace H := ifn H; obtain ⟨c12, H⟩ := H; have c12b0 := decide_eq_true c12; clear c12; replace H := ifn H; obtain ⟨c13, H⟩ := H
          have c13b0 := decide_eq_true c13; clear c13; replace H := ifn H; obtain ⟨c14, H⟩ := H; have c14b0 := decide_eq_true c14; clear c14; have H' := am H; clear H
          have p215 : 0 ≤ (x8_3 : Int) := od
          have q215 : x8_3 < (l1.length : Int) := od
          obtain ⟨ad215, e215, hx215_0⟩ := Kd.at_int HR1.out x8_3 p215 q215
          cases e215; replace p215 := eq_true p215; replace q215 := eq_true q215
          have p216 : 0 ≤ (x12_3 : Int) := od
          have q216 : x12_3 < (l2.length : Int) := od
          obtain ⟨ad216, e216, hx216_0⟩ := Kd.at_int HR2.out x12_3 p216 q216
          obtain rfl : ad213 = ad216 := (by injection e216)
          replace p216 := eq_true p216; replace q216 := eq_true q216; go_wp2
          repeat (go_quiet (fail); try go_wp2)
          go_roundg k3
          case measure => have := HK1.out; have := HK2.out; have := HK3.out; omega
          case rel => exact ⟨(wrap64 (x7_3 + (wrap64 ((wrap64 ((rd l1 x8_3) * (wrap64 ((rd l2 x13_1) * (rd l2 x10_2))))) * (rd l2 x12_3))))), (wrap64 (x8_3 + 1)), (wrap64 (x12_3 + 1)), fr, fr, fr, H', ⟨by have := HK1.out; have := HK2.out; have := HK3.out; omega⟩, df⟩
         ·rw [if_neg c10] at H
          have c10b0 := decide_eq_false c10; clear c10; have H' := am H; clear H; go_wp2
          repeat (go_quiet (fail); try go_wp2)
          go_roundg k3
          case measure => have := HK1.out; have := HK2.out; have := HK3.out; omega
          case rel => exact ⟨(x7_3), (x8_3), (wrap64 (x10_2 + 1)), fr, fr, fr, H', ⟨by have := HK1.out; have := HK2.out; have := HK3.out; omega⟩, df⟩
      ·rw [if_neg c5] at H
       have c5b0 := decide_eq_false c5; clear c5; have H' := am H; clear H; go_wp2
       repeat (go_quiet (fail); try go_wp2)
       go_roundg k2
       case measure => have := HK1.out; have := HK2.out; omega
       case rel => exact ⟨(x7_2), (x8_2), (wrap64 (x13_1 + 1)), fr, fr, fr, H', ⟨by have := HK1.out; have := HK2.out; omega⟩, df⟩
   ·rw [if_neg c4] at H
    have c4b0 := decide_eq_false c4; clear c4; replace H := ifm H; obtain ⟨c15, H⟩ := H; have c15b0 := beq_eq_false_iff_ne.mpr c15; have c15b1 := bne_iff_ne.mpr c15; obtain rfl := Option.some.inj H; go_wp2
    repeat (go_quiet (fail); try go_wp2)
    go_ret
    exact ⟨fr, df⟩
theorem qay {i : Int} (h0 : 0 ≤ i) (h : i ≤ 1000000000) : wrap64 (i + 1) = i + 1 := by unfold wrap64; omega
def vs2 (f a : List Int) (two : Int) : Nat → Int → Int → Int → Int
 | 0, s, _, _ => s
 | d + 1, s, n, l => vs2 f a two d (wrap64 (s + (wrap64 ((wrap64 ((rd f n) * two)) * (rd a l))))) (n + 1) (l + 1)
def vs1 (f a : List Int) (i : Int) : Nat → Int → Int → Int → Int × Int
 | 0, s, n, _ => (s, n)
 | d + 1, s, n, j => vs1 f a i d (vs2 f a (wrap64 ((rd a i) * (rd a j))) (d + 1) s n j) (n + (d + 1 : Nat)) (j + 1)
def vs0 (f a : List Int) : Nat → Int → Int → Int → Int
 | 0, s, _, _ => s
 | d + 1, s, n, i => vs0 f a d (vs1 f a i (d + 1) s n i).1 (vs1 f a i (d + 1) s n i).2 (i + 1)
def valI (p : Int) (f a : List Int) : Int := Int.tmod (vs0 f a 4 0 0 0) p
theorem qfs (p : Int) (f a : List Int) (i j two i' : Int) (hf : f.length = 20) (ha : a.length = 4) (r : Int) : ∀ (d : Nat) (s n l : Int), 0 ≤ n → n + d ≤ 20 → 0 ≤ l → l + d = 4 →
  Ev (fun k => qt.l1 k p f a (vs2 f a two d s n l) (n + d) i (wrap64 (j + 1)) i') r → Ev (fun k => qt.l2 k p f a s n i j two l i') r
 | 0, s, n, l, h1, h2, h3, h4, h => by
  refine Ev.step (f := fun k => qt.l1 k p f a s n i (wrap64 (j + 1)) i') (fun k => ?_) (by simpa [vs2] using h)
  rw [qt.l2, if_neg (by omega)]
 | d + 1, s, n, l, h1, h2, h3, h4, h => by
  refine Ev.step (f := fun k => qt.l2 k p f a (wrap64 (s + (wrap64 ((wrap64 ((rd f n) * two)) * (rd a l))))) (n + 1) i j two (l + 1) i') (fun k => ?_) ?_
  ·rw [qt.l2, if_pos (by omega), if_pos h1, if_pos (by omega), if_pos h3, if_pos (by omega), qay h1 (by omega), qay h3 (by omega)]
  ·refine qfs p f a i j two i' hf ha r d _ _ _ (by omega) (by omega) (by omega) (by omega) ?_
   rw [show n + 1 + (d : Int) = n + ((d + 1 : Nat) : Int) from by omega]
   exact h
def tri : Nat → Nat
 | 0 => 0
 | d + 1 => d + 1 + tri d
theorem qds (f a : List Int) (i : Int) : ∀ (d : Nat) (s n j : Int), (vs1 f a i d s n j).2 = n + tri d
 | 0, s, n, j => by simp [vs1, tri]
 | d + 1, s, n, j => by rw [vs1, qds f a i d, tri]; omega
theorem qfa (p : Int) (f a : List Int) (i i' : Int) (hf : f.length = 20) (ha : a.length = 4) (hi : 0 ≤ i ∧ i < 4) (r : Int) : ∀ (d : Nat) (s n j : Int), 0 ≤ n → n + tri d ≤ 20 → 0 ≤ j → j + d = 4 →
  Ev (fun k => qt.l0 k p f a (vs1 f a i d s n j).1 (vs1 f a i d s n j).2 (wrap64 (i' + 1))) r → Ev (fun k => qt.l1 k p f a s n i j i') r
 | 0, s, n, j, h1, h2, h3, h4, h => by
  refine Ev.step (f := fun k => qt.l0 k p f a s n (wrap64 (i' + 1))) (fun k => ?_) (by simpa [vs1] using h)
  rw [qt.l1, if_neg (by omega)]
 | d + 1, s, n, j, h1, h2, h3, h4, h => by
  rw [tri] at h2
  refine Ev.step (f := fun k => qt.l2 k p f a s n i j (wrap64 ((rd a i) * (rd a j))) j i') (fun k => ?_) ?_
  ·rw [qt.l1, if_pos (by omega), if_pos hi.1, if_pos (by omega), if_pos h3, if_pos (by omega)]
  ·refine qfs p f a i j _ i' hf ha r (d + 1) _ _ _ (by omega) (by omega) (by omega) (by omega) ?_
   rw [qay h3 (by omega)]
   exact qfa p f a i i' hf ha hi r d _ _ _ (by omega) (by omega) (by omega) (by omega) h
theorem qj2 (p : Int) (f a : List Int) (hp : p ≠ 0) (hf : f.length = 20) (ha : a.length = 4) : Ev (fun k => qt.f k p f a) (valI p f a) := by
 have step : ∀ (i s n : Int) (d : Nat), i + (d + 1 : Nat) = 4 → 0 ≤ i → 0 ≤ n → n + tri (d + 1) ≤ 20 → Ev (fun k => qt.l0 k p f a (vs1 f a i (d + 1) s n i).1 (vs1 f a i (d + 1) s n i).2 (i + 1)) (valI p f a) → Ev (fun k => qt.l0 k p f a s n i) (valI p f a) := by
  intro i s n d h1 h2 h3 h4 h
  refine Ev.step (f := fun k => qt.l1 k p f a s n i i i) (fun k => ?_) ?_
  ·rw [qt.l0, if_pos (by omega)]
  ·refine qfa p f a i i hf ha (by omega) _ (d + 1) _ _ _ h3 h4 h2 (by omega) ?_
   rw [qay h2 (by omega)]
   exact h
 unfold qt.f
 refine step 0 0 0 3 (by omega) (by omega) (by omega) (by simp [tri]) ?_
 refine step 1 _ _ 2 (by omega) (by omega) (by rw [qds]; omega) (by rw [qds]; simp [tri]) ?_
 refine step 2 _ _ 1 (by omega) (by omega) (by simp only [qds]; omega) (by simp only [qds]; simp [tri]) ?_
 refine step 3 _ _ 0 (by omega) (by omega) (by simp only [qds]; omega) (by simp only [qds]; simp [tri]) ?_
 refine Ev.step (f := fun _ => some (valI p f a)) (fun k => ?_) (Ev.now _)
 rw [qt.l0, if_neg (by omega), if_neg hp]
 rfl
def Qi.f (a0 : Int) (l1 : List Int) : Option (Bool) := (z1.f a0 l1 4).bind fun t217 => (if t217 = true then ((Qv.f l1).bind fun t218 => (some t218)) else (some false))
theorem Qi.calls (a0 : Int) (A1 : Option Addr) (c1 : Nat) (l1 : List Int) (r : Bool) (w : World) (hr1 : Kd.C (Kd.int .i64) w A1 l1.length l1) (hc1 : l1.length ≤ c1) (h : Qi.f a0 l1 = some r) :
  Calls Try.prog 83 #[.int .i64 a0, .slice A1 l1.length c1] w fun e w' => e = .returned (.bool r) ∧ Below w.heap.size w w' := by
 have HR1 := am hr1
 have HC1 := am hc1
 clear hr1 hc1
 have HB := am (Below.refl w.heap.size w)
 have H : ((z1.f a0 l1 4).bind fun t217 => (if t217 = true then ((Qv.f l1).bind fun t218 => (some t218)) else (some false))) = some r := h
 clear h; replace H := bs H; obtain ⟨t217, A3, H⟩ := H
 by_cases c4 : t217 = true
 ·subst c4
  rw [if_pos rfl] at H
  replace H := bs H; obtain ⟨t218, A5, H⟩ := H; obtain rfl := Option.some.inj H
  go_enter Try.func83, Try.ntmps83
  go_wp2_with (first | ((with_reducible refine qf (f := 52) rfl ?_); refine gl 7 Try.func52 #[.int .i64 a0, .slice A1 l1.length c1, .int .i64 4] ?_; (with_reducible refine (z1.calls a0 _ _ l1 4 true _ ?_ ?_ A3.out).mono ?_); exact wC HR1; exact HC1.out; rintro e w6 ⟨rfl, hb⟩; refine ⟨_, rfl, ?_⟩; replace HB := bq HB hb; (try clear hb)) | (go_at_call 119; (with_reducible refine (Qv.calls _ _ l1 t218 _ ?_ ?_ A5.out).mono ?_); exact Kd.C_below HR1.out (bw HB); exact HC1.out; rintro e w' ⟨rfl, ⟨nd, rfl⟩⟩))
  go_ret
  exact ⟨fq, bw HB⟩
 ·replace c4 := Bool.eq_false_iff.mpr c4
  subst c4
  rw [if_neg (show ¬ (false = true) by decide)] at H
  obtain rfl := Option.some.inj H
  go_enter Try.func83, Try.ntmps83
  go_wp2_with (first | ((with_reducible refine qf (f := 52) rfl ?_); refine gl 7 Try.func52 #[.int .i64 a0, .slice A1 l1.length c1, .int .i64 4] ?_; (with_reducible refine (z1.calls a0 _ _ l1 4 false _ ?_ ?_ A3.out).mono ?_); exact wC HR1; exact HC1.out; rintro e w7 ⟨rfl, hb⟩; refine ⟨_, rfl, ?_⟩; replace HB := bq HB hb; (try clear hb)))
  go_ret
  exact ⟨fq, bw HB⟩
def jp.f (k : Nat) (a0 : Int) (l1 : List (S43)) (l2 : List Int) : Option (Bool) := (z8.f k a0 l1).bind fun t219 => (if t219 = true then ((Qi.f a0 l2).bind fun t220 => (if t220 = true then ((zv.f k a0 l1).bind fun t221 => ((q6.f k a0 t221).bind fun t224 => ((qt.f k a0 t224 l2).bind fun t227 => (some (t227 == 0))))) else (some false))) else (some false))
theorem jp.mono : ∀ a0 a1 a2 k, LeO (jp.f k a0 a1 a2) (jp.f (k + 1) a0 a1 a2) := by
 intro a0 a1 a2 k
 unfold jp.f
 repeat' first | (with_reducible first | apply z8.mono | apply zv.mono | apply q6.mono | apply qt.mono | exact LeO.refl _ | exact LeO.none _ | refine LeO.ite ?_ ?_ | refine LeO.bind ?_ (fun _ => ?_)) | (first | apply z8.mono | apply zv.mono | apply q6.mono | apply qt.mono | exact LeO.none _ | refine LeO.ite ?_ ?_ | refine LeO.bind ?_ (fun _ => ?_))
theorem jp.calls (k : Nat) (a0 : Int) (A1 : Option Addr) (c1 : Nat) (l1 : List (S43)) (A2 : Option Addr) (c2 : Nat) (l2 : List Int) (r : Bool) (w : World) (hr1 : Kd.C k43 w A1 l1.length l1) (hc1 : l1.length ≤ c1) (hr2 : Kd.C (Kd.int .i64) w A2 l2.length l2) (hc2 : l2.length ≤ c2) (h : jp.f k a0 l1 l2 = some r) :
  Calls Try.prog 35 #[.int .i64 a0, .slice A1 l1.length c1, .slice A2 l2.length c2] w fun e w' => e = .returned (.bool r) ∧ Below w.heap.size w w' := by
 have HR1 := am hr1
 have HC1 := am hc1
 clear hr1 hc1
 have HR2 := am hr2
 have HC2 := am hc2
 clear hr2 hc2
 have HB := am (Below.refl w.heap.size w)
 have H : ((z8.f k a0 l1).bind fun t219 => (if t219 = true then ((Qi.f a0 l2).bind fun t220 => (if t220 = true then ((zv.f k a0 l1).bind fun t221 => ((q6.f k a0 t221).bind fun t224 => ((qt.f k a0 t224 l2).bind fun t227 => (some (t227 == 0))))) else (some false))) else (some false))) = some r := h
 clear h; replace H := bs H; obtain ⟨t219, A4, H⟩ := H
 by_cases c5 : t219 = true
 ·subst c5
  rw [if_pos rfl] at H
  replace H := bs H; obtain ⟨t220, A6, H⟩ := H
  by_cases c7 : t220 = true
  ·subst c7
   rw [if_pos rfl] at H
   replace H := bs H; obtain ⟨t221, A8, H⟩ := H; replace H := bs H; obtain ⟨t224, A9, H⟩ := H; replace H := bs H; obtain ⟨t227, A10, H⟩ := H; obtain rfl := Option.some.inj H
   go_enter Try.func35, Try.ntmps35
   go_wp2_with (first | ((with_reducible refine qf (f := 65) rfl ?_); refine gl 9 Try.func65 #[.int .i64 a0, .slice A1 l1.length c1] ?_; (with_reducible refine (z8.calls k a0 _ _ l1 true _ ?_ ?_ A4.out).mono ?_); exact wC HR1; exact HC1.out; rintro e w11 ⟨rfl, hb⟩; refine ⟨_, rfl, ?_⟩; replace HB := bq HB hb; (try clear hb)) | (go_at_call 83; (with_reducible refine (Qi.calls a0 _ _ l2 true _ ?_ ?_ A6.out).mono ?_); exact Kd.C_below HR2.out (bw HB); exact HC2.out; rintro e w12 ⟨rfl, hb⟩; replace HB := bq HB hb; (try clear hb)) | (go_at_call 67; (with_reducible refine (zv.calls k a0 _ _ l1 t221 _ ?_ ?_ A8.out).mono ?_); exact Kd.C_below HR1.out (bw HB); exact HC1.out; rintro e w13 ⟨v222, rfl, ho0, hb⟩; have HO223 := am (Kd.S_lower ho0 (bz HB)); replace HB := bq HB hb; (try clear hb); (try clear ho0); obtain ⟨Ao14, co14, eo14⟩ := Kd.S_slice HO223.out; subst eo14) | (go_at_call 66; (with_reducible refine (q6.calls k a0 _ _ t221 t224 _ ?_ ?_ A9.out).mono ?_); exact Kd.C_below (Kd.S_reads' HO223.out).2.2 gs; exact (Kd.S_reads' HO223.out).2.1; rintro e w15 ⟨v225, rfl, ho0, hb⟩; replace HO223 := eS HO223 (Kd.R_base ho0) hb; have HO226 := am (Kd.R_lower ho0 (bz HB)); replace HB := bq HB hb; (try clear hb); (try clear ho0); obtain ⟨Ao16, co16, eo16⟩ := Kd.R_slice HO226.out; subst eo16) | (go_at_call 55; (with_reducible refine (qt.calls k a0 _ _ t224 _ _ l2 t227 _ ?_ ?_ ?_ ?_ A10.out).mono ?_); exact Kd.C_below (Kd.R_reads' HO226.out).2.2 gs; exact (Kd.R_reads' HO226.out).2.1; exact Kd.C_below HR2.out (bw HB); exact HC2.out; rintro e w' ⟨rfl, ⟨nd, rfl⟩⟩))
   go_ret
   exact ⟨fq, bw HB⟩
  ·replace c7 := Bool.eq_false_iff.mpr c7
   subst c7
   rw [if_neg (show ¬ (false = true) by decide)] at H
   obtain rfl := Option.some.inj H
   go_enter Try.func35, Try.ntmps35
   go_wp2_with (first | ((with_reducible refine qf (f := 65) rfl ?_); refine gl 9 Try.func65 #[.int .i64 a0, .slice A1 l1.length c1] ?_; (with_reducible refine (z8.calls k a0 _ _ l1 true _ ?_ ?_ A4.out).mono ?_); exact wC HR1; exact HC1.out; rintro e w17 ⟨rfl, hb⟩; refine ⟨_, rfl, ?_⟩; replace HB := bq HB hb; (try clear hb)) | (go_at_call 83; (with_reducible refine (Qi.calls a0 _ _ l2 false _ ?_ ?_ A6.out).mono ?_); exact Kd.C_below HR2.out (bw HB); exact HC2.out; rintro e w18 ⟨rfl, hb⟩; replace HB := bq HB hb; (try clear hb)))
   go_ret
   exact ⟨fq, bw HB⟩
 ·replace c5 := Bool.eq_false_iff.mpr c5
  subst c5
  rw [if_neg (show ¬ (false = true) by decide)] at H
  obtain rfl := Option.some.inj H
  go_enter Try.func35, Try.ntmps35
  go_wp2_with (first | ((with_reducible refine qf (f := 65) rfl ?_); refine gl 9 Try.func65 #[.int .i64 a0, .slice A1 l1.length c1] ?_; (with_reducible refine (z8.calls k a0 _ _ l1 false _ ?_ ?_ A4.out).mono ?_); exact wC HR1; exact HC1.out; rintro e w19 ⟨rfl, hb⟩; refine ⟨_, rfl, ?_⟩; replace HB := bq HB hb; (try clear hb)))
  go_ret
  exact ⟨fq, bw HB⟩
mutual
def qr.l0 : Nat → Int → List Int → List Int → Int → Int → Int → Option (Int)
 | 0, _, _, _, _, _, _ => none
 | k + 1, x0, x1, x2, x7, x8, x9 => if x9 < 4 then (qr.l1 k x0 x1 x2 x7 x8 x9 x9) else (some x7)
def qr.l1 : Nat → Int → List Int → List Int → Int → Int → Int → Int → Option (Int)
 | 0, _, _, _, _, _, _, _ => none
 | k + 1, x0, x1, x2, x7, x8, x9, x10 => if x10 < 4 then (qr.l2 k x0 x1 x2 x7 x8 x9 x10 x10) else (qr.l0 k x0 x1 x2 x7 x8 (wrap64 (x9 + 1)))
def qr.l2 : Nat → Int → List Int → List Int → Int → Int → Int → Int → Int → Option (Int)
 | 0, _, _, _, _, _, _, _, _ => none
 | k + 1, x0, x1, x2, x7, x8, x9, x10, x11 => if x11 < 4 then (if 0 ≤ x8 then (if x8 < (x1.length : Int) then (if 0 ≤ x9 then (if x9 < (x2.length : Int) then (if x0 = 0 then (none) else (if 0 ≤ x10 then (if x10 < (x2.length : Int) then (if 0 ≤ x11 then (if x11 < (x2.length : Int) then (qr.l2 k x0 x1 x2 (Int.tmod (wrap64 (x7 + (wrap64 ((Int.tmod (wrap64 ((Int.tmod (wrap64 ((rd x1 x8) * (rd x2 x9))) x0) * (rd x2 x10))) x0) * (rd x2 x11))))) x0) (wrap64 (x8 + 1)) x9 x10 (wrap64 (x11 + 1))) else (none)) else (none)) else (none)) else (none))) else (none)) else (none)) else (none)) else (none)) else (qr.l1 k x0 x1 x2 x7 x8 x9 (wrap64 (x10 + 1)))
end
def qr.f (k : Nat) (a0 : Int) (l1 : List Int) (l2 : List Int) : Option (Int) := qr.l0 k a0 l1 l2 0 0 0
theorem qr.mono_l : ∀ k, (∀ y0 y1 y2 y3 y4 y5, LeO (qr.l0 k y0 y1 y2 y3 y4 y5) (qr.l0 (k + 1) y0 y1 y2 y3 y4 y5)) ∧ (∀ y0 y1 y2 y3 y4 y5 y6, LeO (qr.l1 k y0 y1 y2 y3 y4 y5 y6) (qr.l1 (k + 1) y0 y1 y2 y3 y4 y5 y6)) ∧ (∀ y0 y1 y2 y3 y4 y5 y6 y7, LeO (qr.l2 k y0 y1 y2 y3 y4 y5 y6 y7) (qr.l2 (k + 1) y0 y1 y2 y3 y4 y5 y6 y7))
 | 0 => ⟨fun _ _ _ _ _ _ r h => by simp [qr.l0] at h, fun _ _ _ _ _ _ _ r h => by simp [qr.l1] at h, fun _ _ _ _ _ _ _ _ r h => by simp [qr.l2] at h⟩
 | k + 1 => by
  obtain ⟨ih0, ih1, ih2⟩ := qr.mono_l k
  refine ⟨?_, ?_, ?_⟩
  ·intro y0 y1 y2 y3 y4 y5
   unfold qr.l0
   repeat' first | (with_reducible first | apply ih0 | apply ih1 | apply ih2 | exact LeO.refl _ | exact LeO.none _ | refine LeO.ite ?_ ?_ | refine LeO.bind ?_ (fun _ => ?_)) | (first | apply ih0 | apply ih1 | apply ih2 | exact LeO.none _ | refine LeO.ite ?_ ?_ | refine LeO.bind ?_ (fun _ => ?_))
  ·intro y0 y1 y2 y3 y4 y5 y6
   unfold qr.l1
   repeat' first | (with_reducible first | apply ih0 | apply ih1 | apply ih2 | exact LeO.refl _ | exact LeO.none _ | refine LeO.ite ?_ ?_ | refine LeO.bind ?_ (fun _ => ?_)) | (first | apply ih0 | apply ih1 | apply ih2 | exact LeO.none _ | refine LeO.ite ?_ ?_ | refine LeO.bind ?_ (fun _ => ?_))
  ·intro y0 y1 y2 y3 y4 y5 y6 y7
   unfold qr.l2
   repeat' first | (with_reducible first | apply ih0 | apply ih1 | apply ih2 | exact LeO.refl _ | exact LeO.none _ | refine LeO.ite ?_ ?_ | refine LeO.bind ?_ (fun _ => ?_)) | (first | apply ih0 | apply ih1 | apply ih2 | exact LeO.none _ | refine LeO.ite ?_ ?_ | refine LeO.bind ?_ (fun _ => ?_))
theorem qr.mono : ∀ a0 a1 a2 k, LeO (qr.f k a0 a1 a2) (qr.f (k + 1) a0 a1 a2) := by
 intro a0 a1 a2 k
 obtain ⟨ih0, ih1, ih2⟩ := qr.mono_l k
 unfold qr.f
 repeat' first | (with_reducible first | apply ih0 | apply ih1 | apply ih2 | exact LeO.refl _ | exact LeO.none _ | refine LeO.ite ?_ ?_ | refine LeO.bind ?_ (fun _ => ?_)) | (first | apply ih0 | apply ih1 | apply ih2 | exact LeO.none _ | refine LeO.ite ?_ ?_ | refine LeO.bind ?_ (fun _ => ?_))
theorem qr.calls (k : Nat) (a0 : Int) (A1 : Option Addr) (c1 : Nat) (l1 : List Int) (A2 : Option Addr) (c2 : Nat) (l2 : List Int) (r : Int) (w : World) (hr1 : Kd.C (Kd.int .i64) w A1 l1.length l1) (hc1 : l1.length ≤ c1) (hr2 : Kd.C (Kd.int .i64) w A2 l2.length l2) (hc2 : l2.length ≤ c2) (h : qr.f k a0 l1 l2 = some r) :
  Calls Try.prog 57 #[.int .i64 a0, .slice A1 l1.length c1, .slice A2 l2.length c2] w fun e w' => e = .returned (.int .i64 r) ∧ Drawn0 w w' := by
 have HR1 := am hr1
 have HC1 := am hc1
 clear hr1 hc1
 have HR2 := am hr2
 have HC2 := am hc2
 clear hr2 hc2
 have H : (qr.l0 k a0 l1 l2 0 0 0) = some r := h
 clear h; have H' := am H; clear H
 go_enter Try.func57, Try.ntmps57
 go_wp2
 repeat (go_quiet (fail); try go_wp2)
 go_loopg [7, 8, 9] k (fun kq v7 v8 v9 w' => ∃ (x7_1 : Int) (x8_1 : Int) (x9_1 : Int), v7 = .int .i64 x7_1 ∧ v8 = .int .i64 x8_1 ∧ v9 = .int .i64 x9_1 ∧ qb (qr.l0 kq a0 l1 l2 x7_1 x8_1 x9_1 = some r) ∧ qb (kq ≤ k) ∧ Drawn0 w w')
 case atStart => exact ⟨(0), (0), (0), fr, fr, fr, H', ⟨Nat.le_refl _⟩, df⟩
 case round =>
  clear H'; try clear c1; try clear c2; try clear p2
  obtain ⟨x7_1, x8_1, x9_1, rfl, rfl, rfl, HA, HK1, ⟨m1, rfl⟩⟩ := hrel
  cases gk with
  | zero => exact absurd HA.out (by simp [qr.l0])
  | succ k1 =>
   have H := HA.out; clear HA
   simp only [qr.l0] at H
   by_cases c4 : x9_1 < 4
   ·rw [if_pos c4] at H
    have c4b0 := decide_eq_true c4; clear c4; have H' := am H; clear H; go_wp2
    repeat (go_quiet (fail); try go_wp2)
    go_loopg [7, 8, 10] k1 (fun kq v7 v8 v10 w' => ∃ (x7_2 : Int) (x8_2 : Int) (x10_2 : Int), v7 = .int .i64 x7_2 ∧ v8 = .int .i64 x8_2 ∧ v10 = .int .i64 x10_2 ∧ qb (qr.l1 kq a0 l1 l2 x7_2 x8_2 x9_1 x10_2 = some r) ∧ qb (kq ≤ k1) ∧ Drawn0 w w')
    case atStart => exact ⟨(x7_1), (x8_1), (x9_1), fr, fr, fr, H', ⟨Nat.le_refl _⟩, df⟩
    case round =>
     clear H'; try clear c1; try clear c2; try clear p2; try clear c4; try clear c4b0; try clear p2
     obtain ⟨x7_2, x8_2, x10_2, rfl, rfl, rfl, HA, HK2, ⟨m2, rfl⟩⟩ := hrel
     cases gk with
     | zero => exact absurd HA.out (by simp [qr.l1])
     | succ k2 =>
      have H := HA.out; clear HA
      simp only [qr.l1] at H
      by_cases c5 : x10_2 < 4
      ·rw [if_pos c5] at H
       have c5b0 := decide_eq_true c5; clear c5; have H' := am H; clear H; go_wp2
       repeat (go_quiet (fail); try go_wp2)
       go_loopg [7, 8, 11] k2 (fun kq v7 v8 v11 w' => ∃ (x7_3 : Int) (x8_3 : Int) (x11_3 : Int), v7 = .int .i64 x7_3 ∧ v8 = .int .i64 x8_3 ∧ v11 = .int .i64 x11_3 ∧ qb (qr.l2 kq a0 l1 l2 x7_3 x8_3 x9_1 x10_2 x11_3 = some r) ∧ qb (kq ≤ k2) ∧ Drawn0 w w')
       case atStart => exact ⟨(x7_2), (x8_2), (x10_2), fr, fr, fr, H', ⟨Nat.le_refl _⟩, df⟩
       case round =>
        clear H'; try clear c1; try clear c2; try clear p2; try clear c4; try clear c4b0; try clear c5; try clear c5b0; try clear p2
        obtain ⟨x7_3, x8_3, x11_3, rfl, rfl, rfl, HA, HK3, ⟨m3, rfl⟩⟩ := hrel
        cases gk with
        | zero => exact absurd HA.out (by simp [qr.l2])
        | succ k3 =>
         have H := HA.out; clear HA
         simp only [qr.l2] at H
         by_cases c6 : x11_3 < 4
         ·rw [if_pos c6] at H
          have c6b0 := decide_eq_true c6; clear c6; replace H := ifn H; obtain ⟨c7, H⟩ := H; have c7b0 := decide_eq_true c7; clear c7; replace H := ifn H; obtain ⟨c8, H⟩ := H; have c8b0 := decide_eq_true c8; clear c8; replace H := ifn H; obtain ⟨c9, H⟩ := H
          have c9b0 := decide_eq_true c9; clear c9; replace H := ifn H; obtain ⟨c10, H⟩ := H; have c10b0 := decide_eq_true c10; clear c10; replace H := ifm H; obtain ⟨c11, H⟩ := H; have c11b0 := beq_eq_false_iff_ne.mpr c11; have c11b1 := bne_iff_ne.mpr c11
          replace H := ifn H; obtain ⟨c12, H⟩ := H; have c12b0 := decide_eq_true c12; clear c12; replace H := ifn H; obtain ⟨c13, H⟩ := H; have c13b0 := decide_eq_true c13; clear c13; replace H := ifn H; obtain ⟨c14, H⟩ := H; have c14b0 := decide_eq_true c14
          clear c14; replace H := ifn H; obtain ⟨c15, H⟩ := H; have c15b0 := decide_eq_true c15; clear c15; have H' := am H; clear H
          have p228 : 0 ≤ (x8_3 : Int) := od
          have q228 : x8_3 < (l1.length : Int) := od
          obtain ⟨ad228, e228, hx228_0⟩ := Kd.at_int HR1.out x8_3 p228 q228
          cases e228; replace p228 := eq_true p228; replace q228 := eq_true q228
          have p229 : 0 ≤ (x9_1 : Int) := od
          have q229 : x9_1 < (l2.length : Int) := od
          obtain ⟨ad229, e229, hx229_0⟩ := Kd.at_int HR2.out x9_1 p229 q229
          cases e229; replace p229 := eq_true p229; replace q229 := eq_true q229
          have p230 : 0 ≤ (x10_2 : Int) := od
          have q230 : x10_2 < (l2.length : Int) := od
          obtain ⟨ad230, e230, hx230_0⟩ := Kd.at_int HR2.out x10_2 p230 q230
          obtain rfl : ad229 = ad230 := (by injection e230)
          replace p230 := eq_true p230; replace q230 := eq_true q230
          have p231 : 0 ≤ (x11_3 : Int) := od
          have q231 : x11_3 < (l2.length : Int) := od
          obtain ⟨ad231, e231, hx231_0⟩ := Kd.at_int HR2.out x11_3 p231 q231
          obtain rfl : ad229 = ad231 := (by injection e231)
          replace p231 := eq_true p231; replace q231 := eq_true q231; go_wp2
          repeat (go_quiet (fail); try go_wp2)
          go_roundg k3
          case measure => have := HK1.out; have := HK2.out; have := HK3.out; omega
          case rel => exact ⟨(Int.tmod (wrap64 (x7_3 + (wrap64 ((Int.tmod (wrap64 ((Int.tmod (wrap64 ((rd l1 x8_3) * (rd l2 x9_1))) a0) * (rd l2 x10_2))) a0) * (rd l2 x11_3))))) a0), (wrap64 (x8_3 + 1)), (wrap64 (x11_3 + 1)), fr, fr, fr, H', ⟨by have := HK1.out; have := HK2.out; have := HK3.out; omega⟩, df⟩
         ·rw [if_neg c6] at H
          have c6b0 := decide_eq_false c6; clear c6; have H' := am H; clear H; go_wp2
          repeat (go_quiet (fail); try go_wp2)
          go_roundg k3
          case measure => have := HK1.out; have := HK2.out; have := HK3.out; omega
          case rel => exact ⟨(x7_3), (x8_3), (wrap64 (x10_2 + 1)), fr, fr, fr, H', ⟨by have := HK1.out; have := HK2.out; have := HK3.out; omega⟩, df⟩
      ·rw [if_neg c5] at H
       have c5b0 := decide_eq_false c5; clear c5; have H' := am H; clear H; go_wp2
       repeat (go_quiet (fail); try go_wp2)
       go_roundg k2
       case measure => have := HK1.out; have := HK2.out; omega
       case rel => exact ⟨(x7_2), (x8_2), (wrap64 (x9_1 + 1)), fr, fr, fr, H', ⟨by have := HK1.out; have := HK2.out; omega⟩, df⟩
   ·rw [if_neg c4] at H
    have c4b0 := decide_eq_false c4; clear c4; obtain rfl := Option.some.inj H; go_wp2
    repeat (go_quiet (fail); try go_wp2)
    go_ret
    exact ⟨fr, df⟩
end Go.Proofs.Ytmgbpmihbljngaa.PA

-- Written by xprint.py, a program of this claim's own (over the kit's print.py)
import Derived.Test.YtmgbpmihbljngaaPAx17
namespace Go.Proofs.Ytmgbpmihbljngaa.PA
set_option maxHeartbeats 8000000
set_option maxRecDepth 100000
open Go.RowKit Go.Proofs.YtmgbpmihbljngaaW.PrintWords Go.Proofs.YtmgbpmihbljngaaW.PrintLast Go.Proofs.YtmgbpmihbljngaaW.PrintMore
attribute [local go_sem] j8 j9 Qi Qj jw jy Qa Qb
set_option linter.unusedVariables false
set_option linter.unusedSimpArgs false
def qz.j0 : Nat → Int → List Int → Bool → Int → Int → Int → Option (Int × Bool)
 | 0, _, _, _, _, _, _ => none
 | k + 1, x0, x1, x17, x541000, x541001, x541002 => if x17 = true then (some (0, false)) else ((zf.f k x541000 x541001 x541002).bind fun t543 => ((jc.f k x0 x1 t543).bind fun t546 => (some (t546, true))))
def qz.f (k : Nat) (a0 : Int) (l1 : List Int) (a2_0 : Int) (a2_1 : Int) (a2_2 : Int) : Option (Int × Bool) := (jh.f a0 l1 10).bind fun t541 => (if t541 = true then ((Qf.f a0 a2_0 a2_1 a2_2).bind fun t542 => (qz.j0 k a0 l1 (!t542) a2_0 a2_1 a2_2)) else (qz.j0 k a0 l1 true a2_0 a2_1 a2_2))
theorem qz.mono_l : ∀ k, (∀ y0 y1 y2 y3 y4 y5, LeO (qz.j0 k y0 y1 y2 y3 y4 y5) (qz.j0 (k + 1) y0 y1 y2 y3 y4 y5))
 | 0 => fun _ _ _ _ _ _ r h => by simp [qz.j0] at h
 | k + 1 => by
  have ih0 := qz.mono_l k
  ·intro y0 y1 y2 y3 y4 y5
   unfold qz.j0
   repeat' first | (with_reducible first | apply ih0 | apply zf.mono | apply jc.mono | exact LeO.refl _ | exact LeO.none _ | refine LeO.ite ?_ ?_ | refine LeO.bind ?_ (fun _ => ?_)) | (first | apply ih0 | apply zf.mono | apply jc.mono | exact LeO.none _ | refine LeO.ite ?_ ?_ | refine LeO.bind ?_ (fun _ => ?_))
theorem qz.mono : ∀ a0 a1 a2 a3 a4 k, LeO (qz.f k a0 a1 a2 a3 a4) (qz.f (k + 1) a0 a1 a2 a3 a4) := by
 intro a0 a1 a2 a3 a4 k
 have ih0 := qz.mono_l k
 unfold qz.f
 repeat' first | (with_reducible first | apply ih0 | apply zf.mono | apply jc.mono | exact LeO.refl _ | exact LeO.none _ | refine LeO.ite ?_ ?_ | refine LeO.bind ?_ (fun _ => ?_)) | (first | apply ih0 | apply zf.mono | apply jc.mono | exact LeO.none _ | refine LeO.ite ?_ ?_ | refine LeO.bind ?_ (fun _ => ?_))
theorem qz.calls (k : Nat) (a0 : Int) (A1 : Option Addr) (c1 : Nat) (l1 : List Int) (a2_0 : Int) (a2_1 : Int) (a2_2 : Int) (r1 : Int) (r2 : Bool) (w : World) (hr1 : Kd.C (Kd.int .i64) w A1 l1.length l1) (hc1 : l1.length ≤ c1) (h : qz.f k a0 l1 a2_0 a2_1 a2_2 = some (r1, r2)) :
  Calls Try.prog 33 #[.int .i64 a0, .slice A1 l1.length c1, .agg #[.int .i64 a2_0, .int .i64 a2_1, .int .i64 a2_2]] w fun e w' => e = .returned (.tuple #[.int .i64 r1, .bool r2]) ∧ Below w.heap.size w w' := by
 have hu43 := Try.underlying43
 have HR1 := am hr1
 have HC1 := am hc1
 clear hr1 hc1
 have HB := am (Below.refl w.heap.size w)
 have H : ((jh.f a0 l1 10).bind fun t541 => (if t541 = true then ((Qf.f a0 a2_0 a2_1 a2_2).bind fun t542 => (qz.j0 k a0 l1 (!t542) a2_0 a2_1 a2_2)) else (qz.j0 k a0 l1 true a2_0 a2_1 a2_2))) = some (r1, r2) := h
 clear h
 have HC4 := am H
 clear H
 go_enter Try.func33, Try.ntmps33
 go_upto_region 1 with (first | ((with_reducible refine q6 (N := 5) rfl ?_); refine xe_ 5 43 #[.int .i64 a2_0, .int .i64 a2_1, .int .i64 a2_2] ?_; intro gb540 hg w5 hbox hb; have BK540 := am (hbox); have GW540 := am ((by rw [hg]; exact (bz HB) : w.heap.size ≤ gb540)); have GE540 := am ((by rw [hg]; exact (bz HB) : w.heap.size ≤ gb540)); replace HB := bq HB hb; clear hb hbox hg))
 (try simp only [Act.put, List.setIfInBounds_toArray, List.set_cons_zero, List.set_cons_succ])
 go_cut [17] (fun v17 wc => ∃ (kq : Nat) (x17_3 : Bool), v17 = .bool x17_3 ∧ qb (qz.j0 kq a0 l1 x17_3 a2_0 a2_1 a2_2 = some (r1, r2)) ∧ qb (kq ≤ k) ∧ qb (wc.heap[gb540]? = some (.cells #[.int .i64 a2_0, .int .i64 a2_1, .int .i64 a2_2] 43 (0, 0))) ∧ qb (Below w.heap.size w wc))
 case first =>
  have H := HC4.out
  clear HC4; replace H := bs H; obtain ⟨t541, A6, H⟩ := H
  by_cases c7 : t541 = true
  ·subst c7
   rw [if_pos rfl] at H
   replace H := bs H; obtain ⟨t542, A8, H⟩ := H; have H' := am H; clear H
   go_wp2_with (first | ((with_reducible refine qj (f := 52) rfl ?_); refine gl 10 Try.func52 #[.int .i64 a0, .slice A1 l1.length c1, .int .i64 10] ?_; (with_reducible refine (jh.calls a0 _ _ l1 10 true _ ?_ ?_ A6.out).mono ?_); exact Kd.C_below HR1.out (bw HB); exact HC1.out; rintro e w9 ⟨rfl, hb⟩; refine ⟨_, rfl, ?_⟩; replace BK540 := am (qp (g := gb540) (o := .cells #[.int .i64 a2_0, .int .i64 a2_1, .int .i64 a2_2] 43 (0, 0)) (pk_ BK540) hb); replace HB := am (qo (bx_ HB) hb); (try clear hb); have hcz10_0 : w9.cell? ⟨gb540, 0, none⟩ = some (.int .i64 a2_0) := (qa BK540.out 0).trans rfl; have hcz10_1 : w9.cell? ⟨gb540, 1, none⟩ = some (.int .i64 a2_1) := (qa BK540.out 1).trans rfl; have hcz10_2 : w9.cell? ⟨gb540, 2, none⟩ = some (.int .i64 a2_2) := (qa BK540.out 2).trans rfl; have hfz10_0 := qg BK540.out 0; have hfz10_1 := qg BK540.out 1; have hfz10_2 := qg BK540.out 2) | (go_at_call 73; (with_reducible refine (Qf.calls a0 a2_0 a2_1 a2_2 t542 _ A8.out).mono ?_); rintro e w11 ⟨rfl, hb⟩; replace BK540 := am (qp (g := gb540) (o := .cells #[.int .i64 a2_0, .int .i64 a2_1, .int .i64 a2_2] 43 (0, 0)) (pk_ BK540) hb); replace HB := am (qo (bx_ HB) hb); (try clear hb)))
   go_meet
   case rel => exact ⟨_, (!t542), fr, H', ⟨by first | omega | exact Nat.le_refl _⟩, ⟨by (with_reducible repeat (first | refine qf ?_ _ | refine qh ?_ | refine qe ?_ _)); exact BK540.out⟩, ⟨bx_ HB⟩⟩
  ·replace c7 := Bool.eq_false_iff.mpr c7
   subst c7
   rw [if_neg (show ¬ (false = true) by decide)] at H
   have H' := am H; clear H
   go_wp2_with (first | ((with_reducible refine qj (f := 52) rfl ?_); refine gl 10 Try.func52 #[.int .i64 a0, .slice A1 l1.length c1, .int .i64 10] ?_; (with_reducible refine (jh.calls a0 _ _ l1 10 false _ ?_ ?_ A6.out).mono ?_); exact Kd.C_below HR1.out (bw HB); exact HC1.out; rintro e w12 ⟨rfl, hb⟩; refine ⟨_, rfl, ?_⟩; replace BK540 := am (qp (g := gb540) (o := .cells #[.int .i64 a2_0, .int .i64 a2_1, .int .i64 a2_2] 43 (0, 0)) (pk_ BK540) hb); replace HB := am (qo (bx_ HB) hb); (try clear hb)))
   go_meet
   case rel => exact ⟨_, (true), fr, H', ⟨by first | omega | exact Nat.le_refl _⟩, ⟨by (with_reducible repeat (first | refine qf ?_ _ | refine qh ?_ | refine qe ?_ _)); exact BK540.out⟩, ⟨bx_ HB⟩⟩
 case rest =>
  clear HC4; try clear c1; try clear p2; try clear c3; try clear c5; try clear c7; try clear hcz10_0; try clear hcz10_1; try clear hcz10_2; try clear hfz10_0; try clear hfz10_1; try clear hfz10_2
  obtain ⟨kq, x17_3, rfl, HA, HJ3, BK540, HB⟩ := hcut
  cases kq with
  | zero => exact absurd HA.out (by simp [qz.j0])
  | succ kj3 =>
   have H := HA.out; clear HA
   simp only [qz.j0] at H
   by_cases c13 : x17_3 = true
   ·subst c13
    rw [if_pos rfl] at H
    simp only [Option.some.injEq, Prod.mk.injEq] at H
    obtain ⟨rfl, rfl⟩ := H; go_wp2
    go_ret2
    exact ⟨fq, bx_ HB⟩
   ·replace c13 := Bool.eq_false_iff.mpr c13
    subst c13
    rw [if_neg (show ¬ (false = true) by decide)] at H
    replace H := bs H; obtain ⟨t543, A14, H⟩ := H; replace H := bs H; obtain ⟨t546, A15, H⟩ := H
    simp only [Option.some.injEq, Prod.mk.injEq] at H
    obtain ⟨rfl, rfl⟩ := H
    have hcz16_0 : wc.cell? ⟨gb540, 0, none⟩ = some (.int .i64 a2_0) := (qa BK540.out 0).trans rfl
    have hcz16_1 : wc.cell? ⟨gb540, 1, none⟩ = some (.int .i64 a2_1) := (qa BK540.out 1).trans rfl
    have hcz16_2 : wc.cell? ⟨gb540, 2, none⟩ = some (.int .i64 a2_2) := (qa BK540.out 2).trans rfl
    have hfz16_0 := qg BK540.out 0
    have hfz16_1 := qg BK540.out 1
    have hfz16_2 := qg BK540.out 2
    go_wp2_with (first | ((with_reducible refine qj (f := 82) rfl ?_); refine gl 21 Try.func82 #[.agg #[.int .i64 a2_0, .int .i64 a2_1, .int .i64 a2_2]] ?_; (with_reducible refine (zf.calls kj3 a2_0 a2_1 a2_2 t543 _ A14.out).mono ?_); rintro e w17 ⟨v544, rfl, ho0, hb⟩; refine ⟨_, rfl, ?_⟩; have HO545 := am (Kd.R_lower ho0 (q4 (bx_ HB))); replace BK540 := am (qp (g := gb540) (o := .cells #[.int .i64 a2_0, .int .i64 a2_1, .int .i64 a2_2] 43 (0, 0)) (pk_ BK540) hb); replace HB := am (qo (bx_ HB) hb); (try clear hb); (try clear ho0); obtain ⟨Ao18, co18, eo18⟩ := Kd.R_slice HO545.out; subst eo18) | ((with_reducible refine qj (f := 81) rfl ?_); refine gl 22 Try.func81 #[.int .i64 a0, .slice A1 l1.length c1, .slice Ao18 t543.length co18] ?_; (with_reducible refine (jc.calls kj3 a0 _ _ l1 _ _ t543 t546 _ ?_ ?_ ?_ ?_ A15.out).mono ?_); exact Kd.C_below HR1.out (bw HB); exact HC1.out; exact Kd.C_below (Kd.R_reads' HO545.out).2.2 gs; exact (Kd.R_reads' HO545.out).2.1; rintro e w' ⟨rfl, ⟨nd, rfl⟩⟩; refine ⟨_, rfl, ?_⟩))
    go_ret2
    exact ⟨fq, bx_ HB⟩
def Qq.f (a0 : Int) (l1 : List Int) : Option (Bool) := (jh.f a0 l1 4).bind fun t547 => (if t547 = true then ((Qv.f l1).bind fun t548 => (some t548)) else (some false))
theorem Qq.calls (a0 : Int) (A1 : Option Addr) (c1 : Nat) (l1 : List Int) (r : Bool) (w : World) (hr1 : Kd.C (Kd.int .i64) w A1 l1.length l1) (hc1 : l1.length ≤ c1) (h : Qq.f a0 l1 = some r) :
  Calls Try.prog 83 #[.int .i64 a0, .slice A1 l1.length c1] w fun e w' => e = .returned (.bool r) ∧ Below w.heap.size w w' := by
 have HR1 := am hr1
 have HC1 := am hc1
 clear hr1 hc1
 have HB := am (Below.refl w.heap.size w)
 have H : ((jh.f a0 l1 4).bind fun t547 => (if t547 = true then ((Qv.f l1).bind fun t548 => (some t548)) else (some false))) = some r := h
 clear h; replace H := bs H; obtain ⟨t547, A3, H⟩ := H
 by_cases c4 : t547 = true
 ·subst c4
  rw [if_pos rfl] at H
  replace H := bs H; obtain ⟨t548, A5, H⟩ := H; obtain rfl := Option.some.inj H
  go_enter Try.func83, Try.ntmps83
  go_wp2_with (first | ((with_reducible refine qj (f := 52) rfl ?_); refine gl 7 Try.func52 #[.int .i64 a0, .slice A1 l1.length c1, .int .i64 4] ?_; (with_reducible refine (jh.calls a0 _ _ l1 4 true _ ?_ ?_ A3.out).mono ?_); exact wC HR1; exact HC1.out; rintro e w6 ⟨rfl, hb⟩; refine ⟨_, rfl, ?_⟩; replace HB := bq HB hb; (try clear hb)) | (go_at_call 119; (with_reducible refine (Qv.calls _ _ l1 t548 _ ?_ ?_ A5.out).mono ?_); exact Kd.C_below HR1.out (bw HB); exact HC1.out; rintro e w' ⟨rfl, ⟨nd, rfl⟩⟩))
  go_ret
  exact ⟨fq, bw HB⟩
 ·replace c4 := Bool.eq_false_iff.mpr c4
  subst c4
  rw [if_neg (show ¬ (false = true) by decide)] at H
  obtain rfl := Option.some.inj H
  go_enter Try.func83, Try.ntmps83
  go_wp2_with (first | ((with_reducible refine qj (f := 52) rfl ?_); refine gl 7 Try.func52 #[.int .i64 a0, .slice A1 l1.length c1, .int .i64 4] ?_; (with_reducible refine (jh.calls a0 _ _ l1 4 false _ ?_ ?_ A3.out).mono ?_); exact wC HR1; exact HC1.out; rintro e w7 ⟨rfl, hb⟩; refine ⟨_, rfl, ?_⟩; replace HB := bq HB hb; (try clear hb)))
  go_ret
  exact ⟨fq, bw HB⟩
def Je.f (a0 : Int) (l1 : List Int) : Option (Bool) := (Qq.f a0 l1).bind fun t549 => (some t549)
theorem Je.calls (a0 : Int) (A1 : Option Addr) (c1 : Nat) (l1 : List Int) (r : Bool) (w : World) (hr1 : Kd.C (Kd.int .i64) w A1 l1.length l1) (hc1 : l1.length ≤ c1) (h : Je.f a0 l1 = some r) :
  Calls Try.prog 34 #[.int .i64 a0, .slice A1 l1.length c1] w fun e w' => e = .returned (.bool r) ∧ Below w.heap.size w w' := by
 have HR1 := am hr1
 have HC1 := am hc1
 clear hr1 hc1
 have HB := am (Below.refl w.heap.size w)
 have H : ((Qq.f a0 l1).bind fun t549 => (some t549)) = some r := h
 clear h; replace H := bs H; obtain ⟨t549, A3, H⟩ := H; obtain rfl := Option.some.inj H
 go_enter Try.func34, Try.ntmps34
 go_wp2_with (first | ((with_reducible refine qj (f := 83) rfl ?_); refine gl 7 Try.func83 #[.int .i64 a0, .slice A1 l1.length c1] ?_; (with_reducible refine (Qq.calls a0 _ _ l1 t549 _ ?_ ?_ A3.out).mono ?_); exact wC HR1; exact HC1.out; rintro e w4 ⟨rfl, hb⟩; refine ⟨_, rfl, ?_⟩; replace HB := bq HB hb; (try clear hb)))
 go_ret
 exact ⟨fq, bw HB⟩
mutual
def qq.l0 : Nat → Int → List Int → List Int → Int → Int → Int → Option (Int)
 | 0, _, _, _, _, _, _ => none
 | k + 1, x0, x1, x2, x7, x8, x13 => if x13 < 4 then (qq.l1 k x0 x1 x2 x7 x8 x13 x13 x13) else (if x0 = 0 then (none) else (some (Int.tmod x7 x0)))
def qq.l1 : Nat → Int → List Int → List Int → Int → Int → Int → Int → Int → Option (Int)
 | 0, _, _, _, _, _, _, _, _ => none
 | k + 1, x0, x1, x2, x7, x8, x9, x10, x13 => if x10 < 4 then (if 0 ≤ x9 then (if x9 < (x2.length : Int) then (if 0 ≤ x10 then (if x10 < (x2.length : Int) then (qq.l2 k x0 x1 x2 x7 x8 x9 x10 (wrap64 ((rd x2 x9) * (rd x2 x10))) x10 x13) else (none)) else (none)) else (none)) else (none)) else (qq.l0 k x0 x1 x2 x7 x8 (wrap64 (x13 + 1)))
def qq.l2 : Nat → Int → List Int → List Int → Int → Int → Int → Int → Int → Int → Int → Option (Int)
 | 0, _, _, _, _, _, _, _, _, _, _ => none
 | k + 1, x0, x1, x2, x7, x8, x9, x10, x11, x12, x13 => if x12 < 4 then (if 0 ≤ x8 then (if x8 < (x1.length : Int) then (if 0 ≤ x12 then (if x12 < (x2.length : Int) then (qq.l2 k x0 x1 x2 (wrap64 (x7 + (wrap64 ((wrap64 ((rd x1 x8) * x11)) * (rd x2 x12))))) (wrap64 (x8 + 1)) x9 x10 x11 (wrap64 (x12 + 1)) x13) else (none)) else (none)) else (none)) else (none)) else (qq.l1 k x0 x1 x2 x7 x8 x9 (wrap64 (x10 + 1)) x13)
end
def qq.f (k : Nat) (a0 : Int) (l1 : List Int) (l2 : List Int) : Option (Int) := qq.l0 k a0 l1 l2 0 0 0
theorem qq.mono_l : ∀ k, (∀ y0 y1 y2 y3 y4 y5, LeO (qq.l0 k y0 y1 y2 y3 y4 y5) (qq.l0 (k + 1) y0 y1 y2 y3 y4 y5)) ∧ (∀ y0 y1 y2 y3 y4 y5 y6 y7, LeO (qq.l1 k y0 y1 y2 y3 y4 y5 y6 y7) (qq.l1 (k + 1) y0 y1 y2 y3 y4 y5 y6 y7)) ∧ (∀ y0 y1 y2 y3 y4 y5 y6 y7 y8 y9, LeO (qq.l2 k y0 y1 y2 y3 y4 y5 y6 y7 y8 y9) (qq.l2 (k + 1) y0 y1 y2 y3 y4 y5 y6 y7 y8 y9))
 | 0 => ⟨fun _ _ _ _ _ _ r h => by simp [qq.l0] at h, fun _ _ _ _ _ _ _ _ r h => by simp [qq.l1] at h, fun _ _ _ _ _ _ _ _ _ _ r h => by simp [qq.l2] at h⟩
 | k + 1 => by
  obtain ⟨ih0, ih1, ih2⟩ := qq.mono_l k
  refine ⟨?_, ?_, ?_⟩
  ·intro y0 y1 y2 y3 y4 y5
   unfold qq.l0
   repeat' first | (with_reducible first | apply ih0 | apply ih1 | apply ih2 | exact LeO.refl _ | exact LeO.none _ | refine LeO.ite ?_ ?_ | refine LeO.bind ?_ (fun _ => ?_)) | (first | apply ih0 | apply ih1 | apply ih2 | exact LeO.none _ | refine LeO.ite ?_ ?_ | refine LeO.bind ?_ (fun _ => ?_))
  ·intro y0 y1 y2 y3 y4 y5 y6 y7
   unfold qq.l1
   repeat' first | (with_reducible first | apply ih0 | apply ih1 | apply ih2 | exact LeO.refl _ | exact LeO.none _ | refine LeO.ite ?_ ?_ | refine LeO.bind ?_ (fun _ => ?_)) | (first | apply ih0 | apply ih1 | apply ih2 | exact LeO.none _ | refine LeO.ite ?_ ?_ | refine LeO.bind ?_ (fun _ => ?_))
  ·intro y0 y1 y2 y3 y4 y5 y6 y7 y8 y9
   unfold qq.l2
   repeat' first | (with_reducible first | apply ih0 | apply ih1 | apply ih2 | exact LeO.refl _ | exact LeO.none _ | refine LeO.ite ?_ ?_ | refine LeO.bind ?_ (fun _ => ?_)) | (first | apply ih0 | apply ih1 | apply ih2 | exact LeO.none _ | refine LeO.ite ?_ ?_ | refine LeO.bind ?_ (fun _ => ?_))
theorem qq.mono : ∀ a0 a1 a2 k, LeO (qq.f k a0 a1 a2) (qq.f (k + 1) a0 a1 a2) := by
 intro a0 a1 a2 k
 obtain ⟨ih0, ih1, ih2⟩ := qq.mono_l k
 unfold qq.f
 repeat' first | (with_reducible first | apply ih0 | apply ih1 | apply ih2 | exact LeO.refl _ | exact LeO.none _ | refine LeO.ite ?_ ?_ | refine LeO.bind ?_ (fun _ => ?_)) | (first | apply ih0 | apply ih1 | apply ih2 | exact LeO.none _ | refine LeO.ite ?_ ?_ | refine LeO.bind ?_ (fun _ => ?_))
theorem qq.calls (k : Nat) (a0 : Int) (A1 : Option Addr) (c1 : Nat) (l1 : List Int) (A2 : Option Addr) (c2 : Nat) (l2 : List Int) (r : Int) (w : World) (hr1 : Kd.C (Kd.int .i64) w A1 l1.length l1) (hc1 : l1.length ≤ c1) (hr2 : Kd.C (Kd.int .i64) w A2 l2.length l2) (hc2 : l2.length ≤ c2) (h : qq.f k a0 l1 l2 = some r) :
  Calls Try.prog 55 #[.int .i64 a0, .slice A1 l1.length c1, .slice A2 l2.length c2] w fun e w' => e = .returned (.int .i64 r) ∧ Drawn0 w w' := by
 have HR1 := am hr1
 have HC1 := am hc1
 clear hr1 hc1
 have HR2 := am hr2
 have HC2 := am hc2
 clear hr2 hc2
 have H : (qq.l0 k a0 l1 l2 0 0 0) = some r := h
 clear h; have H' := am H; clear H
 go_enter Try.func55, Try.ntmps55
 go_wp2
 repeat (go_quiet (fail); try go_wp2)
 go_loopg [7, 8, 13] k (fun kq v7 v8 v13 w' => ∃ (x7_1 : Int) (x8_1 : Int) (x13_1 : Int), v7 = .int .i64 x7_1 ∧ v8 = .int .i64 x8_1 ∧ v13 = .int .i64 x13_1 ∧ qb (qq.l0 kq a0 l1 l2 x7_1 x8_1 x13_1 = some r) ∧ qb (kq ≤ k) ∧ Drawn0 w w')
 case atStart => exact ⟨(0), (0), (0), fr, fr, fr, H', ⟨Nat.le_refl _⟩, df⟩
 case round =>
  clear H'; try clear c1; try clear c2; try clear p2
  obtain ⟨x7_1, x8_1, x13_1, rfl, rfl, rfl, HA, HK1, ⟨m1, rfl⟩⟩ := hrel
  cases gk with
  | zero => exact absurd HA.out (by simp [qq.l0])
  | succ k1 =>
   have H := HA.out; clear HA
   simp only [qq.l0] at H
   by_cases c4 : x13_1 < 4
   ·rw [if_pos c4] at H
    have c4b0 := decide_eq_true c4; clear c4; have H' := am H; clear H; go_wp2
    repeat (go_quiet (fail); try go_wp2)
    go_loopg [7, 8, 10] k1 (fun kq v7 v8 v10 w' => ∃ (x7_2 : Int) (x8_2 : Int) (x10_2 : Int), v7 = .int .i64 x7_2 ∧ v8 = .int .i64 x8_2 ∧ v10 = .int .i64 x10_2 ∧ qb (qq.l1 kq a0 l1 l2 x7_2 x8_2 x13_1 x10_2 x13_1 = some r) ∧ qb (kq ≤ k1) ∧ Drawn0 w w')
    case atStart => exact ⟨(x7_1), (x8_1), (x13_1), fr, fr, fr, H', ⟨Nat.le_refl _⟩, df⟩
    case round =>
     clear H'; try clear c1; try clear c2; try clear p2; try clear c4; try clear c4b0; try clear p2
     obtain ⟨x7_2, x8_2, x10_2, rfl, rfl, rfl, HA, HK2, ⟨m2, rfl⟩⟩ := hrel
     cases gk with
     | zero => exact absurd HA.out (by simp [qq.l1])
     | succ k2 =>
      have H := HA.out; clear HA
      simp only [qq.l1] at H
      by_cases c5 : x10_2 < 4
      ·rw [if_pos c5] at H
       have c5b0 := decide_eq_true c5; clear c5; replace H := ifn H; obtain ⟨c6, H⟩ := H; have c6b0 := decide_eq_true c6; clear c6; replace H := ifn H; obtain ⟨c7, H⟩ := H; have c7b0 := decide_eq_true c7; clear c7; replace H := ifn H; obtain ⟨c8, H⟩ := H
       have c8b0 := decide_eq_true c8; clear c8; replace H := ifn H; obtain ⟨c9, H⟩ := H; have c9b0 := decide_eq_true c9; clear c9; have H' := am H; clear H
       have p550 : 0 ≤ (x13_1 : Int) := od
       have q550 : x13_1 < (l2.length : Int) := od
       obtain ⟨ad550, e550, hx550_0⟩ := Kd.at_int HR2.out x13_1 p550 q550
       cases e550; replace p550 := eq_true p550; replace q550 := eq_true q550
       have p551 : 0 ≤ (x10_2 : Int) := od
       have q551 : x10_2 < (l2.length : Int) := od
       obtain ⟨ad551, e551, hx551_0⟩ := Kd.at_int HR2.out x10_2 p551 q551
       obtain rfl : ad550 = ad551 := (by injection e551)
       replace p551 := eq_true p551; replace q551 := eq_true q551; go_wp2
       repeat (go_quiet (fail); try go_wp2)
       go_loopg [7, 8, 12] k2 (fun kq v7 v8 v12 w' => ∃ (x7_3 : Int) (x8_3 : Int) (x12_3 : Int), v7 = .int .i64 x7_3 ∧ v8 = .int .i64 x8_3 ∧ v12 = .int .i64 x12_3 ∧ qb (qq.l2 kq a0 l1 l2 x7_3 x8_3 x13_1 x10_2 (wrap64 ((rd l2 x13_1) * (rd l2 x10_2))) x12_3 x13_1 = some r) ∧ qb (kq ≤ k2) ∧ Drawn0 w w')
       case atStart => exact ⟨(x7_2), (x8_2), (x10_2), fr, fr, fr, H', ⟨Nat.le_refl _⟩, df⟩
       case round =>
        clear H'; try clear c1; try clear c2; try clear p2; try clear c4; try clear c4b0; try clear c5; try clear c5b0; try clear p5; try clear q5; try clear hx5; try clear c6; try clear c6b0; try clear p6; try clear c7; try clear c7b0; try clear c8
        try clear c8b0; try clear c9; try clear c9b0; try clear hx550_0; try clear hx551_0; try clear p2; try clear p550; try clear p551; try clear q550; try clear q551
        obtain ⟨x7_3, x8_3, x12_3, rfl, rfl, rfl, HA, HK3, ⟨m3, rfl⟩⟩ := hrel
        cases gk with
        | zero => exact absurd HA.out (by simp [qq.l2])
        | succ k3 =>
         have H := HA.out; clear HA
         simp only [qq.l2] at H
         by_cases c10 : x12_3 < 4
         ·rw [if_pos c10] at H
          have c10b0 := decide_eq_true c10; clear c10; replace H := ifn H; obtain ⟨c11, H⟩ := H; have c11b0 := decide_eq_true c11; clear c11; replace H := ifn H; obtain ⟨c12, H⟩ := H; have c12b0 := decide_eq_true c12; clear c12; replace H := ifn H; obtain ⟨c13, H⟩ := H
          have c13b0 := decide_eq_true c13; clear c13; replace H := ifn H; obtain ⟨c14, H⟩ := H; have c14b0 := decide_eq_true c14; clear c14; have H' := am H; clear H
          have p552 : 0 ≤ (x8_3 : Int) := od
          have q552 : x8_3 < (l1.length : Int) := od
          obtain ⟨ad552, e552, hx552_0⟩ := Kd.at_int HR1.out x8_3 p552 q552
          cases e552; replace p552 := eq_true p552; replace q552 := eq_true q552
          have p553 : 0 ≤ (x12_3 : Int) := od
          have q553 : x12_3 < (l2.length : Int) := od
          obtain ⟨ad553, e553, hx553_0⟩ := Kd.at_int HR2.out x12_3 p553 q553
          obtain rfl : ad550 = ad553 := (by injection e553)
          replace p553 := eq_true p553; replace q553 := eq_true q553; go_wp2
          repeat (go_quiet (fail); try go_wp2)
          go_roundg k3
          case measure => have := HK1.out; have := HK2.out; have := HK3.out; omega
          case rel => exact ⟨(wrap64 (x7_3 + (wrap64 ((wrap64 ((rd l1 x8_3) * (wrap64 ((rd l2 x13_1) * (rd l2 x10_2))))) * (rd l2 x12_3))))), (wrap64 (x8_3 + 1)), (wrap64 (x12_3 + 1)), fr, fr, fr, H', ⟨by have := HK1.out; have := HK2.out; have := HK3.out; omega⟩, df⟩
         ·rw [if_neg c10] at H
          have c10b0 := decide_eq_false c10; clear c10; have H' := am H; clear H; go_wp2
          repeat (go_quiet (fail); try go_wp2)
          go_roundg k3
          case measure => have := HK1.out; have := HK2.out; have := HK3.out; omega
          case rel => exact ⟨(x7_3), (x8_3), (wrap64 (x10_2 + 1)), fr, fr, fr, H', ⟨by have := HK1.out; have := HK2.out; have := HK3.out; omega⟩, df⟩
      ·rw [if_neg c5] at H
       have c5b0 := decide_eq_false c5; clear c5; have H' := am H; clear H; go_wp2
       repeat (go_quiet (fail); try go_wp2)
       go_roundg k2
       case measure => have := HK1.out; have := HK2.out; omega
       case rel => exact ⟨(x7_2), (x8_2), (wrap64 (x13_1 + 1)), fr, fr, fr, H', ⟨by have := HK1.out; have := HK2.out; omega⟩, df⟩
   ·rw [if_neg c4] at H
    have c4b0 := decide_eq_false c4; clear c4; replace H := ifm H; obtain ⟨c15, H⟩ := H; have c15b0 := beq_eq_false_iff_ne.mpr c15; have c15b1 := bne_iff_ne.mpr c15; obtain rfl := Option.some.inj H; go_wp2
    repeat (go_quiet (fail); try go_wp2)
    go_ret
    exact ⟨fr, df⟩
theorem qa1 {i : Int} (h0 : 0 ≤ i) (h : i ≤ 1000000000) : wrap64 (i + 1) = i + 1 := by unfold wrap64; omega
def vs2 (f a : List Int) (two : Int) : Nat → Int → Int → Int → Int
 | 0, s, _, _ => s
 | d + 1, s, n, l => vs2 f a two d (wrap64 (s + (wrap64 ((wrap64 ((rd f n) * two)) * (rd a l))))) (n + 1) (l + 1)
def vs1 (f a : List Int) (i : Int) : Nat → Int → Int → Int → Int × Int
 | 0, s, n, _ => (s, n)
 | d + 1, s, n, j => vs1 f a i d (vs2 f a (wrap64 ((rd a i) * (rd a j))) (d + 1) s n j) (n + (d + 1 : Nat)) (j + 1)
def vs0 (f a : List Int) : Nat → Int → Int → Int → Int
 | 0, s, _, _ => s
 | d + 1, s, n, i => vs0 f a d (vs1 f a i (d + 1) s n i).1 (vs1 f a i (d + 1) s n i).2 (i + 1)
def valI (p : Int) (f a : List Int) : Int := Int.tmod (vs0 f a 4 0 0 0) p
theorem qe9 (p : Int) (f a : List Int) (i j two i' : Int) (hf : f.length = 20) (ha : a.length = 4) (r : Int) : ∀ (d : Nat) (s n l : Int), 0 ≤ n → n + d ≤ 20 → 0 ≤ l → l + d = 4 →
  Ev (fun k => qq.l1 k p f a (vs2 f a two d s n l) (n + d) i (wrap64 (j + 1)) i') r → Ev (fun k => qq.l2 k p f a s n i j two l i') r
 | 0, s, n, l, h1, h2, h3, h4, h => by
  refine Ev.step (f := fun k => qq.l1 k p f a s n i (wrap64 (j + 1)) i') (fun k => ?_) (by simpa [vs2] using h)
  rw [qq.l2, if_neg (by omega)]
 | d + 1, s, n, l, h1, h2, h3, h4, h => by
  refine Ev.step (f := fun k => qq.l2 k p f a (wrap64 (s + (wrap64 ((wrap64 ((rd f n) * two)) * (rd a l))))) (n + 1) i j two (l + 1) i') (fun k => ?_) ?_
  ·rw [qq.l2, if_pos (by omega), if_pos h1, if_pos (by omega), if_pos h3, if_pos (by omega), qa1 h1 (by omega), qa1 h3 (by omega)]
  ·refine qe9 p f a i j two i' hf ha r d _ _ _ (by omega) (by omega) (by omega) (by omega) ?_
   rw [show n + 1 + (d : Int) = n + ((d + 1 : Nat) : Int) from by omega]
   exact h
def tri : Nat → Nat
 | 0 => 0
 | d + 1 => d + 1 + tri d
theorem qd0 (f a : List Int) (i : Int) : ∀ (d : Nat) (s n j : Int), (vs1 f a i d s n j).2 = n + tri d
 | 0, s, n, j => by simp [vs1, tri]
 | d + 1, s, n, j => by rw [vs1, qd0 f a i d, tri]; omega
theorem qfc (p : Int) (f a : List Int) (i i' : Int) (hf : f.length = 20) (ha : a.length = 4) (hi : 0 ≤ i ∧ i < 4) (r : Int) : ∀ (d : Nat) (s n j : Int), 0 ≤ n → n + tri d ≤ 20 → 0 ≤ j → j + d = 4 →
  Ev (fun k => qq.l0 k p f a (vs1 f a i d s n j).1 (vs1 f a i d s n j).2 (wrap64 (i' + 1))) r → Ev (fun k => qq.l1 k p f a s n i j i') r
 | 0, s, n, j, h1, h2, h3, h4, h => by
  refine Ev.step (f := fun k => qq.l0 k p f a s n (wrap64 (i' + 1))) (fun k => ?_) (by simpa [vs1] using h)
  rw [qq.l1, if_neg (by omega)]
 | d + 1, s, n, j, h1, h2, h3, h4, h => by
  rw [tri] at h2
  refine Ev.step (f := fun k => qq.l2 k p f a s n i j (wrap64 ((rd a i) * (rd a j))) j i') (fun k => ?_) ?_
  ·rw [qq.l1, if_pos (by omega), if_pos hi.1, if_pos (by omega), if_pos h3, if_pos (by omega)]
  ·refine qe9 p f a i j _ i' hf ha r (d + 1) _ _ _ (by omega) (by omega) (by omega) (by omega) ?_
   rw [qa1 h3 (by omega)]
   exact qfc p f a i i' hf ha hi r d _ _ _ (by omega) (by omega) (by omega) (by omega) h
theorem qjl (p : Int) (f a : List Int) (hp : p ≠ 0) (hf : f.length = 20) (ha : a.length = 4) : Ev (fun k => qq.f k p f a) (valI p f a) := by
 have step : ∀ (i s n : Int) (d : Nat), i + (d + 1 : Nat) = 4 → 0 ≤ i → 0 ≤ n → n + tri (d + 1) ≤ 20 → Ev (fun k => qq.l0 k p f a (vs1 f a i (d + 1) s n i).1 (vs1 f a i (d + 1) s n i).2 (i + 1)) (valI p f a) → Ev (fun k => qq.l0 k p f a s n i) (valI p f a) := by
  intro i s n d h1 h2 h3 h4 h
  refine Ev.step (f := fun k => qq.l1 k p f a s n i i i) (fun k => ?_) ?_
  ·rw [qq.l0, if_pos (by omega)]
  ·refine qfc p f a i i hf ha (by omega) _ (d + 1) _ _ _ h3 h4 h2 (by omega) ?_
   rw [qa1 h2 (by omega)]
   exact h
 unfold qq.f
 refine step 0 0 0 3 (by omega) (by omega) (by omega) (by simp [tri]) ?_
 refine step 1 _ _ 2 (by omega) (by omega) (by rw [qd0]; omega) (by rw [qd0]; simp [tri]) ?_
 refine step 2 _ _ 1 (by omega) (by omega) (by simp only [qd0]; omega) (by simp only [qd0]; simp [tri]) ?_
 refine step 3 _ _ 0 (by omega) (by omega) (by simp only [qd0]; omega) (by simp only [qd0]; simp [tri]) ?_
 refine Ev.step (f := fun _ => some (valI p f a)) (fun k => ?_) (Ev.now _)
 rw [qq.l0, if_neg (by omega), if_neg hp]
 rfl
mutual
def za.l0 : Nat → List (S41) → Int → Option ((List (S41)))
 | 0, _, _ => none
 | k + 1, x1, x6 => if x6 < 4 then (za.l1 k x1 x6 x6 x6) else (some x1)
def za.l1 : Nat → List (S41) → Int → Int → Int → Option ((List (S41)))
 | 0, _, _, _, _ => none
 | k + 1, x1, x2, x3, x6 => if x3 < 4 then (za.l2 k x1 x2 x3 x3 x6) else (za.l0 k x1 (wrap64 (x6 + 1)))
def za.l2 : Nat → List (S41) → Int → Int → Int → Int → Option ((List (S41)))
 | 0, _, _, _, _, _ => none
 | k + 1, x1, x2, x3, x4, x6 => if x4 < 4 then (if x1.length < 5864062014805 then (za.l2 k (x1 ++ [(⟨x2, x3, x4⟩ : S41)]) x2 x3 (wrap64 (x4 + 1)) x6) else (none)) else (za.l1 k x1 x2 (wrap64 (x3 + 1)) x6)
end
def za.f (k : Nat)  : Option ((List (S41))) := za.l0 k (([] : List (S41))) 0
theorem za.mono_l : ∀ k, (∀ y0 y1, LeO (za.l0 k y0 y1) (za.l0 (k + 1) y0 y1)) ∧ (∀ y0 y1 y2 y3, LeO (za.l1 k y0 y1 y2 y3) (za.l1 (k + 1) y0 y1 y2 y3)) ∧ (∀ y0 y1 y2 y3 y4, LeO (za.l2 k y0 y1 y2 y3 y4) (za.l2 (k + 1) y0 y1 y2 y3 y4))
 | 0 => ⟨fun _ _ r h => by simp [za.l0] at h, fun _ _ _ _ r h => by simp [za.l1] at h, fun _ _ _ _ _ r h => by simp [za.l2] at h⟩
 | k + 1 => by
  obtain ⟨ih0, ih1, ih2⟩ := za.mono_l k
  refine ⟨?_, ?_, ?_⟩
  ·intro y0 y1
   unfold za.l0
   repeat' first | (with_reducible first | apply ih0 | apply ih1 | apply ih2 | exact LeO.refl _ | exact LeO.none _ | refine LeO.ite ?_ ?_ | refine LeO.bind ?_ (fun _ => ?_)) | (first | apply ih0 | apply ih1 | apply ih2 | exact LeO.none _ | refine LeO.ite ?_ ?_ | refine LeO.bind ?_ (fun _ => ?_))
  ·intro y0 y1 y2 y3
   unfold za.l1
   repeat' first | (with_reducible first | apply ih0 | apply ih1 | apply ih2 | exact LeO.refl _ | exact LeO.none _ | refine LeO.ite ?_ ?_ | refine LeO.bind ?_ (fun _ => ?_)) | (first | apply ih0 | apply ih1 | apply ih2 | exact LeO.none _ | refine LeO.ite ?_ ?_ | refine LeO.bind ?_ (fun _ => ?_))
  ·intro y0 y1 y2 y3 y4
   unfold za.l2
   repeat' first | (with_reducible first | apply ih0 | apply ih1 | apply ih2 | exact LeO.refl _ | exact LeO.none _ | refine LeO.ite ?_ ?_ | refine LeO.bind ?_ (fun _ => ?_)) | (first | apply ih0 | apply ih1 | apply ih2 | exact LeO.none _ | refine LeO.ite ?_ ?_ | refine LeO.bind ?_ (fun _ => ?_))
theorem za.mono : ∀ k, LeO (za.f k ) (za.f (k + 1) ) := by
 intro  k
 obtain ⟨ih0, ih1, ih2⟩ := za.mono_l k
 unfold za.f
 repeat' first | (with_reducible first | apply ih0 | apply ih1 | apply ih2 | exact LeO.refl _ | exact LeO.none _ | refine LeO.ite ?_ ?_ | refine LeO.bind ?_ (fun _ => ?_)) | (first | apply ih0 | apply ih1 | apply ih2 | exact LeO.none _ | refine LeO.ite ?_ ?_ | refine LeO.bind ?_ (fun _ => ?_))
theorem za.calls (k : Nat)  (r : List (S41)) (w : World) (h : za.f k  = some r) :
  Calls Try.prog 104 #[] w fun e w' => ∃ v0_ : Value, e = .returned (v0_) ∧ Kd.R k41 41 w' w.heap.size (fun _ => True) v0_ r ∧ Below w.heap.size w w' := by
 have hu41 := Try.underlying41
 have HB := am (Below.refl w.heap.size w)
 have H : (za.l0 k (([] : List (S41))) 0) = some r := h
 clear h
 generalize hy554 : (([] : List (S41))) = y554 at H
 have Ny554 := am hy554.symm; clear hy554; have H' := am H; clear H
 go_enter Try.func104, Try.ntmps104
 go_wp2_with (first | ((with_reducible refine q6 (N := 5) rfl ?_); refine Kd.R_lit k41 _ 41 ?hg (N := 5) ?hd (xs := ([] : List (S41))) (inner := []) (ok := fun _ => True) (okp := fun _ => True) ?hr ?hp (fun _ hk => hk) trivial (Below.refl _ _) (Nat.le_refl _) (by simp) ?_; (case hd => rfl); (case hg => rfl); (case hr => first | (go_simp; done) | (go_simp; rfl)); (case hp => exact (Reps.none _ _)); intro v555 w1 ho2 hb hg_ hnew_; clear hg_ hnew_; (first | rw [← Ny554.out] at ho2 | (simp only [Int.reduceToNat] at ho2; rw [← Ny554.out] at ho2)); have HO556 := am (Kd.R_lower ho2 (bz HB)); replace HB := bq HB hb; clear hb ho2))
 go_loopg [1, 6] k (fun kq v1 v6 w' => ∃ (x1_1 : List (S41)) (x6_1 : Int), v6 = .int .i64 x6_1 ∧ qb (za.l0 kq x1_1 x6_1 = some r) ∧ qb (kq ≤ k) ∧ qb (Kd.R k41 41 w' w.heap.size (fun _ => True) v1 x1_1) ∧ qb (Below w.heap.size w w'))
 case atStart => exact ⟨(y554), (0), fr, H', ⟨Nat.le_refl _⟩, ⟨wR HO556⟩, ⟨bw HB⟩⟩
 case round =>
  clear H'; try clear c1; try clear p2
  obtain ⟨x1_1, x6_1, rfl, HA, HK1, HO_1, HB⟩ := hrel
  cases gk with
  | zero => exact absurd HA.out (by simp [za.l0])
  | succ k1 =>
   have H := HA.out; clear HA
   simp only [za.l0] at H
   by_cases c3 : x6_1 < 4
   ·rw [if_pos c3] at H
    have c3b0 := decide_eq_true c3; clear c3; have H' := am H; clear H; go_wp2
    go_loopg [1, 3] k1 (fun kq v1 v3 w' => ∃ (x1_2 : List (S41)) (x3_2 : Int), v3 = .int .i64 x3_2 ∧ qb (za.l1 kq x1_2 x6_1 x3_2 x6_1 = some r) ∧ qb (kq ≤ k1) ∧ qb (Kd.R k41 41 w' w.heap.size (fun _ => True) v1 x1_2) ∧ qb (Below w.heap.size w w'))
    case atStart => exact ⟨(x1_1), (x6_1), fr, H', ⟨Nat.le_refl _⟩, ⟨wR HO_1⟩, ⟨bw HB⟩⟩
    case round =>
     clear H'; try clear c1; try clear p2; try clear c3; try clear c3b0; try clear p2
     obtain ⟨x1_2, x3_2, rfl, HA, HK2, HO_1, HB⟩ := hrel
     cases gk with
     | zero => exact absurd HA.out (by simp [za.l1])
     | succ k2 =>
      have H := HA.out; clear HA
      simp only [za.l1] at H
      by_cases c4 : x3_2 < 4
      ·rw [if_pos c4] at H
       have c4b0 := decide_eq_true c4; clear c4; have H' := am H; clear H; go_wp2
       go_loopg [1, 4] k2 (fun kq v1 v4 w' => ∃ (x1_3 : List (S41)) (x4_3 : Int), v4 = .int .i64 x4_3 ∧ qb (za.l2 kq x1_3 x6_1 x3_2 x4_3 x6_1 = some r) ∧ qb (kq ≤ k2) ∧ qb (Kd.R k41 41 w' w.heap.size (fun _ => True) v1 x1_3) ∧ qb (Below w.heap.size w w'))
       case atStart => exact ⟨(x1_2), (x3_2), fr, H', ⟨Nat.le_refl _⟩, ⟨wR HO_1⟩, ⟨bw HB⟩⟩
       case round =>
        clear H'; try clear c1; try clear p2; try clear c3; try clear c3b0; try clear c4; try clear c4b0; try clear p2
        obtain ⟨x1_3, x4_3, rfl, HA, HK3, HO_1, HB⟩ := hrel
        cases gk with
        | zero => exact absurd HA.out (by simp [za.l2])
        | succ k3 =>
         have H := HA.out; clear HA
         simp only [za.l2] at H
         by_cases c5 : x4_3 < 4
         ·rw [if_pos c5] at H
          have c5b0 := decide_eq_true c5; clear c5; replace H := ifn H; obtain ⟨c6, H⟩ := H; have LMc6 := am c6; clear c6
          generalize hy557 : (x1_3 ++ [(⟨x6_1, x3_2, x4_3⟩ : S41)] : List (S41)) = y557 at H
          have Ny557 := am hy557.symm; clear hy557; have H' := am H; clear H
          go_wp2_with (first | ((with_reducible refine jp (b := .append) (xs := #[.tmp 19, .tmp 24]) rfl ?_); at_builtin; refine Kd.R_append k41 (w0 := w) w.heap.size rfl (.tmp 19) (.tmp 24) 99 41 (.agg #[(.int .i64 0), (.int .i64 0), (.int .i64 0)]) 24 rfl Try.underlying99 qmw rfl (by decide) (by omega) u1 x1_3 (⟨x6_1, x3_2, x4_3⟩ : S41) [.int .i64 x6_1, .int .i64 x3_2, .int .i64 x4_3] (fun _ => True) (fun _ => False) rfl rfl ?aP (fun _ hk => hk.elim) ?aF ?aO ?aB ?aS ?aL ?_; (case aP => exact Zm _ _ _ (⟨x6_1, x3_2, x4_3⟩ : S41)); (case aB => exact (bw HB)); (case aF => exact (fun _ _ => trivial)); (case aO => exact (wR HO_1)); (case aS => exact (bz HB)); (case aL => have := LMc6.out; omega); intro v558 w7 ho hb hg hat; rw [← Ny557.out] at ho; replace HB := am (hb); have HO559 := am (ho); clear HO_1; clear ho hb hg hat))
          go_roundg k3
          case measure => have := HK1.out; have := HK2.out; have := HK3.out; omega
          case rel => exact ⟨(y557), (wrap64 (x4_3 + 1)), fr, H', ⟨by have := HK1.out; have := HK2.out; have := HK3.out; omega⟩, ⟨wR HO559⟩, ⟨bw HB⟩⟩
         ·rw [if_neg c5] at H
          have c5b0 := decide_eq_false c5; clear c5; have H' := am H; clear H; go_wp2
          go_roundg k3
          case measure => have := HK1.out; have := HK2.out; have := HK3.out; omega
          case rel => exact ⟨(x1_3), (wrap64 (x3_2 + 1)), fr, H', ⟨by have := HK1.out; have := HK2.out; have := HK3.out; omega⟩, ⟨wR HO_1⟩, ⟨bw HB⟩⟩
      ·rw [if_neg c4] at H
       have c4b0 := decide_eq_false c4; clear c4; have H' := am H; clear H; go_wp2
       go_roundg k2
       case measure => have := HK1.out; have := HK2.out; omega
       case rel => exact ⟨(x1_2), (wrap64 (x6_1 + 1)), fr, H', ⟨by have := HK1.out; have := HK2.out; omega⟩, ⟨wR HO_1⟩, ⟨bw HB⟩⟩
   ·rw [if_neg c3] at H
    have c3b0 := decide_eq_false c3; clear c3; obtain rfl := Option.some.inj H; go_wp2; go_ret
    exact ⟨_, fq, wR HO_1, bw HB⟩
end Go.Proofs.Ytmgbpmihbljngaa.PA

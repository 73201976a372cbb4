-- Written by xprint.py, a program of this claim's own (over the kit's print.py)
import Derived.Test.YtmgbpmihbljngaaPAx17
namespace Go.Proofs.Ytmgbpmihbljngaa.PA
set_option maxHeartbeats 8000000
set_option maxRecDepth 100000
open Go.RowKit Go.Proofs.YtmgbpmihbljngaaW.PrintWords Go.Proofs.YtmgbpmihbljngaaW.PrintLast Go.Proofs.YtmgbpmihbljngaaW.PrintMore
attribute [local go_sem] j8 j9 Qi Qj jw jy Qa Qb
set_option linter.unusedVariables false
set_option linter.unusedSimpArgs false
theorem qgr {w : World} {A : Option Addr} {n : Nat} {rows : List (List Int)} (h : Kd.C (Kd.slice 3 (Kd.int .i64)) w A n rows) (j : Nat) (hj : j < rows.length) : ∃ ad B c, A = some ad ∧ w.cell? (ad.add j) = some (.slice B (rows[j]).length c) ∧ (rows[j]).length ≤ c ∧ Kd.C (Kd.int .i64) w B (rows[j]).length rows[j] := by
 obtain ⟨hl, hm, hr⟩ := h
 obtain ⟨ad, rfl, hc⟩ := hr (by omega)
 obtain ⟨cs, _, ⟨B, c, rfl, h1, h2⟩, hcell⟩ := hc j _ (List.getElem?_eq_getElem hj)
 refine ⟨ad, B, c, rfl, ?_, h1, h2⟩
 have := hcell 0 (.slice B (rows[j]).length c) rfl
 simpa [Kd.slice] using this
theorem qjr {w : World} {A : Option Addr} {ca : Nat} {x : List Int} (hx : Kd.C (Kd.int .i64) w A x.length x) (hca : x.length ≤ ca) :
  Kd.C (Kd.slice 3 (Kd.int .i64)) (w.alloc (.cells #[.slice A x.length ca] 23)) (some ⟨w.heap.size, 0, none⟩) 1 [x] := by
 refine ⟨rfl, by omega, fun _ => ⟨⟨w.heap.size, 0, none⟩, rfl, fun j p hj => ?_⟩⟩
 have hb := qct w (.cells #[.slice A x.length ca] 23)
 match j, hj with
 | 0, hj =>
  simp at hj
  subst hj
  refine ⟨[.slice A x.length ca], rfl, ⟨A, ca, rfl, hca, Kd.C_alloc hx _⟩, fun i u hu => ?_⟩
  match i, hu with
  | 0, hu => simp at hu; subst hu; rw [qau]; exact (qa hb _).trans rfl
def Qp.f (k : Nat) (a0 : Int) (l1 : List Int) : Option (List Int) := (z9.f k a0 [l1]).bind fun t => some (t.headD [])
theorem Qp.mono : ∀ a0 a1 k, LeO (Qp.f k a0 a1) (Qp.f (k + 1) a0 a1) := by
 intro a0 a1 k
 unfold Qp.f
 exact LeO.bind (z9.mono _ _ _) fun _ => LeO.refl _
theorem Qp.calls (k : Nat) (a0 : Int) (A1 : Option Addr) (c1 : Nat) (l1 : List Int) (r : List Int) (w : World) (hr1 : Kd.C (Kd.int .i64) w A1 l1.length l1) (hc1 : l1.length ≤ c1) (h : Qp.f k a0 l1 = some r) :
  Calls Try.prog 121 #[.int .i64 a0, .slice A1 l1.length c1] w fun e w' => ∃ v0 : Value, e = .returned v0 ∧ Kd.R (Kd.int .i64) 3 w' w.heap.size (fun _ => True) v0 r ∧ Below w.heap.size w w' := by
 obtain ⟨t, hred, h'⟩ := Option.bind_eq_some_iff.1 h
 clear h
 have HRED := Lib.hid hred
 have HL1 := Lib.hid (qjr hr1 hc1)
 have H := Lib.hid h'
 clear hred hr1 hc1 h'
 go_enter Try.func121, Try.ntmps121
 go_wp2_with fail
 refine (z9.calls k a0 _ 1 [l1] t _ HL1.out (Nat.le_refl _) HRED.out).mono ?_
 rintro e w2 ⟨v0, rfl, hS, hb⟩
 have HB : Hid (Below w.heap.size w w2) := Lib.hid (qo (zo (Below.refl _ _) _) hb)
 have HS := Lib.hid (Kd.S_lower hS (show w.heap.size ≤ _ by simp))
 clear hS hb
 obtain ⟨Ao, co, eo⟩ := Kd.S_slice HS.out
 subst eo
 by_cases hz : t.length = 0
 ·have e0 : t = [] := List.eq_nil_of_length_eq_zero hz
  subst e0
  obtain rfl : r = [] := by have h := H.out; simpa using h.symm
  clear hz
  have z1 : (([] : List (List Int)).length) = 0 := rfl
  rw [z1]
  go_wp2; go_ret
  exact ⟨_, rfl, Kd.R_nil _ _ _ _ _, HB.out⟩
 ·have hpos : 0 < t.length := by omega
  obtain ⟨ad, B, c, e, hx, hlc, hC⟩ := qgr (Kd.S_reads' HS.out).2.2 0 hpos
  subst e
  obtain ⟨ce, hce, hMe, hcc⟩ := Kd.S_get HS.out [] 0 (by omega) (by omega)
  obtain ⟨ve, rfl, ge⟩ := hMe
  have hv := hcc 0 _ rfl
  rw [Nat.add_zero, show ((Kd.slice 3 (Kd.int .i64))).sz = 1 from rfl, Nat.mul_one] at hv
  replace hv := Option.some.inj (hv.symm.trans hx)
  rw [hv] at ge
  have er : t.getD 0 [] = r := by
   have h := H.out
   match t, hpos with
   | x :: t, _ => simpa using h
  have HR : Hid (Kd.R (Kd.int .i64) 3 w2 w.heap.size (fun _ => True) (.slice B (t[0]).length c) r) := Lib.hid (by
   have g := Kd.R_mono (ok' := fun _ => True) ge (fun _ _ => trivial)
   rw [← er]; exact g)
  have hz1 : ((t.length : Int) == 0) = false := by simpa using hz
  have hz2 : decide (0 < t.length) = true := decide_eq_true hpos
  have hz3 : (0 < t.length) = True := eq_true hpos
  rw [Addr.add_zero'] at hx
  clear hcc hce hv ge hC hlc hz er; go_wp2; go_ret
  exact ⟨_, rfl, HR.out, HB.out⟩
def zy.l0 : Nat → Int → List Int → List (List Int) → Int → Int → Int → Int → Int → Option (List Int)
 | 0, _, _, _, _, _, _, _, _ => none
 | k + 1, x0, x7, x11, x12, x13, x446000, x446001, x446002 => if x13 < x12 then (if 0 ≤ x13 then (if x13 < (x11.length : Int) then ((zf.f k x446000 x446001 x446002).bind fun t450 => ((jc.f k x0 (jl x11 x13) t450).bind fun t453 => (if x7.length < 17592186044416 then (zy.l0 k x0 (x7 ++ [t453]) x11 x12 (wrap64 (x13 + 1)) x446000 x446001 x446002) else (none)))) else (none)) else (none)) else ((Qp.f k x0 x7).bind fun t457 => (some t457))
def zy.f (k : Nat) (a0 : Int) (l1 : List (List Int)) (a2_0 : Int) (a2_1 : Int) (a2_2 : Int) : Option (List Int) := zy.l0 k a0 (([] : List Int)) l1 (l1.length : Int) 0 a2_0 a2_1 a2_2
theorem zy.mono_l : ∀ k, (∀ y0 y1 y2 y3 y4 y5 y6 y7, LeO (zy.l0 k y0 y1 y2 y3 y4 y5 y6 y7) (zy.l0 (k + 1) y0 y1 y2 y3 y4 y5 y6 y7))
 | 0 => fun _ _ _ _ _ _ _ _ r h => by simp [zy.l0] at h
 | k + 1 => by
  have ih0 := zy.mono_l k
  ·intro y0 y1 y2 y3 y4 y5 y6 y7
   unfold zy.l0
   repeat' first | (with_reducible first | apply ih0 | apply zf.mono | apply jc.mono | apply Qp.mono | exact LeO.refl _ | exact LeO.none _ | refine LeO.ite ?_ ?_ | refine LeO.bind ?_ (fun _ => ?_)) | (first | apply ih0 | apply zf.mono | apply jc.mono | apply Qp.mono | exact LeO.none _ | refine LeO.ite ?_ ?_ | refine LeO.bind ?_ (fun _ => ?_))
theorem zy.mono : ∀ a0 a1 a2 a3 a4 k, LeO (zy.f k a0 a1 a2 a3 a4) (zy.f (k + 1) a0 a1 a2 a3 a4) := by
 intro a0 a1 a2 a3 a4 k
 have ih0 := zy.mono_l k
 unfold zy.f
 repeat' first | (with_reducible first | apply ih0 | apply zf.mono | apply jc.mono | apply Qp.mono | exact LeO.refl _ | exact LeO.none _ | refine LeO.ite ?_ ?_ | refine LeO.bind ?_ (fun _ => ?_)) | (first | apply ih0 | apply zf.mono | apply jc.mono | apply Qp.mono | exact LeO.none _ | refine LeO.ite ?_ ?_ | refine LeO.bind ?_ (fun _ => ?_))
theorem zy.calls (k : Nat) (a0 : Int) (A1 : Option Addr) (c1 : Nat) (l1 : List (List Int)) (a2_0 : Int) (a2_1 : Int) (a2_2 : Int) (r : List Int) (w : World) (hr1 : Kd.C (Kd.slice 3 (Kd.int .i64)) w A1 l1.length l1) (hc1 : l1.length ≤ c1) (h : zy.f k a0 l1 a2_0 a2_1 a2_2 = some r) :
  Calls Try.prog 75 #[.int .i64 a0, .slice A1 l1.length c1, .agg #[.int .i64 a2_0, .int .i64 a2_1, .int .i64 a2_2]] w fun e w' => ∃ v0_ : Value, e = .returned (v0_) ∧ Kd.R (Kd.int .i64) 3 w' w.heap.size (fun _ => True) v0_ r ∧ Below w.heap.size w w' := by
 have hu43 := Try.underlying43
 have HR1 := am hr1
 have HC1 := am hc1
 clear hr1 hc1
 have HB := am (Below.refl w.heap.size w)
 have H : (zy.l0 k a0 (([] : List Int)) l1 (l1.length : Int) 0 a2_0 a2_1 a2_2) = some r := h
 clear h
 generalize hy446 : (([] : List Int)) = y446 at H
 have Ny446 := am hy446.symm; clear hy446; have H' := am H; clear H
 go_enter Try.func75, Try.ntmps75
 go_wp2_with (first | ((with_reducible refine q6 (N := 5) rfl ?_); refine xe_ 5 43 #[.int .i64 a2_0, .int .i64 a2_1, .int .i64 a2_2] ?_; intro gb445 hg w4 hbox hb; have BK445 := am (hbox); have GW445 := am ((by rw [hg]; exact (bz HB) : w.heap.size ≤ gb445)); have GE445 := am ((by rw [hg]; exact (bz HB) : w.heap.size ≤ gb445)); replace HB := bq HB hb; clear hb hbox hg) | ((with_reducible refine q6 (N := 10) rfl ?_); refine li 3 ([] : List Int) ?_; intro v447 w5 ho6 hb; (first | rw [← Ny446.out] at ho6 | (simp only [Int.reduceToNat] at ho6; rw [← Ny446.out] at ho6)); have HO448 := am (Kd.R_lower ho6 (q4 (bx_ HB))); replace BK445 := am (qp (g := gb445) (o := .cells #[.int .i64 a2_0, .int .i64 a2_1, .int .i64 a2_2] 43 (0, 0)) (pk_ BK445) hb); replace HB := am (qo (bx_ HB) hb); clear hb ho6))
 go_loopg [7, 13] k (fun kq v7 v13 w' => ∃ (x7_1 : List Int) (x13_1 : Int), v13 = .int .i64 x13_1 ∧ qb (zy.l0 kq a0 x7_1 l1 (l1.length : Int) x13_1 a2_0 a2_1 a2_2 = some r) ∧ qb (kq ≤ k) ∧ qb (Kd.R (Kd.int .i64) 3 w' w.heap.size (fun _ => True) v7 x7_1) ∧ qb (w'.heap[gb445]? = some (.cells #[.int .i64 a2_0, .int .i64 a2_1, .int .i64 a2_2] 43 (0, 0))) ∧ qb (Below w.heap.size w w'))
 case atStart => exact ⟨(y446), (0), fr, H', ⟨Nat.le_refl _⟩, ⟨wR HO448⟩, ⟨by (with_reducible repeat (first | refine qf ?_ _ | refine qh ?_ | refine qe ?_ _)); exact BK445.out⟩, ⟨bx_ HB⟩⟩
 case round =>
  clear H'; try clear c1; try clear p2
  obtain ⟨x7_1, x13_1, rfl, HA, HK1, HO_7, BK445, HB⟩ := hrel
  cases gk with
  | zero => exact absurd HA.out (by simp [zy.l0])
  | succ k1 =>
   have H := HA.out; clear HA
   simp only [zy.l0] at H
   by_cases c7 : x13_1 < (l1.length : Int)
   ·rw [if_pos c7] at H
    have c7b0 := decide_eq_true c7; clear c7; replace H := ifn H; obtain ⟨c8, H⟩ := H; have c8b0 := decide_eq_true c8; clear c8; replace H := ifn H; obtain ⟨c9, H⟩ := H; have c9b0 := decide_eq_true c9; clear c9; replace H := bs H; obtain ⟨t450, A10, H⟩ := H
    replace H := bs H; obtain ⟨t453, A11, H⟩ := H; replace H := ifn H; obtain ⟨c12, H⟩ := H; have LMc12 := am c12; clear c12
    generalize hy454 : (x7_1 ++ [t453] : List Int) = y454 at H
    have Ny454 := am hy454.symm; clear hy454; have H' := am H; clear H
    have p449 : 0 ≤ (x13_1 : Int) := od
    have q449 : x13_1 < (l1.length : Int) := od
    obtain ⟨ad449, A449_0, c449_0, e449, hx449_0, hl449_0, hi449_0⟩ := qad HR1.out x13_1 p449 q449
    cases e449
    replace hx449_0 := wcl HB hx449_0
    have HR449_0 := am hi449_0
    have HC449_0 := am hl449_0
    clear hi449_0 hl449_0; replace p449 := eq_true p449; replace q449 := eq_true q449
    have hcz13_0 : wr.cell? ⟨gb445, 0, none⟩ = some (.int .i64 a2_0) := (qa BK445.out 0).trans rfl
    have hcz13_1 : wr.cell? ⟨gb445, 1, none⟩ = some (.int .i64 a2_1) := (qa BK445.out 1).trans rfl
    have hcz13_2 : wr.cell? ⟨gb445, 2, none⟩ = some (.int .i64 a2_2) := (qa BK445.out 2).trans rfl
    have hfz13_0 := qg BK445.out 0
    have hfz13_1 := qg BK445.out 1
    have hfz13_2 := qg BK445.out 2
    go_wp2_with (first | ((with_reducible refine qj (f := 82) rfl ?_); refine gl 21 Try.func82 #[.agg #[.int .i64 a2_0, .int .i64 a2_1, .int .i64 a2_2]] ?_; (with_reducible refine (zf.calls k1 a2_0 a2_1 a2_2 t450 _ A10.out).mono ?_); rintro e w14 ⟨v451, rfl, ho0, hb⟩; refine ⟨_, rfl, ?_⟩; have HO452 := am (Kd.R_lower (Kd.R_new' ho0 (Kd.R_lt (wR HO_7))) (q4 (bx_ HB))); replace HO_7 := eR HO_7 (Kd.R_base ho0) hb; replace BK445 := am (qp (g := gb445) (o := .cells #[.int .i64 a2_0, .int .i64 a2_1, .int .i64 a2_2] 43 (0, 0)) (pk_ BK445) hb); replace HB := am (qo (bx_ HB) hb); (try clear hb); (try clear ho0); obtain ⟨Ao15, co15, eo15⟩ := Kd.R_slice HO452.out; subst eo15) | ((with_reducible refine qj (f := 81) rfl ?_); refine gl 22 Try.func81 #[.int .i64 a0, .slice A449_0 (jl l1 x13_1).length c449_0, .slice Ao15 t450.length co15] ?_; (with_reducible refine (jc.calls k1 a0 _ _ (jl l1 x13_1) _ _ t450 t453 _ ?_ ?_ ?_ ?_ A11.out).mono ?_); exact Kd.C_below (Kd.C_below HR449_0.out HB.out) gs; exact HC449_0.out; exact Kd.C_below (Kd.R_reads' HO452.out).2.2 gs; exact (Kd.R_reads' HO452.out).2.1; rintro e w' ⟨rfl, ⟨nd, rfl⟩⟩; refine ⟨_, rfl, ?_⟩) | ((with_reducible refine jp (b := .append) (xs := #[.tmp 17, .tmp 23]) rfl ?_); at_builtin; refine Kd.R_append (Kd.int .i64) (w0 := w) w.heap.size rfl (.tmp 17) (.tmp 23) 23 3 (.int .i64 0) 8 rfl Try.underlying23 qag rfl (by decide) (by omega) u7 x7_1 t453 [.int .i64 t453] (fun k_ => some k_ ≠ (.slice Ao15 t450.length co15 : Value).ownBlock) (fun _ => False) rfl rfl ?aP (fun _ hk => hk.elim) ?aF ?aO ?aB ?aS ?aL ?_; (case aP => exact rfl); (case aB => exact (bx_ HB)); (case aF => exact (fun k_ hk => Kd.fresh' (Kd.R_lt (wR HO452)) k_ hk)); (case aO => exact (oR_ HO_7 (fun _ hk => hk.2))); (case aS => exact (q4 (bx_ HB))); (case aL => have := LMc12.out; omega); intro v455 w16 ho hb hg hat; rw [← Ny454.out] at ho; replace BK445 := am (Qe (g := gb445) (o := .cells #[.int .i64 a2_0, .int .i64 a2_1, .int .i64 a2_2] 43 (0, 0)) (pk_ BK445) hg (Kd.R_ne HO_7.out BK445.out (by decide))); replace HO452 := am (Kd.R_after (ok := (fun _ => True)) (wR HO452) hg hat); replace HB := am (hb); have HO456 := am (ho); clear HO_7; clear ho hb hg hat))
    go_roundg k1
    case measure => have := HK1.out; omega
    case rel => exact ⟨(y454), (wrap64 (x13_1 + 1)), fr, H', ⟨by have := HK1.out; omega⟩, ⟨Kd.R_below (Kd.R_mono HO456.out (fun _ hk => trivial)) gs⟩, ⟨by (with_reducible repeat (first | refine qf ?_ _ | refine qh ?_ | refine qe ?_ _)); exact BK445.out⟩, ⟨bx_ HB⟩⟩
   ·rw [if_neg c7] at H
    have c7b0 := decide_eq_false c7; clear c7; replace H := bs H; obtain ⟨t457, A17, H⟩ := H; obtain rfl := Option.some.inj H
    obtain ⟨Ao18, co18, eo18⟩ := Kd.R_slice HO_7.out
    subst eo18
    go_wp2_with (first | ((with_reducible refine qj (f := 121) rfl ?_); refine gl 28 Try.func121 #[.int .i64 a0, .slice Ao18 x7_1.length co18] ?_; (with_reducible refine (Qp.calls k1 a0 _ _ x7_1 t457 _ ?_ ?_ A17.out).mono ?_); exact Kd.C_below (Kd.R_reads' HO_7.out).2.2 gs; exact (Kd.R_reads' HO_7.out).2.1; rintro e w19 ⟨v458, rfl, ho0, hb⟩; refine ⟨_, rfl, ?_⟩; have HO459 := am (Kd.R_lower (Kd.R_new' ho0 (Kd.R_lt (wR HO_7))) (q4 (bx_ HB))); replace HO_7 := eR HO_7 (Kd.R_base ho0) hb; replace BK445 := am (qp (g := gb445) (o := .cells #[.int .i64 a2_0, .int .i64 a2_1, .int .i64 a2_2] 43 (0, 0)) (pk_ BK445) hb); replace HB := am (qo (bx_ HB) hb); (try clear hb); (try clear ho0)))
    go_ret
    exact ⟨_, fq, Kd.R_below (Kd.R_mono HO459.out (fun _ hk => trivial)) gs, bx_ HB⟩
def qu.j0 : Nat → Int → List (S43) → Bool → Int → Int → Int → Option (List Int × Bool)
 | 0, _, _, _, _, _, _ => none
 | k + 1, x0, x1, x23, x461000, x461001, x461002 => if x23 = true then (some (([] : List Int), false)) else ((zm.f k x0 x1).bind fun t464 => ((zy.f k x0 t464 x461000 x461001 x461002).bind fun t467 => (some (t467, decide ((t467.length : Int) > 0)))))
def qu.f (k : Nat) (a0 : Int) (l1 : List (S43)) (a2_0 : Int) (a2_1 : Int) (a2_2 : Int) : Option (List Int × Bool) := (zi.f k a0 l1).bind fun t461 => (if t461 = true then ((Qf.f a0 a2_0 a2_1 a2_2).bind fun t462 => (if t462 = true then ((j3.f k l1 a2_0 a2_1 a2_2).bind fun t463 => (qu.j0 k a0 l1 t463 a2_0 a2_1 a2_2)) else (qu.j0 k a0 l1 true a2_0 a2_1 a2_2))) else (qu.j0 k a0 l1 true a2_0 a2_1 a2_2))
theorem qu.mono_l : ∀ k, (∀ y0 y1 y2 y3 y4 y5, LeO (qu.j0 k y0 y1 y2 y3 y4 y5) (qu.j0 (k + 1) y0 y1 y2 y3 y4 y5))
 | 0 => fun _ _ _ _ _ _ r h => by simp [qu.j0] at h
 | k + 1 => by
  have ih0 := qu.mono_l k
  ·intro y0 y1 y2 y3 y4 y5
   unfold qu.j0
   repeat' first | (with_reducible first | apply ih0 | apply j3.mono | apply zi.mono | apply zm.mono | apply zy.mono | exact LeO.refl _ | exact LeO.none _ | refine LeO.ite ?_ ?_ | refine LeO.bind ?_ (fun _ => ?_)) | (first | apply ih0 | apply j3.mono | apply zi.mono | apply zm.mono | apply zy.mono | exact LeO.none _ | refine LeO.ite ?_ ?_ | refine LeO.bind ?_ (fun _ => ?_))
theorem qu.mono : ∀ a0 a1 a2 a3 a4 k, LeO (qu.f k a0 a1 a2 a3 a4) (qu.f (k + 1) a0 a1 a2 a3 a4) := by
 intro a0 a1 a2 a3 a4 k
 have ih0 := qu.mono_l k
 unfold qu.f
 repeat' first | (with_reducible first | apply ih0 | apply j3.mono | apply zi.mono | apply zm.mono | apply zy.mono | exact LeO.refl _ | exact LeO.none _ | refine LeO.ite ?_ ?_ | refine LeO.bind ?_ (fun _ => ?_)) | (first | apply ih0 | apply j3.mono | apply zi.mono | apply zm.mono | apply zy.mono | exact LeO.none _ | refine LeO.ite ?_ ?_ | refine LeO.bind ?_ (fun _ => ?_))
theorem qu.calls (k : Nat) (a0 : Int) (A1 : Option Addr) (c1 : Nat) (l1 : List (S43)) (a2_0 : Int) (a2_1 : Int) (a2_2 : Int) (r1 : List Int) (r2 : Bool) (w : World) (hr1 : Kd.C k43 w A1 l1.length l1) (hc1 : l1.length ≤ c1) (h : qu.f k a0 l1 a2_0 a2_1 a2_2 = some (r1, r2)) :
  Calls Try.prog 29 #[.int .i64 a0, .slice A1 l1.length c1, .agg #[.int .i64 a2_0, .int .i64 a2_1, .int .i64 a2_2]] w fun e w' => ∃ v0_ : Value, e = .returned (.tuple #[v0_, .bool r2]) ∧ Kd.R (Kd.int .i64) 3 w' w.heap.size (fun _ => True) v0_ r1 ∧ Below w.heap.size w w' := by
 have hu43 := Try.underlying43
 have HR1 := am hr1
 have HC1 := am hc1
 clear hr1 hc1
 have HB := am (Below.refl w.heap.size w)
 have H : ((zi.f k a0 l1).bind fun t461 => (if t461 = true then ((Qf.f a0 a2_0 a2_1 a2_2).bind fun t462 => (if t462 = true then ((j3.f k l1 a2_0 a2_1 a2_2).bind fun t463 => (qu.j0 k a0 l1 t463 a2_0 a2_1 a2_2)) else (qu.j0 k a0 l1 true a2_0 a2_1 a2_2))) else (qu.j0 k a0 l1 true a2_0 a2_1 a2_2))) = some (r1, r2) := h
 clear h
 have HC4 := am H
 clear H
 go_enter Try.func29, Try.ntmps29
 go_upto_region 1 with (first | ((with_reducible refine q6 (N := 5) rfl ?_); refine xe_ 5 43 #[.int .i64 a2_0, .int .i64 a2_1, .int .i64 a2_2] ?_; intro gb460 hg w5 hbox hb; have BK460 := am (hbox); have GW460 := am ((by rw [hg]; exact (bz HB) : w.heap.size ≤ gb460)); have GE460 := am ((by rw [hg]; exact (bz HB) : w.heap.size ≤ gb460)); replace HB := bq HB hb; clear hb hbox hg))
 (try simp only [Act.put, List.setIfInBounds_toArray, List.set_cons_zero, List.set_cons_succ])
 go_cut [23] (fun v23 wc => ∃ (kq : Nat) (x23_3 : Bool), v23 = .bool x23_3 ∧ qb (qu.j0 kq a0 l1 x23_3 a2_0 a2_1 a2_2 = some (r1, r2)) ∧ qb (kq ≤ k) ∧ qb (wc.heap[gb460]? = some (.cells #[.int .i64 a2_0, .int .i64 a2_1, .int .i64 a2_2] 43 (0, 0))) ∧ qb (Below w.heap.size w wc))
 case first =>
  have H := HC4.out
  clear HC4; replace H := bs H; obtain ⟨t461, A6, H⟩ := H
  by_cases c7 : t461 = true
  ·subst c7
   rw [if_pos rfl] at H
   replace H := bs H; obtain ⟨t462, A8, H⟩ := H
   by_cases c9 : t462 = true
   ·subst c9
    rw [if_pos rfl] at H
    replace H := bs H; obtain ⟨t463, A10, H⟩ := H; have H' := am H; clear H
    go_wp2_with (first | ((with_reducible refine qj (f := 65) rfl ?_); refine gl 11 Try.func65 #[.int .i64 a0, .slice A1 l1.length c1] ?_; (with_reducible refine (zi.calls k a0 _ _ l1 true _ ?_ ?_ A6.out).mono ?_); exact Kd.C_below HR1.out (bw HB); exact HC1.out; rintro e w11 ⟨rfl, hb⟩; refine ⟨_, rfl, ?_⟩; replace BK460 := am (qp (g := gb460) (o := .cells #[.int .i64 a2_0, .int .i64 a2_1, .int .i64 a2_2] 43 (0, 0)) (pk_ BK460) hb); replace HB := am (qo (bx_ HB) hb); (try clear hb); have hcz12_0 : w11.cell? ⟨gb460, 0, none⟩ = some (.int .i64 a2_0) := (qa BK460.out 0).trans rfl; have hcz12_1 : w11.cell? ⟨gb460, 1, none⟩ = some (.int .i64 a2_1) := (qa BK460.out 1).trans rfl; have hcz12_2 : w11.cell? ⟨gb460, 2, none⟩ = some (.int .i64 a2_2) := (qa BK460.out 2).trans rfl; have hfz12_0 := qg BK460.out 0; have hfz12_1 := qg BK460.out 1; have hfz12_2 := qg BK460.out 2) | (go_at_call 73; (with_reducible refine (Qf.calls a0 a2_0 a2_1 a2_2 true _ A8.out).mono ?_); rintro e w13 ⟨rfl, hb⟩; replace BK460 := am (qp (g := gb460) (o := .cells #[.int .i64 a2_0, .int .i64 a2_1, .int .i64 a2_2] 43 (0, 0)) (pk_ BK460) hb); replace HB := am (qo (bx_ HB) hb); (try clear hb); have hcz14_0 : w13.cell? ⟨gb460, 0, none⟩ = some (.int .i64 a2_0) := (qa BK460.out 0).trans rfl; have hcz14_1 : w13.cell? ⟨gb460, 1, none⟩ = some (.int .i64 a2_1) := (qa BK460.out 1).trans rfl; have hcz14_2 : w13.cell? ⟨gb460, 2, none⟩ = some (.int .i64 a2_2) := (qa BK460.out 2).trans rfl; have hfz14_0 := qg BK460.out 0; have hfz14_1 := qg BK460.out 1; have hfz14_2 := qg BK460.out 2) | (go_at_call 74; (with_reducible refine (j3.calls k _ _ l1 a2_0 a2_1 a2_2 t463 _ ?_ ?_ A10.out).mono ?_); exact Kd.C_below HR1.out (bw HB); exact HC1.out; rintro e w15 ⟨rfl, hb⟩; replace BK460 := am (qp (g := gb460) (o := .cells #[.int .i64 a2_0, .int .i64 a2_1, .int .i64 a2_2] 43 (0, 0)) (pk_ BK460) hb); replace HB := am (qo (bx_ HB) hb); (try clear hb)))
    go_meet
    case rel => exact ⟨_, (t463), fr, H', ⟨by first | omega | exact Nat.le_refl _⟩, ⟨by (with_reducible repeat (first | refine qf ?_ _ | refine qh ?_ | refine qe ?_ _)); exact BK460.out⟩, ⟨bx_ HB⟩⟩
   ·replace c9 := Bool.eq_false_iff.mpr c9
    subst c9
    rw [if_neg (show ¬ (false = true) by decide)] at H
    have H' := am H; clear H
    go_wp2_with (first | ((with_reducible refine qj (f := 65) rfl ?_); refine gl 11 Try.func65 #[.int .i64 a0, .slice A1 l1.length c1] ?_; (with_reducible refine (zi.calls k a0 _ _ l1 true _ ?_ ?_ A6.out).mono ?_); exact Kd.C_below HR1.out (bw HB); exact HC1.out; rintro e w16 ⟨rfl, hb⟩; refine ⟨_, rfl, ?_⟩; replace BK460 := am (qp (g := gb460) (o := .cells #[.int .i64 a2_0, .int .i64 a2_1, .int .i64 a2_2] 43 (0, 0)) (pk_ BK460) hb); replace HB := am (qo (bx_ HB) hb); (try clear hb); have hcz17_0 : w16.cell? ⟨gb460, 0, none⟩ = some (.int .i64 a2_0) := (qa BK460.out 0).trans rfl; have hcz17_1 : w16.cell? ⟨gb460, 1, none⟩ = some (.int .i64 a2_1) := (qa BK460.out 1).trans rfl; have hcz17_2 : w16.cell? ⟨gb460, 2, none⟩ = some (.int .i64 a2_2) := (qa BK460.out 2).trans rfl; have hfz17_0 := qg BK460.out 0; have hfz17_1 := qg BK460.out 1; have hfz17_2 := qg BK460.out 2) | (go_at_call 73; (with_reducible refine (Qf.calls a0 a2_0 a2_1 a2_2 false _ A8.out).mono ?_); rintro e w18 ⟨rfl, hb⟩; replace BK460 := am (qp (g := gb460) (o := .cells #[.int .i64 a2_0, .int .i64 a2_1, .int .i64 a2_2] 43 (0, 0)) (pk_ BK460) hb); replace HB := am (qo (bx_ HB) hb); (try clear hb)))
    go_meet
    case rel => exact ⟨_, (true), fr, H', ⟨by first | omega | exact Nat.le_refl _⟩, ⟨by (with_reducible repeat (first | refine qf ?_ _ | refine qh ?_ | refine qe ?_ _)); exact BK460.out⟩, ⟨bx_ HB⟩⟩
  ·replace c7 := Bool.eq_false_iff.mpr c7
   subst c7
   rw [if_neg (show ¬ (false = true) by decide)] at H
   have H' := am H; clear H
   go_wp2_with (first | ((with_reducible refine qj (f := 65) rfl ?_); refine gl 11 Try.func65 #[.int .i64 a0, .slice A1 l1.length c1] ?_; (with_reducible refine (zi.calls k a0 _ _ l1 false _ ?_ ?_ A6.out).mono ?_); exact Kd.C_below HR1.out (bw HB); exact HC1.out; rintro e w19 ⟨rfl, hb⟩; refine ⟨_, rfl, ?_⟩; replace BK460 := am (qp (g := gb460) (o := .cells #[.int .i64 a2_0, .int .i64 a2_1, .int .i64 a2_2] 43 (0, 0)) (pk_ BK460) hb); replace HB := am (qo (bx_ HB) hb); (try clear hb)))
   go_meet
   case rel => exact ⟨_, (true), fr, H', ⟨by first | omega | exact Nat.le_refl _⟩, ⟨by (with_reducible repeat (first | refine qf ?_ _ | refine qh ?_ | refine qe ?_ _)); exact BK460.out⟩, ⟨bx_ HB⟩⟩
 case rest =>
  clear HC4; try clear c1; try clear c2; try clear p2; try clear c6; try clear c7; try clear c9; try clear hcz12_0; try clear hcz12_1; try clear hcz12_2; try clear hcz14_0; try clear hcz14_1; try clear hcz14_2; try clear hcz17_0; try clear hcz17_1
  try clear hcz17_2; try clear hfz12_0; try clear hfz12_1; try clear hfz12_2; try clear hfz14_0; try clear hfz14_1; try clear hfz14_2; try clear hfz17_0; try clear hfz17_1; try clear hfz17_2
  obtain ⟨kq, x23_3, rfl, HA, HJ3, BK460, HB⟩ := hcut
  cases kq with
  | zero => exact absurd HA.out (by simp [qu.j0])
  | succ kj3 =>
   have H := HA.out; clear HA
   simp only [qu.j0] at H
   by_cases c20 : x23_3 = true
   ·subst c20
    rw [if_pos rfl] at H
    simp only [Option.some.injEq, Prod.mk.injEq] at H
    obtain ⟨rfl, rfl⟩ := H; go_wp2
    go_ret2
    exact ⟨_, fq, by first | exact Kd.R_nil _ _ _ _ _ | exact Kd.N_nil _ _ _ _ _ | exact Kd.V_nil _ _ _ _ _ | exact Kd.Q_nil _ _ _ _ _ | exact Kd.S_nil _ _ _ _ _, bx_ HB⟩
   ·replace c20 := Bool.eq_false_iff.mpr c20
    subst c20
    rw [if_neg (show ¬ (false = true) by decide)] at H
    replace H := bs H; obtain ⟨t464, A21, H⟩ := H; replace H := bs H; obtain ⟨t467, A22, H⟩ := H
    simp only [Option.some.injEq, Prod.mk.injEq] at H
    obtain ⟨rfl, rfl⟩ := H
    try go_wp2
    replace BK460 := am (qh BK460.out)
    replace HB := am (zc HB.out)
    refine qgz (n := 7) (S := fun w' => w'.cell? ⟨gb460, 0, none⟩ = some (.int .i64 a2_0) ∧ w'.cell? ⟨gb460, 1, none⟩ = some (.int .i64 a2_1) ∧ w'.cell? ⟨gb460, 2, none⟩ = some (.int .i64 a2_2)) (ds := []) #[false, false, false, false, false, false, false] (by kernel_rfl) rfl rfl ⟨(qa BK460.out 0).trans rfl, (qa BK460.out 1).trans rfl, (qa BK460.out 2).trans rfl⟩ (fun hHeld => ?_)
    generalize wc.drew = w23 at BK460 HB hHeld ⊢
    refine qae (i := 0) (N := some 24) (v := ?_) (a' := ?_) #[true, false, false, false, false, false, false] rfl rfl (by kernel_rfl) (fun _ _ _ h => h) (Or.inl ⟨by rfl, ?_⟩) ?_ ?_
    rotate_left
    ·intro w'
     go_simp
     with_reducible rfl
    rotate_left
    ·simp only [Act.put, List.setIfInBounds_toArray, List.set_cons_zero, List.set_cons_succ, Qx, Q2]
     rfl
    refine qae (i := 1) (N := some 25) (v := ?_) (a' := ?_) #[true, true, false, false, false, false, false] rfl rfl (by kernel_rfl) (fun _ _ _ h => h) (Or.inl ⟨by rfl, ?_⟩) ?_ ?_
    rotate_left
    ·intro w'
     go_simp
     with_reducible rfl
    rotate_left
    ·simp only [Act.put, List.setIfInBounds_toArray, List.set_cons_zero, List.set_cons_succ, Qx, Q2]
     rfl
    refine qae (i := 2) (N := some 26) (v := ?_) (a' := ?_) #[true, true, true, false, false, false, false] rfl rfl (by kernel_rfl) (fun _ _ _ h => h) (Or.inl ⟨by rfl, ?_⟩) ?_ ?_
    rotate_left
    ·intro w'
     go_simp
     with_reducible rfl
    rotate_left
    ·simp only [Act.put, List.setIfInBounds_toArray, List.set_cons_zero, List.set_cons_succ, Qx, Q2]
     rfl
    refine take_ (i := 4) (N := some 28) (v := ?_) (a' := ?_) #[true, true, true, false, true, false, false] rfl rfl (by kernel_rfl) (fun _ _ _ h => h) (Or.inl ⟨by rfl, ?_⟩) hHeld ?_ ?_
    rotate_left
    ·rintro w' ⟨s0, s1, s2⟩
     go_simp
     with_reducible rfl
    rotate_left
    ·simp only [Act.put, List.setIfInBounds_toArray, List.set_cons_zero, List.set_cons_succ, Qx, Q2]
     rfl
    refine one_ (i := 3) (N := some 27) #[true, true, true, true, true, false, false] rfl rfl (by kernel_rfl) (by decide) (fun K hK => ?_)
    refine gs_ Try.func67 #[.int .i64 a0, .slice A1 l1.length c1] ?_
    with_reducible refine (zm.calls kj3 a0 _ _ l1 t464 _ ?side1 ?side2 A21.out).mono ?_
    (case side1 => exact Kd.C_below HR1.out (bw HB))
    (case side2 => exact HC1.out)
    rintro e w24 ⟨v465, rfl, ho0, hb⟩
    refine ⟨_, rfl, ?_⟩
    have HO466 := am (Kd.S_lower ho0 (q4 (bx_ HB)))
    replace BK460 := am (qp (g := gb460) (o := .cells #[.int .i64 a2_0, .int .i64 a2_1, .int .i64 a2_2] 43 (0, 0)) (pk_ BK460) hb)
    replace HB := am (qo (bx_ HB) hb)
    (try clear hb)
    (try clear hb2)
    (try clear hk)
    (try clear hi)
    (try clear ho0)
    obtain ⟨Ao25, co25, eo25⟩ := Kd.S_slice HO466.out
    (first | subst eo25 | (injection eo25 with f1_ f2_ f3_; have f4_ := f1_.symm; have f5_ := f3_.symm; clear f1_ f2_ f3_; subst f4_; subst f5_))
    refine hK.out _ _ ⟨(qa BK460.out 0).trans rfl, (qa BK460.out 1).trans rfl, (qa BK460.out 2).trans rfl⟩ fun hHeld => nz ?_
    clear hK K
    refine one_ (i := 5) (N := some 29) #[true, true, true, true, true, true, false] rfl rfl (by kernel_rfl) (by decide) (fun K hK => ?_)
    refine gs_ Try.func75 #[.int .i64 a0, .slice Ao25 t464.length co25, .agg #[.int .i64 a2_0, .int .i64 a2_1, .int .i64 a2_2]] ?_
    with_reducible refine (zy.calls kj3 a0 _ _ t464 a2_0 a2_1 a2_2 t467 _ ?side1 ?side2 A22.out).mono ?_
    (case side1 => exact Kd.C_below (Kd.S_reads' HO466.out).2.2 gs)
    (case side2 => exact (Kd.S_reads' HO466.out).2.1)
    rintro e w26 ⟨v468, rfl, ho0, hb⟩
    refine ⟨_, rfl, ?_⟩
    replace HO466 := eS HO466 (Kd.R_base ho0) hb
    have HO469 := am (Kd.R_lower ho0 (q4 (bx_ HB)))
    replace BK460 := am (qp (g := gb460) (o := .cells #[.int .i64 a2_0, .int .i64 a2_1, .int .i64 a2_2] 43 (0, 0)) (pk_ BK460) hb)
    replace HB := am (qo (bx_ HB) hb)
    (try clear hb)
    (try clear hb2)
    (try clear hk)
    (try clear hi)
    (try clear ho0)
    refine hK.out _ _ ⟨(qa BK460.out 0).trans rfl, (qa BK460.out 1).trans rfl, (qa BK460.out 2).trans rfl⟩ fun hHeld => nz ?_
    clear hK K
    refine qae (i := 6) (N := some 8) (v := ?_) (a' := ?_) #[true, true, true, true, true, true, true] rfl rfl (by kernel_rfl) (fun _ _ _ h => h) (Or.inl ⟨by rfl, ?_⟩) ?_ ?_
    rotate_left
    ·intro w'
     go_simp
     with_reducible rfl
    rotate_left
    ·simp only [Act.put, List.setIfInBounds_toArray, List.set_cons_zero, List.set_cons_succ, Qx, Q2]
     rfl
    refine Q4 (by kernel_rfl) ?_
    obtain ⟨Ao27, co27, eo27⟩ := Kd.R_slice HO469.out
    subst eo27
    try go_wp2
    go_ret2
    exact ⟨_, fq, wR HO469, bx_ HB⟩
def Zd.f  : Option ((List (S41))) := some (([(⟨3, 0, 0⟩ : S41), (⟨2, 1, 0⟩ : S41), (⟨2, 0, 1⟩ : S41), (⟨1, 2, 0⟩ : S41), (⟨1, 1, 1⟩ : S41), (⟨1, 0, 2⟩ : S41), (⟨0, 3, 0⟩ : S41), (⟨0, 2, 1⟩ : S41), (⟨0, 1, 2⟩ : S41), (⟨0, 0, 3⟩ : S41)] : List (S41)))
theorem Zd.calls  (r : List (S41)) (w : World) (h : Zd.f  = some r) :
  Calls Try.prog 157 #[] w fun e w' => ∃ v0_ : Value, e = .returned (v0_) ∧ Kd.R k41 41 w' w.heap.size (fun _ => True) v0_ r ∧ Below w.heap.size w w' := by
 have hu41 := Try.underlying41
 have HB := am (Below.refl w.heap.size w)
 have H : (some (([(⟨3, 0, 0⟩ : S41), (⟨2, 1, 0⟩ : S41), (⟨2, 0, 1⟩ : S41), (⟨1, 2, 0⟩ : S41), (⟨1, 1, 1⟩ : S41), (⟨1, 0, 2⟩ : S41), (⟨0, 3, 0⟩ : S41), (⟨0, 2, 1⟩ : S41), (⟨0, 1, 2⟩ : S41), (⟨0, 0, 3⟩ : S41)] : List (S41)))) = some r := h
 clear h
 generalize hy470 : (([(⟨3, 0, 0⟩ : S41), (⟨2, 1, 0⟩ : S41), (⟨2, 0, 1⟩ : S41), (⟨1, 2, 0⟩ : S41), (⟨1, 1, 1⟩ : S41), (⟨1, 0, 2⟩ : S41), (⟨0, 3, 0⟩ : S41), (⟨0, 2, 1⟩ : S41), (⟨0, 1, 2⟩ : S41), (⟨0, 0, 3⟩ : S41)] : List (S41))) = y470 at H
 have Ny470 := am hy470.symm; clear hy470; obtain rfl := Option.some.inj H
 go_enter Try.func157, Try.ntmps157
 go_wp2_with (first | ((with_reducible refine q6 (N := 11) rfl ?_); refine Kd.R_lit k41 _ 41 ?hg (N := 11) ?hd (xs := ([(⟨3, 0, 0⟩ : S41), (⟨2, 1, 0⟩ : S41), (⟨2, 0, 1⟩ : S41), (⟨1, 2, 0⟩ : S41), (⟨1, 1, 1⟩ : S41), (⟨1, 0, 2⟩ : S41), (⟨0, 3, 0⟩ : S41), (⟨0, 2, 1⟩ : S41), (⟨0, 1, 2⟩ : S41), (⟨0, 0, 3⟩ : S41)] : List (S41))) (inner := [.int .i64 3, .int .i64 0, .int .i64 0, .int .i64 2, .int .i64 1, .int .i64 0, .int .i64 2, .int .i64 0, .int .i64 1, .int .i64 1, .int .i64 2, .int .i64 0, .int .i64 1, .int .i64 1, .int .i64 1, .int .i64 1, .int .i64 0, .int .i64 2, .int .i64 0, .int .i64 3, .int .i64 0, .int .i64 0, .int .i64 2, .int .i64 1, .int .i64 0, .int .i64 1, .int .i64 2, .int .i64 0, .int .i64 0, .int .i64 3]) (ok := fun _ => True) (okp := fun _ => True) ?hr ?hp (fun _ hk => hk) trivial (Below.refl _ _) (Nat.le_refl _) (by simp) ?_; (case hd => rfl); (case hg => rfl); (case hr => first | (go_simp; done) | (go_simp; rfl)); (case hp => exact (Reps.c3 (show Kd.M k41 _ _ _ (⟨3, 0, 0⟩ : S41) [.int .i64 3, .int .i64 0, .int .i64 0] from (Zm _ _ _ (⟨3, 0, 0⟩ : S41) )) (Reps.c3 (show Kd.M k41 _ _ _ (⟨2, 1, 0⟩ : S41) [.int .i64 2, .int .i64 1, .int .i64 0] from (Zm _ _ _ (⟨2, 1, 0⟩ : S41) )) (Reps.c3 (show Kd.M k41 _ _ _ (⟨2, 0, 1⟩ : S41) [.int .i64 2, .int .i64 0, .int .i64 1] from (Zm _ _ _ (⟨2, 0, 1⟩ : S41) )) (Reps.c3 (show Kd.M k41 _ _ _ (⟨1, 2, 0⟩ : S41) [.int .i64 1, .int .i64 2, .int .i64 0] from (Zm _ _ _ (⟨1, 2, 0⟩ : S41) )) (Reps.c3 (show Kd.M k41 _ _ _ (⟨1, 1, 1⟩ : S41) [.int .i64 1, .int .i64 1, .int .i64 1] from (Zm _ _ _ (⟨1, 1, 1⟩ : S41) )) (Reps.c3 (show Kd.M k41 _ _ _ (⟨1, 0, 2⟩ : S41) [.int .i64 1, .int .i64 0, .int .i64 2] from (Zm _ _ _ (⟨1, 0, 2⟩ : S41) )) (Reps.c3 (show Kd.M k41 _ _ _ (⟨0, 3, 0⟩ : S41) [.int .i64 0, .int .i64 3, .int .i64 0] from (Zm _ _ _ (⟨0, 3, 0⟩ : S41) )) (Reps.c3 (show Kd.M k41 _ _ _ (⟨0, 2, 1⟩ : S41) [.int .i64 0, .int .i64 2, .int .i64 1] from (Zm _ _ _ (⟨0, 2, 1⟩ : S41) )) (Reps.c3 (show Kd.M k41 _ _ _ (⟨0, 1, 2⟩ : S41) [.int .i64 0, .int .i64 1, .int .i64 2] from (Zm _ _ _ (⟨0, 1, 2⟩ : S41) )) (Reps.c3 (show Kd.M k41 _ _ _ (⟨0, 0, 3⟩ : S41) [.int .i64 0, .int .i64 0, .int .i64 3] from (Zm _ _ _ (⟨0, 0, 3⟩ : S41) )) (Reps.none _ _)))))))))))); intro v471 w1 ho2 hb hg_ hnew_; clear hg_ hnew_; (first | rw [← Ny470.out] at ho2 | (simp only [Int.reduceToNat] at ho2; rw [← Ny470.out] at ho2)); have HO472 := am (Kd.R_lower ho2 (bz HB)); replace HB := bq HB hb; clear hb ho2))
 go_ret
 exact ⟨_, fq, wR HO472, bw HB⟩
def zt.l0 : Nat → Int → Int → Int → Int → Int → Option (Int)
 | 0, _, _, _, _, _ => none
 | k + 1, x0, x1, x2, x7, x8 => if x8 < x2 then (if x0 = 0 then (none) else (zt.l0 k x0 x1 x2 (Int.tmod (wrap64 (x7 * x1)) x0) (wrap64 (x8 + 1)))) else (some x7)
def zt.f (k : Nat) (a0 : Int) (a1 : Int) (a2 : Int) : Option (Int) := zt.l0 k a0 a1 a2 1 0
theorem zt.mono_l : ∀ k, (∀ y0 y1 y2 y3 y4, LeO (zt.l0 k y0 y1 y2 y3 y4) (zt.l0 (k + 1) y0 y1 y2 y3 y4))
 | 0 => fun _ _ _ _ _ r h => by simp [zt.l0] at h
 | k + 1 => by
  have ih0 := zt.mono_l k
  ·intro y0 y1 y2 y3 y4
   unfold zt.l0
   repeat' first | (with_reducible first | apply ih0 | exact LeO.refl _ | exact LeO.none _ | refine LeO.ite ?_ ?_ | refine LeO.bind ?_ (fun _ => ?_)) | (first | apply ih0 | exact LeO.none _ | refine LeO.ite ?_ ?_ | refine LeO.bind ?_ (fun _ => ?_))
theorem zt.mono : ∀ a0 a1 a2 k, LeO (zt.f k a0 a1 a2) (zt.f (k + 1) a0 a1 a2) := by
 intro a0 a1 a2 k
 have ih0 := zt.mono_l k
 unfold zt.f
 repeat' first | (with_reducible first | apply ih0 | exact LeO.refl _ | exact LeO.none _ | refine LeO.ite ?_ ?_ | refine LeO.bind ?_ (fun _ => ?_)) | (first | apply ih0 | exact LeO.none _ | refine LeO.ite ?_ ?_ | refine LeO.bind ?_ (fun _ => ?_))
theorem zt.calls (k : Nat) (a0 : Int) (a1 : Int) (a2 : Int) (r : Int) (w : World) (h : zt.f k a0 a1 a2 = some r) :
  Calls Try.prog 162 #[.int .i64 a0, .int .i64 a1, .int .i64 a2] w fun e w' => e = .returned (.int .i64 r) ∧ Drawn0 w w' := by
 have H : (zt.l0 k a0 a1 a2 1 0) = some r := h
 clear h; have H' := am H; clear H
 go_enter Try.func162, Try.ntmps162
 go_wp2
 go_loopg [7, 8] k (fun kq v7 v8 w' => ∃ (x7_1 : Int) (x8_1 : Int), v7 = .int .i64 x7_1 ∧ v8 = .int .i64 x8_1 ∧ qb (zt.l0 kq a0 a1 a2 x7_1 x8_1 = some r) ∧ qb (kq ≤ k) ∧ Drawn0 w w')
 case atStart => exact ⟨(1), (0), fr, fr, H', ⟨Nat.le_refl _⟩, df⟩
 case round =>
  clear H'; try clear c1; try clear p2
  obtain ⟨x7_1, x8_1, rfl, rfl, HA, HK1, ⟨m1, rfl⟩⟩ := hrel
  cases gk with
  | zero => exact absurd HA.out (by simp [zt.l0])
  | succ k1 =>
   have H := HA.out; clear HA
   simp only [zt.l0] at H
   by_cases c4 : x8_1 < a2
   ·rw [if_pos c4] at H
    have c4b0 := decide_eq_true c4; clear c4; replace H := ifm H; obtain ⟨c5, H⟩ := H; have c5b0 := beq_eq_false_iff_ne.mpr c5; have c5b1 := bne_iff_ne.mpr c5; have H' := am H; clear H; go_wp2
    go_roundg k1
    case measure => have := HK1.out; omega
    case rel => exact ⟨(Int.tmod (wrap64 (x7_1 * a1)) a0), (wrap64 (x8_1 + 1)), fr, fr, H', ⟨by have := HK1.out; omega⟩, df⟩
   ·rw [if_neg c4] at H
    have c4b0 := decide_eq_false c4; clear c4; obtain rfl := Option.some.inj H; go_wp2; go_ret
    exact ⟨fr, df⟩
end Go.Proofs.Ytmgbpmihbljngaa.PA

-- Written by xprint.py, a program of this claim's own (over the kit's print.py)
import Derived.Test.YtmgbpmihbljngaaPAx19
namespace Go.Proofs.Ytmgbpmihbljngaa.PA
set_option maxHeartbeats 8000000
set_option maxRecDepth 100000
open Go.RowKit Go.Proofs.YtmgbpmihbljngaaW.PrintWords Go.Proofs.YtmgbpmihbljngaaW.PrintLast Go.Proofs.YtmgbpmihbljngaaW.PrintMore
attribute [local go_sem] j8 j9 Qi Qj jw jy Qa Qb
set_option linter.unusedVariables false
set_option linter.unusedSimpArgs false
def ja.l0 : Nat → Int → List (S43) → List (List Int) → Int → Option ((List (List Int)))
 | 0, _, _, _, _ => none
 | k + 1, x0, x1, x5, x6 => if x6 < 6 then (if 0 ≤ x6 then (if x6 < (x1.length : Int) then ((qr.f k x0 ((qd x1 x6).f0.f0) ((qd x1 x6).f0.f1) ((qd x1 x6).f0.f2)).bind fun t506 => (if x5.length < 5864062014805 then (ja.l0 k x0 x1 (x5 ++ [t506]) (wrap64 (x6 + 1))) else (none))) else (none)) else (none)) else ((qn.f k x0 x5 10).bind fun t512 => (some t512))
def ja.f (k : Nat) (a0 : Int) (l1 : List (S43)) : Option ((List (List Int))) := ja.l0 k a0 l1 (([] : List (List Int))) 0
theorem ja.mono_l : ∀ k, (∀ y0 y1 y2 y3, LeO (ja.l0 k y0 y1 y2 y3) (ja.l0 (k + 1) y0 y1 y2 y3))
 | 0 => fun _ _ _ _ r h => by simp [ja.l0] at h
 | k + 1 => by
  have ih0 := ja.mono_l k
  ·intro y0 y1 y2 y3
   unfold ja.l0
   repeat' first | (with_reducible first | apply ih0 | apply qn.mono | apply qr.mono | exact LeO.refl _ | exact LeO.none _ | refine LeO.ite ?_ ?_ | refine LeO.bind ?_ (fun _ => ?_)) | (first | apply ih0 | apply qn.mono | apply qr.mono | exact LeO.none _ | refine LeO.ite ?_ ?_ | refine LeO.bind ?_ (fun _ => ?_))
theorem ja.mono : ∀ a0 a1 k, LeO (ja.f k a0 a1) (ja.f (k + 1) a0 a1) := by
 intro a0 a1 k
 have ih0 := ja.mono_l k
 unfold ja.f
 repeat' first | (with_reducible first | apply ih0 | apply qn.mono | apply qr.mono | exact LeO.refl _ | exact LeO.none _ | refine LeO.ite ?_ ?_ | refine LeO.bind ?_ (fun _ => ?_)) | (first | apply ih0 | apply qn.mono | apply qr.mono | exact LeO.none _ | refine LeO.ite ?_ ?_ | refine LeO.bind ?_ (fun _ => ?_))
theorem ja.calls (k : Nat) (a0 : Int) (A1 : Option Addr) (c1 : Nat) (l1 : List (S43)) (r : List (List Int)) (w : World) (hr1 : Kd.C k43 w A1 l1.length l1) (hc1 : l1.length ≤ c1) (h : ja.f k a0 l1 = some r) :
  Calls Try.prog 78 #[.int .i64 a0, .slice A1 l1.length c1] w fun e w' => ∃ v0_ : Value, e = .returned (v0_) ∧ Kd.N (Kd.slice 3 (Kd.int .i64)) 23 w' w.heap.size (fun k_ => (w.heap.size ≤ k_)) v0_ r ∧ Below w.heap.size w w' := by
 have hu43 := Try.underlying43
 have HR1 := am hr1
 have HC1 := am hc1
 clear hr1 hc1
 have HB := am (Below.refl w.heap.size w)
 have H : (ja.l0 k a0 l1 (([] : List (List Int))) 0) = some r := h
 clear h
 generalize hy502 : (([] : List (List Int))) = y502 at H
 have Ny502 := am hy502.symm; clear hy502; have H' := am H; clear H
 go_enter Try.func78, Try.ntmps78
 go_wp2_with (first | ((with_reducible refine q6 (N := 7) rfl ?_); refine Kd.N_lit (Kd.slice 3 (Kd.int .i64)) _ 23 ?hg (N' := 7) ?hd (xs := ([] : List (List Int))) (inner := []) (ok := (fun k_ => (w.heap.size ≤ k_))) (okp := (fun k_ => (w.heap.size ≤ k_))) ?hr ?hp (fun _ hk => hk) ((show ∀ k_, w.heap.size ≤ k_ → (fun k_ => (w.heap.size ≤ k_)) k_ from fun k_ hk => (Nat.le_trans (bz HB) hk)) _ (Nat.le_refl _)) (Below.refl _ _) (Nat.le_refl _) (by simp) ?_; (case hd => rfl); (case hg => rfl); (case hr => first | (go_simp; done) | (go_simp; rfl)); (case hp => exact (Reps.none _ _)); intro v503 w3 ho4 hb hg_ hnew_; clear hg_ hnew_; (first | rw [← Ny502.out] at ho4 | (simp only [Int.reduceToNat] at ho4; rw [← Ny502.out] at ho4)); have HO504 := am (Kd.N_lower ho4 (bz HB)); replace HB := bq HB hb; clear hb ho4))
 go_loopg [5, 6] k (fun kq v5 v6 w' => ∃ (x5_1 : List (List Int)) (x6_1 : Int), v6 = .int .i64 x6_1 ∧ qb (ja.l0 kq a0 l1 x5_1 x6_1 = some r) ∧ qb (kq ≤ k) ∧ qb (Kd.N (Kd.slice 3 (Kd.int .i64)) 23 w' w.heap.size (fun k_ => (w.heap.size ≤ k_)) v5 x5_1) ∧ qb (Below w.heap.size w w'))
 case atStart => exact ⟨(y502), (0), fr, H', ⟨Nat.le_refl _⟩, ⟨wN HO504⟩, ⟨bw HB⟩⟩
 case round =>
  clear H'; try clear c1; try clear p2
  obtain ⟨x5_1, x6_1, rfl, HA, HK1, HO_5, HB⟩ := hrel
  cases gk with
  | zero => exact absurd HA.out (by simp [ja.l0])
  | succ k1 =>
   have H := HA.out; clear HA
   simp only [ja.l0] at H
   by_cases c5 : x6_1 < 6
   ·rw [if_pos c5] at H
    have c5b0 := decide_eq_true c5; clear c5; replace H := ifn H; obtain ⟨c6, H⟩ := H; have c6b0 := decide_eq_true c6; clear c6; replace H := ifn H; obtain ⟨c7, H⟩ := H; have c7b0 := decide_eq_true c7; clear c7; replace H := bs H; obtain ⟨t506, A8, H⟩ := H
    replace H := ifn H; obtain ⟨c9, H⟩ := H; have LMc9 := am c9; clear c9
    generalize hy509 : (x5_1 ++ [t506] : List (List Int)) = y509 at H
    have Ny509 := am hy509.symm; clear hy509; have H' := am H; clear H
    have p505 : 0 ≤ (x6_1 : Int) := od
    have q505 : x6_1 < (l1.length : Int) := od
    obtain ⟨ad505, e505, hx505_0, hx505_1, hx505_2⟩ := Q8 HR1.out x6_1 p505 q505
    cases e505
    replace hx505_0 := wcl HB hx505_0
    replace hx505_1 := wcl HB hx505_1
    replace hx505_2 := wcl HB hx505_2
    replace p505 := eq_true p505; replace q505 := eq_true q505
    go_wp2_with (first | ((with_reducible refine qj (f := 123) rfl ?_); refine gl 18 Try.func123 #[.int .i64 a0, .agg #[.int .i64 ((qd l1 x6_1).f0.f0), .int .i64 ((qd l1 x6_1).f0.f1), .int .i64 ((qd l1 x6_1).f0.f2)]] ?_; (with_reducible refine (qr.calls k1 a0 ((qd l1 x6_1).f0.f0) ((qd l1 x6_1).f0.f1) ((qd l1 x6_1).f0.f2) t506 _ A8.out).mono ?_); rintro e w10 ⟨v507, rfl, ho0, hb⟩; refine ⟨_, rfl, ?_⟩; replace HO_5 := eN HO_5 (Kd.R_base ho0) hb; have HO508 := am (mR ho0 HB); replace HB := bq HB hb; (try clear hb); (try clear ho0); obtain ⟨Ao12, co12, eo12⟩ := Kd.R_slice HO508.out; subst eo12) | ((with_reducible refine jp (b := .append) (xs := #[.tmp 12, .tmp 19]) rfl ?_); at_builtin; refine Kd.N_append (Kd.slice 3 (Kd.int .i64)) (w0 := w) w.heap.size rfl (.tmp 12) (.tmp 19) 47 23 (.slice none 0 0) 24 rfl Try.underlying47 Zq rfl (by decide) (by omega) u5 x5_1 t506 [.slice Ao12 t506.length co12] (fun k_ => (w.heap.size ≤ k_)) (fun k_ => ((fun k_ => (w.heap.size ≤ k_))) k_ ∧ some k_ ≠ (u5 : Value).ownBlock) rfl rfl ?aP (fun _ hk => hk) ?aF ?aO ?aB ?aS ?aL ?_; (case aP => exact (Kd.FK_slice_mk (Kd.R_reads' (Kd.R_mono (ok' := (fun k_ => ((fun k_ => (w.heap.size ≤ k_))) k_ ∧ some k_ ≠ (u5 : Value).ownBlock)) (Kd.R_apart' (HO508.out) (Kd.N_typed HO_5.out) (by decide)) (fun k_ hk => ⟨hk.1.1, hk.2⟩))).2.1 (Kd.R_F (Kd.R_mono (ok' := (fun k_ => ((fun k_ => (w.heap.size ≤ k_))) k_ ∧ some k_ ≠ (u5 : Value).ownBlock)) (Kd.R_apart' (HO508.out) (Kd.N_typed HO_5.out) (by decide)) (fun k_ hk => ⟨hk.1.1, hk.2⟩))))); (case aB => exact (bw HB)); (case aF => exact (fun k_ hk => (Nat.le_trans (bz HB) hk))); (case aO => exact (oN_ HO_5 (fun _ hk => hk.1))); (case aS => exact (bz HB)); (case aL => have := LMc9.out; omega); intro v510 w11 ho hb hg hat; rw [← Ny509.out] at ho; replace HB := am (hb); have HO511 := am (ho); clear HO_5 HO508; clear ho hb hg hat))
    go_roundg k1
    case measure => have := HK1.out; omega
    case rel => exact ⟨(y509), (wrap64 (x6_1 + 1)), fr, H', ⟨by have := HK1.out; omega⟩, ⟨wN HO511⟩, ⟨bw HB⟩⟩
   ·rw [if_neg c5] at H
    have c5b0 := decide_eq_false c5; clear c5; replace H := bs H; obtain ⟨t512, A13, H⟩ := H; obtain rfl := Option.some.inj H
    obtain ⟨Ao14, co14, eo14⟩ := Kd.N_slice HO_5.out
    subst eo14
    go_wp2_with (first | ((with_reducible refine qj (f := 109) rfl ?_); refine gl 23 Try.func109 #[.int .i64 a0, .slice Ao14 x5_1.length co14, .int .i64 10] ?_; (with_reducible refine (qn.calls k1 a0 (fun k_ => (w.heap.size ≤ k_)) _ _ x5_1 10 t512 _ ?_ A13.out).mono ?_); exact Kd.N_V (HO_5.out); rintro e w15 ⟨v513, rfl, ho0, hb⟩; refine ⟨_, rfl, ?_⟩; replace HO_5 := eN HO_5 (Kd.N_base ho0) hb; have HO514 := am (Kd.N_lower (Kd.N_mono (ok' := fun k_ => (w.heap.size ≤ k_)) ho0 (fun k_ hk_ => Or.elim hk_ (fun hs_ => hs_) (fun hn_ => (Nat.le_trans (bz HB) hn_)))) (bz HB)); replace HB := bq HB hb; (try clear hb); (try clear ho0)))
    go_ret
    exact ⟨_, fq, wN HO514, bw HB⟩
def qy.j0 : Nat → Int → List (S43) → Bool → Int → Int → Int → Option (List Int × Bool)
 | 0, _, _, _, _, _, _ => none
 | k + 1, x0, x1, x18, x516000, x516001, x516002 => if x18 = true then (some ((([] : List Int)), false)) else ((ja.f k x0 x1).bind fun t521 => ((zv.f k x0 t521 x516000 x516001 x516002).bind fun t524 => ((zb.f k t524).bind fun t527 => (if t527 = true then (some ((([] : List Int)), false)) else ((qv.f k x0 t524).bind fun t531 => (some (t531, true)))))))
def qy.f (k : Nat) (a0 : Int) (l1 : List (S43)) (a2_0 : Int) (a2_1 : Int) (a2_2 : Int) : Option (List Int × Bool) := (zq.f k a0 l1).bind fun t516 => (if t516 = true then ((je.f k a0 a2_0 a2_1 a2_2).bind fun t517 => (qy.j0 k a0 l1 (!t517) a2_0 a2_1 a2_2)) else (qy.j0 k a0 l1 true a2_0 a2_1 a2_2))
theorem qy.mono_l : ∀ k, (∀ y0 y1 y2 y3 y4 y5, LeO (qy.j0 k y0 y1 y2 y3 y4 y5) (qy.j0 (k + 1) y0 y1 y2 y3 y4 y5))
 | 0 => fun _ _ _ _ _ _ r h => by simp [qy.j0] at h
 | k + 1 => by
  have ih0 := qy.mono_l k
  ·intro y0 y1 y2 y3 y4 y5
   unfold qy.j0
   repeat' first | (with_reducible first | apply ih0 | apply zq.mono | apply je.mono | apply qv.mono | apply zb.mono | apply ja.mono | apply zv.mono | exact LeO.refl _ | exact LeO.none _ | refine LeO.ite ?_ ?_ | refine LeO.bind ?_ (fun _ => ?_)) | (first | apply ih0 | apply zq.mono | apply je.mono | apply qv.mono | apply zb.mono | apply ja.mono | apply zv.mono | exact LeO.none _ | refine LeO.ite ?_ ?_ | refine LeO.bind ?_ (fun _ => ?_))
theorem qy.mono : ∀ a0 a1 a2 a3 a4 k, LeO (qy.f k a0 a1 a2 a3 a4) (qy.f (k + 1) a0 a1 a2 a3 a4) := by
 intro a0 a1 a2 a3 a4 k
 have ih0 := qy.mono_l k
 unfold qy.f
 repeat' first | (with_reducible first | apply ih0 | apply zq.mono | apply je.mono | apply qv.mono | apply zb.mono | apply ja.mono | apply zv.mono | exact LeO.refl _ | exact LeO.none _ | refine LeO.ite ?_ ?_ | refine LeO.bind ?_ (fun _ => ?_)) | (first | apply ih0 | apply zq.mono | apply je.mono | apply qv.mono | apply zb.mono | apply ja.mono | apply zv.mono | exact LeO.none _ | refine LeO.ite ?_ ?_ | refine LeO.bind ?_ (fun _ => ?_))
theorem qy.calls (k : Nat) (a0 : Int) (A1 : Option Addr) (c1 : Nat) (l1 : List (S43)) (a2_0 : Int) (a2_1 : Int) (a2_2 : Int) (r1 : List Int) (r2 : Bool) (w : World) (hr1 : Kd.C k43 w A1 l1.length l1) (hc1 : l1.length ≤ c1) (h : qy.f k a0 l1 a2_0 a2_1 a2_2 = some (r1, r2)) :
  Calls Try.prog 30 #[.int .i64 a0, .slice A1 l1.length c1, .agg #[.int .i64 a2_0, .int .i64 a2_1, .int .i64 a2_2]] w fun e w' => ∃ v0_ : Value, e = .returned (.tuple #[v0_, .bool r2]) ∧ Kd.R (Kd.int .i64) 3 w' w.heap.size (fun _ => True) v0_ r1 ∧ Below w.heap.size w w' := by
 have hu43 := Try.underlying43
 have HR1 := am hr1
 have HC1 := am hc1
 clear hr1 hc1
 have HB := am (Below.refl w.heap.size w)
 have H : ((zq.f k a0 l1).bind fun t516 => (if t516 = true then ((je.f k a0 a2_0 a2_1 a2_2).bind fun t517 => (qy.j0 k a0 l1 (!t517) a2_0 a2_1 a2_2)) else (qy.j0 k a0 l1 true a2_0 a2_1 a2_2))) = some (r1, r2) := h
 clear h
 have HC4 := am H
 clear H
 go_enter Try.func30, Try.ntmps30
 go_upto_region 1 with (first | ((with_reducible refine q6 (N := 5) rfl ?_); refine xe_ 5 43 #[.int .i64 a2_0, .int .i64 a2_1, .int .i64 a2_2] ?_; intro gb515 hg w5 hbox hb; have BK515 := am (hbox); have GW515 := am ((by rw [hg]; exact (bz HB) : w.heap.size ≤ gb515)); have GE515 := am ((by rw [hg]; exact (bz HB) : w.heap.size ≤ gb515)); replace HB := bq HB hb; clear hb hbox hg))
 (try simp only [Act.put, List.setIfInBounds_toArray, List.set_cons_zero, List.set_cons_succ])
 go_cut [18] (fun v18 wc => ∃ (kq : Nat) (x18_3 : Bool), v18 = .bool x18_3 ∧ qb (qy.j0 kq a0 l1 x18_3 a2_0 a2_1 a2_2 = some (r1, r2)) ∧ qb (kq ≤ k) ∧ qb (wc.heap[gb515]? = some (.cells #[.int .i64 a2_0, .int .i64 a2_1, .int .i64 a2_2] 43 (0, 0))) ∧ qb (Below w.heap.size w wc))
 case first =>
  have H := HC4.out
  clear HC4; replace H := bs H; obtain ⟨t516, A6, H⟩ := H
  by_cases c7 : t516 = true
  ·subst c7
   rw [if_pos rfl] at H
   replace H := bs H; obtain ⟨t517, A8, H⟩ := H; have H' := am H; clear H
   go_wp2_with (first | ((with_reducible refine qj (f := 62) rfl ?_); refine gl 11 Try.func62 #[.int .i64 a0, .slice A1 l1.length c1] ?_; (with_reducible refine (zq.calls k a0 _ _ l1 true _ ?_ ?_ A6.out).mono ?_); exact Kd.C_below HR1.out (bw HB); exact HC1.out; rintro e w9 ⟨rfl, hb⟩; refine ⟨_, rfl, ?_⟩; replace BK515 := am (qp (g := gb515) (o := .cells #[.int .i64 a2_0, .int .i64 a2_1, .int .i64 a2_2] 43 (0, 0)) (pk_ BK515) hb); replace HB := am (qo (bx_ HB) hb); (try clear hb); have hcz10_0 : w9.cell? ⟨gb515, 0, none⟩ = some (.int .i64 a2_0) := (qa BK515.out 0).trans rfl; have hcz10_1 : w9.cell? ⟨gb515, 1, none⟩ = some (.int .i64 a2_1) := (qa BK515.out 1).trans rfl; have hcz10_2 : w9.cell? ⟨gb515, 2, none⟩ = some (.int .i64 a2_2) := (qa BK515.out 2).trans rfl; have hfz10_0 := qg BK515.out 0; have hfz10_1 := qg BK515.out 1; have hfz10_2 := qg BK515.out 2) | (go_at_call 76; (with_reducible refine (je.calls k a0 a2_0 a2_1 a2_2 t517 _ A8.out).mono ?_); rintro e w11 ⟨rfl, hb⟩; replace BK515 := am (qp (g := gb515) (o := .cells #[.int .i64 a2_0, .int .i64 a2_1, .int .i64 a2_2] 43 (0, 0)) (pk_ BK515) hb); replace HB := am (qo (bx_ HB) hb); (try clear hb)))
   go_meet
   case rel => exact ⟨_, (!t517), fr, H', ⟨by first | omega | exact Nat.le_refl _⟩, ⟨by (with_reducible repeat (first | refine qf ?_ _ | refine qh ?_ | refine qe ?_ _)); exact BK515.out⟩, ⟨bx_ HB⟩⟩
  ·replace c7 := Bool.eq_false_iff.mpr c7
   subst c7
   rw [if_neg (show ¬ (false = true) by decide)] at H
   have H' := am H; clear H
   go_wp2_with (first | ((with_reducible refine qj (f := 62) rfl ?_); refine gl 11 Try.func62 #[.int .i64 a0, .slice A1 l1.length c1] ?_; (with_reducible refine (zq.calls k a0 _ _ l1 false _ ?_ ?_ A6.out).mono ?_); exact Kd.C_below HR1.out (bw HB); exact HC1.out; rintro e w12 ⟨rfl, hb⟩; refine ⟨_, rfl, ?_⟩; replace BK515 := am (qp (g := gb515) (o := .cells #[.int .i64 a2_0, .int .i64 a2_1, .int .i64 a2_2] 43 (0, 0)) (pk_ BK515) hb); replace HB := am (qo (bx_ HB) hb); (try clear hb)))
   go_meet
   case rel => exact ⟨_, (true), fr, H', ⟨by first | omega | exact Nat.le_refl _⟩, ⟨by (with_reducible repeat (first | refine qf ?_ _ | refine qh ?_ | refine qe ?_ _)); exact BK515.out⟩, ⟨bx_ HB⟩⟩
 case rest =>
  clear HC4; try clear c1; try clear p2; try clear c3; try clear c6; try clear c7; try clear hcz10_0; try clear hcz10_1; try clear hcz10_2; try clear hfz10_0; try clear hfz10_1; try clear hfz10_2
  obtain ⟨kq, x18_3, rfl, HA, HJ3, BK515, HB⟩ := hcut
  cases kq with
  | zero => exact absurd HA.out (by simp [qy.j0])
  | succ kj3 =>
   have H := HA.out; clear HA
   simp only [qy.j0] at H
   by_cases c13 : x18_3 = true
   ·subst c13
    rw [if_pos rfl] at H
    generalize hy518 : (([] : List Int)) = y518 at H
    have Ny518 := am hy518.symm; clear hy518
    simp only [Option.some.injEq, Prod.mk.injEq] at H
    obtain ⟨rfl, rfl⟩ := H
    go_wp2_with (first | ((with_reducible refine q6 (N := 19) rfl ?_); refine li 3 ([] : List Int) ?_; intro v519 w14 ho15 hb; (first | rw [← Ny518.out] at ho15 | (simp only [Int.reduceToNat] at ho15; rw [← Ny518.out] at ho15)); have HO520 := am (Kd.R_lower ho15 (q4 (bx_ HB))); replace BK515 := am (qp (g := gb515) (o := .cells #[.int .i64 a2_0, .int .i64 a2_1, .int .i64 a2_2] 43 (0, 0)) (pk_ BK515) hb); replace HB := am (qo (bx_ HB) hb); clear hb ho15))
    go_ret2
    exact ⟨_, fq, wR HO520, bx_ HB⟩
   ·replace c13 := Bool.eq_false_iff.mpr c13
    subst c13
    rw [if_neg (show ¬ (false = true) by decide)] at H
    replace H := bs H; obtain ⟨t521, A16, H⟩ := H; replace H := bs H; obtain ⟨t524, A17, H⟩ := H; replace H := bs H; obtain ⟨t527, A18, H⟩ := H
    by_cases c19 : t527 = true
    ·subst c19
     rw [if_pos rfl] at H
     generalize hy528 : (([] : List Int)) = y528 at H
     have Ny528 := am hy528.symm; clear hy528
     simp only [Option.some.injEq, Prod.mk.injEq] at H
     obtain ⟨rfl, rfl⟩ := H
     try go_wp2
     replace BK515 := am (qh BK515.out)
     replace HB := am (zc HB.out)
     refine qgz (n := 7) (S := fun w' => w'.cell? ⟨gb515, 0, none⟩ = some (.int .i64 a2_0) ∧ w'.cell? ⟨gb515, 1, none⟩ = some (.int .i64 a2_1) ∧ w'.cell? ⟨gb515, 2, none⟩ = some (.int .i64 a2_2)) (ds := []) #[false, false, false, false, false, false, false] (by kernel_rfl) rfl rfl ⟨(qa BK515.out 0).trans rfl, (qa BK515.out 1).trans rfl, (qa BK515.out 2).trans rfl⟩ (fun hHeld => ?_)
     generalize wc.drew = w20 at BK515 HB hHeld ⊢
     refine qae (i := 0) (N := some 20) (v := ?_) (a' := ?_) #[true, false, false, false, false, false, false] rfl rfl (by kernel_rfl) (fun _ _ _ h => h) (Or.inl ⟨by rfl, ?_⟩) ?_ ?_
     rotate_left
     ·intro w'
      go_simp
      with_reducible rfl
     rotate_left
     ·simp only [Act.put, List.setIfInBounds_toArray, List.set_cons_zero, List.set_cons_succ, Qx, Q2]
      rfl
     refine qae (i := 1) (N := some 21) (v := ?_) (a' := ?_) #[true, true, false, false, false, false, false] rfl rfl (by kernel_rfl) (fun _ _ _ h => h) (Or.inl ⟨by rfl, ?_⟩) ?_ ?_
     rotate_left
     ·intro w'
      go_simp
      with_reducible rfl
     rotate_left
     ·simp only [Act.put, List.setIfInBounds_toArray, List.set_cons_zero, List.set_cons_succ, Qx, Q2]
      rfl
     refine qae (i := 2) (N := some 22) (v := ?_) (a' := ?_) #[true, true, true, false, false, false, false] rfl rfl (by kernel_rfl) (fun _ _ _ h => h) (Or.inl ⟨by rfl, ?_⟩) ?_ ?_
     rotate_left
     ·intro w'
      go_simp
      with_reducible rfl
     rotate_left
     ·simp only [Act.put, List.setIfInBounds_toArray, List.set_cons_zero, List.set_cons_succ, Qx, Q2]
      rfl
     refine take_ (i := 4) (N := some 24) (v := ?_) (a' := ?_) #[true, true, true, false, true, false, false] rfl rfl (by kernel_rfl) (fun _ _ _ h => h) (Or.inl ⟨by rfl, ?_⟩) hHeld ?_ ?_
     rotate_left
     ·rintro w' ⟨s0, s1, s2⟩
      go_simp
      with_reducible rfl
     rotate_left
     ·simp only [Act.put, List.setIfInBounds_toArray, List.set_cons_zero, List.set_cons_succ, Qx, Q2]
      rfl
     refine one_ (i := 3) (N := some 23) #[true, true, true, true, true, false, false] rfl rfl (by kernel_rfl) (by decide) (fun K hK => ?_)
     refine gs_ Try.func78 #[.int .i64 a0, .slice A1 l1.length c1] ?_
     with_reducible refine (ja.calls kj3 a0 _ _ l1 t521 _ ?side1 ?side2 A16.out).mono ?_
     (case side1 => exact Kd.C_below HR1.out (bw HB))
     (case side2 => exact HC1.out)
     rintro e w21 ⟨v522, rfl, ho0, hb⟩
     refine ⟨_, rfl, ?_⟩
     have HO523 := am (Kd.N_lower (Kd.N_mono (ok' := fun k_ => k_ ≠ gb515) ho0 (fun k_ hk_ => (Kd.freshB (g := gb515) (o := .cells #[.int .i64 a2_0, .int .i64 a2_1, .int .i64 a2_2] 43 (0, 0)) (pk_ BK515) k_ hk_))) (q4 (bx_ HB)))
     replace BK515 := am (qp (g := gb515) (o := .cells #[.int .i64 a2_0, .int .i64 a2_1, .int .i64 a2_2] 43 (0, 0)) (pk_ BK515) hb)
     replace HB := am (qo (bx_ HB) hb)
     (try clear hb)
     (try clear hb2)
     (try clear hk)
     (try clear hi)
     (try clear ho0)
     obtain ⟨Ao22, co22, eo22⟩ := Kd.N_slice HO523.out
     (first | subst eo22 | (injection eo22 with f1_ f2_ f3_; have f4_ := f1_.symm; have f5_ := f3_.symm; clear f1_ f2_ f3_; subst f4_; subst f5_))
     refine hK.out _ _ ⟨(qa BK515.out 0).trans rfl, (qa BK515.out 1).trans rfl, (qa BK515.out 2).trans rfl⟩ fun hHeld => nz ?_
     clear hK K
     refine one_ (i := 5) (N := some 25) #[true, true, true, true, true, true, false] rfl rfl (by kernel_rfl) (by decide) (fun K hK => ?_)
     refine gs_ Try.func77 #[.int .i64 a0, .slice Ao22 t521.length co22, .agg #[.int .i64 a2_0, .int .i64 a2_1, .int .i64 a2_2]] ?_
     with_reducible refine (zv.calls kj3 a0 _ _ t521 a2_0 a2_1 a2_2 t524 _ ?side1 ?side2 A17.out).mono ?_
     (case side1 => exact Kd.C_below (Kd.N_reads' HO523.out).2.2 gs)
     (case side2 => exact (Kd.N_reads' HO523.out).2.1)
     rintro e w23 ⟨v525, rfl, ho0, hb⟩
     refine ⟨_, rfl, ?_⟩
     replace HO523 := eN HO523 (Kd.R_base ho0) hb
     have HO526 := am (Kd.R_lower ho0 (q4 (bx_ HB)))
     replace BK515 := am (qp (g := gb515) (o := .cells #[.int .i64 a2_0, .int .i64 a2_1, .int .i64 a2_2] 43 (0, 0)) (pk_ BK515) hb)
     replace HB := am (qo (bx_ HB) hb)
     (try clear hb)
     (try clear hb2)
     (try clear hk)
     (try clear hi)
     (try clear ho0)
     refine hK.out _ _ ⟨(qa BK515.out 0).trans rfl, (qa BK515.out 1).trans rfl, (qa BK515.out 2).trans rfl⟩ fun hHeld => nz ?_
     clear hK K
     refine qae (i := 6) (N := some 8) (v := ?_) (a' := ?_) #[true, true, true, true, true, true, true] rfl rfl (by kernel_rfl) (fun _ _ _ h => h) (Or.inl ⟨by rfl, ?_⟩) ?_ ?_
     rotate_left
     ·intro w'
      go_simp
      with_reducible rfl
     rotate_left
     ·simp only [Act.put, List.setIfInBounds_toArray, List.set_cons_zero, List.set_cons_succ, Qx, Q2]
      rfl
     refine Q4 (by kernel_rfl) ?_
     obtain ⟨Ao24, co24, eo24⟩ := Kd.R_slice HO526.out
     subst eo24
     try go_wp2_with (first | ((with_reducible refine qj (f := 79) rfl ?_); refine gl 27 Try.func79 #[.slice Ao24 t524.length co24] ?_; (with_reducible refine (zb.calls kj3 _ _ t524 true _ ?side1 ?side2 A18.out).mono ?_); (case side1 => exact Kd.C_below (Kd.R_reads' HO526.out).2.2 gs); (case side2 => exact (Kd.R_reads' HO526.out).2.1); rintro e w' ⟨rfl, ⟨nd, rfl⟩⟩; refine ⟨_, rfl, ?_⟩) | ((with_reducible refine q6 (N := 28) rfl ?_); refine Kd.R_lit (Kd.int .i64) _ 3 ?hg (N := 28) ?hd (xs := ([] : List Int)) (inner := []) (ok := fun _ => True) (okp := fun _ => True) ?hr ?hp (fun _ hk => hk) trivial (Below.refl _ _) (Nat.le_refl _) (by simp) ?_; (case hd => rfl); (case hg => rfl); (case hr => first | (go_simp; done) | (go_simp; rfl)); (case hp => exact (Reps.none _ _)); intro v529 w25 ho26 hb hg_ hnew_; clear hg_ hnew_; (first | rw [← Ny528.out] at ho26 | (simp only [Int.reduceToNat] at ho26; rw [← Ny528.out] at ho26)); replace HO523 := eN HO523 (Kd.R_base ho26) hb; have HO530 := am (Kd.R_lower (Kd.R_new' ho26 (Kd.R_lt (wR HO526))) (q4 (bx_ HB))); replace HO526 := eR HO526 (Kd.R_base ho26) hb; replace BK515 := am (qp (g := gb515) (o := .cells #[.int .i64 a2_0, .int .i64 a2_1, .int .i64 a2_2] 43 (0, 0)) (pk_ BK515) hb); replace HB := am (qo (bx_ HB) hb); clear hb ho26))
     go_ret2
     exact ⟨_, fq, Kd.R_below (Kd.R_mono HO530.out (fun _ hk => trivial)) gs, bx_ HB⟩
    ·replace c19 := Bool.eq_false_iff.mpr c19
     subst c19
     rw [if_neg (show ¬ (false = true) by decide)] at H
     replace H := bs H; obtain ⟨t531, A27, H⟩ := H
     simp only [Option.some.injEq, Prod.mk.injEq] at H
     obtain ⟨rfl, rfl⟩ := H
     try go_wp2
     replace BK515 := am (qh BK515.out)
     replace HB := am (zc HB.out)
     refine qgz (n := 7) (S := fun w' => w'.cell? ⟨gb515, 0, none⟩ = some (.int .i64 a2_0) ∧ w'.cell? ⟨gb515, 1, none⟩ = some (.int .i64 a2_1) ∧ w'.cell? ⟨gb515, 2, none⟩ = some (.int .i64 a2_2)) (ds := []) #[false, false, false, false, false, false, false] (by kernel_rfl) rfl rfl ⟨(qa BK515.out 0).trans rfl, (qa BK515.out 1).trans rfl, (qa BK515.out 2).trans rfl⟩ (fun hHeld => ?_)
     generalize wc.drew = w28 at BK515 HB hHeld ⊢
     refine qae (i := 0) (N := some 20) (v := ?_) (a' := ?_) #[true, false, false, false, false, false, false] rfl rfl (by kernel_rfl) (fun _ _ _ h => h) (Or.inl ⟨by rfl, ?_⟩) ?_ ?_
     rotate_left
     ·intro w'
      go_simp
      with_reducible rfl
     rotate_left
     ·simp only [Act.put, List.setIfInBounds_toArray, List.set_cons_zero, List.set_cons_succ, Qx, Q2]
      rfl
     refine qae (i := 1) (N := some 21) (v := ?_) (a' := ?_) #[true, true, false, false, false, false, false] rfl rfl (by kernel_rfl) (fun _ _ _ h => h) (Or.inl ⟨by rfl, ?_⟩) ?_ ?_
     rotate_left
     ·intro w'
      go_simp
      with_reducible rfl
     rotate_left
     ·simp only [Act.put, List.setIfInBounds_toArray, List.set_cons_zero, List.set_cons_succ, Qx, Q2]
      rfl
     refine qae (i := 2) (N := some 22) (v := ?_) (a' := ?_) #[true, true, true, false, false, false, false] rfl rfl (by kernel_rfl) (fun _ _ _ h => h) (Or.inl ⟨by rfl, ?_⟩) ?_ ?_
     rotate_left
     ·intro w'
      go_simp
      with_reducible rfl
     rotate_left
     ·simp only [Act.put, List.setIfInBounds_toArray, List.set_cons_zero, List.set_cons_succ, Qx, Q2]
      rfl
     refine take_ (i := 4) (N := some 24) (v := ?_) (a' := ?_) #[true, true, true, false, true, false, false] rfl rfl (by kernel_rfl) (fun _ _ _ h => h) (Or.inl ⟨by rfl, ?_⟩) hHeld ?_ ?_
     rotate_left
     ·rintro w' ⟨s0, s1, s2⟩
      go_simp
      with_reducible rfl
     rotate_left
     ·simp only [Act.put, List.setIfInBounds_toArray, List.set_cons_zero, List.set_cons_succ, Qx, Q2]
      rfl
     refine one_ (i := 3) (N := some 23) #[true, true, true, true, true, false, false] rfl rfl (by kernel_rfl) (by decide) (fun K hK => ?_)
     refine gs_ Try.func78 #[.int .i64 a0, .slice A1 l1.length c1] ?_
     with_reducible refine (ja.calls kj3 a0 _ _ l1 t521 _ ?side1 ?side2 A16.out).mono ?_
     (case side1 => exact Kd.C_below HR1.out (bw HB))
     (case side2 => exact HC1.out)
     rintro e w29 ⟨v522, rfl, ho0, hb⟩
     refine ⟨_, rfl, ?_⟩
     have HO523 := am (Kd.N_lower (Kd.N_mono (ok' := fun k_ => k_ ≠ gb515) ho0 (fun k_ hk_ => (Kd.freshB (g := gb515) (o := .cells #[.int .i64 a2_0, .int .i64 a2_1, .int .i64 a2_2] 43 (0, 0)) (pk_ BK515) k_ hk_))) (q4 (bx_ HB)))
     replace BK515 := am (qp (g := gb515) (o := .cells #[.int .i64 a2_0, .int .i64 a2_1, .int .i64 a2_2] 43 (0, 0)) (pk_ BK515) hb)
     replace HB := am (qo (bx_ HB) hb)
     (try clear hb)
     (try clear hb2)
     (try clear hk)
     (try clear hi)
     (try clear ho0)
     obtain ⟨Ao30, co30, eo30⟩ := Kd.N_slice HO523.out
     (first | subst eo30 | (injection eo30 with f1_ f2_ f3_; have f4_ := f1_.symm; have f5_ := f3_.symm; clear f1_ f2_ f3_; subst f4_; subst f5_))
     refine hK.out _ _ ⟨(qa BK515.out 0).trans rfl, (qa BK515.out 1).trans rfl, (qa BK515.out 2).trans rfl⟩ fun hHeld => nz ?_
     clear hK K
     refine one_ (i := 5) (N := some 25) #[true, true, true, true, true, true, false] rfl rfl (by kernel_rfl) (by decide) (fun K hK => ?_)
     refine gs_ Try.func77 #[.int .i64 a0, .slice Ao30 t521.length co30, .agg #[.int .i64 a2_0, .int .i64 a2_1, .int .i64 a2_2]] ?_
     with_reducible refine (zv.calls kj3 a0 _ _ t521 a2_0 a2_1 a2_2 t524 _ ?side1 ?side2 A17.out).mono ?_
     (case side1 => exact Kd.C_below (Kd.N_reads' HO523.out).2.2 gs)
     (case side2 => exact (Kd.N_reads' HO523.out).2.1)
     rintro e w31 ⟨v525, rfl, ho0, hb⟩
     refine ⟨_, rfl, ?_⟩
     replace HO523 := eN HO523 (Kd.R_base ho0) hb
     have HO526 := am (Kd.R_lower ho0 (q4 (bx_ HB)))
     replace BK515 := am (qp (g := gb515) (o := .cells #[.int .i64 a2_0, .int .i64 a2_1, .int .i64 a2_2] 43 (0, 0)) (pk_ BK515) hb)
     replace HB := am (qo (bx_ HB) hb)
     (try clear hb)
     (try clear hb2)
     (try clear hk)
     (try clear hi)
     (try clear ho0)
     refine hK.out _ _ ⟨(qa BK515.out 0).trans rfl, (qa BK515.out 1).trans rfl, (qa BK515.out 2).trans rfl⟩ fun hHeld => nz ?_
     clear hK K
     refine qae (i := 6) (N := some 8) (v := ?_) (a' := ?_) #[true, true, true, true, true, true, true] rfl rfl (by kernel_rfl) (fun _ _ _ h => h) (Or.inl ⟨by rfl, ?_⟩) ?_ ?_
     rotate_left
     ·intro w'
      go_simp
      with_reducible rfl
     rotate_left
     ·simp only [Act.put, List.setIfInBounds_toArray, List.set_cons_zero, List.set_cons_succ, Qx, Q2]
      rfl
     refine Q4 (by kernel_rfl) ?_
     obtain ⟨Ao32, co32, eo32⟩ := Kd.R_slice HO526.out
     subst eo32
     try go_wp2_with (first | ((with_reducible refine qj (f := 79) rfl ?_); refine gl 27 Try.func79 #[.slice Ao32 t524.length co32] ?_; (with_reducible refine (zb.calls kj3 _ _ t524 false _ ?side1 ?side2 A18.out).mono ?_); (case side1 => exact Kd.C_below (Kd.R_reads' HO526.out).2.2 gs); (case side2 => exact (Kd.R_reads' HO526.out).2.1); rintro e w' ⟨rfl, ⟨nd, rfl⟩⟩; refine ⟨_, rfl, ?_⟩) | ((with_reducible refine qj (f := 80) rfl ?_); refine gl 31 Try.func80 #[.int .i64 a0, .slice Ao32 t524.length co32] ?_; (with_reducible refine (qv.calls kj3 a0 _ _ t524 t531 _ ?side1 ?side2 A27.out).mono ?_); (case side1 => exact Kd.C_below (Kd.R_reads' HO526.out).2.2 gs); (case side2 => exact (Kd.R_reads' HO526.out).2.1); rintro e w33 ⟨v532, rfl, ho0, hb⟩; refine ⟨_, rfl, ?_⟩; replace HO523 := eN HO523 (Kd.R_base ho0) hb; have HO533 := am (Kd.R_lower (Kd.R_new' ho0 (Kd.R_lt (wR HO526))) (q4 (bx_ HB))); replace HO526 := eR HO526 (Kd.R_base ho0) hb; replace BK515 := am (qp (g := gb515) (o := .cells #[.int .i64 a2_0, .int .i64 a2_1, .int .i64 a2_2] 43 (0, 0)) (pk_ BK515) hb); replace HB := am (qo (bx_ HB) hb); (try clear hb); (try clear hb2); (try clear hk); (try clear hi); (try clear ho0)))
     go_ret2
     exact ⟨_, fq, Kd.R_below (Kd.R_mono HO533.out (fun _ hk => trivial)) gs, bx_ HB⟩
def q9.l0 : Nat → List Int → List Int → Int → Option (Bool)
 | 0, _, _, _ => none
 | k + 1, x0, x1, x5 => if x5 < (x0.length : Int) then (if 0 ≤ x5 then (if x5 < (x1.length : Int) then (if (rd x0 x5) = (rd x1 x5) then (q9.l0 k x0 x1 (wrap64 (x5 + 1))) else (some false)) else (none)) else (none)) else (some true)
def q9.f (k : Nat) (l0 : List Int) (l1 : List Int) : Option (Bool) := if (l0.length : Int) = (l1.length : Int) then (q9.l0 k l0 l1 0) else (some false)
theorem q9.mono_l : ∀ k, (∀ y0 y1 y2, LeO (q9.l0 k y0 y1 y2) (q9.l0 (k + 1) y0 y1 y2))
 | 0 => fun _ _ _ r h => by simp [q9.l0] at h
 | k + 1 => by
  have ih0 := q9.mono_l k
  ·intro y0 y1 y2
   unfold q9.l0
   repeat' first | (with_reducible first | apply ih0 | exact LeO.refl _ | exact LeO.none _ | refine LeO.ite ?_ ?_ | refine LeO.bind ?_ (fun _ => ?_)) | (first | apply ih0 | exact LeO.none _ | refine LeO.ite ?_ ?_ | refine LeO.bind ?_ (fun _ => ?_))
theorem q9.mono : ∀ a0 a1 k, LeO (q9.f k a0 a1) (q9.f (k + 1) a0 a1) := by
 intro a0 a1 k
 have ih0 := q9.mono_l k
 unfold q9.f
 repeat' first | (with_reducible first | apply ih0 | exact LeO.refl _ | exact LeO.none _ | refine LeO.ite ?_ ?_ | refine LeO.bind ?_ (fun _ => ?_)) | (first | apply ih0 | exact LeO.none _ | refine LeO.ite ?_ ?_ | refine LeO.bind ?_ (fun _ => ?_))
theorem q9.calls (k : Nat) (A0 : Option Addr) (c0 : Nat) (l0 : List Int) (A1 : Option Addr) (c1 : Nat) (l1 : List Int) (r : Bool) (w : World) (hr0 : Kd.C (Kd.int .i64) w A0 l0.length l0) (hc0 : l0.length ≤ c0) (hr1 : Kd.C (Kd.int .i64) w A1 l1.length l1) (hc1 : l1.length ≤ c1) (h : q9.f k l0 l1 = some r) :
  Calls Try.prog 31 #[.slice A0 l0.length c0, .slice A1 l1.length c1] w fun e w' => e = .returned (.bool r) ∧ Drawn0 w w' := by
 have HR0 := am hr0
 have HC0 := am hc0
 clear hr0 hc0
 have HR1 := am hr1
 have HC1 := am hc1
 clear hr1 hc1
 have H : (if (l0.length : Int) = (l1.length : Int) then (q9.l0 k l0 l1 0) else (some false)) = some r := h
 clear h
 by_cases c3 : (l0.length : Int) = (l1.length : Int)
 ·rw [if_pos c3] at H
  have c3b0 := beq_iff_eq.mpr c3; have c3b1 := bne_eq_false_iff_eq.mpr c3
  have c3b2 : (l0.length == l1.length) = true := by first | simpa using c3 | (simp at c3 ⊢; omega)
  clear c3; have H' := am H; clear H
  go_enter Try.func31, Try.ntmps31
  go_wp2
  repeat (go_quiet (fail); try go_wp2)
  go_loopg [5] k (fun kq v5 w' => ∃ (x5_1 : Int), v5 = .int .i64 x5_1 ∧ qb (q9.l0 kq l0 l1 x5_1 = some r) ∧ qb (kq ≤ k) ∧ Drawn0 w w')
  case atStart => exact ⟨(0), fr, H', ⟨Nat.le_refl _⟩, df⟩
  case round =>
   clear H'; try clear c1; try clear p2; try clear c3; try clear c3b0; try clear c3b1; try clear c3b2
   obtain ⟨x5_1, rfl, HA, HK1, ⟨m1, rfl⟩⟩ := hrel
   cases gk with
   | zero => exact absurd HA.out (by simp [q9.l0])
   | succ k1 =>
    have H := HA.out; clear HA
    simp only [q9.l0] at H
    by_cases c4 : x5_1 < (l0.length : Int)
    ·rw [if_pos c4] at H
     have c4b0 := decide_eq_true c4; clear c4; replace H := ifn H; obtain ⟨c5, H⟩ := H; have c5b0 := decide_eq_true c5; clear c5; replace H := ifn H; obtain ⟨c6, H⟩ := H; have c6b0 := decide_eq_true c6; clear c6
     by_cases c7 : (rd l0 x5_1) = (rd l1 x5_1)
     ·rw [if_pos c7] at H
      have c7b0 := beq_iff_eq.mpr c7; have c7b1 := bne_eq_false_iff_eq.mpr c7; clear c7; have H' := am H; clear H
      have p534 : 0 ≤ (x5_1 : Int) := od
      have q534 : x5_1 < (l0.length : Int) := od
      obtain ⟨ad534, e534, hx534_0⟩ := Kd.at_int HR0.out x5_1 p534 q534
      cases e534; replace p534 := eq_true p534; replace q534 := eq_true q534
      have p535 : 0 ≤ (x5_1 : Int) := od
      have q535 : x5_1 < (l1.length : Int) := od
      obtain ⟨ad535, e535, hx535_0⟩ := Kd.at_int HR1.out x5_1 p535 q535
      cases e535; replace p535 := eq_true p535; replace q535 := eq_true q535; go_wp2
      repeat (go_quiet (fail); try go_wp2)
      go_roundg k1
      case measure => have := HK1.out; omega
      case rel => exact ⟨(wrap64 (x5_1 + 1)), fr, H', ⟨by have := HK1.out; omega⟩, df⟩
     ·rw [if_neg c7] at H
      have c7b0 := beq_eq_false_iff_ne.mpr c7; have c7b1 := bne_iff_ne.mpr c7; obtain rfl := Option.some.inj H
      have p534 : 0 ≤ (x5_1 : Int) := od
      have q534 : x5_1 < (l0.length : Int) := od
      obtain ⟨ad534, e534, hx534_0⟩ := Kd.at_int HR0.out x5_1 p534 q534
      cases e534; replace p534 := eq_true p534; replace q534 := eq_true q534
      have p535 : 0 ≤ (x5_1 : Int) := od
      have q535 : x5_1 < (l1.length : Int) := od
      obtain ⟨ad535, e535, hx535_0⟩ := Kd.at_int HR1.out x5_1 p535 q535
      cases e535; replace p535 := eq_true p535; replace q535 := eq_true q535; go_wp2
      repeat (go_quiet (fail); try go_wp2)
      go_ret
      exact ⟨fr, df⟩
    ·rw [if_neg c4] at H
     have c4b0 := decide_eq_false c4; clear c4; obtain rfl := Option.some.inj H; go_wp2
     repeat (go_quiet (fail); try go_wp2)
     go_ret
     exact ⟨fr, df⟩
 ·rw [if_neg c3] at H
  have c3b0 := beq_eq_false_iff_ne.mpr c3; have c3b1 := bne_iff_ne.mpr c3
  have c3b2 : (l0.length == l1.length) = false := by first | simpa using c3 | (simp at c3 ⊢; omega)
  obtain rfl := Option.some.inj H
  go_enter Try.func31, Try.ntmps31
  go_wp2
  repeat (go_quiet (fail); try go_wp2)
  go_ret
  exact ⟨fr, df⟩
def jk.f (k : Nat) (a0 : Int) (l1 : List (S43)) : Option ((List (List Int)) × Bool) := (zi.f k a0 l1).bind fun t536 => (if t536 = true then ((zm.f k a0 l1).bind fun t537 => (some (t537, true))) else (some (([] : List (List Int)), false)))
theorem jk.mono : ∀ a0 a1 k, LeO (jk.f k a0 a1) (jk.f (k + 1) a0 a1) := by
 intro a0 a1 k
 unfold jk.f
 repeat' first | (with_reducible first | apply zi.mono | apply zm.mono | exact LeO.refl _ | exact LeO.none _ | refine LeO.ite ?_ ?_ | refine LeO.bind ?_ (fun _ => ?_)) | (first | apply zi.mono | apply zm.mono | exact LeO.none _ | refine LeO.ite ?_ ?_ | refine LeO.bind ?_ (fun _ => ?_))
theorem jk.calls (k : Nat) (a0 : Int) (A1 : Option Addr) (c1 : Nat) (l1 : List (S43)) (r1 : List (List Int)) (r2 : Bool) (w : World) (hr1 : Kd.C k43 w A1 l1.length l1) (hc1 : l1.length ≤ c1) (h : jk.f k a0 l1 = some (r1, r2)) :
  Calls Try.prog 32 #[.int .i64 a0, .slice A1 l1.length c1] w fun e w' => ∃ v0_ : Value, e = .returned (.tuple #[v0_, .bool r2]) ∧ Kd.S (Kd.slice 3 (Kd.int .i64)) 23 w' w.heap.size (fun _ => True) v0_ r1 ∧ Below w.heap.size w w' := by
 have HR1 := am hr1
 have HC1 := am hc1
 clear hr1 hc1
 have HB := am (Below.refl w.heap.size w)
 have H : ((zi.f k a0 l1).bind fun t536 => (if t536 = true then ((zm.f k a0 l1).bind fun t537 => (some (t537, true))) else (some (([] : List (List Int)), false)))) = some (r1, r2) := h
 clear h; replace H := bs H; obtain ⟨t536, A3, H⟩ := H
 by_cases c4 : t536 = true
 ·subst c4
  rw [if_pos rfl] at H
  replace H := bs H; obtain ⟨t537, A5, H⟩ := H
  simp only [Option.some.injEq, Prod.mk.injEq] at H
  obtain ⟨rfl, rfl⟩ := H
  go_enter Try.func32, Try.ntmps32
  go_wp2_with (first | ((with_reducible refine qj (f := 65) rfl ?_); refine gl 8 Try.func65 #[.int .i64 a0, .slice A1 l1.length c1] ?_; (with_reducible refine (zi.calls k a0 _ _ l1 true _ ?_ ?_ A3.out).mono ?_); exact wC HR1; exact HC1.out; rintro e w6 ⟨rfl, hb⟩; refine ⟨_, rfl, ?_⟩; replace HB := bq HB hb; (try clear hb)) | ((with_reducible refine qj (f := 67) rfl ?_); refine gl 12 Try.func67 #[.int .i64 a0, .slice A1 l1.length c1] ?_; (with_reducible refine (zm.calls k a0 _ _ l1 t537 _ ?_ ?_ A5.out).mono ?_); exact Kd.C_below HR1.out (bw HB); exact HC1.out; rintro e w7 ⟨v538, rfl, ho0, hb⟩; refine ⟨_, rfl, ?_⟩; have HO539 := am (Kd.S_lower ho0 (bz HB)); replace HB := bq HB hb; (try clear hb); (try clear ho0)))
  go_ret2
  exact ⟨_, fq, wS HO539, bw HB⟩
 ·replace c4 := Bool.eq_false_iff.mpr c4
  subst c4
  rw [if_neg (show ¬ (false = true) by decide)] at H
  simp only [Option.some.injEq, Prod.mk.injEq] at H
  obtain ⟨rfl, rfl⟩ := H
  go_enter Try.func32, Try.ntmps32
  go_wp2_with (first | ((with_reducible refine qj (f := 65) rfl ?_); refine gl 8 Try.func65 #[.int .i64 a0, .slice A1 l1.length c1] ?_; (with_reducible refine (zi.calls k a0 _ _ l1 false _ ?_ ?_ A3.out).mono ?_); exact wC HR1; exact HC1.out; rintro e w8 ⟨rfl, hb⟩; refine ⟨_, rfl, ?_⟩; replace HB := bq HB hb; (try clear hb)))
  go_ret2
  exact ⟨_, fq, by first | exact Kd.S_nil _ _ _ _ _ | exact Kd.N_nil _ _ _ _ _ | exact Kd.V_nil _ _ _ _ _ | exact Kd.Q_nil _ _ _ _ _ | exact Kd.R_nil _ _ _ _ _, bw HB⟩
end Go.Proofs.Ytmgbpmihbljngaa.PA

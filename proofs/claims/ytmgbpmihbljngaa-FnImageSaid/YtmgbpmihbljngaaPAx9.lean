-- Written by xprint.py, a program of this claim's own (over the kit's print.py)
import Derived.Test.YtmgbpmihbljngaaPAx2
namespace Go.Proofs.Ytmgbpmihbljngaa.PA
set_option maxHeartbeats 8000000
set_option maxRecDepth 100000
open Go.RowKit Go.Proofs.YtmgbpmihbljngaaW.PrintWords Go.Proofs.YtmgbpmihbljngaaW.PrintLast Go.Proofs.YtmgbpmihbljngaaW.PrintMore
attribute [local go_sem] j8 j9 Qi Qj jw jy Qa Qb
set_option linter.unusedVariables false
set_option linter.unusedSimpArgs false
def jn.f (k : Nat) (a0 : Int) (l1 : List Int) : Option (Int × Int × Int) := (qv.f k a0 l1).bind fun t241 => (if 0 < (t241.length : Int) then (if 1 < (t241.length : Int) then (if 2 < (t241.length : Int) then (some (rd t241 0, rd t241 1, rd t241 2)) else (none)) else (none)) else (none))
theorem jn.mono : ∀ a0 a1 k, LeO (jn.f k a0 a1) (jn.f (k + 1) a0 a1) := by
 intro a0 a1 k
 unfold jn.f
 repeat' first | (with_reducible first | apply qv.mono | exact LeO.refl _ | exact LeO.none _ | refine LeO.ite ?_ ?_ | refine LeO.bind ?_ (fun _ => ?_)) | (first | apply qv.mono | exact LeO.none _ | refine LeO.ite ?_ ?_ | refine LeO.bind ?_ (fun _ => ?_))
def jn.T2 : Bool × List (List Nat × List Nat) := (true, [([], []), ([0], [0]), ([1], [1]), ([], []), ([3], [3]), ([4], [4]), ([], []), ([6], [6]), ([7], [7]), ([2, 5, 8], [2, 5, 8]), ([9], [9]), ([10, 0, 1, 2, 3, 4, 5, 6, 7, 8, 9, 10], [10])])
def jn.B2 : List Nat := [0, 1, 3, 0, 8, 24, 0, 64, 192, 511, 1023, 2047]
theorem jn.tab2 : rtab .any (Zp Try.f160 2) = jn.T2 := by kernel_rfl
theorem jn.bits2 : Qd jn.T2.2 jn.B2 = true := by kernel_rfl
theorem jn.calls (k : Nat) (a0 : Int) (A1 : Option Addr) (c1 : Nat) (l1 : List Int) (r1 : Int) (r2 : Int) (r3 : Int) (w : World) (hr1 : Kd.C (Kd.int .i64) w A1 l1.length l1) (hc1 : l1.length ≤ c1) (h : jn.f k a0 l1 = some (r1, r2, r3)) :
  Calls Try.prog 160 #[.int .i64 a0, .slice A1 l1.length c1] w fun e w' => e = .returned (.agg #[.int .i64 r1, .int .i64 r2, .int .i64 r3]) ∧ Below w.heap.size w w' := by
 have hu43 := Try.underlying43
 have hu41 := Try.underlying41
 have HR1 := am hr1
 have HC1 := am hc1
 clear hr1 hc1
 have HB := am (Below.refl w.heap.size w)
 have H : ((qv.f k a0 l1).bind fun t241 => (if 0 < (t241.length : Int) then (if 1 < (t241.length : Int) then (if 2 < (t241.length : Int) then (some (rd t241 0, rd t241 1, rd t241 2)) else (none)) else (none)) else (none))) = some (r1, r2, r3) := h
 clear h; replace H := bs H; obtain ⟨t241, A3, H⟩ := H
 by_cases c4 : 0 < (t241.length : Int)
 ·rw [if_pos c4] at H
  have c4b0 := decide_eq_true c4
  have c4b1 : decide (0 < t241.length) = true := decide_eq_true (by omega)
  clear c4; replace H := ifn H; obtain ⟨c5, H⟩ := H; have c5b0 := decide_eq_true c5
  have c5b1 : decide (1 < t241.length) = true := decide_eq_true (by omega)
  clear c5; replace H := ifn H; obtain ⟨c6, H⟩ := H; have c6b0 := decide_eq_true c6
  have c6b1 : decide (2 < t241.length) = true := decide_eq_true (by omega)
  clear c6
  simp only [Option.some.injEq, Prod.mk.injEq] at H
  obtain ⟨rfl, rfl, rfl⟩ := H
  go_enter Try.func160, Try.ntmps160
  try go_wp2_with (first | ((with_reducible refine q6 (N := 4) rfl ?_); refine xe_ 4 43 #[.int .i64 0, .int .i64 0, .int .i64 0] ?_; intro gb240 hg w7 hbox hb; have BK240 := am (hbox); have GW240 := am ((by rw [hg]; exact (bz HB) : w.heap.size ≤ gb240)); have GE240 := am ((by rw [hg]; exact (bz HB) : w.heap.size ≤ gb240)); replace HB := bq HB hb; clear hb hbox hg) | ((with_reducible refine qj (f := 80) rfl ?_); refine gl 8 Try.func80 #[.int .i64 a0, .slice A1 l1.length c1] ?_; (with_reducible refine (qv.calls k a0 _ _ l1 t241 _ ?side1 ?side2 A3.out).mono ?_); (case side1 => exact Kd.C_below HR1.out (bw HB)); (case side2 => exact HC1.out); rintro e w8 ⟨v242, rfl, ho0, hb⟩; refine ⟨_, rfl, ?_⟩; have HO243 := am (Kd.R_lower ho0 (q4 (bx_ HB))); replace BK240 := am (qp (g := gb240) (o := .cells #[.int .i64 0, .int .i64 0, .int .i64 0] 43 (0, 0)) (pk_ BK240) hb); replace HB := am (qo (bx_ HB) hb); (try clear hb); (try clear hb2); (try clear hk); (try clear hi); (try clear ho0)))
  replace HO243 := am (Kd.R_drew HO243.out)
  replace BK240 := am (qh BK240.out)
  replace HB := am (zc HB.out)
  obtain ⟨Ao10, co10, eo10⟩ := Kd.R_slice HO243.out
  (first | subst eo10 | (injection eo10 with f1_ f2_ f3_; have f4_ := f1_.symm; have f5_ := f3_.symm; clear f1_ f2_ f3_; subst f4_; subst f5_))
  have p244 : 0 ≤ (0 : Int) := (by omega)
  have q244 : 0 < (t241.length : Int) := od
  obtain ⟨ad244, e244, hx244_0⟩ := Kd.at_int (Kd.R_reads' HO243.out).2.2 0 p244 q244
  cases e244
  have qi244 : (0 < t241.length) = True := eq_true (by omega)
  (try rw [show ((0 : Int)).toNat = 0 from rfl] at hx244_0)
  (try rw [Addr.add_zero'] at hx244_0)
  replace p244 := eq_true p244; replace q244 := eq_true q244
  have p245 : 0 ≤ (1 : Int) := (by omega)
  have q245 : 1 < (t241.length : Int) := od
  obtain ⟨ad245, e245, hx245_0⟩ := Kd.at_int (Kd.R_reads' HO243.out).2.2 1 p245 q245
  obtain rfl : ad244 = ad245 := (by injection e245)
  (try simp only [show (1 : Int).toNat = 1 from rfl, Nat.reduceMul, Nat.reduceEqDiff, Go.Addr.add, ↓reduceIte] at hx245_0)
  have qi245 : (1 < t241.length) = True := eq_true (by omega)
  (try rw [show ((1 : Int)).toNat = 1 from rfl] at hx245_0)
  replace p245 := eq_true p245; replace q245 := eq_true q245
  have p246 : 0 ≤ (2 : Int) := (by omega)
  have q246 : 2 < (t241.length : Int) := od
  obtain ⟨ad246, e246, hx246_0⟩ := Kd.at_int (Kd.R_reads' HO243.out).2.2 2 p246 q246
  obtain rfl : ad244 = ad246 := (by injection e246)
  (try simp only [show (2 : Int).toNat = 2 from rfl, Nat.reduceMul, Nat.reduceEqDiff, Go.Addr.add, ↓reduceIte] at hx246_0)
  have qi246 : (2 < t241.length) = True := eq_true (by omega)
  (try rw [show ((2 : Int)).toNat = 2 from rfl] at hx246_0)
  replace p246 := eq_true p246; replace q246 := eq_true q246
  refine st 12 (fun w' => w'.cell? ad244 = some (.int .i64 (rd t241 0)) ∧ w'.cell? ⟨ad244.block, ad244.off + 1, none⟩ = some (.int .i64 (rd t241 1)) ∧ w'.cell? ⟨ad244.block, ad244.off + 2, none⟩ = some (.int .i64 (rd t241 2))) [] jn.tab2 jn.bits2 (⟨hx244_0, hx245_0, hx246_0⟩) fun hHeld HT_ HW_ => ?_
  generalize w8.drew = w9 at HO243 BK240 HB hx244_0 hx245_0 hx246_0 hHeld ⊢
  refine pz 0 9 HT_ ?_; refine pz 1 10 HT_ ?_; refine pz 3 12 HT_ ?_; refine pz 4 13 HT_ ?_; refine pz 6 15 HT_ ?_; refine pz 7 16 HT_ ?_; refine tk 2 11 HT_ HW_ hHeld ?_; refine tk 5 14 HT_ HW_ hHeld ?_; refine tk 8 17 HT_ HW_ hHeld ?_; refine pz 9 18 HT_ ?_
  refine pz 10 19 HT_ ?_
  refine on 11 none HT_ fun K hK => ?_
  have hs11 : w9.cell? ⟨gb240, 0, none⟩ = some (.int .i64 0) := (qa BK240.out 0).trans rfl
  have hfs11 := qg BK240.out 0
  have hs12 : w9.cell? ⟨gb240, 1, none⟩ = some (.int .i64 0) := (qa BK240.out 1).trans rfl
  have hfs12 := qg BK240.out 1
  have hs13 : w9.cell? ⟨gb240, 2, none⟩ = some (.int .i64 0) := (qa BK240.out 2).trans rfl
  have hfs13 := qg BK240.out 2
  refine qcu (w1 := ?_) (by rfl) rfl ?_ ?_
  rotate_left
  ·go_simp
   rfl
  refine hK.out _ _ ⟨((zw (p := ⟨gb240, _, none⟩) (by first | exact Kd.own_blk (Kd.R_ne HO243.out BK240.out (by decide)) | (rw [zx]; exact Kd.own_blk (Kd.R_ne HO243.out BK240.out (by decide))) | (show (Addr.add _ _).block ≠ _; rw [zx]; exact Kd.own_blk (Kd.R_ne HO243.out BK240.out (by decide))) | (dsimp only; exact Kd.own_blk (Kd.R_ne HO243.out BK240.out (by decide)))) _).trans (((zw (p := ⟨gb240, _, none⟩) (by first | exact Kd.own_blk (Kd.R_ne HO243.out BK240.out (by decide)) | (rw [zx]; exact Kd.own_blk (Kd.R_ne HO243.out BK240.out (by decide))) | (show (Addr.add _ _).block ≠ _; rw [zx]; exact Kd.own_blk (Kd.R_ne HO243.out BK240.out (by decide))) | (dsimp only; exact Kd.own_blk (Kd.R_ne HO243.out BK240.out (by decide)))) _).trans (((zw (p := ⟨gb240, _, none⟩) (by first | exact Kd.own_blk (Kd.R_ne HO243.out BK240.out (by decide)) | (rw [zx]; exact Kd.own_blk (Kd.R_ne HO243.out BK240.out (by decide))) | (show (Addr.add _ _).block ≠ _; rw [zx]; exact Kd.own_blk (Kd.R_ne HO243.out BK240.out (by decide))) | (dsimp only; exact Kd.own_blk (Kd.R_ne HO243.out BK240.out (by decide)))) _).trans (hHeld.1)))))), ((zw (p := ⟨gb240, _, none⟩) (by first | exact Kd.own_blk (Kd.R_ne HO243.out BK240.out (by decide)) | (rw [zx]; exact Kd.own_blk (Kd.R_ne HO243.out BK240.out (by decide))) | (show (Addr.add _ _).block ≠ _; rw [zx]; exact Kd.own_blk (Kd.R_ne HO243.out BK240.out (by decide))) | (dsimp only; exact Kd.own_blk (Kd.R_ne HO243.out BK240.out (by decide)))) _).trans (((zw (p := ⟨gb240, _, none⟩) (by first | exact Kd.own_blk (Kd.R_ne HO243.out BK240.out (by decide)) | (rw [zx]; exact Kd.own_blk (Kd.R_ne HO243.out BK240.out (by decide))) | (show (Addr.add _ _).block ≠ _; rw [zx]; exact Kd.own_blk (Kd.R_ne HO243.out BK240.out (by decide))) | (dsimp only; exact Kd.own_blk (Kd.R_ne HO243.out BK240.out (by decide)))) _).trans (((zw (p := ⟨gb240, _, none⟩) (by first | exact Kd.own_blk (Kd.R_ne HO243.out BK240.out (by decide)) | (rw [zx]; exact Kd.own_blk (Kd.R_ne HO243.out BK240.out (by decide))) | (show (Addr.add _ _).block ≠ _; rw [zx]; exact Kd.own_blk (Kd.R_ne HO243.out BK240.out (by decide))) | (dsimp only; exact Kd.own_blk (Kd.R_ne HO243.out BK240.out (by decide)))) _).trans (hHeld.2.1)))))), ((zw (p := ⟨gb240, _, none⟩) (by first | exact Kd.own_blk (Kd.R_ne HO243.out BK240.out (by decide)) | (rw [zx]; exact Kd.own_blk (Kd.R_ne HO243.out BK240.out (by decide))) | (show (Addr.add _ _).block ≠ _; rw [zx]; exact Kd.own_blk (Kd.R_ne HO243.out BK240.out (by decide))) | (dsimp only; exact Kd.own_blk (Kd.R_ne HO243.out BK240.out (by decide)))) _).trans (((zw (p := ⟨gb240, _, none⟩) (by first | exact Kd.own_blk (Kd.R_ne HO243.out BK240.out (by decide)) | (rw [zx]; exact Kd.own_blk (Kd.R_ne HO243.out BK240.out (by decide))) | (show (Addr.add _ _).block ≠ _; rw [zx]; exact Kd.own_blk (Kd.R_ne HO243.out BK240.out (by decide))) | (dsimp only; exact Kd.own_blk (Kd.R_ne HO243.out BK240.out (by decide)))) _).trans (((zw (p := ⟨gb240, _, none⟩) (by first | exact Kd.own_blk (Kd.R_ne HO243.out BK240.out (by decide)) | (rw [zx]; exact Kd.own_blk (Kd.R_ne HO243.out BK240.out (by decide))) | (show (Addr.add _ _).block ≠ _; rw [zx]; exact Kd.own_blk (Kd.R_ne HO243.out BK240.out (by decide))) | (dsimp only; exact Kd.own_blk (Kd.R_ne HO243.out BK240.out (by decide)))) _).trans (hHeld.2.2))))))⟩ (fun hHeld => ?_)
  clear hK K
  refine Q4 (Qg HT_.out (by kernel_rfl)) ?_
  try go_wp2
  refine bodyPost_ret (results_cell_row rfl _ _ gb240 43 #[.int .i64 (rd t241 0), .int .i64 (rd t241 1), .int .i64 (rd t241 2)] (0, 0) _ rfl (by (with_reducible repeat (first | refine qf ?_ _ | refine qh ?_ | refine qe ?_ _)); refine zz (cs := #[.int .i64 (rd t241 0), .int .i64 (rd t241 1), .int .i64 0]) ?_ 2 _ rfl; (with_reducible repeat (first | refine qf ?_ _ | refine qh ?_ | refine qe ?_ _)); refine zz (cs := #[.int .i64 (rd t241 0), .int .i64 0, .int .i64 0]) ?_ 1 _ rfl; (with_reducible repeat (first | refine qf ?_ _ | refine qh ?_ | refine qe ?_ _)); refine zz (cs := #[.int .i64 0, .int .i64 0, .int .i64 0]) ?_ 0 _ rfl; (with_reducible repeat (first | refine qf ?_ _ | refine qh ?_ | refine qe ?_ _)); exact BK240.out) Try.underlying43 rfl (by kernel_rfl)) rfl ?_
  exact ⟨fq, bx_ HB⟩
 ·rw [if_neg c4] at H
  exact absurd H (by simp)
def zk.j0 : Nat → Int → Int → Int → Int → Bool → Option (Int × Int × Int × Bool)
 | 0, _, _, _, _, _ => none
 | k + 1, x0, x1, x2, x3, x28 => if x28 = true then (some (0, 0, 0, false)) else ((jo.f x0 x1).bind fun t252 => ((jo.f x0 x2).bind fun t253 => ((jo.f x0 x3).bind fun t254 => ((some (([t252, t253, t254] : List Int) : List Int)).bind fun y255 => ((zb.f k y255).bind fun t258 => (if t258 = true then (some (0, 0, 0, false)) else ((jn.f k x0 y255).bind fun bt259 => (some (bt259.1, bt259.2.1, bt259.2.2, true)))))))))
def zk.f (k : Nat) (a0 : Int) (a1 : Int) (a2 : Int) (a3 : Int) : Option (Int × Int × Int × Bool) := (Qc.f a0).bind fun t248 => (if t248 = true then ((ji.f a1 (-1000) 1000).bind fun t249 => (if t249 = true then ((ji.f a2 (-1000) 1000).bind fun t250 => (if t250 = true then ((ji.f a3 (-1000) 1000).bind fun t251 => (zk.j0 k a0 a1 a2 a3 (!t251))) else (zk.j0 k a0 a1 a2 a3 true))) else (zk.j0 k a0 a1 a2 a3 true))) else (zk.j0 k a0 a1 a2 a3 true))
theorem zk.mono_l : ∀ k, (∀ y0 y1 y2 y3 y4, LeO (zk.j0 k y0 y1 y2 y3 y4) (zk.j0 (k + 1) y0 y1 y2 y3 y4))
 | 0 => fun _ _ _ _ _ r h => by simp [zk.j0] at h
 | k + 1 => by
  have ih0 := zk.mono_l k
  ·intro y0 y1 y2 y3 y4
   unfold zk.j0
   repeat' first | (with_reducible first | apply ih0 | apply jn.mono | apply zb.mono | exact LeO.refl _ | exact LeO.none _ | refine LeO.ite ?_ ?_ | refine LeO.bind ?_ (fun _ => ?_)) | (first | apply ih0 | apply jn.mono | apply zb.mono | exact LeO.none _ | refine LeO.ite ?_ ?_ | refine LeO.bind ?_ (fun _ => ?_))
theorem zk.mono : ∀ a0 a1 a2 a3 k, LeO (zk.f k a0 a1 a2 a3) (zk.f (k + 1) a0 a1 a2 a3) := by
 intro a0 a1 a2 a3 k
 have ih0 := zk.mono_l k
 unfold zk.f
 repeat' first | (with_reducible first | apply ih0 | apply jn.mono | apply zb.mono | exact LeO.refl _ | exact LeO.none _ | refine LeO.ite ?_ ?_ | refine LeO.bind ?_ (fun _ => ?_)) | (first | apply ih0 | apply jn.mono | apply zb.mono | exact LeO.none _ | refine LeO.ite ?_ ?_ | refine LeO.bind ?_ (fun _ => ?_))
theorem zk.calls (k : Nat) (a0 : Int) (a1 : Int) (a2 : Int) (a3 : Int) (r1 : Int) (r2 : Int) (r3 : Int) (r4 : Bool) (w : World) (h : zk.f k a0 a1 a2 a3 = some (r1, r2, r3, r4)) :
  Calls Try.prog 118 #[.int .i64 a0, .int .i64 a1, .int .i64 a2, .int .i64 a3] w fun e w' => e = .returned (.tuple #[.agg #[.int .i64 r1, .int .i64 r2, .int .i64 r3], .bool r4]) ∧ Below w.heap.size w w' := by
 have hu43 := Try.underlying43
 have HB := am (Below.refl w.heap.size w)
 have H : ((Qc.f a0).bind fun t248 => (if t248 = true then ((ji.f a1 (-1000) 1000).bind fun t249 => (if t249 = true then ((ji.f a2 (-1000) 1000).bind fun t250 => (if t250 = true then ((ji.f a3 (-1000) 1000).bind fun t251 => (zk.j0 k a0 a1 a2 a3 (!t251))) else (zk.j0 k a0 a1 a2 a3 true))) else (zk.j0 k a0 a1 a2 a3 true))) else (zk.j0 k a0 a1 a2 a3 true))) = some (r1, r2, r3, r4) := h
 clear h
 have HC5 := am H
 clear H
 go_enter Try.func118, Try.ntmps118
 go_upto_region 1 with (first | ((with_reducible refine q6 (N := 8) rfl ?_); refine xe_ 8 43 #[.int .i64 0, .int .i64 0, .int .i64 0] ?_; intro gb247 hg w6 hbox hb; have BK247 := am (hbox); have GW247 := am ((by rw [hg]; exact (bz HB) : w.heap.size ≤ gb247)); have GE247 := am ((by rw [hg]; exact (bz HB) : w.heap.size ≤ gb247)); replace HB := bq HB hb; clear hb hbox hg))
 (try simp only [Act.put, List.setIfInBounds_toArray, List.set_cons_zero, List.set_cons_succ])
 go_cut [28] (fun v28 wc => ∃ (kq : Nat) (x28_4 : Bool), v28 = .bool x28_4 ∧ qb (zk.j0 kq a0 a1 a2 a3 x28_4 = some (r1, r2, r3, r4)) ∧ qb (kq ≤ k) ∧ qb (wc.heap[gb247]? = some (.cells #[.int .i64 0, .int .i64 0, .int .i64 0] 43 (0, 0))) ∧ qb (Below w.heap.size w wc))
 case first =>
  have H := HC5.out
  clear HC5; replace H := bs H; obtain ⟨t248, A7, H⟩ := H
  by_cases c8 : t248 = true
  ·subst c8
   rw [if_pos rfl] at H
   replace H := bs H; obtain ⟨t249, A9, H⟩ := H
   by_cases c10 : t249 = true
   ·subst c10
    rw [if_pos rfl] at H
    replace H := bs H; obtain ⟨t250, A11, H⟩ := H
    by_cases c12 : t250 = true
    ·subst c12
     rw [if_pos rfl] at H
     replace H := bs H; obtain ⟨t251, A13, H⟩ := H; have H' := am H; clear H
     go_wp2_with (first | ((with_reducible refine qj (f := 103) rfl ?_); refine gl 12 Try.func103 #[.int .i64 a0] ?_; (with_reducible refine (Qc.calls a0 true _ A7.out).mono ?_); rintro e w' ⟨rfl, ⟨nd, rfl⟩⟩; refine ⟨_, rfl, ?_⟩) | (go_at_call 87; (with_reducible refine (ji.calls a1 (-1000) 1000 true _ A9.out).mono ?_); rintro e w' ⟨rfl, ⟨nd, rfl⟩⟩) | (go_at_call 87; (with_reducible refine (ji.calls a2 (-1000) 1000 true _ A11.out).mono ?_); rintro e w' ⟨rfl, ⟨nd, rfl⟩⟩) | (go_at_call 87; (with_reducible refine (ji.calls a3 (-1000) 1000 t251 _ A13.out).mono ?_); rintro e w' ⟨rfl, ⟨nd, rfl⟩⟩))
     go_meet
     case rel => exact ⟨_, (!t251), fr, H', ⟨by first | omega | exact Nat.le_refl _⟩, ⟨by (with_reducible repeat (first | refine qf ?_ _ | refine qh ?_ | refine qe ?_ _)); exact BK247.out⟩, ⟨bx_ HB⟩⟩
    ·replace c12 := Bool.eq_false_iff.mpr c12
     subst c12
     rw [if_neg (show ¬ (false = true) by decide)] at H
     have H' := am H; clear H
     go_wp2_with (first | ((with_reducible refine qj (f := 103) rfl ?_); refine gl 12 Try.func103 #[.int .i64 a0] ?_; (with_reducible refine (Qc.calls a0 true _ A7.out).mono ?_); rintro e w' ⟨rfl, ⟨nd, rfl⟩⟩; refine ⟨_, rfl, ?_⟩) | (go_at_call 87; (with_reducible refine (ji.calls a1 (-1000) 1000 true _ A9.out).mono ?_); rintro e w' ⟨rfl, ⟨nd, rfl⟩⟩) | (go_at_call 87; (with_reducible refine (ji.calls a2 (-1000) 1000 false _ A11.out).mono ?_); rintro e w' ⟨rfl, ⟨nd, rfl⟩⟩))
     go_meet
     case rel => exact ⟨_, (true), fr, H', ⟨by first | omega | exact Nat.le_refl _⟩, ⟨by (with_reducible repeat (first | refine qf ?_ _ | refine qh ?_ | refine qe ?_ _)); exact BK247.out⟩, ⟨bx_ HB⟩⟩
   ·replace c10 := Bool.eq_false_iff.mpr c10
    subst c10
    rw [if_neg (show ¬ (false = true) by decide)] at H
    have H' := am H; clear H
    go_wp2_with (first | ((with_reducible refine qj (f := 103) rfl ?_); refine gl 12 Try.func103 #[.int .i64 a0] ?_; (with_reducible refine (Qc.calls a0 true _ A7.out).mono ?_); rintro e w' ⟨rfl, ⟨nd, rfl⟩⟩; refine ⟨_, rfl, ?_⟩) | (go_at_call 87; (with_reducible refine (ji.calls a1 (-1000) 1000 false _ A9.out).mono ?_); rintro e w' ⟨rfl, ⟨nd, rfl⟩⟩))
    go_meet
    case rel => exact ⟨_, (true), fr, H', ⟨by first | omega | exact Nat.le_refl _⟩, ⟨by (with_reducible repeat (first | refine qf ?_ _ | refine qh ?_ | refine qe ?_ _)); exact BK247.out⟩, ⟨bx_ HB⟩⟩
  ·replace c8 := Bool.eq_false_iff.mpr c8
   subst c8
   rw [if_neg (show ¬ (false = true) by decide)] at H
   have H' := am H; clear H
   go_wp2_with (first | ((with_reducible refine qj (f := 103) rfl ?_); refine gl 12 Try.func103 #[.int .i64 a0] ?_; (with_reducible refine (Qc.calls a0 false _ A7.out).mono ?_); rintro e w' ⟨rfl, ⟨nd, rfl⟩⟩; refine ⟨_, rfl, ?_⟩))
   go_meet
   case rel => exact ⟨_, (true), fr, H', ⟨by first | omega | exact Nat.le_refl _⟩, ⟨by (with_reducible repeat (first | refine qf ?_ _ | refine qh ?_ | refine qe ?_ _)); exact BK247.out⟩, ⟨bx_ HB⟩⟩
 case rest =>
  clear HC5; try clear c1; try clear p2; try clear c8; try clear c10; try clear c11; try clear c12
  obtain ⟨kq, x28_4, rfl, HA, HJ4, BK247, HB⟩ := hcut
  cases kq with
  | zero => exact absurd HA.out (by simp [zk.j0])
  | succ kj4 =>
   have H := HA.out; clear HA
   simp only [zk.j0] at H
   by_cases c14 : x28_4 = true
   ·subst c14
    rw [if_pos rfl] at H
    simp only [Option.some.injEq, Prod.mk.injEq] at H
    obtain ⟨rfl, rfl, rfl, rfl⟩ := H
    have hcz15_0 : wc.cell? ⟨gb247, 0, none⟩ = some (.int .i64 0) := (qa BK247.out 0).trans rfl
    have hcz15_1 : wc.cell? ⟨gb247, 1, none⟩ = some (.int .i64 0) := (qa BK247.out 1).trans rfl
    have hcz15_2 : wc.cell? ⟨gb247, 2, none⟩ = some (.int .i64 0) := (qa BK247.out 2).trans rfl
    have hfz15_0 := qg BK247.out 0
    have hfz15_1 := qg BK247.out 1
    have hfz15_2 := qg BK247.out 2
    go_wp2
    refine bodyPost_ret (qcg rfl _ _ gb247 43 #[.int .i64 0, .int .i64 0, .int .i64 0] (0, 0) _ rfl (by (with_reducible repeat (first | refine qf ?_ _ | refine qh ?_ | refine qe ?_ _)); refine zz (cs := #[.int .i64 0, .int .i64 0, .int .i64 0]) ?_ 2 _ rfl; (with_reducible repeat (first | refine qf ?_ _ | refine qh ?_ | refine qe ?_ _)); refine zz (cs := #[.int .i64 0, .int .i64 0, .int .i64 0]) ?_ 1 _ rfl; (with_reducible repeat (first | refine qf ?_ _ | refine qh ?_ | refine qe ?_ _)); refine zz (cs := #[.int .i64 0, .int .i64 0, .int .i64 0]) ?_ 0 _ rfl; (with_reducible repeat (first | refine qf ?_ _ | refine qh ?_ | refine qe ?_ _)); exact BK247.out) Try.underlying43 rfl (by kernel_rfl)) rfl ?_
    exact ⟨fq, bx_ HB⟩
   ·replace c14 := Bool.eq_false_iff.mpr c14
    subst c14
    rw [if_neg (show ¬ (false = true) by decide)] at H
    replace H := bs H; obtain ⟨t252, A16, H⟩ := H; replace H := bs H; obtain ⟨t253, A17, H⟩ := H; replace H := bs H; obtain ⟨t254, A18, H⟩ := H; replace H := bsy H; obtain ⟨y255, Ny255, H⟩ := H; replace H := bs H; obtain ⟨t258, A19, H⟩ := H
    by_cases c20 : t258 = true
    ·subst c20
     rw [if_pos rfl] at H
     simp only [Option.some.injEq, Prod.mk.injEq] at H
     obtain ⟨rfl, rfl, rfl, rfl⟩ := H
     go_wp2_with (first | ((with_reducible refine qj (f := 158) rfl ?_); refine gl 32 Try.func158 #[.int .i64 a0, .int .i64 a1] ?_; (with_reducible refine (jo.calls a0 a1 t252 _ A16.out).mono ?_); rintro e w' ⟨rfl, ⟨nd, rfl⟩⟩; refine ⟨_, rfl, ?_⟩; (try (rw [Zb wc]; generalize hq_ : World.drewN wc _ = wc; have n0_ : qb (wc.heap[gb247]? = some (.cells #[.int .i64 0, .int .i64 0, .int .i64 0] 43 (0, 0))) := ⟨by rw [← hq_]; exact (pk_ BK247)⟩; have n1_ : qb (Below w.heap.size w wc) := ⟨by rw [← hq_]; exact (bx_ HB)⟩; clear BK247 HB hq_; have BK247 := n0_; have HB := n1_; clear n0_ n1_))) | ((with_reducible refine qj (f := 158) rfl ?_); refine gl 35 Try.func158 #[.int .i64 a0, .int .i64 a2] ?_; (with_reducible refine (jo.calls a0 a2 t253 _ A17.out).mono ?_); rintro e w' ⟨rfl, ⟨nd, rfl⟩⟩; refine ⟨_, rfl, ?_⟩; (try (rw [Zb wc]; generalize hq_ : World.drewN wc _ = wc; have n0_ : qb (wc.heap[gb247]? = some (.cells #[.int .i64 0, .int .i64 0, .int .i64 0] 43 (0, 0))) := ⟨by rw [← hq_]; exact (pk_ BK247)⟩; have n1_ : qb (Below w.heap.size w wc) := ⟨by rw [← hq_]; exact (bx_ HB)⟩; clear BK247 HB hq_; have BK247 := n0_; have HB := n1_; clear n0_ n1_))) | ((with_reducible refine qj (f := 158) rfl ?_); refine gl 38 Try.func158 #[.int .i64 a0, .int .i64 a3] ?_; (with_reducible refine (jo.calls a0 a3 t254 _ A18.out).mono ?_); rintro e w' ⟨rfl, ⟨nd, rfl⟩⟩; refine ⟨_, rfl, ?_⟩; (try (rw [Zb wc]; generalize hq_ : World.drewN wc _ = wc; have n0_ : qb (wc.heap[gb247]? = some (.cells #[.int .i64 0, .int .i64 0, .int .i64 0] 43 (0, 0))) := ⟨by rw [← hq_]; exact (pk_ BK247)⟩; have n1_ : qb (Below w.heap.size w wc) := ⟨by rw [← hq_]; exact (bx_ HB)⟩; clear BK247 HB hq_; have BK247 := n0_; have HB := n1_; clear n0_ n1_))) | ((with_reducible refine q6 (N := 39) rfl ?_); refine li 3 [t252, t253, t254] ?_; intro v256 w21 ho22 hb; (first | rw [← Ny255.out] at ho22 | (simp only [Int.reduceToNat] at ho22; rw [← Ny255.out] at ho22)); have HO257 := am (Kd.R_lower ho22 (q4 (bx_ HB))); replace BK247 := am (qp (g := gb247) (o := .cells #[.int .i64 0, .int .i64 0, .int .i64 0] 43 (0, 0)) (pk_ BK247) hb); replace HB := am (qo (bx_ HB) hb); clear hb ho22; obtain ⟨Ao23, co23, eo23⟩ := Kd.R_slice HO257.out; subst eo23) | ((with_reducible refine qj (f := 79) rfl ?_); refine gl 41 Try.func79 #[.slice Ao23 y255.length co23] ?_; (with_reducible refine (zb.calls kj4 _ _ y255 true _ ?_ ?_ A19.out).mono ?_); exact Kd.C_below (Kd.R_reads' HO257.out).2.2 gs; exact (Kd.R_reads' HO257.out).2.1; rintro e w' ⟨rfl, ⟨nd, rfl⟩⟩; refine ⟨_, rfl, ?_⟩; (try (rw [Zb w21]; generalize hq_ : World.drewN w21 _ = w21; have n0_ : qb (Kd.R (Kd.int .i64) 3 w21 w.heap.size (fun _ => True) (.slice Ao23 y255.length co23) y255) := ⟨by rw [← hq_]; exact (wR HO257)⟩; have n1_ : qb (w21.heap[gb247]? = some (.cells #[.int .i64 0, .int .i64 0, .int .i64 0] 43 (0, 0))) := ⟨by rw [← hq_]; exact (pk_ BK247)⟩; have n2_ : qb (Below w.heap.size w w21) := ⟨by rw [← hq_]; exact (bx_ HB)⟩; clear HO257 BK247 HB hq_; have HO257 := n0_; have BK247 := n1_; have HB := n2_; clear n0_ n1_ n2_)); have hcz24_0 : w21.cell? ⟨gb247, 0, none⟩ = some (.int .i64 0) := (qa BK247.out 0).trans rfl; have hcz24_1 : w21.cell? ⟨gb247, 1, none⟩ = some (.int .i64 0) := (qa BK247.out 1).trans rfl; have hcz24_2 : w21.cell? ⟨gb247, 2, none⟩ = some (.int .i64 0) := (qa BK247.out 2).trans rfl; have hfz24_0 := qg BK247.out 0; have hfz24_1 := qg BK247.out 1; have hfz24_2 := qg BK247.out 2))
     refine bodyPost_ret (qcg rfl _ _ gb247 43 #[.int .i64 0, .int .i64 0, .int .i64 0] (0, 0) _ rfl (by (with_reducible repeat (first | refine qf ?_ _ | refine qh ?_ | refine qe ?_ _)); refine zz (cs := #[.int .i64 0, .int .i64 0, .int .i64 0]) ?_ 2 _ rfl; (with_reducible repeat (first | refine qf ?_ _ | refine qh ?_ | refine qe ?_ _)); refine zz (cs := #[.int .i64 0, .int .i64 0, .int .i64 0]) ?_ 1 _ rfl; (with_reducible repeat (first | refine qf ?_ _ | refine qh ?_ | refine qe ?_ _)); refine zz (cs := #[.int .i64 0, .int .i64 0, .int .i64 0]) ?_ 0 _ rfl; (with_reducible repeat (first | refine qf ?_ _ | refine qh ?_ | refine qe ?_ _)); exact BK247.out) Try.underlying43 rfl (by kernel_rfl)) rfl ?_
     exact ⟨fq, bx_ HB⟩
    ·replace c20 := Bool.eq_false_iff.mpr c20
     subst c20
     rw [if_neg (show ¬ (false = true) by decide)] at H
     replace H := bs H
     obtain ⟨⟨t259, t260, t261⟩, A25, H⟩ := H
     dsimp only at H
     simp only [Option.some.injEq, Prod.mk.injEq] at H
     obtain ⟨rfl, rfl, rfl, rfl⟩ := H
     go_wp2_with (first | ((with_reducible refine qj (f := 158) rfl ?_); refine gl 32 Try.func158 #[.int .i64 a0, .int .i64 a1] ?_; (with_reducible refine (jo.calls a0 a1 t252 _ A16.out).mono ?_); rintro e w' ⟨rfl, ⟨nd, rfl⟩⟩; refine ⟨_, rfl, ?_⟩; (try (rw [Zb wc]; generalize hq_ : World.drewN wc _ = wc; have n0_ : qb (wc.heap[gb247]? = some (.cells #[.int .i64 0, .int .i64 0, .int .i64 0] 43 (0, 0))) := ⟨by rw [← hq_]; exact (pk_ BK247)⟩; have n1_ : qb (Below w.heap.size w wc) := ⟨by rw [← hq_]; exact (bx_ HB)⟩; clear BK247 HB hq_; have BK247 := n0_; have HB := n1_; clear n0_ n1_))) | ((with_reducible refine qj (f := 158) rfl ?_); refine gl 35 Try.func158 #[.int .i64 a0, .int .i64 a2] ?_; (with_reducible refine (jo.calls a0 a2 t253 _ A17.out).mono ?_); rintro e w' ⟨rfl, ⟨nd, rfl⟩⟩; refine ⟨_, rfl, ?_⟩; (try (rw [Zb wc]; generalize hq_ : World.drewN wc _ = wc; have n0_ : qb (wc.heap[gb247]? = some (.cells #[.int .i64 0, .int .i64 0, .int .i64 0] 43 (0, 0))) := ⟨by rw [← hq_]; exact (pk_ BK247)⟩; have n1_ : qb (Below w.heap.size w wc) := ⟨by rw [← hq_]; exact (bx_ HB)⟩; clear BK247 HB hq_; have BK247 := n0_; have HB := n1_; clear n0_ n1_))) | ((with_reducible refine qj (f := 158) rfl ?_); refine gl 38 Try.func158 #[.int .i64 a0, .int .i64 a3] ?_; (with_reducible refine (jo.calls a0 a3 t254 _ A18.out).mono ?_); rintro e w' ⟨rfl, ⟨nd, rfl⟩⟩; refine ⟨_, rfl, ?_⟩; (try (rw [Zb wc]; generalize hq_ : World.drewN wc _ = wc; have n0_ : qb (wc.heap[gb247]? = some (.cells #[.int .i64 0, .int .i64 0, .int .i64 0] 43 (0, 0))) := ⟨by rw [← hq_]; exact (pk_ BK247)⟩; have n1_ : qb (Below w.heap.size w wc) := ⟨by rw [← hq_]; exact (bx_ HB)⟩; clear BK247 HB hq_; have BK247 := n0_; have HB := n1_; clear n0_ n1_))) | ((with_reducible refine q6 (N := 39) rfl ?_); refine li 3 [t252, t253, t254] ?_; intro v256 w26 ho27 hb; (first | rw [← Ny255.out] at ho27 | (simp only [Int.reduceToNat] at ho27; rw [← Ny255.out] at ho27)); have HO257 := am (Kd.R_lower ho27 (q4 (bx_ HB))); replace BK247 := am (qp (g := gb247) (o := .cells #[.int .i64 0, .int .i64 0, .int .i64 0] 43 (0, 0)) (pk_ BK247) hb); replace HB := am (qo (bx_ HB) hb); clear hb ho27; obtain ⟨Ao28, co28, eo28⟩ := Kd.R_slice HO257.out; subst eo28) | ((with_reducible refine qj (f := 79) rfl ?_); refine gl 41 Try.func79 #[.slice Ao28 y255.length co28] ?_; (with_reducible refine (zb.calls kj4 _ _ y255 false _ ?_ ?_ A19.out).mono ?_); exact Kd.C_below (Kd.R_reads' HO257.out).2.2 gs; exact (Kd.R_reads' HO257.out).2.1; rintro e w' ⟨rfl, ⟨nd, rfl⟩⟩; refine ⟨_, rfl, ?_⟩; (try (rw [Zb w26]; generalize hq_ : World.drewN w26 _ = w26; have n0_ : qb (Kd.R (Kd.int .i64) 3 w26 w.heap.size (fun _ => True) (.slice Ao28 y255.length co28) y255) := ⟨by rw [← hq_]; exact (wR HO257)⟩; have n1_ : qb (w26.heap[gb247]? = some (.cells #[.int .i64 0, .int .i64 0, .int .i64 0] 43 (0, 0))) := ⟨by rw [← hq_]; exact (pk_ BK247)⟩; have n2_ : qb (Below w.heap.size w w26) := ⟨by rw [← hq_]; exact (bx_ HB)⟩; clear HO257 BK247 HB hq_; have HO257 := n0_; have BK247 := n1_; have HB := n2_; clear n0_ n1_ n2_))) | ((with_reducible refine qj (f := 160) rfl ?_); refine gl 45 Try.func160 #[.int .i64 a0, .slice Ao28 y255.length co28] ?_; (with_reducible refine (jn.calls kj4 a0 _ _ y255 t259 t260 t261 _ ?_ ?_ A25.out).mono ?_); exact Kd.C_below (Kd.R_reads' HO257.out).2.2 gs; exact (Kd.R_reads' HO257.out).2.1; rintro e w29 ⟨rfl, hb⟩; refine ⟨_, rfl, ?_⟩; replace HO257 := am (Kd.R_below (wR HO257) hb); replace BK247 := am (qp (g := gb247) (o := .cells #[.int .i64 0, .int .i64 0, .int .i64 0] 43 (0, 0)) (pk_ BK247) hb); replace HB := am (qo (bx_ HB) hb); (try clear hb); have hcz30_0 : w29.cell? ⟨gb247, 0, none⟩ = some (.int .i64 0) := (qa BK247.out 0).trans rfl; have hcz30_1 : w29.cell? ⟨gb247, 1, none⟩ = some (.int .i64 0) := (qa BK247.out 1).trans rfl; have hcz30_2 : w29.cell? ⟨gb247, 2, none⟩ = some (.int .i64 0) := (qa BK247.out 2).trans rfl; have hfz30_0 := qg BK247.out 0; have hfz30_1 := qg BK247.out 1; have hfz30_2 := qg BK247.out 2))
     refine bodyPost_ret (qcg rfl _ _ gb247 43 #[.int .i64 t259, .int .i64 t260, .int .i64 t261] (0, 0) _ rfl (by (with_reducible repeat (first | refine qf ?_ _ | refine qh ?_ | refine qe ?_ _)); refine zz (cs := #[.int .i64 t259, .int .i64 t260, .int .i64 0]) ?_ 2 _ rfl; (with_reducible repeat (first | refine qf ?_ _ | refine qh ?_ | refine qe ?_ _)); refine zz (cs := #[.int .i64 t259, .int .i64 0, .int .i64 0]) ?_ 1 _ rfl; (with_reducible repeat (first | refine qf ?_ _ | refine qh ?_ | refine qe ?_ _)); refine zz (cs := #[.int .i64 0, .int .i64 0, .int .i64 0]) ?_ 0 _ rfl; (with_reducible repeat (first | refine qf ?_ _ | refine qh ?_ | refine qe ?_ _)); exact BK247.out) Try.underlying43 rfl (by kernel_rfl)) rfl ?_
     exact ⟨fq, bx_ HB⟩
end Go.Proofs.Ytmgbpmihbljngaa.PA

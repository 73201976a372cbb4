-- Written by xprint.py, a program of this claim's own (over the kit's print.py)
import Derived.Test.YtmgbpmihbljngaaPAx11
namespace Go.Proofs.Ytmgbpmihbljngaa.PA
set_option maxHeartbeats 8000000
set_option maxRecDepth 100000
open Go.RowKit Go.Proofs.YtmgbpmihbljngaaW.PrintWords Go.Proofs.YtmgbpmihbljngaaW.PrintLast Go.Proofs.YtmgbpmihbljngaaW.PrintMore
attribute [local go_sem] j9 j8 Qf Qg js jr j6 j7
set_option linter.unusedVariables false
set_option linter.unusedSimpArgs false
def jj.f (k : Nat) (a0 : Int) (l1 : List Int) : Option (Int × Int × Int) := (qu.f k a0 l1).bind fun t507 => (if 0 < (t507.length : Int) then (if 1 < (t507.length : Int) then (if 2 < (t507.length : Int) then (some (rd t507 0, rd t507 1, rd t507 2)) else (none)) else (none)) else (none))
theorem jj.mono : ∀ a0 a1 k, LeO (jj.f k a0 a1) (jj.f (k + 1) a0 a1) := by
 intro a0 a1 k
 unfold jj.f
 repeat' first | (with_reducible first | apply qu.mono | exact LeO.refl _ | exact LeO.none _ | refine LeO.ite ?_ ?_ | refine LeO.bind ?_ (fun _ => ?_)) | (first | apply qu.mono | exact LeO.none _ | refine LeO.ite ?_ ?_ | refine LeO.bind ?_ (fun _ => ?_))
def jj.T2 : Bool × List (List Nat × List Nat) := (true, [([], []), ([0], [0]), ([1], [1]), ([], []), ([3], [3]), ([4], [4]), ([], []), ([6], [6]), ([7], [7]), ([2, 5, 8], [2, 5, 8]), ([9], [9]), ([10, 0, 1, 2, 3, 4, 5, 6, 7, 8, 9, 10], [10])])
def jj.B2 : List Nat := [0, 1, 3, 0, 8, 24, 0, 64, 192, 511, 1023, 2047]
theorem jj.tab2 : rtab .any (Zu Try.f160 2) = jj.T2 := by kernel_rfl
theorem jj.bits2 : Qe jj.T2.2 jj.B2 = true := by kernel_rfl
theorem jj.calls (k : Nat) (a0 : Int) (A1 : Option Addr) (c1 : Nat) (l1 : List Int) (r1 : Int) (r2 : Int) (r3 : Int) (w : World) (hr1 : Kd.C (Kd.int .i64) w A1 l1.length l1) (hc1 : l1.length ≤ c1) (h : jj.f k a0 l1 = some (r1, r2, r3)) :
  Calls Try.prog 160 #[.int .i64 a0, .slice A1 l1.length c1] w fun e w' => e = .returned (.agg #[.int .i64 r1, .int .i64 r2, .int .i64 r3]) ∧ Below w.heap.size w w' := by
 have hu43 := Try.underlying43
 have hu41 := Try.underlying41
 have HR1 := am hr1
 have HC1 := am hc1
 clear hr1 hc1
 have HB := am (Below.refl w.heap.size w)
 have H : ((qu.f k a0 l1).bind fun t507 => (if 0 < (t507.length : Int) then (if 1 < (t507.length : Int) then (if 2 < (t507.length : Int) then (some (rd t507 0, rd t507 1, rd t507 2)) else (none)) else (none)) else (none))) = some (r1, r2, r3) := h
 clear h; replace H := bs H; obtain ⟨t507, A3, H⟩ := H
 by_cases c4 : 0 < (t507.length : Int)
 ·rw [if_pos c4] at H
  have c4b0 := decide_eq_true c4
  have c4b1 : decide (0 < t507.length) = true := decide_eq_true (by omega)
  clear c4; replace H := ifn H; obtain ⟨c5, H⟩ := H; have c5b0 := decide_eq_true c5
  have c5b1 : decide (1 < t507.length) = true := decide_eq_true (by omega)
  clear c5; replace H := ifn H; obtain ⟨c6, H⟩ := H; have c6b0 := decide_eq_true c6
  have c6b1 : decide (2 < t507.length) = true := decide_eq_true (by omega)
  clear c6
  simp only [Option.some.injEq, Prod.mk.injEq] at H
  obtain ⟨rfl, rfl, rfl⟩ := H
  go_enter Try.func160, Try.ntmps160
  try go_wp2_with (first | ((with_reducible refine za (N := 4) rfl ?_); refine xe_ 4 43 #[.int .i64 0, .int .i64 0, .int .i64 0] ?_; intro gb506 hg w7 hbox hb; have BK506 := am (hbox); have GW506 := am ((by rw [hg]; exact (bz HB) : w.heap.size ≤ gb506)); have GE506 := am ((by rw [hg]; exact (bz HB) : w.heap.size ≤ gb506)); replace HB := bq HB hb; clear hb hbox hg) | ((with_reducible refine qf (f := 80) rfl ?_); refine gl 8 Try.func80 #[.int .i64 a0, .slice A1 l1.length c1] ?_; (with_reducible refine (qu.calls k a0 _ _ l1 t507 _ ?side1 ?side2 A3.out).mono ?_); (case side1 => exact Kd.C_below HR1.out (bw HB)); (case side2 => exact HC1.out); rintro e w8 ⟨v508, rfl, ho0, hb⟩; refine ⟨_, rfl, ?_⟩; have HO509 := am (Kd.R_lower ho0 (zc (bx_ HB))); replace BK506 := am (zg (g := gb506) (o := .cells #[.int .i64 0, .int .i64 0, .int .i64 0] 43 (0, 0)) (pk_ BK506) hb); replace HB := am (qz (bx_ HB) hb); (try clear hb); (try clear hb2); (try clear hk); (try clear hi); (try clear ho0)))
  replace HO509 := am (Kd.R_drew HO509.out)
  replace BK506 := am (qj BK506.out)
  replace HB := am (qx HB.out)
  obtain ⟨Ao10, co10, eo10⟩ := Kd.R_slice HO509.out
  (first | subst eo10 | (injection eo10 with f1_ f2_ f3_; have f4_ := f1_.symm; have f5_ := f3_.symm; clear f1_ f2_ f3_; subst f4_; subst f5_))
  have p510 : 0 ≤ (0 : Int) := (by omega)
  have q510 : 0 < (t507.length : Int) := od
  obtain ⟨ad510, e510, hx510_0⟩ := Kd.at_int (Kd.R_reads' HO509.out).2.2 0 p510 q510
  cases e510
  have qi510 : (0 < t507.length) = True := eq_true (by omega)
  (try rw [show ((0 : Int)).toNat = 0 from rfl] at hx510_0)
  (try rw [Addr.add_zero'] at hx510_0)
  replace p510 := eq_true p510; replace q510 := eq_true q510
  have p511 : 0 ≤ (1 : Int) := (by omega)
  have q511 : 1 < (t507.length : Int) := od
  obtain ⟨ad511, e511, hx511_0⟩ := Kd.at_int (Kd.R_reads' HO509.out).2.2 1 p511 q511
  obtain rfl : ad510 = ad511 := (by injection e511)
  (try simp only [show (1 : Int).toNat = 1 from rfl, Nat.reduceMul, Nat.reduceEqDiff, Go.Addr.add, ↓reduceIte] at hx511_0)
  have qi511 : (1 < t507.length) = True := eq_true (by omega)
  (try rw [show ((1 : Int)).toNat = 1 from rfl] at hx511_0)
  replace p511 := eq_true p511; replace q511 := eq_true q511
  have p512 : 0 ≤ (2 : Int) := (by omega)
  have q512 : 2 < (t507.length : Int) := od
  obtain ⟨ad512, e512, hx512_0⟩ := Kd.at_int (Kd.R_reads' HO509.out).2.2 2 p512 q512
  obtain rfl : ad510 = ad512 := (by injection e512)
  (try simp only [show (2 : Int).toNat = 2 from rfl, Nat.reduceMul, Nat.reduceEqDiff, Go.Addr.add, ↓reduceIte] at hx512_0)
  have qi512 : (2 < t507.length) = True := eq_true (by omega)
  (try rw [show ((2 : Int)).toNat = 2 from rfl] at hx512_0)
  replace p512 := eq_true p512; replace q512 := eq_true q512
  refine st 12 (fun w' => w'.cell? ad510 = some (.int .i64 (rd t507 0)) ∧ w'.cell? ⟨ad510.block, ad510.off + 1, none⟩ = some (.int .i64 (rd t507 1)) ∧ w'.cell? ⟨ad510.block, ad510.off + 2, none⟩ = some (.int .i64 (rd t507 2))) [] jj.tab2 jj.bits2 (⟨hx510_0, hx511_0, hx512_0⟩) fun hHeld HT_ HW_ => ?_
  generalize w8.drew = w9 at HO509 BK506 HB hx510_0 hx511_0 hx512_0 hHeld ⊢
  refine pz 0 9 HT_ ?_; refine pz 1 10 HT_ ?_; refine pz 3 12 HT_ ?_; refine pz 4 13 HT_ ?_; refine pz 6 15 HT_ ?_; refine pz 7 16 HT_ ?_; refine tk 2 11 HT_ HW_ hHeld ?_; refine tk 5 14 HT_ HW_ hHeld ?_; refine tk 8 17 HT_ HW_ hHeld ?_; refine pz 9 18 HT_ ?_
  refine pz 10 19 HT_ ?_
  refine on 11 none HT_ fun K hK => ?_
  have hs11 : w9.cell? ⟨gb506, 0, none⟩ = some (.int .i64 0) := (qa BK506.out 0).trans rfl
  have hfs11 := qp BK506.out 0
  have hs12 : w9.cell? ⟨gb506, 1, none⟩ = some (.int .i64 0) := (qa BK506.out 1).trans rfl
  have hfs12 := qp BK506.out 1
  have hs13 : w9.cell? ⟨gb506, 2, none⟩ = some (.int .i64 0) := (qa BK506.out 2).trans rfl
  have hfs13 := qp BK506.out 2
  refine qb6 (w1 := ?_) (by rfl) rfl ?_ ?_
  rotate_left
  ·go_simp
   rfl
  refine hK.out _ _ ⟨((jb (p := ⟨gb506, _, none⟩) (by first | exact Kd.own_blk (Kd.R_ne HO509.out BK506.out (by decide)) | (rw [Qc]; exact Kd.own_blk (Kd.R_ne HO509.out BK506.out (by decide))) | (show (Addr.add _ _).block ≠ _; rw [Qc]; exact Kd.own_blk (Kd.R_ne HO509.out BK506.out (by decide))) | (dsimp only; exact Kd.own_blk (Kd.R_ne HO509.out BK506.out (by decide)))) _).trans (((jb (p := ⟨gb506, _, none⟩) (by first | exact Kd.own_blk (Kd.R_ne HO509.out BK506.out (by decide)) | (rw [Qc]; exact Kd.own_blk (Kd.R_ne HO509.out BK506.out (by decide))) | (show (Addr.add _ _).block ≠ _; rw [Qc]; exact Kd.own_blk (Kd.R_ne HO509.out BK506.out (by decide))) | (dsimp only; exact Kd.own_blk (Kd.R_ne HO509.out BK506.out (by decide)))) _).trans (((jb (p := ⟨gb506, _, none⟩) (by first | exact Kd.own_blk (Kd.R_ne HO509.out BK506.out (by decide)) | (rw [Qc]; exact Kd.own_blk (Kd.R_ne HO509.out BK506.out (by decide))) | (show (Addr.add _ _).block ≠ _; rw [Qc]; exact Kd.own_blk (Kd.R_ne HO509.out BK506.out (by decide))) | (dsimp only; exact Kd.own_blk (Kd.R_ne HO509.out BK506.out (by decide)))) _).trans (hHeld.1)))))), ((jb (p := ⟨gb506, _, none⟩) (by first | exact Kd.own_blk (Kd.R_ne HO509.out BK506.out (by decide)) | (rw [Qc]; exact Kd.own_blk (Kd.R_ne HO509.out BK506.out (by decide))) | (show (Addr.add _ _).block ≠ _; rw [Qc]; exact Kd.own_blk (Kd.R_ne HO509.out BK506.out (by decide))) | (dsimp only; exact Kd.own_blk (Kd.R_ne HO509.out BK506.out (by decide)))) _).trans (((jb (p := ⟨gb506, _, none⟩) (by first | exact Kd.own_blk (Kd.R_ne HO509.out BK506.out (by decide)) | (rw [Qc]; exact Kd.own_blk (Kd.R_ne HO509.out BK506.out (by decide))) | (show (Addr.add _ _).block ≠ _; rw [Qc]; exact Kd.own_blk (Kd.R_ne HO509.out BK506.out (by decide))) | (dsimp only; exact Kd.own_blk (Kd.R_ne HO509.out BK506.out (by decide)))) _).trans (((jb (p := ⟨gb506, _, none⟩) (by first | exact Kd.own_blk (Kd.R_ne HO509.out BK506.out (by decide)) | (rw [Qc]; exact Kd.own_blk (Kd.R_ne HO509.out BK506.out (by decide))) | (show (Addr.add _ _).block ≠ _; rw [Qc]; exact Kd.own_blk (Kd.R_ne HO509.out BK506.out (by decide))) | (dsimp only; exact Kd.own_blk (Kd.R_ne HO509.out BK506.out (by decide)))) _).trans (hHeld.2.1)))))), ((jb (p := ⟨gb506, _, none⟩) (by first | exact Kd.own_blk (Kd.R_ne HO509.out BK506.out (by decide)) | (rw [Qc]; exact Kd.own_blk (Kd.R_ne HO509.out BK506.out (by decide))) | (show (Addr.add _ _).block ≠ _; rw [Qc]; exact Kd.own_blk (Kd.R_ne HO509.out BK506.out (by decide))) | (dsimp only; exact Kd.own_blk (Kd.R_ne HO509.out BK506.out (by decide)))) _).trans (((jb (p := ⟨gb506, _, none⟩) (by first | exact Kd.own_blk (Kd.R_ne HO509.out BK506.out (by decide)) | (rw [Qc]; exact Kd.own_blk (Kd.R_ne HO509.out BK506.out (by decide))) | (show (Addr.add _ _).block ≠ _; rw [Qc]; exact Kd.own_blk (Kd.R_ne HO509.out BK506.out (by decide))) | (dsimp only; exact Kd.own_blk (Kd.R_ne HO509.out BK506.out (by decide)))) _).trans (((jb (p := ⟨gb506, _, none⟩) (by first | exact Kd.own_blk (Kd.R_ne HO509.out BK506.out (by decide)) | (rw [Qc]; exact Kd.own_blk (Kd.R_ne HO509.out BK506.out (by decide))) | (show (Addr.add _ _).block ≠ _; rw [Qc]; exact Kd.own_blk (Kd.R_ne HO509.out BK506.out (by decide))) | (dsimp only; exact Kd.own_blk (Kd.R_ne HO509.out BK506.out (by decide)))) _).trans (hHeld.2.2))))))⟩ (fun hHeld => ?_)
  clear hK K
  refine Q8 (Qj HT_.out (by kernel_rfl)) ?_
  try go_wp2
  refine bodyPost_ret (results_cell_row rfl _ _ gb506 43 #[.int .i64 (rd t507 0), .int .i64 (rd t507 1), .int .i64 (rd t507 2)] (0, 0) _ rfl (by (with_reducible repeat (first | refine qi ?_ _ | refine qj ?_ | refine qg ?_ _)); refine z6 (cs := #[.int .i64 (rd t507 0), .int .i64 (rd t507 1), .int .i64 0]) ?_ 2 _ rfl; (with_reducible repeat (first | refine qi ?_ _ | refine qj ?_ | refine qg ?_ _)); refine z6 (cs := #[.int .i64 (rd t507 0), .int .i64 0, .int .i64 0]) ?_ 1 _ rfl; (with_reducible repeat (first | refine qi ?_ _ | refine qj ?_ | refine qg ?_ _)); refine z6 (cs := #[.int .i64 0, .int .i64 0, .int .i64 0]) ?_ 0 _ rfl; (with_reducible repeat (first | refine qi ?_ _ | refine qj ?_ | refine qg ?_ _)); exact BK506.out) Try.underlying43 rfl (by kernel_rfl)) rfl ?_
  exact ⟨fq, bx_ HB⟩
 ·rw [if_neg c4] at H
  exact absurd H (by simp)
def zm.j0 : Nat → Int → Int → Int → Int → Bool → Option (Int × Int × Int × Bool)
 | 0, _, _, _, _, _ => none
 | k + 1, x0, x1, x2, x3, x28 => if x28 = true then (some (0, 0, 0, false)) else ((jl.f x0 x1).bind fun t518 => ((jl.f x0 x2).bind fun t519 => ((jl.f x0 x3).bind fun t520 => ((some (([t518, t519, t520] : List Int) : List Int)).bind fun y521 => ((q5.f k y521).bind fun t524 => (if t524 = true then (some (0, 0, 0, false)) else ((jj.f k x0 y521).bind fun bt525 => (some (bt525.1, bt525.2.1, bt525.2.2, true)))))))))
def zm.f (k : Nat) (a0 : Int) (a1 : Int) (a2 : Int) (a3 : Int) : Option (Int × Int × Int × Bool) := (ju.f a0).bind fun t514 => (if t514 = true then ((z5.f a1 (-1000) 1000).bind fun t515 => (if t515 = true then ((z5.f a2 (-1000) 1000).bind fun t516 => (if t516 = true then ((z5.f a3 (-1000) 1000).bind fun t517 => (zm.j0 k a0 a1 a2 a3 (!t517))) else (zm.j0 k a0 a1 a2 a3 true))) else (zm.j0 k a0 a1 a2 a3 true))) else (zm.j0 k a0 a1 a2 a3 true))
theorem zm.mono_l : ∀ k, (∀ y0 y1 y2 y3 y4, LeO (zm.j0 k y0 y1 y2 y3 y4) (zm.j0 (k + 1) y0 y1 y2 y3 y4))
 | 0 => fun _ _ _ _ _ r h => by simp [zm.j0] at h
 | k + 1 => by
  have ih0 := zm.mono_l k
  ·intro y0 y1 y2 y3 y4
   unfold zm.j0
   repeat' first | (with_reducible first | apply ih0 | apply jj.mono | apply q5.mono | exact LeO.refl _ | exact LeO.none _ | refine LeO.ite ?_ ?_ | refine LeO.bind ?_ (fun _ => ?_)) | (first | apply ih0 | apply jj.mono | apply q5.mono | exact LeO.none _ | refine LeO.ite ?_ ?_ | refine LeO.bind ?_ (fun _ => ?_))
theorem zm.mono : ∀ a0 a1 a2 a3 k, LeO (zm.f k a0 a1 a2 a3) (zm.f (k + 1) a0 a1 a2 a3) := by
 intro a0 a1 a2 a3 k
 have ih0 := zm.mono_l k
 unfold zm.f
 repeat' first | (with_reducible first | apply ih0 | apply jj.mono | apply q5.mono | exact LeO.refl _ | exact LeO.none _ | refine LeO.ite ?_ ?_ | refine LeO.bind ?_ (fun _ => ?_)) | (first | apply ih0 | apply jj.mono | apply q5.mono | exact LeO.none _ | refine LeO.ite ?_ ?_ | refine LeO.bind ?_ (fun _ => ?_))
theorem zm.calls (k : Nat) (a0 : Int) (a1 : Int) (a2 : Int) (a3 : Int) (r1 : Int) (r2 : Int) (r3 : Int) (r4 : Bool) (w : World) (h : zm.f k a0 a1 a2 a3 = some (r1, r2, r3, r4)) :
  Calls Try.prog 118 #[.int .i64 a0, .int .i64 a1, .int .i64 a2, .int .i64 a3] w fun e w' => e = .returned (.tuple #[.agg #[.int .i64 r1, .int .i64 r2, .int .i64 r3], .bool r4]) ∧ Below w.heap.size w w' := by
 have hu43 := Try.underlying43
 have HB := am (Below.refl w.heap.size w)
 have H : ((ju.f a0).bind fun t514 => (if t514 = true then ((z5.f a1 (-1000) 1000).bind fun t515 => (if t515 = true then ((z5.f a2 (-1000) 1000).bind fun t516 => (if t516 = true then ((z5.f a3 (-1000) 1000).bind fun t517 => (zm.j0 k a0 a1 a2 a3 (!t517))) else (zm.j0 k a0 a1 a2 a3 true))) else (zm.j0 k a0 a1 a2 a3 true))) else (zm.j0 k a0 a1 a2 a3 true))) = some (r1, r2, r3, r4) := h
 clear h
 have HC5 := am H
 clear H
 go_enter Try.func118, Try.ntmps118
 go_upto_region 1 with (first | ((with_reducible refine za (N := 8) rfl ?_); refine xe_ 8 43 #[.int .i64 0, .int .i64 0, .int .i64 0] ?_; intro gb513 hg w6 hbox hb; have BK513 := am (hbox); have GW513 := am ((by rw [hg]; exact (bz HB) : w.heap.size ≤ gb513)); have GE513 := am ((by rw [hg]; exact (bz HB) : w.heap.size ≤ gb513)); replace HB := bq HB hb; clear hb hbox hg))
 (try simp only [Act.put, List.setIfInBounds_toArray, List.set_cons_zero, List.set_cons_succ])
 go_cut [28] (fun v28 wc => ∃ (kq : Nat) (x28_4 : Bool), v28 = .bool x28_4 ∧ qb (zm.j0 kq a0 a1 a2 a3 x28_4 = some (r1, r2, r3, r4)) ∧ qb (kq ≤ k) ∧ qb (wc.heap[gb513]? = some (.cells #[.int .i64 0, .int .i64 0, .int .i64 0] 43 (0, 0))) ∧ qb (Below w.heap.size w wc))
 case first =>
  have H := HC5.out
  clear HC5; replace H := bs H; obtain ⟨t514, A7, H⟩ := H
  by_cases c8 : t514 = true
  ·subst c8
   rw [if_pos rfl] at H
   replace H := bs H; obtain ⟨t515, A9, H⟩ := H
   by_cases c10 : t515 = true
   ·subst c10
    rw [if_pos rfl] at H
    replace H := bs H; obtain ⟨t516, A11, H⟩ := H
    by_cases c12 : t516 = true
    ·subst c12
     rw [if_pos rfl] at H
     replace H := bs H; obtain ⟨t517, A13, H⟩ := H; have H' := am H; clear H
     go_wp2_with (first | ((with_reducible refine qf (f := 103) rfl ?_); refine gl 12 Try.func103 #[.int .i64 a0] ?_; (with_reducible refine (ju.calls a0 true _ A7.out).mono ?_); rintro e w' ⟨rfl, ⟨nd, rfl⟩⟩; refine ⟨_, rfl, ?_⟩) | (go_at_call 87; (with_reducible refine (z5.calls a1 (-1000) 1000 true _ A9.out).mono ?_); rintro e w' ⟨rfl, ⟨nd, rfl⟩⟩) | (go_at_call 87; (with_reducible refine (z5.calls a2 (-1000) 1000 true _ A11.out).mono ?_); rintro e w' ⟨rfl, ⟨nd, rfl⟩⟩) | (go_at_call 87; (with_reducible refine (z5.calls a3 (-1000) 1000 t517 _ A13.out).mono ?_); rintro e w' ⟨rfl, ⟨nd, rfl⟩⟩))
     go_meet
     case rel => exact ⟨_, (!t517), fr, H', ⟨by first | omega | exact Nat.le_refl _⟩, ⟨by (with_reducible repeat (first | refine qi ?_ _ | refine qj ?_ | refine qg ?_ _)); exact BK513.out⟩, ⟨bx_ HB⟩⟩
    ·replace c12 := Bool.eq_false_iff.mpr c12
     subst c12
     rw [if_neg (show ¬ (false = true) by decide)] at H
     have H' := am H; clear H
     go_wp2_with (first | ((with_reducible refine qf (f := 103) rfl ?_); refine gl 12 Try.func103 #[.int .i64 a0] ?_; (with_reducible refine (ju.calls a0 true _ A7.out).mono ?_); rintro e w' ⟨rfl, ⟨nd, rfl⟩⟩; refine ⟨_, rfl, ?_⟩) | (go_at_call 87; (with_reducible refine (z5.calls a1 (-1000) 1000 true _ A9.out).mono ?_); rintro e w' ⟨rfl, ⟨nd, rfl⟩⟩) | (go_at_call 87; (with_reducible refine (z5.calls a2 (-1000) 1000 false _ A11.out).mono ?_); rintro e w' ⟨rfl, ⟨nd, rfl⟩⟩))
     go_meet
     case rel => exact ⟨_, (true), fr, H', ⟨by first | omega | exact Nat.le_refl _⟩, ⟨by (with_reducible repeat (first | refine qi ?_ _ | refine qj ?_ | refine qg ?_ _)); exact BK513.out⟩, ⟨bx_ HB⟩⟩
   ·replace c10 := Bool.eq_false_iff.mpr c10
    subst c10
    rw [if_neg (show ¬ (false = true) by decide)] at H
    have H' := am H; clear H
    go_wp2_with (first | ((with_reducible refine qf (f := 103) rfl ?_); refine gl 12 Try.func103 #[.int .i64 a0] ?_; (with_reducible refine (ju.calls a0 true _ A7.out).mono ?_); rintro e w' ⟨rfl, ⟨nd, rfl⟩⟩; refine ⟨_, rfl, ?_⟩) | (go_at_call 87; (with_reducible refine (z5.calls a1 (-1000) 1000 false _ A9.out).mono ?_); rintro e w' ⟨rfl, ⟨nd, rfl⟩⟩))
    go_meet
    case rel => exact ⟨_, (true), fr, H', ⟨by first | omega | exact Nat.le_refl _⟩, ⟨by (with_reducible repeat (first | refine qi ?_ _ | refine qj ?_ | refine qg ?_ _)); exact BK513.out⟩, ⟨bx_ HB⟩⟩
  ·replace c8 := Bool.eq_false_iff.mpr c8
   subst c8
   rw [if_neg (show ¬ (false = true) by decide)] at H
   have H' := am H; clear H
   go_wp2_with (first | ((with_reducible refine qf (f := 103) rfl ?_); refine gl 12 Try.func103 #[.int .i64 a0] ?_; (with_reducible refine (ju.calls a0 false _ A7.out).mono ?_); rintro e w' ⟨rfl, ⟨nd, rfl⟩⟩; refine ⟨_, rfl, ?_⟩))
   go_meet
   case rel => exact ⟨_, (true), fr, H', ⟨by first | omega | exact Nat.le_refl _⟩, ⟨by (with_reducible repeat (first | refine qi ?_ _ | refine qj ?_ | refine qg ?_ _)); exact BK513.out⟩, ⟨bx_ HB⟩⟩
 case rest =>
  clear HC5; try clear c1; try clear p2; try clear c8; try clear c10; try clear c11; try clear c12
  obtain ⟨kq, x28_4, rfl, HA, HJ4, BK513, HB⟩ := hcut
  cases kq with
  | zero => exact absurd HA.out (by simp [zm.j0])
  | succ kj4 =>
   have H := HA.out; clear HA
   simp only [zm.j0] at H
   by_cases c14 : x28_4 = true
   ·subst c14
    rw [if_pos rfl] at H
    simp only [Option.some.injEq, Prod.mk.injEq] at H
    obtain ⟨rfl, rfl, rfl, rfl⟩ := H
    have hcz15_0 : wc.cell? ⟨gb513, 0, none⟩ = some (.int .i64 0) := (qa BK513.out 0).trans rfl
    have hcz15_1 : wc.cell? ⟨gb513, 1, none⟩ = some (.int .i64 0) := (qa BK513.out 1).trans rfl
    have hcz15_2 : wc.cell? ⟨gb513, 2, none⟩ = some (.int .i64 0) := (qa BK513.out 2).trans rfl
    have hfz15_0 := qp BK513.out 0
    have hfz15_1 := qp BK513.out 1
    have hfz15_2 := qp BK513.out 2
    go_wp2
    refine bodyPost_ret (qcg rfl _ _ gb513 43 #[.int .i64 0, .int .i64 0, .int .i64 0] (0, 0) _ rfl (by (with_reducible repeat (first | refine qi ?_ _ | refine qj ?_ | refine qg ?_ _)); refine z6 (cs := #[.int .i64 0, .int .i64 0, .int .i64 0]) ?_ 2 _ rfl; (with_reducible repeat (first | refine qi ?_ _ | refine qj ?_ | refine qg ?_ _)); refine z6 (cs := #[.int .i64 0, .int .i64 0, .int .i64 0]) ?_ 1 _ rfl; (with_reducible repeat (first | refine qi ?_ _ | refine qj ?_ | refine qg ?_ _)); refine z6 (cs := #[.int .i64 0, .int .i64 0, .int .i64 0]) ?_ 0 _ rfl; (with_reducible repeat (first | refine qi ?_ _ | refine qj ?_ | refine qg ?_ _)); exact BK513.out) Try.underlying43 rfl (by kernel_rfl)) rfl ?_
    exact ⟨fq, bx_ HB⟩
   ·replace c14 := Bool.eq_false_iff.mpr c14
    subst c14
    rw [if_neg (show ¬ (false = true) by decide)] at H
    replace H := bs H; obtain ⟨t518, A16, H⟩ := H; replace H := bs H; obtain ⟨t519, A17, H⟩ := H; replace H := bs H; obtain ⟨t520, A18, H⟩ := H; replace H := bsy H; obtain ⟨y521, Ny521, H⟩ := H; replace H := bs H; obtain ⟨t524, A19, H⟩ := H
    by_cases c20 : t524 = true
    ·subst c20
     rw [if_pos rfl] at H
     simp only [Option.some.injEq, Prod.mk.injEq] at H
     obtain ⟨rfl, rfl, rfl, rfl⟩ := H
     go_wp2_with (first | ((with_reducible refine qf (f := 158) rfl ?_); refine gl 32 Try.func158 #[.int .i64 a0, .int .i64 a1] ?_; (with_reducible refine (jl.calls a0 a1 t518 _ A16.out).mono ?_); rintro e w' ⟨rfl, ⟨nd, rfl⟩⟩; refine ⟨_, rfl, ?_⟩; (try (rw [Zc wc]; generalize hq_ : World.drewN wc _ = wc; have n0_ : qb (wc.heap[gb513]? = some (.cells #[.int .i64 0, .int .i64 0, .int .i64 0] 43 (0, 0))) := ⟨by rw [← hq_]; exact (pk_ BK513)⟩; have n1_ : qb (Below w.heap.size w wc) := ⟨by rw [← hq_]; exact (bx_ HB)⟩; clear BK513 HB hq_; have BK513 := n0_; have HB := n1_; clear n0_ n1_))) | ((with_reducible refine qf (f := 158) rfl ?_); refine gl 35 Try.func158 #[.int .i64 a0, .int .i64 a2] ?_; (with_reducible refine (jl.calls a0 a2 t519 _ A17.out).mono ?_); rintro e w' ⟨rfl, ⟨nd, rfl⟩⟩; refine ⟨_, rfl, ?_⟩; (try (rw [Zc wc]; generalize hq_ : World.drewN wc _ = wc; have n0_ : qb (wc.heap[gb513]? = some (.cells #[.int .i64 0, .int .i64 0, .int .i64 0] 43 (0, 0))) := ⟨by rw [← hq_]; exact (pk_ BK513)⟩; have n1_ : qb (Below w.heap.size w wc) := ⟨by rw [← hq_]; exact (bx_ HB)⟩; clear BK513 HB hq_; have BK513 := n0_; have HB := n1_; clear n0_ n1_))) | ((with_reducible refine qf (f := 158) rfl ?_); refine gl 38 Try.func158 #[.int .i64 a0, .int .i64 a3] ?_; (with_reducible refine (jl.calls a0 a3 t520 _ A18.out).mono ?_); rintro e w' ⟨rfl, ⟨nd, rfl⟩⟩; refine ⟨_, rfl, ?_⟩; (try (rw [Zc wc]; generalize hq_ : World.drewN wc _ = wc; have n0_ : qb (wc.heap[gb513]? = some (.cells #[.int .i64 0, .int .i64 0, .int .i64 0] 43 (0, 0))) := ⟨by rw [← hq_]; exact (pk_ BK513)⟩; have n1_ : qb (Below w.heap.size w wc) := ⟨by rw [← hq_]; exact (bx_ HB)⟩; clear BK513 HB hq_; have BK513 := n0_; have HB := n1_; clear n0_ n1_))) | ((with_reducible refine za (N := 39) rfl ?_); refine li 3 [t518, t519, t520] ?_; intro v522 w21 ho22 hb; (first | rw [← Ny521.out] at ho22 | (simp only [Int.reduceToNat] at ho22; rw [← Ny521.out] at ho22)); have HO523 := am (Kd.R_lower ho22 (zc (bx_ HB))); replace BK513 := am (zg (g := gb513) (o := .cells #[.int .i64 0, .int .i64 0, .int .i64 0] 43 (0, 0)) (pk_ BK513) hb); replace HB := am (qz (bx_ HB) hb); clear hb ho22; obtain ⟨Ao23, co23, eo23⟩ := Kd.R_slice HO523.out; subst eo23) | ((with_reducible refine qf (f := 79) rfl ?_); refine gl 41 Try.func79 #[.slice Ao23 y521.length co23] ?_; (with_reducible refine (q5.calls kj4 _ _ y521 true _ ?_ ?_ A19.out).mono ?_); exact Kd.C_below (Kd.R_reads' HO523.out).2.2 gs; exact (Kd.R_reads' HO523.out).2.1; rintro e w' ⟨rfl, ⟨nd, rfl⟩⟩; refine ⟨_, rfl, ?_⟩; (try (rw [Zc w21]; generalize hq_ : World.drewN w21 _ = w21; have n0_ : qb (Kd.R (Kd.int .i64) 3 w21 w.heap.size (fun _ => True) (.slice Ao23 y521.length co23) y521) := ⟨by rw [← hq_]; exact (wR HO523)⟩; have n1_ : qb (w21.heap[gb513]? = some (.cells #[.int .i64 0, .int .i64 0, .int .i64 0] 43 (0, 0))) := ⟨by rw [← hq_]; exact (pk_ BK513)⟩; have n2_ : qb (Below w.heap.size w w21) := ⟨by rw [← hq_]; exact (bx_ HB)⟩; clear HO523 BK513 HB hq_; have HO523 := n0_; have BK513 := n1_; have HB := n2_; clear n0_ n1_ n2_)); have hcz24_0 : w21.cell? ⟨gb513, 0, none⟩ = some (.int .i64 0) := (qa BK513.out 0).trans rfl; have hcz24_1 : w21.cell? ⟨gb513, 1, none⟩ = some (.int .i64 0) := (qa BK513.out 1).trans rfl; have hcz24_2 : w21.cell? ⟨gb513, 2, none⟩ = some (.int .i64 0) := (qa BK513.out 2).trans rfl; have hfz24_0 := qp BK513.out 0; have hfz24_1 := qp BK513.out 1; have hfz24_2 := qp BK513.out 2))
     refine bodyPost_ret (qcg rfl _ _ gb513 43 #[.int .i64 0, .int .i64 0, .int .i64 0] (0, 0) _ rfl (by (with_reducible repeat (first | refine qi ?_ _ | refine qj ?_ | refine qg ?_ _)); refine z6 (cs := #[.int .i64 0, .int .i64 0, .int .i64 0]) ?_ 2 _ rfl; (with_reducible repeat (first | refine qi ?_ _ | refine qj ?_ | refine qg ?_ _)); refine z6 (cs := #[.int .i64 0, .int .i64 0, .int .i64 0]) ?_ 1 _ rfl; (with_reducible repeat (first | refine qi ?_ _ | refine qj ?_ | refine qg ?_ _)); refine z6 (cs := #[.int .i64 0, .int .i64 0, .int .i64 0]) ?_ 0 _ rfl; (with_reducible repeat (first | refine qi ?_ _ | refine qj ?_ | refine qg ?_ _)); exact BK513.out) Try.underlying43 rfl (by kernel_rfl)) rfl ?_
     exact ⟨fq, bx_ HB⟩
    ·replace c20 := Bool.eq_false_iff.mpr c20
     subst c20
     rw [if_neg (show ¬ (false = true) by decide)] at H
     replace H := bs H
     obtain ⟨⟨t525, t526, t527⟩, A25, H⟩ := H
     dsimp only at H
     simp only [Option.some.injEq, Prod.mk.injEq] at H
     obtain ⟨rfl, rfl, rfl, rfl⟩ := H
     go_wp2_with (first | ((with_reducible refine qf (f := 158) rfl ?_); refine gl 32 Try.func158 #[.int .i64 a0, .int .i64 a1] ?_; (with_reducible refine (jl.calls a0 a1 t518 _ A16.out).mono ?_); rintro e w' ⟨rfl, ⟨nd, rfl⟩⟩; refine ⟨_, rfl, ?_⟩; (try (rw [Zc wc]; generalize hq_ : World.drewN wc _ = wc; have n0_ : qb (wc.heap[gb513]? = some (.cells #[.int .i64 0, .int .i64 0, .int .i64 0] 43 (0, 0))) := ⟨by rw [← hq_]; exact (pk_ BK513)⟩; have n1_ : qb (Below w.heap.size w wc) := ⟨by rw [← hq_]; exact (bx_ HB)⟩; clear BK513 HB hq_; have BK513 := n0_; have HB := n1_; clear n0_ n1_))) | ((with_reducible refine qf (f := 158) rfl ?_); refine gl 35 Try.func158 #[.int .i64 a0, .int .i64 a2] ?_; (with_reducible refine (jl.calls a0 a2 t519 _ A17.out).mono ?_); rintro e w' ⟨rfl, ⟨nd, rfl⟩⟩; refine ⟨_, rfl, ?_⟩; (try (rw [Zc wc]; generalize hq_ : World.drewN wc _ = wc; have n0_ : qb (wc.heap[gb513]? = some (.cells #[.int .i64 0, .int .i64 0, .int .i64 0] 43 (0, 0))) := ⟨by rw [← hq_]; exact (pk_ BK513)⟩; have n1_ : qb (Below w.heap.size w wc) := ⟨by rw [← hq_]; exact (bx_ HB)⟩; clear BK513 HB hq_; have BK513 := n0_; have HB := n1_; clear n0_ n1_))) | ((with_reducible refine qf (f := 158) rfl ?_); refine gl 38 Try.func158 #[.int .i64 a0, .int .i64 a3] ?_; (with_reducible refine (jl.calls a0 a3 t520 _ A18.out).mono ?_); rintro e w' ⟨rfl, ⟨nd, rfl⟩⟩; refine ⟨_, rfl, ?_⟩; (try (rw [Zc wc]; generalize hq_ : World.drewN wc _ = wc; have n0_ : qb (wc.heap[gb513]? = some (.cells #[.int .i64 0, .int .i64 0, .int .i64 0] 43 (0, 0))) := ⟨by rw [← hq_]; exact (pk_ BK513)⟩; have n1_ : qb (Below w.heap.size w wc) := ⟨by rw [← hq_]; exact (bx_ HB)⟩; clear BK513 HB hq_; have BK513 := n0_; have HB := n1_; clear n0_ n1_))) | ((with_reducible refine za (N := 39) rfl ?_); refine li 3 [t518, t519, t520] ?_; intro v522 w26 ho27 hb; (first | rw [← Ny521.out] at ho27 | (simp only [Int.reduceToNat] at ho27; rw [← Ny521.out] at ho27)); have HO523 := am (Kd.R_lower ho27 (zc (bx_ HB))); replace BK513 := am (zg (g := gb513) (o := .cells #[.int .i64 0, .int .i64 0, .int .i64 0] 43 (0, 0)) (pk_ BK513) hb); replace HB := am (qz (bx_ HB) hb); clear hb ho27; obtain ⟨Ao28, co28, eo28⟩ := Kd.R_slice HO523.out; subst eo28) | ((with_reducible refine qf (f := 79) rfl ?_); refine gl 41 Try.func79 #[.slice Ao28 y521.length co28] ?_; (with_reducible refine (q5.calls kj4 _ _ y521 false _ ?_ ?_ A19.out).mono ?_); exact Kd.C_below (Kd.R_reads' HO523.out).2.2 gs; exact (Kd.R_reads' HO523.out).2.1; rintro e w' ⟨rfl, ⟨nd, rfl⟩⟩; refine ⟨_, rfl, ?_⟩; (try (rw [Zc w26]; generalize hq_ : World.drewN w26 _ = w26; have n0_ : qb (Kd.R (Kd.int .i64) 3 w26 w.heap.size (fun _ => True) (.slice Ao28 y521.length co28) y521) := ⟨by rw [← hq_]; exact (wR HO523)⟩; have n1_ : qb (w26.heap[gb513]? = some (.cells #[.int .i64 0, .int .i64 0, .int .i64 0] 43 (0, 0))) := ⟨by rw [← hq_]; exact (pk_ BK513)⟩; have n2_ : qb (Below w.heap.size w w26) := ⟨by rw [← hq_]; exact (bx_ HB)⟩; clear HO523 BK513 HB hq_; have HO523 := n0_; have BK513 := n1_; have HB := n2_; clear n0_ n1_ n2_))) | ((with_reducible refine qf (f := 160) rfl ?_); refine gl 45 Try.func160 #[.int .i64 a0, .slice Ao28 y521.length co28] ?_; (with_reducible refine (jj.calls kj4 a0 _ _ y521 t525 t526 t527 _ ?_ ?_ A25.out).mono ?_); exact Kd.C_below (Kd.R_reads' HO523.out).2.2 gs; exact (Kd.R_reads' HO523.out).2.1; rintro e w29 ⟨rfl, hb⟩; refine ⟨_, rfl, ?_⟩; replace HO523 := am (Kd.R_below (wR HO523) hb); replace BK513 := am (zg (g := gb513) (o := .cells #[.int .i64 0, .int .i64 0, .int .i64 0] 43 (0, 0)) (pk_ BK513) hb); replace HB := am (qz (bx_ HB) hb); (try clear hb); have hcz30_0 : w29.cell? ⟨gb513, 0, none⟩ = some (.int .i64 0) := (qa BK513.out 0).trans rfl; have hcz30_1 : w29.cell? ⟨gb513, 1, none⟩ = some (.int .i64 0) := (qa BK513.out 1).trans rfl; have hcz30_2 : w29.cell? ⟨gb513, 2, none⟩ = some (.int .i64 0) := (qa BK513.out 2).trans rfl; have hfz30_0 := qp BK513.out 0; have hfz30_1 := qp BK513.out 1; have hfz30_2 := qp BK513.out 2))
     refine bodyPost_ret (qcg rfl _ _ gb513 43 #[.int .i64 t525, .int .i64 t526, .int .i64 t527] (0, 0) _ rfl (by (with_reducible repeat (first | refine qi ?_ _ | refine qj ?_ | refine qg ?_ _)); refine z6 (cs := #[.int .i64 t525, .int .i64 t526, .int .i64 0]) ?_ 2 _ rfl; (with_reducible repeat (first | refine qi ?_ _ | refine qj ?_ | refine qg ?_ _)); refine z6 (cs := #[.int .i64 t525, .int .i64 0, .int .i64 0]) ?_ 1 _ rfl; (with_reducible repeat (first | refine qi ?_ _ | refine qj ?_ | refine qg ?_ _)); refine z6 (cs := #[.int .i64 0, .int .i64 0, .int .i64 0]) ?_ 0 _ rfl; (with_reducible repeat (first | refine qi ?_ _ | refine qj ?_ | refine qg ?_ _)); exact BK513.out) Try.underlying43 rfl (by kernel_rfl)) rfl ?_
     exact ⟨fq, bx_ HB⟩
end Go.Proofs.Ytmgbpmihbljngaa.PA

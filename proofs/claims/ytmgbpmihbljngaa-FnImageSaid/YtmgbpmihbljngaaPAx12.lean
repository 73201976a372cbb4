-- Written by xprint.py, a program of this claim's own (over the kit's print.py)
import Derived.Test.YtmgbpmihbljngaaPAx11
namespace Go.Proofs.Ytmgbpmihbljngaa.PA
set_option maxHeartbeats 8000000
set_option maxRecDepth 100000
open Go.RowKit Go.Proofs.YtmgbpmihbljngaaW.PrintWords Go.Proofs.YtmgbpmihbljngaaW.PrintLast Go.Proofs.YtmgbpmihbljngaaW.PrintMore
attribute [local go_sem] j8 j9 Qi Qj jw jy Qa Qb
set_option linter.unusedVariables false
set_option linter.unusedSimpArgs false
def qx.f (k : Nat) (l0 : List Int) : Option (Int × (List (S43)) × Int × Int × Int) := (Za.f l0).bind fun bt325 => ((zn.f k bt325.1 bt325.2).bind fun bt328 => ((ql.f k bt325.1 bt328.2.2 8).bind fun bt333 => (if bt333.1 = 0 then ((ql.f k bt325.1 bt333.2 6).bind fun bt335 => (if 0 ≤ bt335.1 then (if bt335.1 < (bt328.2.1.length : Int) then (some (bt328.1, bt328.2.1, (qd bt328.2.1 bt335.1).f0.f0, (qd bt328.2.1 bt335.1).f0.f1, (qd bt328.2.1 bt335.1).f0.f2)) else (none)) else (none))) else ((jm.f k bt325.1 bt333.2 bt328.1).bind fun bt338 => (some (bt328.1, bt328.2.1, bt338.1, bt338.2.1, bt338.2.2.1))))))
theorem qx.mono : ∀ a0 k, LeO (qx.f k a0) (qx.f (k + 1) a0) := by
 intro a0 k
 unfold qx.f
 repeat' first | (with_reducible first | apply ql.mono | apply jm.mono | apply zn.mono | exact LeO.refl _ | exact LeO.none _ | refine LeO.ite ?_ ?_ | refine LeO.bind ?_ (fun _ => ?_)) | (first | apply ql.mono | apply jm.mono | apply zn.mono | exact LeO.none _ | refine LeO.ite ?_ ?_ | refine LeO.bind ?_ (fun _ => ?_))
def qx.T4 : Bool × List (List Nat × List Nat) := (true, [([], []), ([], []), ([], []), ([], []), ([3], [3]), ([2, 4], [2, 4]), ([5], [5]), ([0, 4, 0], [0]), ([1, 7, 0, 1, 7], [1]), ([6, 8, 0, 1, 2, 3, 4, 5, 6, 7, 8], [6])])
def qx.B4 : List Nat := [0, 0, 0, 0, 8, 28, 60, 25, 155, 511]
theorem qx.tab4 : rtab .any (Zp Try.f28 4) = qx.T4 := by kernel_rfl
theorem qx.bits4 : Qd qx.T4.2 qx.B4 = true := by kernel_rfl
theorem qx.calls (k : Nat) (A0 : Option Addr) (c0 : Nat) (l0 : List Int) (r1 : Int) (r2 : List (S43)) (r3 : Int) (r4 : Int) (r5 : Int) (w : World) (hr0 : Kd.C (Kd.int .u8) w A0 l0.length l0) (hc0 : l0.length ≤ c0) (h : qx.f k l0 = some (r1, r2, r3, r4, r5)) :
  Calls Try.prog 28 #[.slice A0 l0.length c0] w fun e w' => ∃ v1_ : Value, e = .returned (.tuple #[.int .i64 r1, v1_, .agg #[.int .i64 r3, .int .i64 r4, .int .i64 r5]]) ∧ Kd.R k43 43 w' w.heap.size (fun _ => True) v1_ r2 ∧ Below w.heap.size w w' := by
 have hu43 := Try.underlying43
 have HR0 := am hr0
 have HC0 := am hc0
 clear hr0 hc0
 have HB := am (Below.refl w.heap.size w)
 have H : ((Za.f l0).bind fun bt325 => ((zn.f k bt325.1 bt325.2).bind fun bt328 => ((ql.f k bt325.1 bt328.2.2 8).bind fun bt333 => (if bt333.1 = 0 then ((ql.f k bt325.1 bt333.2 6).bind fun bt335 => (if 0 ≤ bt335.1 then (if bt335.1 < (bt328.2.1.length : Int) then (some (bt328.1, bt328.2.1, (qd bt328.2.1 bt335.1).f0.f0, (qd bt328.2.1 bt335.1).f0.f1, (qd bt328.2.1 bt335.1).f0.f2)) else (none)) else (none))) else ((jm.f k bt325.1 bt333.2 bt328.1).bind fun bt338 => (some (bt328.1, bt328.2.1, bt338.1, bt338.2.1, bt338.2.2.1))))))) = some (r1, r2, r3, r4, r5) := h
 clear h; replace H := bs H
 obtain ⟨⟨t325, t326⟩, A2, H⟩ := H
 dsimp only at H
 replace H := bs H
 obtain ⟨⟨t328, t329, t332⟩, A3, H⟩ := H
 dsimp only at H
 replace H := bs H
 obtain ⟨⟨t333, t334⟩, A4, H⟩ := H
 dsimp only at H
 by_cases c5 : t333 = 0
 ·rw [if_pos c5] at H
  have c5b0 := beq_iff_eq.mpr c5; have c5b1 := bne_eq_false_iff_eq.mpr c5; clear c5; replace H := bs H
  obtain ⟨⟨t335, t336⟩, A6, H⟩ := H
  dsimp only at H
  replace H := ifn H; obtain ⟨c7, H⟩ := H; have c7b0 := decide_eq_true c7; clear c7; replace H := ifn H; obtain ⟨c8, H⟩ := H; have c8b0 := decide_eq_true c8; clear c8
  simp only [Option.some.injEq, Prod.mk.injEq] at H
  obtain ⟨rfl, rfl, rfl, rfl, rfl⟩ := H
  go_enter Try.func28, Try.ntmps28
  try go_wp2_with (first | ((with_reducible refine q6 (N := 4) rfl ?_); refine xe_ 4 43 #[.int .i64 0, .int .i64 0, .int .i64 0] ?_; intro gb324 hg w9 hbox hb; have BK324 := am (hbox); have GW324 := am ((by rw [hg]; exact (bz HB) : w.heap.size ≤ gb324)); have GE324 := am ((by rw [hg]; exact (bz HB) : w.heap.size ≤ gb324)); replace HB := bq HB hb; clear hb hbox hg) | ((with_reducible refine qj (f := 69) rfl ?_); refine gl 9 Try.func69 #[.slice A0 l0.length c0] ?_; (with_reducible refine (Za.calls _ _ l0 t325 t326 w _ ?side1 ?side2 ?side3 A2.out).mono ?_); (case side1 => repeat (first | (with_reducible first | exact HB.out | apply zo | apply zg | apply zc | refine z6 ?_ GE324.out) | exact HB.out)); (case side2 => exact HR0.out); (case side3 => exact HC0.out); rintro e w10 ⟨g327, rfl, hi, hb, hb2⟩; refine ⟨_, rfl, ?_⟩; replace HB := am (hb); have HI327 := am (hi); have NB327_324 := am (IsS112.ne_blk hi (qp (g := gb324) (o := .cells #[.int .i64 0, .int .i64 0, .int .i64 0] 43 (0, 0)) (pk_ BK324) hb2) (by decide)); have NB324_327 := am (Ne.symm (IsS112.ne_blk hi (qp (g := gb324) (o := .cells #[.int .i64 0, .int .i64 0, .int .i64 0] 43 (0, 0)) (pk_ BK324) hb2) (by decide))); replace BK324 := am (qp (g := gb324) (o := .cells #[.int .i64 0, .int .i64 0, .int .i64 0] 43 (0, 0)) (pk_ BK324) hb2); (try clear hb); (try clear hb2); (try clear hk); (try clear hi)) | ((with_reducible refine qj (f := 70) rfl ?_); refine gl 12 Try.func70 #[.pointer (some ⟨g327, 0, none⟩)] ?_; (with_reducible refine (zn.calls k g327 t325 t326 t328 t329 t332 w _ ?side1 ?side2 A3.out).mono ?_); (case side1 => repeat (first | (with_reducible first | exact HI327.out | apply IsS112.alloc | apply IsS112.drewN | apply IsS112.drew | apply IsS112.set_1 | refine IsS112.far ?_ NB327_324.out _) | exact HI327.out)); (case side2 => repeat (first | (with_reducible first | exact HB.out | apply zo | apply zg | apply zc | refine z6 ?_ (IsS112.ge HI327.out) | refine z6 ?_ GE324.out) | exact HB.out)); rintro e w11 ⟨v330, rfl, ho0, hi, hb, hk⟩; refine ⟨_, rfl, ?_⟩; have HO331 := am (Kd.R_lower (Kd.R_newB ho0 (g := gb324) (o := .cells #[.int .i64 0, .int .i64 0, .int .i64 0] 43 (0, 0)) (pk_ BK324)) (q4 (Qh HB HI327))); replace BK324 := am (KeepBut.blk hk (g' := gb324) (o := .cells #[.int .i64 0, .int .i64 0, .int .i64 0] 43 (0, 0)) (pk_ BK324) NB324_327.out (by simp)); replace HB := am (hb); replace HI327 := am (hi); (try clear hb); (try clear hb2); (try clear hk); (try clear hi); (try clear ho0)) | ((with_reducible refine qj (f := 71) rfl ?_); refine gl 16 Try.func71 #[.pointer (some ⟨g327, 0, none⟩), .int .i64 8] ?_; (with_reducible refine (ql.calls k g327 t325 t332 8 t333 t334 w _ ?side1 ?side2 A4.out).mono ?_); (case side1 => repeat (first | (with_reducible first | exact HI327.out | apply IsS112.alloc | apply IsS112.drewN | apply IsS112.drew | apply IsS112.set_1 | refine IsS112.far ?_ NB327_324.out _) | exact HI327.out)); (case side2 => repeat (first | (with_reducible first | exact HB.out | apply zo | apply zg | apply zc | refine z6 ?_ (IsS112.ge HI327.out) | refine z6 ?_ GE324.out) | exact HB.out)); rintro e w12 ⟨rfl, hi, hb, hk⟩; refine ⟨_, rfl, ?_⟩; replace BK324 := am (KeepBut.blk hk (g' := gb324) (o := .cells #[.int .i64 0, .int .i64 0, .int .i64 0] 43 (0, 0)) (pk_ BK324) NB324_327.out (by simp)); replace HO331 := am (Kd.R_mono (Kd.R_keep (IsS112.apart (show IsS112 w _ g327 t325 t332 from jt HI327) (wR HO331) (by decide)) hk (fun _ h => h.2)) (fun _ h => h.1)); replace HB := am (hb); replace HI327 := am (hi); (try clear hb); (try clear hb2); (try clear hk); (try clear hi)))
  replace HO331 := am (Kd.R_drew HO331.out)
  replace BK324 := am (qh BK324.out)
  replace HI327 := am (IsS112.drew HI327.out)
  replace HB := am (zc HB.out)
  have p337 : 0 ≤ (t335 : Int) := od
  have q337 : t335 < (t329.length : Int) := od
  obtain ⟨AoZ337, coZ337, eoZ337⟩ := Kd.R_slice HO331.out
  cases eoZ337
  obtain ⟨ad337, e337, hx337_0, hx337_1, hx337_2⟩ := Q8 (Kd.R_reads' HO331.out).2.2 t335 p337 q337
  cases e337; replace p337 := eq_true p337; replace q337 := eq_true q337
  refine st 10 (fun w' => w'.cell? (ad337.add ((t335).toNat * 3)) = some (.int .i64 ((qd t329 t335).f0.f0)) ∧ w'.cell? ⟨(ad337.add ((t335).toNat * 3)).block, (ad337.add ((t335).toNat * 3)).off + 1, none⟩ = some (.int .i64 ((qd t329 t335).f0.f1)) ∧ w'.cell? ⟨(ad337.add ((t335).toNat * 3)).block, (ad337.add ((t335).toNat * 3)).off + 2, none⟩ = some (.int .i64 ((qd t329 t335).f0.f2))) [] qx.tab4 qx.bits4 (⟨hx337_0, hx337_1, hx337_2⟩) fun hHeld HT_ HW_ => ?_
  generalize w12.drew = w13 at HO331 BK324 HI327 HB hx337_0 hx337_1 hx337_2 hHeld ⊢
  refine pz 0 18 HT_ ?_; refine pz 1 19 HT_ ?_; refine pz 2 20 HT_ ?_; refine pz 3 21 HT_ ?_
  refine on 4 (some 22) HT_ fun K hK => ?_
  refine gs_ Try.func71 #[.pointer (some ⟨g327, 0, none⟩), .int .i64 6] ?_
  with_reducible refine (ql.calls k g327 t325 t334 6 t335 t336 w _ ?side1 ?side2 A6.out).mono ?_
  (case side1 => repeat (first | (with_reducible first | exact HI327.out | apply IsS112.alloc | apply IsS112.drewN | apply IsS112.drew | apply IsS112.set_1 | refine IsS112.far ?_ NB327_324.out _) | exact HI327.out))
  (case side2 => repeat (first | (with_reducible first | exact HB.out | apply zo | apply zg | apply zc | refine z6 ?_ (IsS112.ge HI327.out) | refine z6 ?_ GE324.out) | exact HB.out))
  rintro e w14 ⟨rfl, hi, hb, hk⟩
  have HS0_ := qdn hk (hHeld.1) (by first | (rw [zx]; exact Kd.own_blk (IsS112.own_ne HI327.out HO331.out (by decide))) | (show (Addr.add _ _).block ≠ _; rw [zx]; exact Kd.own_blk (IsS112.own_ne HI327.out HO331.out (by decide))) | exact Kd.own_blk (IsS112.own_ne HI327.out HO331.out (by decide)))
  have HS1_ := qdn hk (hHeld.2.1) (by first | (rw [zx]; exact Kd.own_blk (IsS112.own_ne HI327.out HO331.out (by decide))) | (show (Addr.add _ _).block ≠ _; rw [zx]; exact Kd.own_blk (IsS112.own_ne HI327.out HO331.out (by decide))) | exact Kd.own_blk (IsS112.own_ne HI327.out HO331.out (by decide)))
  have HS2_ := qdn hk (hHeld.2.2) (by first | (rw [zx]; exact Kd.own_blk (IsS112.own_ne HI327.out HO331.out (by decide))) | (show (Addr.add _ _).block ≠ _; rw [zx]; exact Kd.own_blk (IsS112.own_ne HI327.out HO331.out (by decide))) | exact Kd.own_blk (IsS112.own_ne HI327.out HO331.out (by decide)))
  refine ⟨_, rfl, ?_⟩
  replace BK324 := am (KeepBut.blk hk (g' := gb324) (o := .cells #[.int .i64 0, .int .i64 0, .int .i64 0] 43 (0, 0)) (pk_ BK324) NB324_327.out (by simp))
  replace HO331 := am (Kd.R_mono (Kd.R_keep (IsS112.apart (show IsS112 w _ g327 t325 t334 from jt HI327) (wR HO331) (by decide)) hk (fun _ h => h.2)) (fun _ h => h.1))
  replace HB := am (hb)
  replace HI327 := am (hi)
  (try clear hb)
  (try clear hb2)
  (try clear hk)
  (try clear hi)
  obtain ⟨Ao15, co15, eo15⟩ := Kd.R_slice HO331.out
  (first | subst eo15 | (injection eo15 with f1_ f2_ f3_; have f4_ := f1_.symm; have f5_ := f3_.symm; clear f1_ f2_ f3_; subst f4_; subst f5_))
  refine hK.out _ _ ⟨HS0_, HS1_, HS2_⟩ fun hHeld => nz ?_
  clear hK K; refine pz 5 23 HT_ ?_; refine pz 7 2 HT_ ?_; refine pz 8 3 HT_ ?_; refine tk 6 24 HT_ HW_ hHeld ?_
  refine on 9 none HT_ fun K hK => ?_
  have hs16 : w14.cell? ⟨gb324, 0, none⟩ = some (.int .i64 0) := (qa BK324.out 0).trans rfl
  have hfs16 := qg BK324.out 0
  have hs17 : w14.cell? ⟨gb324, 1, none⟩ = some (.int .i64 0) := (qa BK324.out 1).trans rfl
  have hfs17 := qg BK324.out 1
  have hs18 : w14.cell? ⟨gb324, 2, none⟩ = some (.int .i64 0) := (qa BK324.out 2).trans rfl
  have hfs18 := qg BK324.out 2
  refine qcu (w1 := ?_) (by rfl) rfl ?_ ?_
  rotate_left
  ·go_simp
   rfl
  refine hK.out _ _ ⟨((zw (p := ⟨gb324, _, none⟩) (by first | exact Kd.own_blk (Kd.R_away HO331.out (fun _ hk => hk.2)) | (rw [zx]; exact Kd.own_blk (Kd.R_away HO331.out (fun _ hk => hk.2))) | (show (Addr.add _ _).block ≠ _; rw [zx]; exact Kd.own_blk (Kd.R_away HO331.out (fun _ hk => hk.2))) | (dsimp only; exact Kd.own_blk (Kd.R_away HO331.out (fun _ hk => hk.2)))) _).trans (((zw (p := ⟨gb324, _, none⟩) (by first | exact Kd.own_blk (Kd.R_away HO331.out (fun _ hk => hk.2)) | (rw [zx]; exact Kd.own_blk (Kd.R_away HO331.out (fun _ hk => hk.2))) | (show (Addr.add _ _).block ≠ _; rw [zx]; exact Kd.own_blk (Kd.R_away HO331.out (fun _ hk => hk.2))) | (dsimp only; exact Kd.own_blk (Kd.R_away HO331.out (fun _ hk => hk.2)))) _).trans (((zw (p := ⟨gb324, _, none⟩) (by first | exact Kd.own_blk (Kd.R_away HO331.out (fun _ hk => hk.2)) | (rw [zx]; exact Kd.own_blk (Kd.R_away HO331.out (fun _ hk => hk.2))) | (show (Addr.add _ _).block ≠ _; rw [zx]; exact Kd.own_blk (Kd.R_away HO331.out (fun _ hk => hk.2))) | (dsimp only; exact Kd.own_blk (Kd.R_away HO331.out (fun _ hk => hk.2)))) _).trans (hHeld.1)))))), ((zw (p := ⟨gb324, _, none⟩) (by first | exact Kd.own_blk (Kd.R_away HO331.out (fun _ hk => hk.2)) | (rw [zx]; exact Kd.own_blk (Kd.R_away HO331.out (fun _ hk => hk.2))) | (show (Addr.add _ _).block ≠ _; rw [zx]; exact Kd.own_blk (Kd.R_away HO331.out (fun _ hk => hk.2))) | (dsimp only; exact Kd.own_blk (Kd.R_away HO331.out (fun _ hk => hk.2)))) _).trans (((zw (p := ⟨gb324, _, none⟩) (by first | exact Kd.own_blk (Kd.R_away HO331.out (fun _ hk => hk.2)) | (rw [zx]; exact Kd.own_blk (Kd.R_away HO331.out (fun _ hk => hk.2))) | (show (Addr.add _ _).block ≠ _; rw [zx]; exact Kd.own_blk (Kd.R_away HO331.out (fun _ hk => hk.2))) | (dsimp only; exact Kd.own_blk (Kd.R_away HO331.out (fun _ hk => hk.2)))) _).trans (((zw (p := ⟨gb324, _, none⟩) (by first | exact Kd.own_blk (Kd.R_away HO331.out (fun _ hk => hk.2)) | (rw [zx]; exact Kd.own_blk (Kd.R_away HO331.out (fun _ hk => hk.2))) | (show (Addr.add _ _).block ≠ _; rw [zx]; exact Kd.own_blk (Kd.R_away HO331.out (fun _ hk => hk.2))) | (dsimp only; exact Kd.own_blk (Kd.R_away HO331.out (fun _ hk => hk.2)))) _).trans (hHeld.2.1)))))), ((zw (p := ⟨gb324, _, none⟩) (by first | exact Kd.own_blk (Kd.R_away HO331.out (fun _ hk => hk.2)) | (rw [zx]; exact Kd.own_blk (Kd.R_away HO331.out (fun _ hk => hk.2))) | (show (Addr.add _ _).block ≠ _; rw [zx]; exact Kd.own_blk (Kd.R_away HO331.out (fun _ hk => hk.2))) | (dsimp only; exact Kd.own_blk (Kd.R_away HO331.out (fun _ hk => hk.2)))) _).trans (((zw (p := ⟨gb324, _, none⟩) (by first | exact Kd.own_blk (Kd.R_away HO331.out (fun _ hk => hk.2)) | (rw [zx]; exact Kd.own_blk (Kd.R_away HO331.out (fun _ hk => hk.2))) | (show (Addr.add _ _).block ≠ _; rw [zx]; exact Kd.own_blk (Kd.R_away HO331.out (fun _ hk => hk.2))) | (dsimp only; exact Kd.own_blk (Kd.R_away HO331.out (fun _ hk => hk.2)))) _).trans (((zw (p := ⟨gb324, _, none⟩) (by first | exact Kd.own_blk (Kd.R_away HO331.out (fun _ hk => hk.2)) | (rw [zx]; exact Kd.own_blk (Kd.R_away HO331.out (fun _ hk => hk.2))) | (show (Addr.add _ _).block ≠ _; rw [zx]; exact Kd.own_blk (Kd.R_away HO331.out (fun _ hk => hk.2))) | (dsimp only; exact Kd.own_blk (Kd.R_away HO331.out (fun _ hk => hk.2)))) _).trans (hHeld.2.2))))))⟩ (fun hHeld => ?_)
  clear hK K
  refine Q4 (Qg HT_.out (by kernel_rfl)) ?_
  try go_wp2
  refine bodyPost_ret (qde (rs := [.tmp 2, .tmp 3, .cell 4 43]) rfl (by simp) (.tmp (.tmp (.cell gb324 43 #[.int .i64 ((qd t329 t335).f0.f0), .int .i64 ((qd t329 t335).f0.f1), .int .i64 ((qd t329 t335).f0.f2)] (0, 0) _ rfl (by (with_reducible repeat (first | refine qf ?_ _ | refine qh ?_ | refine qe ?_ _)); refine zz (cs := #[.int .i64 ((qd t329 t335).f0.f0), .int .i64 ((qd t329 t335).f0.f1), .int .i64 0]) ?_ 2 _ rfl; (with_reducible repeat (first | refine qf ?_ _ | refine qh ?_ | refine qe ?_ _)); refine zz (cs := #[.int .i64 ((qd t329 t335).f0.f0), .int .i64 0, .int .i64 0]) ?_ 1 _ rfl; (with_reducible repeat (first | refine qf ?_ _ | refine qh ?_ | refine qe ?_ _)); refine zz (cs := #[.int .i64 0, .int .i64 0, .int .i64 0]) ?_ 0 _ rfl; (with_reducible repeat (first | refine qf ?_ _ | refine qh ?_ | refine qe ?_ _)); exact BK324.out) Try.underlying43 rfl (by kernel_rfl) .nil)))) rfl ?_
  exact ⟨_, fq, by (with_reducible repeat (first | apply Kd.R_alloc | apply Kd.R_drewN | apply Kd.R_drew)); exact Kd.R_mono (Kd.R_far (p := ⟨gb324, 2, none⟩) (Kd.R_far (p := ⟨gb324, 1, none⟩) (Kd.R_far (p := ⟨gb324, 0, none⟩) (Kd.R_mono HO331.out (fun k_ hk => (⟨hk, hk.2⟩ : _ ∧ k_ ≠ gb324))) (fun _ hk => hk.2) (.int .i64 ((qd t329 t335).f0.f0))) (fun _ hk => hk.2) (.int .i64 ((qd t329 t335).f0.f1))) (fun _ hk => hk.2) (.int .i64 ((qd t329 t335).f0.f2))) (fun _ hk => trivial), Qh HB HI327⟩
 ·rw [if_neg c5] at H
  have c5b0 := beq_eq_false_iff_ne.mpr c5; have c5b1 := bne_iff_ne.mpr c5; replace H := bs H
  obtain ⟨⟨t338, t339, t340, t341⟩, A19, H⟩ := H
  dsimp only at H
  simp only [Option.some.injEq, Prod.mk.injEq] at H
  obtain ⟨rfl, rfl, rfl, rfl, rfl⟩ := H
  go_enter Try.func28, Try.ntmps28
  go_wp2_with (first | ((with_reducible refine q6 (N := 4) rfl ?_); refine xe_ 4 43 #[.int .i64 0, .int .i64 0, .int .i64 0] ?_; intro gb324 hg w20 hbox hb; have BK324 := am (hbox); have GW324 := am ((by rw [hg]; exact (bz HB) : w.heap.size ≤ gb324)); have GE324 := am ((by rw [hg]; exact (bz HB) : w.heap.size ≤ gb324)); replace HB := bq HB hb; clear hb hbox hg) | ((with_reducible refine qj (f := 69) rfl ?_); refine gl 9 Try.func69 #[.slice A0 l0.length c0] ?_; (with_reducible refine (Za.calls _ _ l0 t325 t326 w _ ?_ ?_ ?_ A2.out).mono ?_); (· repeat (first | (with_reducible first | exact HB.out | apply zo | apply zg | apply zc | refine z6 ?_ GE324.out) | exact HB.out)); exact HR0.out; exact HC0.out; rintro e w21 ⟨g327, rfl, hi, hb, hb2⟩; refine ⟨_, rfl, ?_⟩; replace HB := am (hb); have HI327 := am (hi); have NB327_324 := am (IsS112.ne_blk hi (qp (g := gb324) (o := .cells #[.int .i64 0, .int .i64 0, .int .i64 0] 43 (0, 0)) (pk_ BK324) hb2) (by decide)); have NB324_327 := am (Ne.symm (IsS112.ne_blk hi (qp (g := gb324) (o := .cells #[.int .i64 0, .int .i64 0, .int .i64 0] 43 (0, 0)) (pk_ BK324) hb2) (by decide))); replace BK324 := am (qp (g := gb324) (o := .cells #[.int .i64 0, .int .i64 0, .int .i64 0] 43 (0, 0)) (pk_ BK324) hb2); (try clear hb); (try clear hb2); (try clear hi)) | ((with_reducible refine qj (f := 70) rfl ?_); refine gl 12 Try.func70 #[.pointer (some ⟨g327, 0, none⟩)] ?_; (with_reducible refine (zn.calls k g327 t325 t326 t328 t329 t332 w _ ?_ ?_ A3.out).mono ?_); (· repeat (first | (with_reducible first | exact HI327.out | apply IsS112.alloc | apply IsS112.drewN | apply IsS112.drew | apply IsS112.set_1 | refine IsS112.far ?_ NB327_324.out _) | exact HI327.out)); (· repeat (first | (with_reducible first | exact HB.out | apply zo | apply zg | apply zc | refine z6 ?_ (IsS112.ge HI327.out) | refine z6 ?_ GE324.out) | exact HB.out)); rintro e w22 ⟨v330, rfl, ho0, hi, hb, hk⟩; refine ⟨_, rfl, ?_⟩; have HO331 := am (Kd.R_lower (Kd.R_newB ho0 (g := gb324) (o := .cells #[.int .i64 0, .int .i64 0, .int .i64 0] 43 (0, 0)) (pk_ BK324)) (q4 (Qh HB HI327))); replace BK324 := am (KeepBut.blk hk (g' := gb324) (o := .cells #[.int .i64 0, .int .i64 0, .int .i64 0] 43 (0, 0)) (pk_ BK324) NB324_327.out (by simp)); replace HB := am (hb); replace HI327 := am (hi); (try clear hb); (try clear hk); (try clear hi); (try clear ho0)) | ((with_reducible refine qj (f := 71) rfl ?_); refine gl 16 Try.func71 #[.pointer (some ⟨g327, 0, none⟩), .int .i64 8] ?_; (with_reducible refine (ql.calls k g327 t325 t332 8 t333 t334 w _ ?_ ?_ A4.out).mono ?_); (· repeat (first | (with_reducible first | exact HI327.out | apply IsS112.alloc | apply IsS112.drewN | apply IsS112.drew | apply IsS112.set_1 | refine IsS112.far ?_ NB327_324.out _) | exact HI327.out)); (· repeat (first | (with_reducible first | exact HB.out | apply zo | apply zg | apply zc | refine z6 ?_ (IsS112.ge HI327.out) | refine z6 ?_ GE324.out) | exact HB.out)); rintro e w23 ⟨rfl, hi, hb, hk⟩; refine ⟨_, rfl, ?_⟩; replace BK324 := am (KeepBut.blk hk (g' := gb324) (o := .cells #[.int .i64 0, .int .i64 0, .int .i64 0] 43 (0, 0)) (pk_ BK324) NB324_327.out (by simp)); replace HO331 := am (Kd.R_mono (Kd.R_keep (IsS112.apart (show IsS112 w _ g327 t325 t332 from jt HI327) (wR HO331) (by decide)) hk (fun _ h => h.2)) (fun _ h => h.1)); replace HB := am (hb); replace HI327 := am (hi); (try clear hb); (try clear hk); (try clear hi)) | ((with_reducible refine qj (f := 72) rfl ?_); refine gl 29 Try.func72 #[.pointer (some ⟨g327, 0, none⟩), .int .i64 t328] ?_; (with_reducible refine (jm.calls k g327 t325 t334 t328 t338 t339 t340 t341 w _ ?_ ?_ A19.out).mono ?_); (· repeat (first | (with_reducible first | exact HI327.out | apply IsS112.alloc | apply IsS112.drewN | apply IsS112.drew | apply IsS112.set_1 | refine IsS112.far ?_ NB327_324.out _) | exact HI327.out)); (· repeat (first | (with_reducible first | exact HB.out | apply zo | apply zg | apply zc | refine z6 ?_ (IsS112.ge HI327.out) | refine z6 ?_ GE324.out) | exact HB.out)); rintro e w24 ⟨rfl, hi, hb, hk⟩; refine ⟨_, rfl, ?_⟩; replace BK324 := am (KeepBut.blk hk (g' := gb324) (o := .cells #[.int .i64 0, .int .i64 0, .int .i64 0] 43 (0, 0)) (pk_ BK324) NB324_327.out (by simp)); replace HO331 := am (Kd.R_mono (Kd.R_keep (IsS112.apart (show IsS112 w _ g327 t325 t334 from jt HI327) (wR HO331) (by decide)) hk (fun _ h => h.2)) (fun _ h => h.1)); replace HB := am (hb); replace HI327 := am (hi); (try clear hb); (try clear hk); (try clear hi); have hnb25 := NB324_327.out; have hnc25 := NB327_324.out; have hcz26_0 : w24.cell? ⟨gb324, 0, none⟩ = some (.int .i64 0) := (qa BK324.out 0).trans rfl; have hcz26_1 : w24.cell? ⟨gb324, 1, none⟩ = some (.int .i64 0) := (qa BK324.out 1).trans rfl; have hcz26_2 : w24.cell? ⟨gb324, 2, none⟩ = some (.int .i64 0) := (qa BK324.out 2).trans rfl; have hfz26_0 := qg BK324.out 0; have hfz26_1 := qg BK324.out 1; have hfz26_2 := qg BK324.out 2))
  refine bodyPost_ret (qde (rs := [.tmp 2, .tmp 3, .cell 4 43]) rfl (by simp) (.tmp (.tmp (.cell gb324 43 #[.int .i64 t338, .int .i64 t339, .int .i64 t340] (0, 0) _ rfl (by (with_reducible repeat (first | refine qf ?_ _ | refine qh ?_ | refine qe ?_ _)); refine zz (cs := #[.int .i64 t338, .int .i64 t339, .int .i64 0]) ?_ 2 _ rfl; (with_reducible repeat (first | refine qf ?_ _ | refine qh ?_ | refine qe ?_ _)); refine zz (cs := #[.int .i64 t338, .int .i64 0, .int .i64 0]) ?_ 1 _ rfl; (with_reducible repeat (first | refine qf ?_ _ | refine qh ?_ | refine qe ?_ _)); refine zz (cs := #[.int .i64 0, .int .i64 0, .int .i64 0]) ?_ 0 _ rfl; (with_reducible repeat (first | refine qf ?_ _ | refine qh ?_ | refine qe ?_ _)); exact BK324.out) Try.underlying43 rfl (by kernel_rfl) .nil)))) rfl ?_
  exact ⟨_, fq, by (with_reducible repeat (first | apply Kd.R_alloc | apply Kd.R_drewN | apply Kd.R_drew)); exact Kd.R_mono (Kd.R_far (p := ⟨gb324, 2, none⟩) (Kd.R_far (p := ⟨gb324, 1, none⟩) (Kd.R_far (p := ⟨gb324, 0, none⟩) (Kd.R_mono HO331.out (fun k_ hk => (⟨hk, hk.2⟩ : _ ∧ k_ ≠ gb324))) (fun _ hk => hk.2) (.int .i64 t338)) (fun _ hk => hk.2) (.int .i64 t339)) (fun _ hk => hk.2) (.int .i64 t340)) (fun _ hk => trivial), Qh HB HI327⟩
def qk.l0 : Nat → List Int → Int → Int → Int → Option (Int)
 | 0, _, _, _, _ => none
 | k + 1, x0, x1, x7, x8 => if x8 < x7 then (if 0 ≤ x8 then (if x8 < (x0.length : Int) then (if x1 = (rd x0 x8) then (some x8) else (qk.l0 k x0 x1 x7 (wrap64 (x8 + 1)))) else (none)) else (none)) else (some (-1))
def qk.f (k : Nat) (l0 : List Int) (a1 : Int) : Option (Int) := qk.l0 k l0 a1 (l0.length : Int) 0
theorem qk.mono_l : ∀ k, (∀ y0 y1 y2 y3, LeO (qk.l0 k y0 y1 y2 y3) (qk.l0 (k + 1) y0 y1 y2 y3))
 | 0 => fun _ _ _ _ r h => by simp [qk.l0] at h
 | k + 1 => by
  have ih0 := qk.mono_l k
  ·intro y0 y1 y2 y3
   unfold qk.l0
   repeat' first | (with_reducible first | apply ih0 | exact LeO.refl _ | exact LeO.none _ | refine LeO.ite ?_ ?_ | refine LeO.bind ?_ (fun _ => ?_)) | (first | apply ih0 | exact LeO.none _ | refine LeO.ite ?_ ?_ | refine LeO.bind ?_ (fun _ => ?_))
theorem qk.mono : ∀ a0 a1 k, LeO (qk.f k a0 a1) (qk.f (k + 1) a0 a1) := by
 intro a0 a1 k
 have ih0 := qk.mono_l k
 unfold qk.f
 repeat' first | (with_reducible first | apply ih0 | exact LeO.refl _ | exact LeO.none _ | refine LeO.ite ?_ ?_ | refine LeO.bind ?_ (fun _ => ?_)) | (first | apply ih0 | exact LeO.none _ | refine LeO.ite ?_ ?_ | refine LeO.bind ?_ (fun _ => ?_))
theorem qk.calls (k : Nat) (A0 : Option Addr) (c0 : Nat) (l0 : List Int) (a1 : Int) (r : Int) (w : World) (hr0 : Kd.C (Kd.int .i64) w A0 l0.length l0) (hc0 : l0.length ≤ c0) (h : qk.f k l0 a1 = some r) :
  Calls Try.prog 159 #[.slice A0 l0.length c0, .int .i64 a1] w fun e w' => e = .returned (.int .i64 r) ∧ Drawn0 w w' := by
 have HR0 := am hr0
 have HC0 := am hc0
 clear hr0 hc0
 have H : (qk.l0 k l0 a1 (l0.length : Int) 0) = some r := h
 clear h; have H' := am H; clear H
 go_enter Try.func159, Try.ntmps159
 go_wp2
 go_loopg [8] k (fun kq v8 w' => ∃ (x8_1 : Int), v8 = .int .i64 x8_1 ∧ qb (qk.l0 kq l0 a1 (l0.length : Int) x8_1 = some r) ∧ qb (kq ≤ k) ∧ Drawn0 w w')
 case atStart => exact ⟨(0), fr, H', ⟨Nat.le_refl _⟩, df⟩
 case round =>
  clear H'; try clear c1; try clear p2
  obtain ⟨x8_1, rfl, HA, HK1, ⟨m1, rfl⟩⟩ := hrel
  cases gk with
  | zero => exact absurd HA.out (by simp [qk.l0])
  | succ k1 =>
   have H := HA.out; clear HA
   simp only [qk.l0] at H
   by_cases c3 : x8_1 < (l0.length : Int)
   ·rw [if_pos c3] at H
    have c3b0 := decide_eq_true c3; clear c3; replace H := ifn H; obtain ⟨c4, H⟩ := H; have c4b0 := decide_eq_true c4; clear c4; replace H := ifn H; obtain ⟨c5, H⟩ := H; have c5b0 := decide_eq_true c5; clear c5
    by_cases c6 : a1 = (rd l0 x8_1)
    ·rw [if_pos c6] at H
     have c6b0 := beq_iff_eq.mpr c6; have c6b1 := bne_eq_false_iff_eq.mpr c6; clear c6; obtain rfl := Option.some.inj H
     have p342 : 0 ≤ (x8_1 : Int) := od
     have q342 : x8_1 < (l0.length : Int) := od
     obtain ⟨ad342, e342, hx342_0⟩ := Kd.at_int HR0.out x8_1 p342 q342
     cases e342; replace p342 := eq_true p342; replace q342 := eq_true q342; go_wp2; go_ret
     exact ⟨fr, df⟩
    ·rw [if_neg c6] at H
     have c6b0 := beq_eq_false_iff_ne.mpr c6; have c6b1 := bne_iff_ne.mpr c6; have H' := am H; clear H
     have p342 : 0 ≤ (x8_1 : Int) := od
     have q342 : x8_1 < (l0.length : Int) := od
     obtain ⟨ad342, e342, hx342_0⟩ := Kd.at_int HR0.out x8_1 p342 q342
     cases e342; replace p342 := eq_true p342; replace q342 := eq_true q342; go_wp2
     go_roundg k1
     case measure => have := HK1.out; omega
     case rel => exact ⟨(wrap64 (x8_1 + 1)), fr, H', ⟨by have := HK1.out; omega⟩, df⟩
   ·rw [if_neg c3] at H
    have c3b0 := decide_eq_false c3; clear c3; obtain rfl := Option.some.inj H; go_wp2; go_ret
    exact ⟨fr, df⟩
def qt.f (k : Nat) (l0 : List Int) (a1 : Int) : Option (Bool) := (qk.f k l0 a1).bind fun t343 => (some (decide (t343 ≥ 0)))
theorem qt.mono : ∀ a0 a1 k, LeO (qt.f k a0 a1) (qt.f (k + 1) a0 a1) := by
 intro a0 a1 k
 unfold qt.f
 repeat' first | (with_reducible first | apply qk.mono | exact LeO.refl _ | exact LeO.none _ | refine LeO.ite ?_ ?_ | refine LeO.bind ?_ (fun _ => ?_)) | (first | apply qk.mono | exact LeO.none _ | refine LeO.ite ?_ ?_ | refine LeO.bind ?_ (fun _ => ?_))
theorem qt.calls (k : Nat) (A0 : Option Addr) (c0 : Nat) (l0 : List Int) (a1 : Int) (r : Bool) (w : World) (hr0 : Kd.C (Kd.int .i64) w A0 l0.length l0) (hc0 : l0.length ≤ c0) (h : qt.f k l0 a1 = some r) :
  Calls Try.prog 155 #[.slice A0 l0.length c0, .int .i64 a1] w fun e w' => e = .returned (.bool r) ∧ Drawn0 w w' := by
 have HR0 := am hr0
 have HC0 := am hc0
 clear hr0 hc0
 have H : ((qk.f k l0 a1).bind fun t343 => (some (decide (t343 ≥ 0)))) = some r := h
 clear h; replace H := bs H; obtain ⟨t343, A3, H⟩ := H; obtain rfl := Option.some.inj H
 go_enter Try.func155, Try.ntmps155
 go_wp2_with (first | ((with_reducible refine qj (f := 159) rfl ?_); refine gl 7 Try.func159 #[.slice A0 l0.length c0, .int .i64 a1] ?_; (with_reducible refine (qk.calls k _ _ l0 a1 t343 _ ?_ ?_ A3.out).mono ?_); exact wC HR0; exact HC0.out; rintro e w' ⟨rfl, ⟨nd, rfl⟩⟩; refine ⟨_, rfl, ?_⟩))
 go_ret
 exact ⟨fr, df⟩
def Qo.f (k : Nat) (a0 : Int) : Option (Bool) := (qt.f k (([7, 11, 13, 17, 19, 23, 29, 31] : List Int)) a0).bind fun t347 => (some t347)
theorem Qo.mono : ∀ a0 k, LeO (Qo.f k a0) (Qo.f (k + 1) a0) := by
 intro a0 k
 unfold Qo.f
 repeat' first | (with_reducible first | apply qt.mono | exact LeO.refl _ | exact LeO.none _ | refine LeO.ite ?_ ?_ | refine LeO.bind ?_ (fun _ => ?_)) | (first | apply qt.mono | exact LeO.none _ | refine LeO.ite ?_ ?_ | refine LeO.bind ?_ (fun _ => ?_))
theorem Qo.calls (k : Nat) (a0 : Int) (r : Bool) (w : World) (h : Qo.f k a0 = some r) :
  Calls Try.prog 99 #[.int .i64 a0] w fun e w' => e = .returned (.bool r) ∧ Below w.heap.size w w' := by
 have HB := am (Below.refl w.heap.size w)
 have H : ((qt.f k (([7, 11, 13, 17, 19, 23, 29, 31] : List Int)) a0).bind fun t347 => (some t347)) = some r := h
 clear h
 generalize hy344 : (([7, 11, 13, 17, 19, 23, 29, 31] : List Int)) = y344 at H
 have Ny344 := am hy344.symm; clear hy344; replace H := bs H; obtain ⟨t347, A2, H⟩ := H; obtain rfl := Option.some.inj H
 go_enter Try.func99, Try.ntmps99
 go_wp2_with (first | ((with_reducible refine q6 (N := 3) rfl ?_); refine li 3 [7, 11, 13, 17, 19, 23, 29, 31] ?_; intro v345 w3 ho4 hb; (first | rw [← Ny344.out] at ho4 | (simp only [Int.reduceToNat] at ho4; rw [← Ny344.out] at ho4)); have HO346 := am (Kd.R_lower ho4 (bz HB)); replace HB := bq HB hb; clear hb ho4; obtain ⟨Ao5, co5, eo5⟩ := Kd.R_slice HO346.out; subst eo5) | ((with_reducible refine qj (f := 155) rfl ?_); refine gl 5 Try.func155 #[.slice Ao5 y344.length co5, .int .i64 a0] ?_; (with_reducible refine (qt.calls k _ _ y344 a0 t347 _ ?_ ?_ A2.out).mono ?_); exact Kd.C_below (Kd.R_reads' HO346.out).2.2 gs; exact (Kd.R_reads' HO346.out).2.1; rintro e w' ⟨rfl, ⟨nd, rfl⟩⟩; refine ⟨_, rfl, ?_⟩))
 go_ret
 exact ⟨fq, bw HB⟩
def idxOf (q : Int → Bool) : List Int → Int → Int
 | [], _ => -1
 | x :: xs, i => if q x then i else idxOf q xs (i + 1)
theorem qla {k : IntKind} {a b : Int} (h : a = b) : Ending.returned (.int k a) = .returned (.int k b) := by rw [h]
theorem qbi {a b : Bool} (h : a = b) : Ending.returned (.bool a) = .returned (.bool b) := by rw [h]
theorem qnj (l : List Int) (j : Nat) (h : j < l.length) : rd l (j : Int) = l[j] := by simp [rd, List.getD_eq_getElem?_getD, h]
theorem qb8 (g : Nat) (lb : Array Value) (q : Int → Bool) (A0 : Option Addr) (c0 : Nat) (l0 : List Int) (w : World) (hr0 : Kd.C (Kd.int .i64) w A0 l0.length l0)
  (he : ∀ args w, (callFunc g args).run Try.prog w = .ok (.enter g args) w)
  (hq : ∀ (x : Int) (w1 : World), Drawn0 w w1 → Calls Try.prog g (#[.int .i64 x] ++ lb) w1 fun e w' => e = .returned (.bool (q x)) ∧ Drawn0 w1 w') :
  Calls Try.prog 156 #[.slice A0 l0.length c0, .func (.func g) #[] lb] w fun e w' => e = .returned (.int .i64 (idxOf q l0 0)) ∧ Drawn0 w w' := by
 have hm := hr0.2.1
 go_enter Try.func156, Try.ntmps156
 go_wp2
 go_loopw [8] (fun i w' => ∃ j : Nat, j ≤ l0.length ∧ i = .int .i64 j ∧ idxOf q l0 0 = idxOf q (l0.drop j) j ∧ Drawn0 w w') (fun i _ => l0.length - (intOf i).toNat)
 case atStart => exact ⟨0, Nat.zero_le _, rfl, by simp, Drawn0.refl _⟩
 case round =>
  obtain ⟨j, hj, rfl, hidx, ⟨m1, rfl⟩⟩ := hrel
  have HIDX := Lib.hid hidx
  clear hidx
  by_cases hlt : j < l0.length
  ·obtain ⟨ad, e, hx⟩ := Kd.at_int hr0 (j : Int) (by omega) (by omega)
   subst e
   simp only [Int.toNat_natCast] at hx
   have hcall := hq (rd l0 j) (w.drewN m1) ⟨m1, rfl⟩
   have HC := Lib.hid hcall
   clear hcall hq
   cases hv : q (rd l0 j)
   all_goals
    go_wp2_with fail
    refine (HC.out).mono ?_
    rintro e w' ⟨rfl, ⟨m2, rfl⟩⟩
    simp only [hv]
    go_wp2
   ·go_roundw
    case rel => exact ⟨j + 1, by omega, by go_num, by rw [HIDX.out, List.drop_eq_getElem_cons hlt, idxOf, if_neg (by rw [← qnj l0 j hlt, hv]; simp)]; simp, ⟨m1 + m2, by simp⟩⟩
    case measure => simp [intOf]; omega
   ·go_ret
    exact ⟨qla (a := (j : Int)) (by rw [HIDX.out, List.drop_eq_getElem_cons hlt, idxOf, if_pos (by rw [← qnj l0 j hlt, hv])]), ⟨m1 + m2, by simp⟩⟩
  ·go_wp2
   go_ret
   exact ⟨qla (a := -1) (by rw [HIDX.out, List.drop_eq_nil_of_le (by omega), idxOf]), ⟨m1, rfl⟩⟩
theorem qdt (g : Nat) (lb : Array Value) (q : Int → Bool) (A0 : Option Addr) (c0 : Nat) (l0 : List Int) (w : World) (hr0 : Kd.C (Kd.int .i64) w A0 l0.length l0)
  (he : ∀ args w, (callFunc g args).run Try.prog w = .ok (.enter g args) w)
  (hq : ∀ (x : Int) (w1 : World), Drawn0 w w1 → Calls Try.prog g (#[.int .i64 x] ++ lb) w1 fun e w' => e = .returned (.bool (q x)) ∧ Drawn0 w1 w') :
  Calls Try.prog 100 #[.slice A0 l0.length c0, .func (.func g) #[] lb] w fun e w' => e = .returned (.bool (decide (idxOf q l0 0 ≥ 0))) ∧ Drawn0 w w' := by
 have HC := Lib.hid (qb8 g lb q A0 c0 l0 w hr0 he hq)
 clear hq
 go_enter Try.func100, Try.ntmps100
 go_wp2_with fail
 refine HC.out.mono ?_
 rintro e w' ⟨rfl, ⟨m2, rfl⟩⟩
 go_wp2; go_ret
 exact ⟨rfl, ⟨m2, rfl⟩⟩
theorem qmf (x p : Int) (b : Nat) (w : World) (hc : w.cell? ⟨b, 0, none⟩ = some (.int .i64 p)) :
  Calls Try.prog 101 #[.int .i64 x, .pointer (some ⟨b, 0, none⟩)] w fun e w' => e = .returned (.bool (decide (x < 0) || decide (x ≥ p))) ∧ Drawn0 w w' := by
 by_cases h : x < 0
 ·have h1 : decide (x < 0) = true := decide_eq_true h
  go_enter Try.func101, Try.ntmps101
  go_wp2; go_ret
  exact ⟨by simp [h], Drawn0.refl _⟩
 ·have h1 : decide (x < 0) = false := decide_eq_false h
  go_enter Try.func101, Try.ntmps101
  go_wp2; go_ret
  exact ⟨by simp [h], Drawn0.refl _⟩
def zh (p : Int) : Bool := decide (p = 7 ∨ p = 11 ∨ p = 13 ∨ p = 17 ∨ p = 19 ∨ p = 23 ∨ p = 29 ∨ p = 31)
theorem qdv (a : Int) : Qo.f 20 a = some (zh a) := by
 by_cases h : a = 7 ∨ a = 11 ∨ a = 13 ∨ a = 17 ∨ a = 19 ∨ a = 23 ∨ a = 29 ∨ a = 31
 ·rcases h with rfl | rfl | rfl | rfl | rfl | rfl | rfl | rfl <;> decide +kernel
 ·have h' := h
  simp only [not_or] at h
  obtain ⟨h1, h2, h3, h4, h5, h6, h7, h8⟩ := h
  simp [Qo.f, qt.f, qk.f, qk.l0, rd, wrap64, h1, h2, h3, h4, h5, h6, h7, h8, zh]
theorem qir (q : Int → Bool) : ∀ (l : List Int) (i : Int), 0 ≤ i → decide (idxOf q l i ≥ 0) = l.any q
 | [], i, h => by simp [idxOf]
 | x :: xs, i, h => by
  unfold idxOf
  cases hq : q x
  ·simp [hq, qir q xs (i + 1) (by omega)]
  ·simp [hq, h]
def jh.f (a0 : Int) (l1 : List Int) (a2 : Int) : Option Bool := some (zh a0 && decide ((l1.length : Int) = a2) && l1.all fun x => decide (0 ≤ x) && decide (x < a0))
theorem jh.not (p : Int) (l : List Int) : (!decide (idxOf (fun x => decide (x < 0) || decide (x ≥ p)) l 0 ≥ 0)) = l.all fun x => decide (0 ≤ x) && decide (x < p) := by
 rw [qir _ l 0 (by omega), List.not_any_eq_all_not]
 congr 1
 funext x
 rw [Bool.eq_iff_iff]
 simp only [Bool.not_eq_true', Bool.or_eq_false_iff, decide_eq_false_iff_not, Bool.and_eq_true, decide_eq_true_eq]
 omega
theorem jh.calls (a0 : Int) (A1 : Option Addr) (c1 : Nat) (l1 : List Int) (a2 : Int) (r : Bool) (w : World) (hr1 : Kd.C (Kd.int .i64) w A1 l1.length l1) (hc1 : l1.length ≤ c1) (h : jh.f a0 l1 a2 = some r) :
  Calls Try.prog 52 #[.int .i64 a0, .slice A1 l1.length c1, .int .i64 a2] w fun e w' => e = .returned (.bool r) ∧ Below w.heap.size w w' := by
 have H := Lib.hid h
 clear h
 have hmf : ∀ (fn : Fn) (first cap : Array Value) (w : World), (Instr.makeFunc fn first cap).run Try.prog w = .ok (.func fn first cap) w := fun _ _ _ _ => rfl
 cases hp : zh a0
 ·have HP := Lib.hid hp
  clear hp
  go_enter Try.func52, Try.ntmps52
  go_wp2_with fail
  refine (Qo.calls 20 a0 false _ (by rw [qdv, HP.out])).mono ?_
  rintro e w1 ⟨rfl, hb⟩
  go_wp2; go_ret
  exact ⟨qbi (a := false) (by simpa [jh.f, HP.out] using H.out), (zo (Below.refl _ _) _).trans (hb.mono (by simp))⟩
 ·have HP := Lib.hid hp
  clear hp
  by_cases hl : (l1.length : Int) = a2
  ·have hl1 : ((l1.length : Int) == a2) = true := beq_iff_eq.mpr hl
   have HL := Lib.hid hl
   clear hl
   go_enter Try.func52, Try.ntmps52
   go_wp2_with fail
   refine (Qo.calls 20 a0 true _ (by rw [qdv, HP.out])).mono ?_
   rintro e w1 ⟨rfl, hb⟩
   have hcell : w1.cell? ⟨w.heap.size, 0, none⟩ = some (.int .i64 a0) := by
    rw [hb.cell (p := ⟨w.heap.size, 0, none⟩) (by simp)]; simp [go_sem]
   have hr2 := Kd.C_below hr1 ((zo (Below.refl _ _) _).trans (hb.mono (by simp)))
   go_wp2_with fail
   refine (qdt 101 #[.pointer (some ⟨w.heap.size, 0, none⟩)] (fun x => decide (x < 0) || decide (x ≥ a0)) A1 c1 l1 w1 hr2 (Go.Proofs.enters_of Try.func101 (by kernel_rfl) rfl) (fun x w2 ⟨m, hm⟩ => by subst hm; exact qmf x a0 w.heap.size _ (by simpa using hcell))).mono ?_
   rintro e w2 ⟨rfl, ⟨m, rfl⟩⟩
   go_wp2; go_ret
   exact ⟨qbi (a := !decide (idxOf (fun x => decide (x < 0) || decide (x ≥ a0)) l1 0 ≥ 0)) (by rw [jh.not]; simpa [jh.f, HP.out, HL.out] using H.out), zg ((zo (Below.refl _ _) _).trans (hb.mono (by simp))) m⟩
  ·have hl1 : ((l1.length : Int) == a2) = false := beq_eq_false_iff_ne.mpr hl
   have HL := Lib.hid hl
   clear hl
   go_enter Try.func52, Try.ntmps52
   go_wp2_with fail
   refine (Qo.calls 20 a0 true _ (by rw [qdv, HP.out])).mono ?_
   rintro e w1 ⟨rfl, hb⟩
   go_wp2; go_ret
   exact ⟨qbi (a := false) (by simpa [jh.f, HP.out, HL.out] using H.out), (zo (Below.refl _ _) _).trans (hb.mono (by simp))⟩
theorem qi4 (x : Int) (w : World) : Calls Try.prog 161 #[.int .i64 x] w fun e w' => e = .returned (.bool (x != 0)) ∧ Drawn0 w w' := by
 go_enter Try.func161, Try.ntmps161
 go_wp2; go_ret
 exact ⟨rfl, Drawn0.refl _⟩
def qcw (l : List Int) : Bool := (l.find? (fun x => x != 0)) == some 1
theorem qev (q : Int → Bool) : ∀ (l : List Int) (i : Int), 0 ≤ i → (l.find? q = none → idxOf q l i = -1) ∧ ∀ x, l.find? q = some x → i ≤ idxOf q l i ∧ idxOf q l i < i + l.length ∧ l.getD (idxOf q l i - i).toNat 0 = x
 | [], i, h => by simp [idxOf]
 | y :: ys, i, h => by
  obtain ⟨h1, h2⟩ := qev q ys (i + 1) (by omega)
  unfold idxOf
  cases hq : q y
  ·simp only [List.find?_cons, hq, Bool.false_eq_true, if_false]
   refine ⟨h1, fun x hx => ?_⟩
   obtain ⟨h3, h4, h5⟩ := h2 x hx
   refine ⟨by omega, by simp only [List.length_cons]; omega, ?_⟩
   rw [show (idxOf q ys (i + 1) - i).toNat = (idxOf q ys (i + 1) - (i + 1)).toNat + 1 from by omega]
   simpa using h5
  ·simp [List.find?_cons, hq]; omega
def Qv.f (l0 : List Int) : Option Bool := some (qcw l0)
theorem Qv.calls (A0 : Option Addr) (c0 : Nat) (l0 : List Int) (r : Bool) (w : World) (hr0 : Kd.C (Kd.int .i64) w A0 l0.length l0) (hc0 : l0.length ≤ c0) (h : Qv.f l0 = some r) :
  Calls Try.prog 119 #[.slice A0 l0.length c0] w fun e w' => e = .returned (.bool r) ∧ Drawn0 w w' := by
 have H := Lib.hid h
 clear h
 have hi := qev (fun x => x != 0) l0 0 (by omega)
 have HC := Lib.hid (qb8 161 #[] (fun x => x != 0) A0 c0 l0 w hr0 (Go.Proofs.enters_of Try.func161 (by kernel_rfl) rfl) (fun x w1 _ => qi4 x w1))
 generalize hz : idxOf (fun x => x != 0) l0 0 = z at *
 have HI := Lib.hid hi
 clear hi hz
 by_cases h0 : 0 ≤ z
 ·have hlt : z < l0.length := by
   cases hf : l0.find? (fun x => x != 0) with
   | none => have := HI.out.1 hf; omega
   | some x => have := HI.out.2 x hf; omega
  obtain ⟨ad, e, hx⟩ := Kd.at_int hr0 z h0 hlt
  subst e
  have h1 : decide (0 ≤ z) = true := decide_eq_true h0
  have h2 : decide (z < (l0.length : Int)) = true := decide_eq_true hlt
  go_enter Try.func119, Try.ntmps119
  go_wp2_with fail
  refine HC.out.mono ?_
  rintro e w' ⟨rfl, ⟨m2, rfl⟩⟩
  go_wp2; go_ret
  refine ⟨qbi (a := rd l0 z == 1) ?_, ⟨m2, rfl⟩⟩
  have hz := HI.out
  have hr : qcw l0 = r := by simpa [Qv.f] using H.out
  rw [← hr, qcw]
  cases hf : l0.find? (fun x => x != 0) with
  | none => have := hz.1 hf; omega
  | some x =>
   obtain ⟨_, _, h5⟩ := hz.2 x hf
   rw [Int.sub_zero] at h5
   simp only [rd, h5]
   rfl
 ·have h1 : decide (0 ≤ z) = false := decide_eq_false h0
  go_enter Try.func119, Try.ntmps119
  go_wp2_with fail
  refine HC.out.mono ?_
  rintro e w' ⟨rfl, ⟨m2, rfl⟩⟩
  go_wp2; go_ret
  refine ⟨qbi (a := false) ?_, ⟨m2, rfl⟩⟩
  have hz := HI.out
  have hr : qcw l0 = r := by simpa [Qv.f] using H.out
  rw [← hr, qcw]
  cases hf : l0.find? (fun x => x != 0) with
  | none => rfl
  | some x => have := (hz.2 x hf).1; omega
def Qf.f (a0 a1_0 a1_1 a1_2 : Int) : Option Bool := (jh.f a0 [a1_0, a1_1, a1_2] 3).bind fun t => if t = true then Qv.f [a1_0, a1_1, a1_2] else some false
theorem qgc {w : World} {b : Nat} {x y z : Int} {t : TypeId} (h : w.heap[b]? = some (.cells #[.int .i64 x, .int .i64 y, .int .i64 z] t (0, 0))) : Kd.C (Kd.int .i64) w (some ⟨b, 0, none⟩) 3 [x, y, z] := by
 refine Kd.C_of_reads (d := (0 : Int)) (h1 := fun _ => rfl) ⟨rfl, by omega, fun _ => ⟨_, rfl, fun j hj => ?_⟩⟩
 have e := cell_of_row w b j _ _ _ h
 rcases (show j = 0 ∨ j = 1 ∨ j = 2 by omega) with rfl | rfl | rfl <;> exact e
theorem Qf.calls (a0 a1_0 a1_1 a1_2 : Int) (r : Bool) (w : World) (h : Qf.f a0 a1_0 a1_1 a1_2 = some r) :
  Calls Try.prog 73 #[.int .i64 a0, .agg #[.int .i64 a1_0, .int .i64 a1_1, .int .i64 a1_2]] w fun e w' => e = .returned (.bool r) ∧ Below w.heap.size w w' := by
 have hu43 := Try.underlying43
 have hu41 := Try.underlying41
 have HB := am (Below.refl w.heap.size w)
 have HX := am (qgc (w := w.alloc (.cells #[.int .i64 a1_0, .int .i64 a1_1, .int .i64 a1_2] 43)) (heap_alloc_last w _))
 obtain ⟨t, ht, h⟩ := Option.bind_eq_some_iff.1 h
 cases t with
 | false =>
  rw [if_neg (by simp)] at h
  obtain rfl := Option.some.inj h
  have HT := am ht
  clear ht h
  go_enter Try.func73, Try.ntmps73
  go_wp2_with fail
  refine (jh.calls a0 (some ⟨w.heap.size, 0, none⟩) 3 [a1_0, a1_1, a1_2] 3 false _ (wC HX) (Nat.le_refl _) HT.out).mono ?_
  rintro e w1 ⟨rfl, hb⟩
  replace HB := bq HB hb
  clear hb
  go_wp2_with fail
  go_ret
  exact ⟨fq, bw HB⟩
 | true =>
  rw [if_pos rfl] at h
  have HT := am ht
  have HM := am h
  clear ht h
  go_enter Try.func73, Try.ntmps73
  go_wp2_with fail
  refine (jh.calls a0 (some ⟨w.heap.size, 0, none⟩) 3 [a1_0, a1_1, a1_2] 3 true _ (wC HX) (Nat.le_refl _) HT.out).mono ?_
  rintro e w1 ⟨rfl, hb⟩
  replace HX := am (Kd.C_below (wC HX) hb)
  replace HB := bq HB hb
  clear hb
  go_wp2_with fail
  refine (Qv.calls (some ⟨w.heap.size, 0, none⟩) 3 [a1_0, a1_1, a1_2] r _ (wC HX) (Nat.le_refl _) HM.out).mono ?_
  rintro e w2 ⟨rfl, ⟨m, rfl⟩⟩
  go_wp2_with fail
  go_ret
  exact ⟨fq, bw HB⟩
def Zt.f (a0 : Int) (a1 : Int) : Option (Int) := if a1 = 0 then (none) else (some (Int.tmod (wrap64 ((Int.tmod a0 a1) + a1)) a1))
theorem Zt.calls (a0 : Int) (a1 : Int) (r : Int) (w : World) (h : Zt.f a0 a1 = some r) :
  Calls Try.prog 126 #[.int .i64 a0, .int .i64 a1] w fun e w' => e = .returned (.int .i64 r) ∧ Drawn0 w w' := by
 have H : (if a1 = 0 then (none) else (some (Int.tmod (wrap64 ((Int.tmod a0 a1) + a1)) a1))) = some r := h
 clear h; replace H := ifm H; obtain ⟨c3, H⟩ := H; have c3b0 := beq_eq_false_iff_ne.mpr c3; have c3b1 := bne_iff_ne.mpr c3; obtain rfl := Option.some.inj H
 go_enter Try.func126, Try.ntmps126
 go_wp2; go_ret
 exact ⟨fr, df⟩
def jc.l0 : Nat → Int → List Int → Int → List Int → Int → Int → Option (Int)
 | 0, _, _, _, _, _, _ => none
 | k + 1, x0, x2, x7, x10, x11, x12 => if x12 < x11 then (if 0 ≤ x12 then (if x12 < (x10.length : Int) then (if x12 < (x2.length : Int) then (jc.l0 k x0 x2 (wrap64 (x7 + (wrap64 ((rd x10 x12) * (rd x2 x12))))) x10 x11 (wrap64 (x12 + 1))) else (none)) else (none)) else (none)) else ((Zt.f x7 x0).bind fun t350 => (some t350))
def jc.f (k : Nat) (a0 : Int) (l1 : List Int) (l2 : List Int) : Option (Int) := jc.l0 k a0 l2 0 l1 (l1.length : Int) 0
theorem jc.mono_l : ∀ k, (∀ y0 y1 y2 y3 y4 y5, LeO (jc.l0 k y0 y1 y2 y3 y4 y5) (jc.l0 (k + 1) y0 y1 y2 y3 y4 y5))
 | 0 => fun _ _ _ _ _ _ r h => by simp [jc.l0] at h
 | k + 1 => by
  have ih0 := jc.mono_l k
  ·intro y0 y1 y2 y3 y4 y5
   unfold jc.l0
   repeat' first | (with_reducible first | apply ih0 | exact LeO.refl _ | exact LeO.none _ | refine LeO.ite ?_ ?_ | refine LeO.bind ?_ (fun _ => ?_)) | (first | apply ih0 | exact LeO.none _ | refine LeO.ite ?_ ?_ | refine LeO.bind ?_ (fun _ => ?_))
theorem jc.mono : ∀ a0 a1 a2 k, LeO (jc.f k a0 a1 a2) (jc.f (k + 1) a0 a1 a2) := by
 intro a0 a1 a2 k
 have ih0 := jc.mono_l k
 unfold jc.f
 repeat' first | (with_reducible first | apply ih0 | exact LeO.refl _ | exact LeO.none _ | refine LeO.ite ?_ ?_ | refine LeO.bind ?_ (fun _ => ?_)) | (first | apply ih0 | exact LeO.none _ | refine LeO.ite ?_ ?_ | refine LeO.bind ?_ (fun _ => ?_))
theorem jc.calls (k : Nat) (a0 : Int) (A1 : Option Addr) (c1 : Nat) (l1 : List Int) (A2 : Option Addr) (c2 : Nat) (l2 : List Int) (r : Int) (w : World) (hr1 : Kd.C (Kd.int .i64) w A1 l1.length l1) (hc1 : l1.length ≤ c1) (hr2 : Kd.C (Kd.int .i64) w A2 l2.length l2) (hc2 : l2.length ≤ c2) (h : jc.f k a0 l1 l2 = some r) :
  Calls Try.prog 81 #[.int .i64 a0, .slice A1 l1.length c1, .slice A2 l2.length c2] w fun e w' => e = .returned (.int .i64 r) ∧ Drawn0 w w' := by
 have HR1 := am hr1
 have HC1 := am hc1
 clear hr1 hc1
 have HR2 := am hr2
 have HC2 := am hc2
 clear hr2 hc2
 have H : (jc.l0 k a0 l2 0 l1 (l1.length : Int) 0) = some r := h
 clear h; have H' := am H; clear H
 go_enter Try.func81, Try.ntmps81
 go_wp2
 go_loopg [7, 12] k (fun kq v7 v12 w' => ∃ (x7_1 : Int) (x12_1 : Int), v7 = .int .i64 x7_1 ∧ v12 = .int .i64 x12_1 ∧ qb (jc.l0 kq a0 l2 x7_1 l1 (l1.length : Int) x12_1 = some r) ∧ qb (kq ≤ k) ∧ Drawn0 w w')
 case atStart => exact ⟨(0), (0), fr, fr, H', ⟨Nat.le_refl _⟩, df⟩
 case round =>
  clear H'; try clear c1; try clear c2; try clear p2
  obtain ⟨x7_1, x12_1, rfl, rfl, HA, HK1, ⟨m1, rfl⟩⟩ := hrel
  cases gk with
  | zero => exact absurd HA.out (by simp [jc.l0])
  | succ k1 =>
   have H := HA.out; clear HA
   simp only [jc.l0] at H
   by_cases c4 : x12_1 < (l1.length : Int)
   ·rw [if_pos c4] at H
    have c4b0 := decide_eq_true c4; clear c4; replace H := ifn H; obtain ⟨c5, H⟩ := H; have c5b0 := decide_eq_true c5; clear c5; replace H := ifn H; obtain ⟨c6, H⟩ := H; have c6b0 := decide_eq_true c6; clear c6; replace H := ifn H; obtain ⟨c7, H⟩ := H
    have c7b0 := decide_eq_true c7; clear c7; have H' := am H; clear H
    have p348 : 0 ≤ (x12_1 : Int) := od
    have q348 : x12_1 < (l1.length : Int) := od
    obtain ⟨ad348, e348, hx348_0⟩ := Kd.at_int HR1.out x12_1 p348 q348
    cases e348; replace p348 := eq_true p348; replace q348 := eq_true q348
    have p349 : 0 ≤ (x12_1 : Int) := od
    have q349 : x12_1 < (l2.length : Int) := od
    obtain ⟨ad349, e349, hx349_0⟩ := Kd.at_int HR2.out x12_1 p349 q349
    cases e349; replace p349 := eq_true p349; replace q349 := eq_true q349; go_wp2
    go_roundg k1
    case measure => have := HK1.out; omega
    case rel => exact ⟨(wrap64 (x7_1 + (wrap64 ((rd l1 x12_1) * (rd l2 x12_1))))), (wrap64 (x12_1 + 1)), fr, fr, H', ⟨by have := HK1.out; omega⟩, df⟩
   ·rw [if_neg c4] at H
    have c4b0 := decide_eq_false c4; clear c4; replace H := bs H; obtain ⟨t350, A8, H⟩ := H; obtain rfl := Option.some.inj H
    go_wp2_with (first | ((with_reducible refine qj (f := 126) rfl ?_); refine gl 28 Try.func126 #[.int .i64 x7_1, .int .i64 a0] ?_; (with_reducible refine (Zt.calls x7_1 a0 t350 _ A8.out).mono ?_); rintro e w' ⟨rfl, ⟨nd, rfl⟩⟩; refine ⟨_, rfl, ?_⟩))
    go_ret
    exact ⟨fr, df⟩
end Go.Proofs.Ytmgbpmihbljngaa.PA

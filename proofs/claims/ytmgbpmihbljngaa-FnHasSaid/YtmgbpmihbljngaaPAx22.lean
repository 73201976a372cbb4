-- Written by xprint.py, a program of this claim's own (over the kit's print.py)
import Derived.Test.YtmgbpmihbljngaaPAx21
namespace Go.Proofs.Ytmgbpmihbljngaa.PA
set_option maxHeartbeats 8000000
set_option maxRecDepth 100000
open Go.RowKit Go.Proofs.YtmgbpmihbljngaaW.PrintWords Go.Proofs.YtmgbpmihbljngaaW.PrintLast Go.Proofs.YtmgbpmihbljngaaW.PrintMore
attribute [local go_sem] j9 j8 Qf Qg js jr j6 j7
set_option linter.unusedVariables false
set_option linter.unusedSimpArgs false
def zi.j0 : Nat → Int → List (S43) → Bool → Int → Int → Int → Option (List Int × Bool)
 | 0, _, _, _, _, _, _ => none
 | k + 1, x0, x1, x18, x482000, x482001, x482002 => if x18 = true then (some ((([] : List Int)), false)) else ((zh.f k x0 x1).bind fun t487 => ((zt.f k x0 t487 x482000 x482001 x482002).bind fun t490 => ((q5.f k t490).bind fun t493 => (if t493 = true then (some ((([] : List Int)), false)) else ((qu.f k x0 t490).bind fun t497 => (some (t497, true)))))))
def zi.f (k : Nat) (a0 : Int) (l1 : List (S43)) (a2_0 : Int) (a2_1 : Int) (a2_2 : Int) : Option (List Int × Bool) := (zf.f k a0 l1).bind fun t482 => (if t482 = true then ((z9.f k a0 a2_0 a2_1 a2_2).bind fun t483 => (zi.j0 k a0 l1 (!t483) a2_0 a2_1 a2_2)) else (zi.j0 k a0 l1 true a2_0 a2_1 a2_2))
theorem zi.mono_l : ∀ k, (∀ y0 y1 y2 y3 y4 y5, LeO (zi.j0 k y0 y1 y2 y3 y4 y5) (zi.j0 (k + 1) y0 y1 y2 y3 y4 y5))
 | 0 => fun _ _ _ _ _ _ r h => by simp [zi.j0] at h
 | k + 1 => by
  have ih0 := zi.mono_l k
  ·intro y0 y1 y2 y3 y4 y5
   unfold zi.j0
   repeat' first | (with_reducible first | apply ih0 | apply zf.mono | apply z9.mono | apply qu.mono | apply q5.mono | apply zh.mono | apply zt.mono | exact LeO.refl _ | exact LeO.none _ | refine LeO.ite ?_ ?_ | refine LeO.bind ?_ (fun _ => ?_)) | (first | apply ih0 | apply zf.mono | apply z9.mono | apply qu.mono | apply q5.mono | apply zh.mono | apply zt.mono | exact LeO.none _ | refine LeO.ite ?_ ?_ | refine LeO.bind ?_ (fun _ => ?_))
theorem zi.mono : ∀ a0 a1 a2 a3 a4 k, LeO (zi.f k a0 a1 a2 a3 a4) (zi.f (k + 1) a0 a1 a2 a3 a4) := by
 intro a0 a1 a2 a3 a4 k
 have ih0 := zi.mono_l k
 unfold zi.f
 repeat' first | (with_reducible first | apply ih0 | apply zf.mono | apply z9.mono | apply qu.mono | apply q5.mono | apply zh.mono | apply zt.mono | exact LeO.refl _ | exact LeO.none _ | refine LeO.ite ?_ ?_ | refine LeO.bind ?_ (fun _ => ?_)) | (first | apply ih0 | apply zf.mono | apply z9.mono | apply qu.mono | apply q5.mono | apply zh.mono | apply zt.mono | exact LeO.none _ | refine LeO.ite ?_ ?_ | refine LeO.bind ?_ (fun _ => ?_))
theorem zi.calls (k : Nat) (a0 : Int) (A1 : Option Addr) (c1 : Nat) (l1 : List (S43)) (a2_0 : Int) (a2_1 : Int) (a2_2 : Int) (r1 : List Int) (r2 : Bool) (w : World) (hr1 : Kd.C k43 w A1 l1.length l1) (hc1 : l1.length ≤ c1) (h : zi.f k a0 l1 a2_0 a2_1 a2_2 = some (r1, r2)) :
  Calls Try.prog 30 #[.int .i64 a0, .slice A1 l1.length c1, .agg #[.int .i64 a2_0, .int .i64 a2_1, .int .i64 a2_2]] w fun e w' => ∃ v0_ : Value, e = .returned (.tuple #[v0_, .bool r2]) ∧ Kd.R (Kd.int .i64) 3 w' w.heap.size (fun _ => True) v0_ r1 ∧ Below w.heap.size w w' := by
 have hu43 := Try.underlying43
 have HR1 := am hr1
 have HC1 := am hc1
 clear hr1 hc1
 have HB := am (Below.refl w.heap.size w)
 have H : ((zf.f k a0 l1).bind fun t482 => (if t482 = true then ((z9.f k a0 a2_0 a2_1 a2_2).bind fun t483 => (zi.j0 k a0 l1 (!t483) a2_0 a2_1 a2_2)) else (zi.j0 k a0 l1 true a2_0 a2_1 a2_2))) = some (r1, r2) := h
 clear h
 have HC4 := am H
 clear H
 go_enter Try.func30, Try.ntmps30
 go_upto_region 1 with (first | ((with_reducible refine za (N := 5) rfl ?_); refine xe_ 5 43 #[.int .i64 a2_0, .int .i64 a2_1, .int .i64 a2_2] ?_; intro gb481 hg w5 hbox hb; have BK481 := am (hbox); have GW481 := am ((by rw [hg]; exact (bz HB) : w.heap.size ≤ gb481)); have GE481 := am ((by rw [hg]; exact (bz HB) : w.heap.size ≤ gb481)); replace HB := bq HB hb; clear hb hbox hg))
 (try simp only [Act.put, List.setIfInBounds_toArray, List.set_cons_zero, List.set_cons_succ])
 go_cut [18] (fun v18 wc => ∃ (kq : Nat) (x18_3 : Bool), v18 = .bool x18_3 ∧ qb (zi.j0 kq a0 l1 x18_3 a2_0 a2_1 a2_2 = some (r1, r2)) ∧ qb (kq ≤ k) ∧ qb (wc.heap[gb481]? = some (.cells #[.int .i64 a2_0, .int .i64 a2_1, .int .i64 a2_2] 43 (0, 0))) ∧ qb (Below w.heap.size w wc))
 case first =>
  have H := HC4.out
  clear HC4; replace H := bs H; obtain ⟨t482, A6, H⟩ := H
  by_cases c7 : t482 = true
  ·subst c7
   rw [if_pos rfl] at H
   replace H := bs H; obtain ⟨t483, A8, H⟩ := H; have H' := am H; clear H
   go_wp2_with (first | ((with_reducible refine qf (f := 62) rfl ?_); refine gl 11 Try.func62 #[.int .i64 a0, .slice A1 l1.length c1] ?_; (with_reducible refine (zf.calls k a0 _ _ l1 true _ ?_ ?_ A6.out).mono ?_); exact Kd.C_below HR1.out (bw HB); exact HC1.out; rintro e w9 ⟨rfl, hb⟩; refine ⟨_, rfl, ?_⟩; replace BK481 := am (zg (g := gb481) (o := .cells #[.int .i64 a2_0, .int .i64 a2_1, .int .i64 a2_2] 43 (0, 0)) (pk_ BK481) hb); replace HB := am (qz (bx_ HB) hb); (try clear hb); have hcz10_0 : w9.cell? ⟨gb481, 0, none⟩ = some (.int .i64 a2_0) := (qa BK481.out 0).trans rfl; have hcz10_1 : w9.cell? ⟨gb481, 1, none⟩ = some (.int .i64 a2_1) := (qa BK481.out 1).trans rfl; have hcz10_2 : w9.cell? ⟨gb481, 2, none⟩ = some (.int .i64 a2_2) := (qa BK481.out 2).trans rfl; have hfz10_0 := qp BK481.out 0; have hfz10_1 := qp BK481.out 1; have hfz10_2 := qp BK481.out 2) | (go_at_call 76; (with_reducible refine (z9.calls k a0 a2_0 a2_1 a2_2 t483 _ A8.out).mono ?_); rintro e w11 ⟨rfl, hb⟩; replace BK481 := am (zg (g := gb481) (o := .cells #[.int .i64 a2_0, .int .i64 a2_1, .int .i64 a2_2] 43 (0, 0)) (pk_ BK481) hb); replace HB := am (qz (bx_ HB) hb); (try clear hb)))
   go_meet
   case rel => exact ⟨_, (!t483), fr, H', ⟨by first | omega | exact Nat.le_refl _⟩, ⟨by (with_reducible repeat (first | refine qi ?_ _ | refine qj ?_ | refine qg ?_ _)); exact BK481.out⟩, ⟨bx_ HB⟩⟩
  ·replace c7 := Bool.eq_false_iff.mpr c7
   subst c7
   rw [if_neg (show ¬ (false = true) by decide)] at H
   have H' := am H; clear H
   go_wp2_with (first | ((with_reducible refine qf (f := 62) rfl ?_); refine gl 11 Try.func62 #[.int .i64 a0, .slice A1 l1.length c1] ?_; (with_reducible refine (zf.calls k a0 _ _ l1 false _ ?_ ?_ A6.out).mono ?_); exact Kd.C_below HR1.out (bw HB); exact HC1.out; rintro e w12 ⟨rfl, hb⟩; refine ⟨_, rfl, ?_⟩; replace BK481 := am (zg (g := gb481) (o := .cells #[.int .i64 a2_0, .int .i64 a2_1, .int .i64 a2_2] 43 (0, 0)) (pk_ BK481) hb); replace HB := am (qz (bx_ HB) hb); (try clear hb)))
   go_meet
   case rel => exact ⟨_, (true), fr, H', ⟨by first | omega | exact Nat.le_refl _⟩, ⟨by (with_reducible repeat (first | refine qi ?_ _ | refine qj ?_ | refine qg ?_ _)); exact BK481.out⟩, ⟨bx_ HB⟩⟩
 case rest =>
  clear HC4; try clear c1; try clear p2; try clear c3; try clear c6; try clear c7; try clear hcz10_0; try clear hcz10_1; try clear hcz10_2; try clear hfz10_0; try clear hfz10_1; try clear hfz10_2
  obtain ⟨kq, x18_3, rfl, HA, HJ3, BK481, HB⟩ := hcut
  cases kq with
  | zero => exact absurd HA.out (by simp [zi.j0])
  | succ kj3 =>
   have H := HA.out; clear HA
   simp only [zi.j0] at H
   by_cases c13 : x18_3 = true
   ·subst c13
    rw [if_pos rfl] at H
    generalize hy484 : (([] : List Int)) = y484 at H
    have Ny484 := am hy484.symm; clear hy484
    simp only [Option.some.injEq, Prod.mk.injEq] at H
    obtain ⟨rfl, rfl⟩ := H
    go_wp2_with (first | ((with_reducible refine za (N := 19) rfl ?_); refine li 3 ([] : List Int) ?_; intro v485 w14 ho15 hb; (first | rw [← Ny484.out] at ho15 | (simp only [Int.reduceToNat] at ho15; rw [← Ny484.out] at ho15)); have HO486 := am (Kd.R_lower ho15 (zc (bx_ HB))); replace BK481 := am (zg (g := gb481) (o := .cells #[.int .i64 a2_0, .int .i64 a2_1, .int .i64 a2_2] 43 (0, 0)) (pk_ BK481) hb); replace HB := am (qz (bx_ HB) hb); clear hb ho15))
    go_ret2
    exact ⟨_, fq, wR HO486, bx_ HB⟩
   ·replace c13 := Bool.eq_false_iff.mpr c13
    subst c13
    rw [if_neg (show ¬ (false = true) by decide)] at H
    replace H := bs H; obtain ⟨t487, A16, H⟩ := H; replace H := bs H; obtain ⟨t490, A17, H⟩ := H; replace H := bs H; obtain ⟨t493, A18, H⟩ := H
    by_cases c19 : t493 = true
    ·subst c19
     rw [if_pos rfl] at H
     generalize hy494 : (([] : List Int)) = y494 at H
     have Ny494 := am hy494.symm; clear hy494
     simp only [Option.some.injEq, Prod.mk.injEq] at H
     obtain ⟨rfl, rfl⟩ := H
     try go_wp2
     replace BK481 := am (qj BK481.out)
     replace HB := am (qx HB.out)
     refine qjn (n := 7) (S := fun w' => w'.cell? ⟨gb481, 0, none⟩ = some (.int .i64 a2_0) ∧ w'.cell? ⟨gb481, 1, none⟩ = some (.int .i64 a2_1) ∧ w'.cell? ⟨gb481, 2, none⟩ = some (.int .i64 a2_2)) (ds := []) #[false, false, false, false, false, false, false] (by kernel_rfl) rfl rfl ⟨(qa BK481.out 0).trans rfl, (qa BK481.out 1).trans rfl, (qa BK481.out 2).trans rfl⟩ (fun hHeld => ?_)
     generalize wc.drew = w20 at BK481 HB hHeld ⊢
     refine qcb (i := 0) (N := some 20) (v := ?_) (a' := ?_) #[true, false, false, false, false, false, false] rfl rfl (by kernel_rfl) (fun _ _ _ h => h) (Or.inl ⟨by rfl, ?_⟩) ?_ ?_
     rotate_left
     ·intro w'
      go_simp
      with_reducible rfl
     rotate_left
     ·simp only [Act.put, List.setIfInBounds_toArray, List.set_cons_zero, List.set_cons_succ, Q9, Zj]
      rfl
     refine qcb (i := 1) (N := some 21) (v := ?_) (a' := ?_) #[true, true, false, false, false, false, false] rfl rfl (by kernel_rfl) (fun _ _ _ h => h) (Or.inl ⟨by rfl, ?_⟩) ?_ ?_
     rotate_left
     ·intro w'
      go_simp
      with_reducible rfl
     rotate_left
     ·simp only [Act.put, List.setIfInBounds_toArray, List.set_cons_zero, List.set_cons_succ, Q9, Zj]
      rfl
     refine qcb (i := 2) (N := some 22) (v := ?_) (a' := ?_) #[true, true, true, false, false, false, false] rfl rfl (by kernel_rfl) (fun _ _ _ h => h) (Or.inl ⟨by rfl, ?_⟩) ?_ ?_
     rotate_left
     ·intro w'
      go_simp
      with_reducible rfl
     rotate_left
     ·simp only [Act.put, List.setIfInBounds_toArray, List.set_cons_zero, List.set_cons_succ, Q9, Zj]
      rfl
     refine take_ (i := 4) (N := some 24) (v := ?_) (a' := ?_) #[true, true, true, false, true, false, false] rfl rfl (by kernel_rfl) (fun _ _ _ h => h) (Or.inl ⟨by rfl, ?_⟩) hHeld ?_ ?_
     rotate_left
     ·rintro w' ⟨s0, s1, s2⟩
      go_simp
      with_reducible rfl
     rotate_left
     ·simp only [Act.put, List.setIfInBounds_toArray, List.set_cons_zero, List.set_cons_succ, Q9, Zj]
      rfl
     refine one_ (i := 3) (N := some 23) #[true, true, true, true, true, false, false] rfl rfl (by kernel_rfl) (by decide) (fun K hK => ?_)
     refine gs_ Try.func78 #[.int .i64 a0, .slice A1 l1.length c1] ?_
     with_reducible refine (zh.calls kj3 a0 _ _ l1 t487 _ ?side1 ?side2 A16.out).mono ?_
     (case side1 => exact Kd.C_below HR1.out (bw HB))
     (case side2 => exact HC1.out)
     rintro e w21 ⟨v488, rfl, ho0, hb⟩
     refine ⟨_, rfl, ?_⟩
     have HO489 := am (Kd.N_lower (Kd.N_mono (ok' := fun k_ => k_ ≠ gb481) ho0 (fun k_ hk_ => (Kd.freshB (g := gb481) (o := .cells #[.int .i64 a2_0, .int .i64 a2_1, .int .i64 a2_2] 43 (0, 0)) (pk_ BK481) k_ hk_))) (zc (bx_ HB)))
     replace BK481 := am (zg (g := gb481) (o := .cells #[.int .i64 a2_0, .int .i64 a2_1, .int .i64 a2_2] 43 (0, 0)) (pk_ BK481) hb)
     replace HB := am (qz (bx_ HB) hb)
     (try clear hb)
     (try clear hb2)
     (try clear hk)
     (try clear hi)
     (try clear ho0)
     obtain ⟨Ao22, co22, eo22⟩ := Kd.N_slice HO489.out
     (first | subst eo22 | (injection eo22 with f1_ f2_ f3_; have f4_ := f1_.symm; have f5_ := f3_.symm; clear f1_ f2_ f3_; subst f4_; subst f5_))
     refine hK.out _ _ ⟨(qa BK481.out 0).trans rfl, (qa BK481.out 1).trans rfl, (qa BK481.out 2).trans rfl⟩ fun hHeld => nz ?_
     clear hK K
     refine one_ (i := 5) (N := some 25) #[true, true, true, true, true, true, false] rfl rfl (by kernel_rfl) (by decide) (fun K hK => ?_)
     refine gs_ Try.func77 #[.int .i64 a0, .slice Ao22 t487.length co22, .agg #[.int .i64 a2_0, .int .i64 a2_1, .int .i64 a2_2]] ?_
     with_reducible refine (zt.calls kj3 a0 _ _ t487 a2_0 a2_1 a2_2 t490 _ ?side1 ?side2 A17.out).mono ?_
     (case side1 => exact Kd.C_below (Kd.N_reads' HO489.out).2.2 gs)
     (case side2 => exact (Kd.N_reads' HO489.out).2.1)
     rintro e w23 ⟨v491, rfl, ho0, hb⟩
     refine ⟨_, rfl, ?_⟩
     replace HO489 := eN HO489 (Kd.R_base ho0) hb
     have HO492 := am (Kd.R_lower ho0 (zc (bx_ HB)))
     replace BK481 := am (zg (g := gb481) (o := .cells #[.int .i64 a2_0, .int .i64 a2_1, .int .i64 a2_2] 43 (0, 0)) (pk_ BK481) hb)
     replace HB := am (qz (bx_ HB) hb)
     (try clear hb)
     (try clear hb2)
     (try clear hk)
     (try clear hi)
     (try clear ho0)
     refine hK.out _ _ ⟨(qa BK481.out 0).trans rfl, (qa BK481.out 1).trans rfl, (qa BK481.out 2).trans rfl⟩ fun hHeld => nz ?_
     clear hK K
     refine qcb (i := 6) (N := some 8) (v := ?_) (a' := ?_) #[true, true, true, true, true, true, true] rfl rfl (by kernel_rfl) (fun _ _ _ h => h) (Or.inl ⟨by rfl, ?_⟩) ?_ ?_
     rotate_left
     ·intro w'
      go_simp
      with_reducible rfl
     rotate_left
     ·simp only [Act.put, List.setIfInBounds_toArray, List.set_cons_zero, List.set_cons_succ, Q9, Zj]
      rfl
     refine Q8 (by kernel_rfl) ?_
     obtain ⟨Ao24, co24, eo24⟩ := Kd.R_slice HO492.out
     subst eo24
     try go_wp2_with (first | ((with_reducible refine qf (f := 79) rfl ?_); refine gl 27 Try.func79 #[.slice Ao24 t490.length co24] ?_; (with_reducible refine (q5.calls kj3 _ _ t490 true _ ?side1 ?side2 A18.out).mono ?_); (case side1 => exact Kd.C_below (Kd.R_reads' HO492.out).2.2 gs); (case side2 => exact (Kd.R_reads' HO492.out).2.1); rintro e w' ⟨rfl, ⟨nd, rfl⟩⟩; refine ⟨_, rfl, ?_⟩) | ((with_reducible refine za (N := 28) rfl ?_); refine Kd.R_lit (Kd.int .i64) _ 3 ?hg (N := 28) ?hd (xs := ([] : List Int)) (inner := []) (ok := fun _ => True) (okp := fun _ => True) ?hr ?hp (fun _ hk => hk) trivial (Below.refl _ _) (Nat.le_refl _) (by simp) ?_; (case hd => rfl); (case hg => rfl); (case hr => first | (go_simp; done) | (go_simp; rfl)); (case hp => exact (Reps.none _ _)); intro v495 w25 ho26 hb hg_ hnew_; clear hg_ hnew_; (first | rw [← Ny494.out] at ho26 | (simp only [Int.reduceToNat] at ho26; rw [← Ny494.out] at ho26)); replace HO489 := eN HO489 (Kd.R_base ho26) hb; have HO496 := am (Kd.R_lower (Kd.R_new' ho26 (Kd.R_lt (wR HO492))) (zc (bx_ HB))); replace HO492 := eR HO492 (Kd.R_base ho26) hb; replace BK481 := am (zg (g := gb481) (o := .cells #[.int .i64 a2_0, .int .i64 a2_1, .int .i64 a2_2] 43 (0, 0)) (pk_ BK481) hb); replace HB := am (qz (bx_ HB) hb); clear hb ho26))
     go_ret2
     exact ⟨_, fq, Kd.R_below (Kd.R_mono HO496.out (fun _ hk => trivial)) gs, bx_ HB⟩
    ·replace c19 := Bool.eq_false_iff.mpr c19
     subst c19
     rw [if_neg (show ¬ (false = true) by decide)] at H
     replace H := bs H; obtain ⟨t497, A27, H⟩ := H
     simp only [Option.some.injEq, Prod.mk.injEq] at H
     obtain ⟨rfl, rfl⟩ := H
     try go_wp2
     replace BK481 := am (qj BK481.out)
     replace HB := am (qx HB.out)
     refine qjn (n := 7) (S := fun w' => w'.cell? ⟨gb481, 0, none⟩ = some (.int .i64 a2_0) ∧ w'.cell? ⟨gb481, 1, none⟩ = some (.int .i64 a2_1) ∧ w'.cell? ⟨gb481, 2, none⟩ = some (.int .i64 a2_2)) (ds := []) #[false, false, false, false, false, false, false] (by kernel_rfl) rfl rfl ⟨(qa BK481.out 0).trans rfl, (qa BK481.out 1).trans rfl, (qa BK481.out 2).trans rfl⟩ (fun hHeld => ?_)
     generalize wc.drew = w28 at BK481 HB hHeld ⊢
     refine qcb (i := 0) (N := some 20) (v := ?_) (a' := ?_) #[true, false, false, false, false, false, false] rfl rfl (by kernel_rfl) (fun _ _ _ h => h) (Or.inl ⟨by rfl, ?_⟩) ?_ ?_
     rotate_left
     ·intro w'
      go_simp
      with_reducible rfl
     rotate_left
     ·simp only [Act.put, List.setIfInBounds_toArray, List.set_cons_zero, List.set_cons_succ, Q9, Zj]
      rfl
     refine qcb (i := 1) (N := some 21) (v := ?_) (a' := ?_) #[true, true, false, false, false, false, false] rfl rfl (by kernel_rfl) (fun _ _ _ h => h) (Or.inl ⟨by rfl, ?_⟩) ?_ ?_
     rotate_left
     ·intro w'
      go_simp
      with_reducible rfl
     rotate_left
     ·simp only [Act.put, List.setIfInBounds_toArray, List.set_cons_zero, List.set_cons_succ, Q9, Zj]
      rfl
     refine qcb (i := 2) (N := some 22) (v := ?_) (a' := ?_) #[true, true, true, false, false, false, false] rfl rfl (by kernel_rfl) (fun _ _ _ h => h) (Or.inl ⟨by rfl, ?_⟩) ?_ ?_
     rotate_left
     ·intro w'
      go_simp
      with_reducible rfl
     rotate_left
     ·simp only [Act.put, List.setIfInBounds_toArray, List.set_cons_zero, List.set_cons_succ, Q9, Zj]
      rfl
     refine take_ (i := 4) (N := some 24) (v := ?_) (a' := ?_) #[true, true, true, false, true, false, false] rfl rfl (by kernel_rfl) (fun _ _ _ h => h) (Or.inl ⟨by rfl, ?_⟩) hHeld ?_ ?_
     rotate_left
     ·rintro w' ⟨s0, s1, s2⟩
      go_simp
      with_reducible rfl
     rotate_left
     ·simp only [Act.put, List.setIfInBounds_toArray, List.set_cons_zero, List.set_cons_succ, Q9, Zj]
      rfl
     refine one_ (i := 3) (N := some 23) #[true, true, true, true, true, false, false] rfl rfl (by kernel_rfl) (by decide) (fun K hK => ?_)
     refine gs_ Try.func78 #[.int .i64 a0, .slice A1 l1.length c1] ?_
     with_reducible refine (zh.calls kj3 a0 _ _ l1 t487 _ ?side1 ?side2 A16.out).mono ?_
     (case side1 => exact Kd.C_below HR1.out (bw HB))
     (case side2 => exact HC1.out)
     rintro e w29 ⟨v488, rfl, ho0, hb⟩
     refine ⟨_, rfl, ?_⟩
     have HO489 := am (Kd.N_lower (Kd.N_mono (ok' := fun k_ => k_ ≠ gb481) ho0 (fun k_ hk_ => (Kd.freshB (g := gb481) (o := .cells #[.int .i64 a2_0, .int .i64 a2_1, .int .i64 a2_2] 43 (0, 0)) (pk_ BK481) k_ hk_))) (zc (bx_ HB)))
     replace BK481 := am (zg (g := gb481) (o := .cells #[.int .i64 a2_0, .int .i64 a2_1, .int .i64 a2_2] 43 (0, 0)) (pk_ BK481) hb)
     replace HB := am (qz (bx_ HB) hb)
     (try clear hb)
     (try clear hb2)
     (try clear hk)
     (try clear hi)
     (try clear ho0)
     obtain ⟨Ao30, co30, eo30⟩ := Kd.N_slice HO489.out
     (first | subst eo30 | (injection eo30 with f1_ f2_ f3_; have f4_ := f1_.symm; have f5_ := f3_.symm; clear f1_ f2_ f3_; subst f4_; subst f5_))
     refine hK.out _ _ ⟨(qa BK481.out 0).trans rfl, (qa BK481.out 1).trans rfl, (qa BK481.out 2).trans rfl⟩ fun hHeld => nz ?_
     clear hK K
     refine one_ (i := 5) (N := some 25) #[true, true, true, true, true, true, false] rfl rfl (by kernel_rfl) (by decide) (fun K hK => ?_)
     refine gs_ Try.func77 #[.int .i64 a0, .slice Ao30 t487.length co30, .agg #[.int .i64 a2_0, .int .i64 a2_1, .int .i64 a2_2]] ?_
     with_reducible refine (zt.calls kj3 a0 _ _ t487 a2_0 a2_1 a2_2 t490 _ ?side1 ?side2 A17.out).mono ?_
     (case side1 => exact Kd.C_below (Kd.N_reads' HO489.out).2.2 gs)
     (case side2 => exact (Kd.N_reads' HO489.out).2.1)
     rintro e w31 ⟨v491, rfl, ho0, hb⟩
     refine ⟨_, rfl, ?_⟩
     replace HO489 := eN HO489 (Kd.R_base ho0) hb
     have HO492 := am (Kd.R_lower ho0 (zc (bx_ HB)))
     replace BK481 := am (zg (g := gb481) (o := .cells #[.int .i64 a2_0, .int .i64 a2_1, .int .i64 a2_2] 43 (0, 0)) (pk_ BK481) hb)
     replace HB := am (qz (bx_ HB) hb)
     (try clear hb)
     (try clear hb2)
     (try clear hk)
     (try clear hi)
     (try clear ho0)
     refine hK.out _ _ ⟨(qa BK481.out 0).trans rfl, (qa BK481.out 1).trans rfl, (qa BK481.out 2).trans rfl⟩ fun hHeld => nz ?_
     clear hK K
     refine qcb (i := 6) (N := some 8) (v := ?_) (a' := ?_) #[true, true, true, true, true, true, true] rfl rfl (by kernel_rfl) (fun _ _ _ h => h) (Or.inl ⟨by rfl, ?_⟩) ?_ ?_
     rotate_left
     ·intro w'
      go_simp
      with_reducible rfl
     rotate_left
     ·simp only [Act.put, List.setIfInBounds_toArray, List.set_cons_zero, List.set_cons_succ, Q9, Zj]
      rfl
     refine Q8 (by kernel_rfl) ?_
     obtain ⟨Ao32, co32, eo32⟩ := Kd.R_slice HO492.out
     subst eo32
     try go_wp2_with (first | ((with_reducible refine qf (f := 79) rfl ?_); refine gl 27 Try.func79 #[.slice Ao32 t490.length co32] ?_; (with_reducible refine (q5.calls kj3 _ _ t490 false _ ?side1 ?side2 A18.out).mono ?_); (case side1 => exact Kd.C_below (Kd.R_reads' HO492.out).2.2 gs); (case side2 => exact (Kd.R_reads' HO492.out).2.1); rintro e w' ⟨rfl, ⟨nd, rfl⟩⟩; refine ⟨_, rfl, ?_⟩) | ((with_reducible refine qf (f := 80) rfl ?_); refine gl 31 Try.func80 #[.int .i64 a0, .slice Ao32 t490.length co32] ?_; (with_reducible refine (qu.calls kj3 a0 _ _ t490 t497 _ ?side1 ?side2 A27.out).mono ?_); (case side1 => exact Kd.C_below (Kd.R_reads' HO492.out).2.2 gs); (case side2 => exact (Kd.R_reads' HO492.out).2.1); rintro e w33 ⟨v498, rfl, ho0, hb⟩; refine ⟨_, rfl, ?_⟩; replace HO489 := eN HO489 (Kd.R_base ho0) hb; have HO499 := am (Kd.R_lower (Kd.R_new' ho0 (Kd.R_lt (wR HO492))) (zc (bx_ HB))); replace HO492 := eR HO492 (Kd.R_base ho0) hb; replace BK481 := am (zg (g := gb481) (o := .cells #[.int .i64 a2_0, .int .i64 a2_1, .int .i64 a2_2] 43 (0, 0)) (pk_ BK481) hb); replace HB := am (qz (bx_ HB) hb); (try clear hb); (try clear hb2); (try clear hk); (try clear hi); (try clear ho0)))
     go_ret2
     exact ⟨_, fq, Kd.R_below (Kd.R_mono HO499.out (fun _ hk => trivial)) gs, bx_ HB⟩
def IsS112 (w0 W : World) (g : Nat) (f0 : List Int) (f1 : Int) : Prop := ∃ A0 c0, W.heap[g]? = some (.cells #[.slice A0 f0.length c0, .int .i64 f1] 112 (0, 0)) ∧ w0.heap.size ≤ g ∧ Kd.C (Kd.int .u8) w0 A0 f0.length f0
theorem IsS112.grown {w0 W : World} {g : Nat} {f0 : List Int} {f1 : Int} {W1 : World} {row : Option Nat} (h : IsS112 w0 W g f0 f1) (hw : W.grownBy W1 row) (hne : some g ≠ row) : IsS112 w0 W1 g f0 f1 := by
 obtain ⟨A0, c0, hb, hg, hr0⟩ := h
 exact ⟨A0, c0, Qh hb hw hne, hg, hr0⟩
theorem IsS112.kept {w0 W : World} {g : Nat} {f0 : List Int} {f1 : Int} {W1 : World} {S : Nat → Prop} (h : IsS112 w0 W g f0 f1) (hk : Kept W W1 S) (hne : ¬ S g) : IsS112 w0 W1 g f0 f1 := by
 obtain ⟨A0, c0, hb, hg, hr0⟩ := h
 exact ⟨A0, c0, qm8 hb hk hne, hg, hr0⟩
theorem IsS112.below {w0 W : World} {g : Nat} {f0 : List Int} {f1 : Int} {W1 : World} (h : IsS112 w0 W g f0 f1) (hw : Below W.heap.size W W1) : IsS112 w0 W1 g f0 f1 := h.grown (qbo hw none) (by simp)
theorem IsS112.alloc {w0 W : World} {g : Nat} {f0 : List Int} {f1 : Int} (h : IsS112 w0 W g f0 f1) (o : Obj) : IsS112 w0 (W.alloc o) g f0 f1 := h.below (q8 (Below.refl _ _) o)
theorem IsS112.drewN {w0 W : World} {g : Nat} {f0 : List Int} {f1 : Int} (h : IsS112 w0 W g f0 f1) (m : Nat) : IsS112 w0 (W.drewN m) g f0 f1 := h
theorem IsS112.drew {w0 W : World} {g : Nat} {f0 : List Int} {f1 : Int} (h : IsS112 w0 W g f0 f1) : IsS112 w0 W.drew g f0 f1 := h
theorem IsS112.at_ {w0 W : World} {g : Nat} {f0 : List Int} {f1 : Int} {w' : World} {m : Nat} (hq : W.drewN m = w') (h : IsS112 w0 W g f0 f1) : IsS112 w0 w' g f0 f1 := by subst hq; exact IsS112.drewN h m
theorem IsS112.apart {w0 W : World} {g : Nat} {f0 : List Int} {f1 : Int} {α : Type} {d : Kd α} {e : Nat} {base : Nat} {ok : Nat → Prop} {v : Value} {xs : List α} (h : IsS112 w0 W g f0 f1) (ho : d.R e W base ok v xs) (ht : ∀ q, q ∈ e :: d.E → q ≠ 112) : d.R e W base (fun k => ok k ∧ k ≠ g) v xs := by
 obtain ⟨A0, c0, hb, hg, hr0⟩ := h
 exact Kd.R_types ho hb ht
theorem IsS112.own_ne {w0 W : World} {g : Nat} {f0 : List Int} {f1 : Int} {α : Type} {d : Kd α} {e : Nat} {base : Nat} {ok : Nat → Prop} {v : Value} {xs : List α} (h : IsS112 w0 W g f0 f1) (ho : d.R e W base ok v xs) (ht : e ≠ 112) : some g ≠ v.ownBlock := by
 obtain ⟨A0, c0, hb, hg, hr0⟩ := h
 exact Kd.R_ne ho hb ht
theorem IsS112.lt {w0 W : World} {g : Nat} {f0 : List Int} {f1 : Int} (h : IsS112 w0 W g f0 f1) : g < W.heap.size := by
 obtain ⟨A0, c0, hb, hg, hr0⟩ := h
 exact jv hb
theorem IsS112.ge {w0 W : World} {g : Nat} {f0 : List Int} {f1 : Int} (h : IsS112 w0 W g f0 f1) : w0.heap.size ≤ g := by
 obtain ⟨A0, c0, hb, hg, hr0⟩ := h
 exact hg
theorem IsS112.far {w0 W : World} {g : Nat} {f0 : List Int} {f1 : Int} {p : Addr} (h : IsS112 w0 W g f0 f1) (hne : g ≠ p.block) (u : Value) : IsS112 w0 (W.setCell p u) g f0 f1 := by
 obtain ⟨A0, c0, hb, hg, hr0⟩ := h
 exact ⟨A0, c0, jx hb hne u, hg, hr0⟩
theorem qa8 {W : World} {g : Nat} {A0 : Option Addr} {c0 : Nat} {f0 : List Int} {f1 : Int} (h : W.heap[g]? = some (.cells #[.slice A0 f0.length c0, .int .i64 f1] 112 (0, 0))) : W.cell? ⟨g, 0, none⟩ = some (.slice A0 f0.length c0) := (qa h 0).trans rfl
theorem qa0 {W : World} {g : Nat} {A0 : Option Addr} {c0 : Nat} {f0 : List Int} {f1 : Int} (h : W.heap[g]? = some (.cells #[.slice A0 f0.length c0, .int .i64 f1] 112 (0, 0))) : W.cell? ⟨g, 1, none⟩ = some (.int .i64 f1) := (qa h 1).trans rfl
theorem IsS112.set_1 {w0 W : World} {g : Nat} {f0 : List Int} {f1 : Int} (h : IsS112 w0 W g f0 f1) (x : Int) : IsS112 w0 (W.setCell ⟨g, 1, none⟩ (.int .i64 x)) g f0 x := by
 obtain ⟨A0, c0, hb, hg, hr0⟩ := h
 exact ⟨A0, c0, by simpa using qeb hb 1 (.int .i64 x), hg, hr0⟩
theorem jd {w0 W W' : World} {g : Nat} {f0 f0' : List Int} {f1 f1' : Int} (h : qb (IsS112 w0 W g f0 f1)) (k : IsS112 w0 W g f0 f1 → IsS112 w0 W' g f0' f1' := by (intro h_; repeat (first | (with_reducible first | exact h_ | apply IsS112.alloc | apply IsS112.drewN | apply IsS112.drew | apply IsS112.set_1) | refine IsS112.far ?_ (qb.out (by assumption)) _ | exact h_))) : IsS112 w0 W' g f0' f1' := k h.out
theorem jt {w w0 W W' W2 : World} {g : Nat} {f0 : List Int} {f1 : Int} (h : qb (Below w.heap.size w W)) (i : qb (IsS112 w0 W2 g f0 f1)) (k : IsS112 w0 W2 g f0 f1 → Below w.heap.size w W → Below w.heap.size w W' := by (intro i_ h_; repeat (first | (with_reducible first | exact h_ | apply q8 | apply qo | apply qx | refine zl ?_ (IsS112.ge i_)) | refine zl ?_ (qb.out (by assumption)) | exact h_))) : Below w.heap.size w W' := k i.out h.out
theorem IsS112.new (w0 W : World) (A0 : Option Addr) (c0 : Nat) (f0 : List Int) (f1 : Int) (hB : Below w0.heap.size w0 W) (hr0 : Kd.C (Kd.int .u8) w0 A0 f0.length f0) : IsS112 w0 (W.alloc (.cells #[.slice A0 f0.length c0, .int .i64 f1] 112)) W.heap.size f0 f1 := ⟨A0, c0, by simpa using heap_alloc_new W _, hB.size, hr0⟩
def Q4.f (l0 : List Int) : Option (List Int × Int) := if (l0.length : Int) > 2000 then (if 2000 ≤ (l0.length : Int) then (some (l0.take 2000, 0)) else (none)) else (some (l0, 0))
theorem Q4.calls (A0 : Option Addr) (c0 : Nat) (l0 : List Int) (r1 : List Int) (r2 : Int) (w0 w : World) (hB : Below w0.heap.size w0 w) (hr0 : Kd.C (Kd.int .u8) w0 A0 l0.length l0) (hc0 : l0.length ≤ c0) (h : Q4.f l0 = some (r1, r2)) :
  Calls Try.prog 69 #[.slice A0 l0.length c0] w fun e w' => ∃ g_ : Nat, e = .returned (.pointer (some ⟨g_, 0, none⟩)) ∧ IsS112 w0 w' g_ r1 r2 ∧ Below w0.heap.size w0 w' ∧ Below w.heap.size w w' := by
 have hu112 := Try.underlying112
 have HR0 := am hr0
 have HC0 := am hc0
 clear hr0 hc0
 have HBW := am (Below.refl w.heap.size w)
 have HW0 := am hB.size
 have HB := am hB
 clear hB
 have H : (if (l0.length : Int) > 2000 then (if 2000 ≤ (l0.length : Int) then (some (l0.take 2000, 0)) else (none)) else (some (l0, 0))) = some (r1, r2) := h
 clear h
 by_cases c2 : (l0.length : Int) > 2000
 ·rw [if_pos c2] at H
  have c2b0 := decide_eq_true c2
  have c2b1 : decide (2000 < l0.length) = true := decide_eq_true (by omega)
  clear c2; replace H := ifn H; obtain ⟨c3, H⟩ := H; have c3b0 := eq_true c3; have c3b1 := decide_eq_true c3; clear c3
  simp only [Option.some.injEq, Prod.mk.injEq] at H
  obtain ⟨rfl, rfl⟩ := H
  obtain ⟨i04, hi04, _, hsz4, _⟩ := info_parts info5
  obtain ⟨hcut4, hA4, hC4⟩ := qf2 (P := Try.prog) (Value.int .u8) 0 22 5 .i64 Try.underlying22 hi04 hsz4 A0 c0 l0 2000 (by omega) (od) HC0.out
  have HR500 := am (Kd.C_of_reads (h1 := fun _ => rfl) (hA4 _ (Kd.reads_of_C HR0.out)))
  have HC500 := am hC4
  clear hA4 hC4 hi04 hsz4
  go_enter Try.func69, Try.ntmps69
  go_wp2_with (first | ((with_reducible refine za (N := 10) rfl ?_); refine xe_ 10 112 #[.slice A0 (l0.take 2000).length c0, .int .i64 0] ?_; intro gb501 hg w5 hbox hb; replace HB := bq HB hb; have BK501 := am (hbox); have GW501 := am ((by rw [hg]; exact (zc (bb HBW.out)) : w.heap.size ≤ gb501)); have GE501 := am ((Nat.le_trans HW0.out (by rw [hg]; exact (zc (bb HBW.out)) : w.heap.size ≤ gb501) : w0.heap.size ≤ gb501)); replace HBW := am (qz HBW.out hb); clear hb hbox hg))
  go_ret
  exact ⟨_, rfl, (show IsS112 w0 _ gb501 (l0.take 2000) 0 from ⟨_, _, by (with_reducible repeat (first | refine qi ?_ _ | refine qj ?_ | refine qg ?_ _)); exact BK501.out, GE501.out, HR500.out⟩), bx_ HB, bx_ HBW⟩
 ·rw [if_neg c2] at H
  have c2b0 := decide_eq_false c2
  have c2b1 : decide (2000 < l0.length) = false := decide_eq_false (by omega)
  clear c2
  simp only [Option.some.injEq, Prod.mk.injEq] at H
  obtain ⟨rfl, rfl⟩ := H
  go_enter Try.func69, Try.ntmps69
  go_wp2_with (first | ((with_reducible refine za (N := 10) rfl ?_); refine xe_ 10 112 #[.slice A0 l0.length c0, .int .i64 0] ?_; intro gb502 hg w6 hbox hb; replace HB := bq HB hb; have BK502 := am (hbox); have GW502 := am ((by rw [hg]; exact (zc (bb HBW.out)) : w.heap.size ≤ gb502)); have GE502 := am ((Nat.le_trans HW0.out (by rw [hg]; exact (zc (bb HBW.out)) : w.heap.size ≤ gb502) : w0.heap.size ≤ gb502)); replace HBW := am (qz HBW.out hb); clear hb hbox hg))
  go_ret
  exact ⟨_, rfl, (show IsS112 w0 _ gb502 l0 0 from ⟨_, _, by (with_reducible repeat (first | refine qi ?_ _ | refine qj ?_ | refine qg ?_ _)); exact BK502.out, GE502.out, HR0.out⟩), bx_ HB, bx_ HBW⟩
def qe.j0 : Nat → Int → Bool → List Int → Int → Option (Int × Int)
 | 0, _, _, _, _ => none
 | k + 1, x1, x24, x1000, x1001 => if x24 = true then (some (0, x1001)) else (if (wrap64 (x1001 - 1)) < (x1000.length : Int) then (if 0 ≤ (wrap64 (x1001 - 1)) then (if x1 = 0 then (none) else (some (Int.tmod (wrap64 (rd x1000 (wrap64 (x1001 - 1)))) x1, x1001))) else (none)) else (if (x1000.length : Int) = 0 then (none) else (if 0 ≤ (Int.tmod (wrap64 (x1001 - 1)) (x1000.length : Int)) then (if (Int.tmod (wrap64 (x1001 - 1)) (x1000.length : Int)) < (x1000.length : Int) then (if 0 ≤ (Int.tmod (wrap64 ((wrap64 ((wrap64 (x1001 - 1)) * 7)) + 3)) (x1000.length : Int)) then (if (Int.tmod (wrap64 ((wrap64 ((wrap64 (x1001 - 1)) * 7)) + 3)) (x1000.length : Int)) < (x1000.length : Int) then (if x1 = 0 then (none) else (some (Int.tmod (Go.bits .xor .i64 (wrap64 ((wrap64 ((wrap64 ((wrap64 ((wrap64 (rd x1000 (Int.tmod (wrap64 (x1001 - 1)) (x1000.length : Int)))) * 131)) + (wrap64 ((wrap64 (rd x1000 (Int.tmod (wrap64 ((wrap64 ((wrap64 (x1001 - 1)) * 7)) + 3)) (x1000.length : Int)))) * 1117)))) + (wrap64 ((wrap64 (x1001 - 1)) * 29)))) + (wrap64 ((wrap64 (Int.tdiv (wrap64 (x1001 - 1)) (x1000.length : Int))) * 53)))) (wrap64 (Int.tdiv (wrap64 ((wrap64 ((wrap64 ((wrap64 ((wrap64 (rd x1000 (Int.tmod (wrap64 (x1001 - 1)) (x1000.length : Int)))) * 131)) + (wrap64 ((wrap64 (rd x1000 (Int.tmod (wrap64 ((wrap64 ((wrap64 (x1001 - 1)) * 7)) + 3)) (x1000.length : Int)))) * 1117)))) + (wrap64 ((wrap64 (x1001 - 1)) * 29)))) + (wrap64 ((wrap64 (Int.tdiv (wrap64 (x1001 - 1)) (x1000.length : Int))) * 53)))) 64))) x1, x1001))) else (none)) else (none)) else (none)) else (none))))
def qe.f (k : Nat) (s0_0 : List Int) (s0_1 : Int) (a1 : Int) : Option (Int × Int) := if a1 < 1 then (qe.j0 k a1 true s0_0 (wrap64 (s0_1 + 1))) else (qe.j0 k a1 ((s0_0.length : Int) == 0) s0_0 (wrap64 (s0_1 + 1)))
theorem qe.mono_l : ∀ k, (∀ y0 y1 y2 y3, LeO (qe.j0 k y0 y1 y2 y3) (qe.j0 (k + 1) y0 y1 y2 y3))
 | 0 => fun _ _ _ _ r h => by simp [qe.j0] at h
 | k + 1 => by
  have ih0 := qe.mono_l k
  ·intro y0 y1 y2 y3
   unfold qe.j0
   repeat' first | (with_reducible first | apply ih0 | exact LeO.refl _ | exact LeO.none _ | refine LeO.ite ?_ ?_ | refine LeO.bind ?_ (fun _ => ?_)) | (first | apply ih0 | exact LeO.none _ | refine LeO.ite ?_ ?_ | refine LeO.bind ?_ (fun _ => ?_))
theorem qe.mono : ∀ a0 a1 a2 k, LeO (qe.f k a0 a1 a2) (qe.f (k + 1) a0 a1 a2) := by
 intro a0 a1 a2 k
 have ih0 := qe.mono_l k
 unfold qe.f
 repeat' first | (with_reducible first | apply ih0 | exact LeO.refl _ | exact LeO.none _ | refine LeO.ite ?_ ?_ | refine LeO.bind ?_ (fun _ => ?_)) | (first | apply ih0 | exact LeO.none _ | refine LeO.ite ?_ ?_ | refine LeO.bind ?_ (fun _ => ?_))
theorem qe.calls (k : Nat) (g : Nat) (s0_0 : List Int) (s0_1 : Int) (a1 : Int) (r1 : Int) (r2 : Int) (w0 w : World) (hI : IsS112 w0 w g s0_0 s0_1) (hB : Below w0.heap.size w0 w) (h : qe.f k s0_0 s0_1 a1 = some (r1, r2)) :
  Calls Try.prog 71 #[.pointer (some ⟨g, 0, none⟩), .int .i64 a1] w fun e w' => e = .returned (.int .i64 r1) ∧ IsS112 w0 w' g s0_0 r2 ∧ Below w0.heap.size w0 w' ∧ KeepBut w w' g none := by
 have HI0 := am hI
 have HK := am (KeepBut.refl w g none)
 have HL := am hB.size
 clear hI
 have HW0 := am hB.size
 have HB := am hB
 clear hB
 have H : (if a1 < 1 then (qe.j0 k a1 true s0_0 (wrap64 (s0_1 + 1))) else (qe.j0 k a1 ((s0_0.length : Int) == 0) s0_0 (wrap64 (s0_1 + 1)))) = some (r1, r2) := h
 clear h
 have HC3 := am H
 clear H
 obtain ⟨ASz4_0, cSz4_0, HGz4, hgz4, HSz4_0⟩ := HI0.out
 have hcz4_0 := qa8 HGz4
 have hcz4_1 := qa0 HGz4
 have hfz4_1 := qp HGz4 1
 clear HGz4 hgz4
 go_enter Try.func71, Try.ntmps71
 go_upto_region 2 with (fail)
 repeat (go_quiet (fail); go_upto_region 2 with (fail))
 go_cut [24] (fun v24 wc => ∃ (kq : Nat) (x24_2 : Bool), v24 = .bool x24_2 ∧ qb (qe.j0 kq a1 x24_2 s0_0 (wrap64 (s0_1 + 1)) = some (r1, r2)) ∧ qb (kq ≤ k) ∧ qb (IsS112 w0 wc g s0_0 (wrap64 (s0_1 + 1))) ∧ qb (KeepBut w wc g none) ∧ qb (Below w0.heap.size w0 wc))
 case first =>
  have H := HC3.out
  clear HC3
  by_cases c5 : a1 < 1
  ·rw [if_pos c5] at H
   have c5b0 := decide_eq_true c5; clear c5
   (first | rw [c5b0] | (simp only [Q9, Zj]; rw [c5b0]) | skip)
   have H' := am H; clear H; go_wp2
   repeat (go_quiet (fail); try go_wp2)
   go_meet
   case rel => exact ⟨_, (true), fr, H', ⟨by first | omega | exact Nat.le_refl _⟩, ⟨jd HI0⟩, ⟨kw HK⟩, ⟨jt HB HI0⟩⟩
  ·rw [if_neg c5] at H
   have c5b0 := decide_eq_false c5; clear c5
   (first | rw [c5b0] | (simp only [Q9, Zj]; rw [c5b0]) | skip)
   have H' := am H; clear H
   obtain ⟨ASz6_0, cSz6_0, HGz6, hgz6, HSz6_0⟩ := HI0.out
   have hcz6_0 := qa8 HGz6
   have hcz6_1 := qa0 HGz6
   have hfz6_1 := qp HGz6 1
   clear HGz6 hgz6; go_wp2
   repeat (go_quiet (fail); try go_wp2)
   go_meet
   case rel => exact ⟨_, (((s0_0.length : Int) == 0)), fr, H', ⟨by first | omega | exact Nat.le_refl _⟩, ⟨jd HI0⟩, ⟨kw HK⟩, ⟨jt HB HI0⟩⟩
 case rest =>
  clear HC3; try clear p2; try clear c5; try clear c5b0; try clear p6; try clear hcz4_0; try clear hcz4_1; try clear hcz6_0; try clear hcz6_1; try clear hfz4_1; try clear hfz6_1
  obtain ⟨kq, x24_2, rfl, HA, HJ2, HI0, HK, HB⟩ := hcut
  cases kq with
  | zero => exact absurd HA.out (by simp [qe.j0])
  | succ kj2 =>
   have H := HA.out; clear HA
   simp only [qe.j0] at H
   by_cases c7 : x24_2 = true
   ·subst c7
    rw [if_pos rfl] at H
    simp only [Option.some.injEq, Prod.mk.injEq] at H
    obtain ⟨rfl, rfl⟩ := H; go_wp2
    repeat (go_quiet (fail); try go_wp2)
    go_ret
    exact ⟨fq, jd HI0, jt HB HI0, kw HK⟩
   ·replace c7 := Bool.eq_false_iff.mpr c7
    subst c7
    rw [if_neg (show ¬ (false = true) by decide)] at H
    by_cases c8 : (wrap64 ((wrap64 (s0_1 + 1)) - 1)) < (s0_0.length : Int)
    ·rw [if_pos c8] at H
     have c8b0 := decide_eq_true c8; clear c8
     obtain ⟨ji9, hji9⟩ : ∃ j_ : Int, (wrap64 ((wrap64 (s0_1 + 1)) - 1)) = j_ := ⟨_, rfl⟩
     (first | rw [hji9] at H | simp only [hji9] at H)
     (try rw [hji9] at c8b0)
     have hji9w : (IntKind.i64.wrap ((wrap64 (s0_1 + 1)) - 1)) = ji9 := (Q9 _).trans hji9
     replace H := ifn H; obtain ⟨c10, H⟩ := H; have c10b0 := decide_eq_true c10; clear c10; replace H := ifm H; obtain ⟨c11, H⟩ := H; have c11b0 := beq_eq_false_iff_ne.mpr c11; have c11b1 := bne_iff_ne.mpr c11
     simp only [Option.some.injEq, Prod.mk.injEq] at H
     obtain ⟨rfl, rfl⟩ := H
     obtain ⟨ASz12_0, cSz12_0, HGz12, hgz12, HSz12_0⟩ := HI0.out
     have hcz12_0 := qa8 HGz12
     have hcz12_1 := qa0 HGz12
     have hfz12_1 := qp HGz12 1
     clear HGz12 hgz12
     have p503 : 0 ≤ ((ji9) : Int) := od
     have q503 : (ji9) < (s0_0.length : Int) := od
     obtain ⟨ad503, e503, hx503_0⟩ := Kd.at_int HSz12_0 (ji9) p503 q503
     cases e503
     replace hx503_0 := Zf HB.out hx503_0
     replace p503 := eq_true p503; replace q503 := eq_true q503; go_wp2
     repeat (go_quiet (fail); try go_wp2)
     go_ret
     exact ⟨by first | rfl | (simp [Ja, Z9] <;> rfl) | (simp only [← hji9]; first | rfl | (simp [Ja, Z9] <;> rfl)) | (simp [*, Ja, Z9] <;> rfl), jd HI0, jt HB HI0, kw HK⟩
    ·rw [if_neg c8] at H
     have c8b0 := decide_eq_false c8; clear c8; replace H := ifm H; obtain ⟨c13, H⟩ := H; have c13b0 := beq_eq_false_iff_ne.mpr c13; have c13b1 := bne_iff_ne.mpr c13
     have c13b2 : ¬ (s0_0 = []) := fun h_ => c13 (by rw [h_]; rfl)
     obtain ⟨ji14, hji14⟩ : ∃ j_ : Int, (Int.tmod (wrap64 ((wrap64 (s0_1 + 1)) - 1)) (s0_0.length : Int)) = j_ := ⟨_, rfl⟩
     (first | rw [hji14] at H | simp only [hji14] at H)
     by_cases c15 : 0 ≤ (ji14)
     ·rw [if_pos c15] at H
      have c15b0 := decide_eq_true c15; clear c15; replace H := ifn H; obtain ⟨c16, H⟩ := H; have c16b0 := decide_eq_true c16; clear c16
      obtain ⟨ji17, hji17⟩ : ∃ j_ : Int, (Int.tmod (wrap64 ((wrap64 ((wrap64 ((wrap64 (s0_1 + 1)) - 1)) * 7)) + 3)) (s0_0.length : Int)) = j_ := ⟨_, rfl⟩
      (first | rw [hji17] at H | simp only [hji17] at H)
      replace H := ifn H; obtain ⟨c18, H⟩ := H; have c18b0 := decide_eq_true c18; clear c18; replace H := ifn H; obtain ⟨c19, H⟩ := H; have c19b0 := decide_eq_true c19; clear c19; replace H := ifm H; obtain ⟨c20, H⟩ := H; have c20b0 := beq_eq_false_iff_ne.mpr c20
      have c20b1 := bne_iff_ne.mpr c20
      simp only [Option.some.injEq, Prod.mk.injEq] at H
      obtain ⟨rfl, rfl⟩ := H
      obtain ⟨ASz21_0, cSz21_0, HGz21, hgz21, HSz21_0⟩ := HI0.out
      have hcz21_0 := qa8 HGz21
      have hcz21_1 := qa0 HGz21
      have hfz21_1 := qp HGz21 1
      clear HGz21 hgz21
      have p504 : 0 ≤ ((ji14) : Int) := od
      have q504 : (ji14) < (s0_0.length : Int) := od
      obtain ⟨ad504, e504, hx504_0⟩ := Kd.at_int HSz21_0 (ji14) p504 q504
      cases e504
      replace hx504_0 := Zf HB.out hx504_0
      replace p504 := eq_true p504; replace q504 := eq_true q504
      have p505 : 0 ≤ ((ji17) : Int) := od
      have q505 : (ji17) < (s0_0.length : Int) := od
      obtain ⟨ad505, e505, hx505_0⟩ := Kd.at_int HSz21_0 (ji17) p505 q505
      obtain rfl : ad504 = ad505 := (by injection e505)
      replace hx505_0 := Zf HB.out hx505_0
      replace p505 := eq_true p505; replace q505 := eq_true q505; go_wp2
      repeat (go_quiet (fail); try go_wp2)
      go_ret
      exact ⟨by first | rfl | (simp [Ja, Z9] <;> rfl) | (simp only [← hji14, ← hji17]; first | rfl | (simp [Ja, Z9] <;> rfl)) | (simp [*, Ja, Z9] <;> rfl), jd HI0, jt HB HI0, kw HK⟩
     ·rw [if_neg c15] at H
      exact absurd H (by simp)
end Go.Proofs.Ytmgbpmihbljngaa.PA

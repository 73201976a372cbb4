-- Written by xprint.py, a program of this claim's own (over the kit's print.py)
import Derived.Test.YtmgbpmihbljngaaPAx4
import Derived.Test.YtmgbpmihbljngaaPAx7
namespace Go.Proofs.Ytmgbpmihbljngaa.PA
set_option maxHeartbeats 8000000
set_option maxRecDepth 100000
open Go.RowKit Go.Proofs.YtmgbpmihbljngaaW.PrintWords Go.Proofs.YtmgbpmihbljngaaW.PrintLast Go.Proofs.YtmgbpmihbljngaaW.PrintMore
attribute [local go_sem] j8 j9 Qi Qj jw jy Qa Qb
set_option linter.unusedVariables false
set_option linter.unusedSimpArgs false
def js.f (a0 : Int) (a1_0 : Int) (a1_1 : Int) (a1_2 : Int) : Option (List Int) := if a0 = 0 then (none) else (some (([Int.tmod (wrap64 (a1_0 * a1_0)) a0, Int.tmod (wrap64 (a1_0 * a1_1)) a0, Int.tmod (wrap64 (a1_0 * a1_2)) a0, Int.tmod (wrap64 (a1_1 * a1_1)) a0, Int.tmod (wrap64 (a1_1 * a1_2)) a0, Int.tmod (wrap64 (a1_2 * a1_2)) a0] : List Int)))
def js.T4 : Bool × List (List Nat × List Nat) := (true, [([], []), ([], []), ([0, 1], [0, 1]), ([], []), ([2, 3], [2, 3]), ([], []), ([], []), ([5, 6], [5, 6]), ([], []), ([7, 8], [7, 8]), ([], []), ([], []), ([10, 11], [10, 11]), ([], []), ([12, 13], [12, 13]), ([], []), ([], []), ([15, 16], [15, 16]), ([], []), ([17, 18], [17, 18]), ([], []), ([], []), ([20, 21], [20, 21]), ([], []), ([22, 23], [22, 23]), ([], []), ([], []), ([25, 26], [25, 26]), ([], []), ([27, 28], [27, 28]), ([4, 9, 14, 19, 24, 29], [4, 9, 14, 19, 24, 29]), ([30, 0, 1, 2, 3, 4, 5, 6, 7, 8, 9, 10, 11, 12, 13, 14, 15, 16, 17, 18, 19, 20, 21, 22, 23, 24, 25, 26, 27, 28, 29, 30], [30])])
def js.B4 : List Nat := [0, 0, 3, 0, 15, 0, 0, 96, 0, 480, 0, 0, 3072, 0, 15360, 0, 0, 98304, 0, 491520, 0, 0, 3145728, 0, 15728640, 0, 0, 100663296, 0, 503316480, 1073741823, 2147483647]
theorem js.tab4 : rtab .any (Zp Try.f133 4) = js.T4 := by kernel_rfl
theorem js.bits4 : Qd js.T4.2 js.B4 = true := by kernel_rfl
theorem js.calls (a0 : Int) (a1_0 : Int) (a1_1 : Int) (a1_2 : Int) (r : List Int) (w : World) (h : js.f a0 a1_0 a1_1 a1_2 = some r) :
  Calls Try.prog 133 #[.int .i64 a0, .agg #[.int .i64 a1_0, .int .i64 a1_1, .int .i64 a1_2]] w fun e w' => ∃ v0_ : Value, e = .returned (v0_) ∧ Kd.R (Kd.int .i64) 3 w' w.heap.size (fun _ => True) v0_ r ∧ Below w.heap.size w w' := by
 have hu43 := Try.underlying43
 have HB := am (Below.refl w.heap.size w)
 have H : (if a0 = 0 then (none) else (some (([Int.tmod (wrap64 (a1_0 * a1_0)) a0, Int.tmod (wrap64 (a1_0 * a1_1)) a0, Int.tmod (wrap64 (a1_0 * a1_2)) a0, Int.tmod (wrap64 (a1_1 * a1_1)) a0, Int.tmod (wrap64 (a1_1 * a1_2)) a0, Int.tmod (wrap64 (a1_2 * a1_2)) a0] : List Int)))) = some r := h
 clear h; replace H := ifm H; obtain ⟨c3, H⟩ := H; have c3b0 := beq_eq_false_iff_ne.mpr c3; have c3b1 := bne_iff_ne.mpr c3
 generalize hy217 : (([Int.tmod (wrap64 (a1_0 * a1_0)) a0, Int.tmod (wrap64 (a1_0 * a1_1)) a0, Int.tmod (wrap64 (a1_0 * a1_2)) a0, Int.tmod (wrap64 (a1_1 * a1_1)) a0, Int.tmod (wrap64 (a1_1 * a1_2)) a0, Int.tmod (wrap64 (a1_2 * a1_2)) a0] : List Int)) = y217 at H
 have Ny217 := am hy217.symm; clear hy217; obtain rfl := Option.some.inj H
 go_enter Try.func133, Try.ntmps133
 try go_wp2_with (first | ((with_reducible refine q6 (N := 3) rfl ?_); refine xe_ 3 43 #[.int .i64 a1_0, .int .i64 a1_1, .int .i64 a1_2] ?_; intro gb216 hg w4 hbox hb; have BK216 := am (hbox); have GW216 := am ((by rw [hg]; exact (bz HB) : w.heap.size ≤ gb216)); have GE216 := am ((by rw [hg]; exact (bz HB) : w.heap.size ≤ gb216)); replace HB := bq HB hb; clear hb hbox hg; have hcz5_0 : w4.cell? ⟨gb216, 0, none⟩ = some (.int .i64 a1_0) := (qa BK216.out 0).trans rfl; have hcz5_1 : w4.cell? ⟨gb216, 1, none⟩ = some (.int .i64 a1_1) := (qa BK216.out 1).trans rfl; have hcz5_2 : w4.cell? ⟨gb216, 2, none⟩ = some (.int .i64 a1_2) := (qa BK216.out 2).trans rfl; have hfz5_0 := qg BK216.out 0; have hfz5_1 := qg BK216.out 1; have hfz5_2 := qg BK216.out 2))
 replace BK216 := am (qh BK216.out)
 replace HB := am (zc HB.out)
 refine st 32 (fun w' => True) [] js.tab4 js.bits4 (trivial) fun hHeld HT_ HW_ => ?_
 generalize w4.drew = w6 at BK216 HB hHeld ⊢
 refine pz 0 17 HT_ ?_; refine pz 1 18 HT_ ?_; refine pz 2 19 HT_ ?_; refine pz 3 20 HT_ ?_; refine pz 4 21 HT_ ?_; refine pz 5 22 HT_ ?_; refine pz 6 23 HT_ ?_; refine pz 7 24 HT_ ?_; refine pz 8 25 HT_ ?_; refine pz 9 26 HT_ ?_; refine pz 10 27 HT_ ?_
 refine pz 11 28 HT_ ?_; refine pz 12 29 HT_ ?_; refine pz 13 30 HT_ ?_; refine pz 14 31 HT_ ?_; refine pz 15 32 HT_ ?_; refine pz 16 33 HT_ ?_; refine pz 17 34 HT_ ?_; refine pz 18 35 HT_ ?_; refine pz 19 36 HT_ ?_; refine pz 20 37 HT_ ?_; refine pz 21 38 HT_ ?_
 refine pz 22 39 HT_ ?_; refine pz 23 40 HT_ ?_; refine pz 24 41 HT_ ?_; refine pz 25 42 HT_ ?_; refine pz 26 43 HT_ ?_; refine pz 27 44 HT_ ?_; refine pz 28 45 HT_ ?_; refine pz 29 46 HT_ ?_
 refine on 30 (some 47) HT_ fun K hK => ?_
 refine Kd.R_lit_step (Kd.int .i64) _ 3 ?hg (N := 47) ?hd (xs := ([Int.tmod (wrap64 (a1_0 * a1_0)) a0, Int.tmod (wrap64 (a1_0 * a1_1)) a0, Int.tmod (wrap64 (a1_0 * a1_2)) a0, Int.tmod (wrap64 (a1_1 * a1_1)) a0, Int.tmod (wrap64 (a1_1 * a1_2)) a0, Int.tmod (wrap64 (a1_2 * a1_2)) a0] : List Int)) (inner := [.int .i64 (Int.tmod (wrap64 (a1_0 * a1_0)) a0), .int .i64 (Int.tmod (wrap64 (a1_0 * a1_1)) a0), .int .i64 (Int.tmod (wrap64 (a1_0 * a1_2)) a0), .int .i64 (Int.tmod (wrap64 (a1_1 * a1_1)) a0), .int .i64 (Int.tmod (wrap64 (a1_1 * a1_2)) a0), .int .i64 (Int.tmod (wrap64 (a1_2 * a1_2)) a0)]) (ok := fun _ => True) (okp := fun _ => True) ?hr ?hp (fun _ hk => hk) trivial (Below.refl _ _) (Nat.le_refl _) (by simp) ?_; (case hd => rfl); (case hg => rfl); (case hr => first | (go_simp; done) | (go_simp; rfl)); (case hp => exact (Reps.one (show Kd.M (Kd.int .i64) _ _ _ (Int.tmod (wrap64 (a1_0 * a1_0)) a0) [.int .i64 (Int.tmod (wrap64 (a1_0 * a1_0)) a0)] from rfl) (Reps.one (show Kd.M (Kd.int .i64) _ _ _ (Int.tmod (wrap64 (a1_0 * a1_1)) a0) [.int .i64 (Int.tmod (wrap64 (a1_0 * a1_1)) a0)] from rfl) (Reps.one (show Kd.M (Kd.int .i64) _ _ _ (Int.tmod (wrap64 (a1_0 * a1_2)) a0) [.int .i64 (Int.tmod (wrap64 (a1_0 * a1_2)) a0)] from rfl) (Reps.one (show Kd.M (Kd.int .i64) _ _ _ (Int.tmod (wrap64 (a1_1 * a1_1)) a0) [.int .i64 (Int.tmod (wrap64 (a1_1 * a1_1)) a0)] from rfl) (Reps.one (show Kd.M (Kd.int .i64) _ _ _ (Int.tmod (wrap64 (a1_1 * a1_2)) a0) [.int .i64 (Int.tmod (wrap64 (a1_1 * a1_2)) a0)] from rfl) (Reps.one (show Kd.M (Kd.int .i64) _ _ _ (Int.tmod (wrap64 (a1_2 * a1_2)) a0) [.int .i64 (Int.tmod (wrap64 (a1_2 * a1_2)) a0)] from rfl) (Reps.none _ _))))))))
 intro v218 w7 ho8 hb hg_ hnew_
 clear hg_ hnew_
 (first | rw [← Ny217.out] at ho8 | (simp only [Int.reduceToNat] at ho8; rw [← Ny217.out] at ho8))
 have HO219 := am (Kd.R_lower ho8 (q4 (bx_ HB)))
 replace BK216 := am (qp (g := gb216) (o := .cells #[.int .i64 a1_0, .int .i64 a1_1, .int .i64 a1_2] 43 (0, 0)) (pk_ BK216) hb)
 replace HB := am (qo (bx_ HB) hb)
 clear hb ho8
 refine hK.out _ _ trivial fun hHeld => nz ?_
 clear hK K; refine pz 31 4 HT_ ?_
 refine Q4 (Qg HT_.out (by kernel_rfl)) ?_
 try go_wp2
 go_ret
 exact ⟨_, fq, wR HO219, bx_ HB⟩
def zu.l0 : Nat → Int → List (S43) → List (List Int) → Int → Option ((List (List Int)))
 | 0, _, _, _, _ => none
 | k + 1, x0, x1, x5, x6 => if x6 < (x1.length : Int) then (if 0 ≤ x6 then ((js.f x0 ((qd x1 x6).f0.f0) ((qd x1 x6).f0.f1) ((qd x1 x6).f0.f2)).bind fun t224 => (if x5.length < 5864062014805 then (zu.l0 k x0 x1 (x5 ++ [t224]) (wrap64 (x6 + 1))) else (none))) else (none)) else ((qn.f k x0 x5 6).bind fun t230 => (some t230))
def zu.f (k : Nat) (a0 : Int) (l1 : List (S43)) : Option ((List (List Int))) := zu.l0 k a0 l1 (([] : List (List Int))) 0
theorem zu.mono_l : ∀ k, (∀ y0 y1 y2 y3, LeO (zu.l0 k y0 y1 y2 y3) (zu.l0 (k + 1) y0 y1 y2 y3))
 | 0 => fun _ _ _ _ r h => by simp [zu.l0] at h
 | k + 1 => by
  have ih0 := zu.mono_l k
  ·intro y0 y1 y2 y3
   unfold zu.l0
   repeat' first | (with_reducible first | apply ih0 | apply qn.mono | exact LeO.refl _ | exact LeO.none _ | refine LeO.ite ?_ ?_ | refine LeO.bind ?_ (fun _ => ?_)) | (first | apply ih0 | apply qn.mono | exact LeO.none _ | refine LeO.ite ?_ ?_ | refine LeO.bind ?_ (fun _ => ?_))
theorem zu.mono : ∀ a0 a1 k, LeO (zu.f k a0 a1) (zu.f (k + 1) a0 a1) := by
 intro a0 a1 k
 have ih0 := zu.mono_l k
 unfold zu.f
 repeat' first | (with_reducible first | apply ih0 | apply qn.mono | exact LeO.refl _ | exact LeO.none _ | refine LeO.ite ?_ ?_ | refine LeO.bind ?_ (fun _ => ?_)) | (first | apply ih0 | apply qn.mono | exact LeO.none _ | refine LeO.ite ?_ ?_ | refine LeO.bind ?_ (fun _ => ?_))
theorem zu.calls (k : Nat) (a0 : Int) (A1 : Option Addr) (c1 : Nat) (l1 : List (S43)) (r : List (List Int)) (w : World) (hr1 : Kd.C k43 w A1 l1.length l1) (hc1 : l1.length ≤ c1) (h : zu.f k a0 l1 = some r) :
  Calls Try.prog 106 #[.int .i64 a0, .slice A1 l1.length c1] w fun e w' => ∃ v0_ : Value, e = .returned (v0_) ∧ Kd.N (Kd.slice 3 (Kd.int .i64)) 23 w' w.heap.size (fun k_ => (w.heap.size ≤ k_)) v0_ r ∧ Below w.heap.size w w' := by
 have hu43 := Try.underlying43
 have HR1 := am hr1
 have HC1 := am hc1
 clear hr1 hc1
 have HB := am (Below.refl w.heap.size w)
 have H : (zu.l0 k a0 l1 (([] : List (List Int))) 0) = some r := h
 clear h
 generalize hy220 : (([] : List (List Int))) = y220 at H
 have Ny220 := am hy220.symm; clear hy220; have H' := am H; clear H
 go_enter Try.func106, Try.ntmps106
 go_wp2_with (first | ((with_reducible refine q6 (N := 7) rfl ?_); refine Kd.N_lit (Kd.slice 3 (Kd.int .i64)) _ 23 ?hg (N' := 7) ?hd (xs := ([] : List (List Int))) (inner := []) (ok := (fun k_ => (w.heap.size ≤ k_))) (okp := (fun k_ => (w.heap.size ≤ k_))) ?hr ?hp (fun _ hk => hk) ((show ∀ k_, w.heap.size ≤ k_ → (fun k_ => (w.heap.size ≤ k_)) k_ from fun k_ hk => (Nat.le_trans (bz HB) hk)) _ (Nat.le_refl _)) (Below.refl _ _) (Nat.le_refl _) (by simp) ?_; (case hd => rfl); (case hg => rfl); (case hr => first | (go_simp; done) | (go_simp; rfl)); (case hp => exact (Reps.none _ _)); intro v221 w3 ho4 hb hg_ hnew_; clear hg_ hnew_; (first | rw [← Ny220.out] at ho4 | (simp only [Int.reduceToNat] at ho4; rw [← Ny220.out] at ho4)); have HO222 := am (Kd.N_lower ho4 (bz HB)); replace HB := bq HB hb; clear hb ho4))
 go_loopg [5, 6] k (fun kq v5 v6 w' => ∃ (x5_1 : List (List Int)) (x6_1 : Int), v6 = .int .i64 x6_1 ∧ qb (zu.l0 kq a0 l1 x5_1 x6_1 = some r) ∧ qb (kq ≤ k) ∧ qb (Kd.N (Kd.slice 3 (Kd.int .i64)) 23 w' w.heap.size (fun k_ => (w.heap.size ≤ k_)) v5 x5_1) ∧ qb (Below w.heap.size w w'))
 case atStart => exact ⟨(y220), (0), fr, H', ⟨Nat.le_refl _⟩, ⟨wN HO222⟩, ⟨bw HB⟩⟩
 case round =>
  clear H'; try clear c1; try clear p2
  obtain ⟨x5_1, x6_1, rfl, HA, HK1, HO_5, HB⟩ := hrel
  cases gk with
  | zero => exact absurd HA.out (by simp [zu.l0])
  | succ k1 =>
   have H := HA.out; clear HA
   simp only [zu.l0] at H
   by_cases c5 : x6_1 < (l1.length : Int)
   ·rw [if_pos c5] at H
    have c5b0 := decide_eq_true c5; clear c5; replace H := ifn H; obtain ⟨c6, H⟩ := H; have c6b0 := decide_eq_true c6; clear c6; replace H := bs H; obtain ⟨t224, A7, H⟩ := H; replace H := ifn H; obtain ⟨c8, H⟩ := H; have LMc8 := am c8; clear c8
    generalize hy227 : (x5_1 ++ [t224] : List (List Int)) = y227 at H
    have Ny227 := am hy227.symm; clear hy227; have H' := am H; clear H
    have p223 : 0 ≤ (x6_1 : Int) := od
    have q223 : x6_1 < (l1.length : Int) := od
    obtain ⟨ad223, e223, hx223_0, hx223_1, hx223_2⟩ := Q8 HR1.out x6_1 p223 q223
    cases e223
    replace hx223_0 := wcl HB hx223_0
    replace hx223_1 := wcl HB hx223_1
    replace hx223_2 := wcl HB hx223_2
    replace p223 := eq_true p223; replace q223 := eq_true q223
    go_wp2_with (first | ((with_reducible refine qj (f := 133) rfl ?_); refine gl 20 Try.func133 #[.int .i64 a0, .agg #[.int .i64 ((qd l1 x6_1).f0.f0), .int .i64 ((qd l1 x6_1).f0.f1), .int .i64 ((qd l1 x6_1).f0.f2)]] ?_; (with_reducible refine (js.calls a0 ((qd l1 x6_1).f0.f0) ((qd l1 x6_1).f0.f1) ((qd l1 x6_1).f0.f2) t224 _ A7.out).mono ?_); rintro e w9 ⟨v225, rfl, ho0, hb⟩; refine ⟨_, rfl, ?_⟩; replace HO_5 := eN HO_5 (Kd.R_base ho0) hb; have HO226 := am (mR ho0 HB); replace HB := bq HB hb; (try clear hb); (try clear ho0); obtain ⟨Ao11, co11, eo11⟩ := Kd.R_slice HO226.out; subst eo11) | ((with_reducible refine jp (b := .append) (xs := #[.tmp 14, .tmp 21]) rfl ?_); at_builtin; refine Kd.N_append (Kd.slice 3 (Kd.int .i64)) (w0 := w) w.heap.size rfl (.tmp 14) (.tmp 21) 47 23 (.slice none 0 0) 24 rfl Try.underlying47 Zq rfl (by decide) (by omega) u5 x5_1 t224 [.slice Ao11 t224.length co11] (fun k_ => (w.heap.size ≤ k_)) (fun k_ => ((fun k_ => (w.heap.size ≤ k_))) k_ ∧ some k_ ≠ (u5 : Value).ownBlock) rfl rfl ?aP (fun _ hk => hk) ?aF ?aO ?aB ?aS ?aL ?_; (case aP => exact (Kd.FK_slice_mk (Kd.R_reads' (Kd.R_mono (ok' := (fun k_ => ((fun k_ => (w.heap.size ≤ k_))) k_ ∧ some k_ ≠ (u5 : Value).ownBlock)) (Kd.R_apart' (HO226.out) (Kd.N_typed HO_5.out) (by decide)) (fun k_ hk => ⟨hk.1.1, hk.2⟩))).2.1 (Kd.R_F (Kd.R_mono (ok' := (fun k_ => ((fun k_ => (w.heap.size ≤ k_))) k_ ∧ some k_ ≠ (u5 : Value).ownBlock)) (Kd.R_apart' (HO226.out) (Kd.N_typed HO_5.out) (by decide)) (fun k_ hk => ⟨hk.1.1, hk.2⟩))))); (case aB => exact (bw HB)); (case aF => exact (fun k_ hk => (Nat.le_trans (bz HB) hk))); (case aO => exact (oN_ HO_5 (fun _ hk => hk.1))); (case aS => exact (bz HB)); (case aL => have := LMc8.out; omega); intro v228 w10 ho hb hg hat; rw [← Ny227.out] at ho; replace HB := am (hb); have HO229 := am (ho); clear HO_5 HO226; clear ho hb hg hat))
    go_roundg k1
    case measure => have := HK1.out; omega
    case rel => exact ⟨(y227), (wrap64 (x6_1 + 1)), fr, H', ⟨by have := HK1.out; omega⟩, ⟨wN HO229⟩, ⟨bw HB⟩⟩
   ·rw [if_neg c5] at H
    have c5b0 := decide_eq_false c5; clear c5; replace H := bs H; obtain ⟨t230, A12, H⟩ := H; obtain rfl := Option.some.inj H
    obtain ⟨Ao13, co13, eo13⟩ := Kd.N_slice HO_5.out
    subst eo13
    go_wp2_with (first | ((with_reducible refine qj (f := 109) rfl ?_); refine gl 25 Try.func109 #[.int .i64 a0, .slice Ao13 x5_1.length co13, .int .i64 6] ?_; (with_reducible refine (qn.calls k1 a0 (fun k_ => (w.heap.size ≤ k_)) _ _ x5_1 6 t230 _ ?_ A12.out).mono ?_); exact Kd.N_V (HO_5.out); rintro e w14 ⟨v231, rfl, ho0, hb⟩; refine ⟨_, rfl, ?_⟩; replace HO_5 := eN HO_5 (Kd.N_base ho0) hb; have HO232 := am (Kd.N_lower (Kd.N_mono (ok' := fun k_ => (w.heap.size ≤ k_)) ho0 (fun k_ hk_ => Or.elim hk_ (fun hs_ => hs_) (fun hn_ => (Nat.le_trans (bz HB) hn_)))) (bz HB)); replace HB := bq HB hb; (try clear hb); (try clear ho0)))
    go_ret
    exact ⟨_, fq, wN HO232, bw HB⟩
def zq.f (k : Nat) (a0 : Int) (l1 : List (S43)) : Option (Bool) := if (l1.length : Int) = 6 then ((qm.f k a0 l1).bind fun t233 => (if t233 = true then ((zu.f k a0 l1).bind fun t234 => (some ((t234.length : Int) == 0))) else (some false))) else (some false)
theorem zq.mono : ∀ a0 a1 k, LeO (zq.f k a0 a1) (zq.f (k + 1) a0 a1) := by
 intro a0 a1 k
 unfold zq.f
 repeat' first | (with_reducible first | apply qm.mono | apply zu.mono | exact LeO.refl _ | exact LeO.none _ | refine LeO.ite ?_ ?_ | refine LeO.bind ?_ (fun _ => ?_)) | (first | apply qm.mono | apply zu.mono | exact LeO.none _ | refine LeO.ite ?_ ?_ | refine LeO.bind ?_ (fun _ => ?_))
theorem zq.calls (k : Nat) (a0 : Int) (A1 : Option Addr) (c1 : Nat) (l1 : List (S43)) (r : Bool) (w : World) (hr1 : Kd.C k43 w A1 l1.length l1) (hc1 : l1.length ≤ c1) (h : zq.f k a0 l1 = some r) :
  Calls Try.prog 62 #[.int .i64 a0, .slice A1 l1.length c1] w fun e w' => e = .returned (.bool r) ∧ Below w.heap.size w w' := by
 have HR1 := am hr1
 have HC1 := am hc1
 clear hr1 hc1
 have HB := am (Below.refl w.heap.size w)
 have H : (if (l1.length : Int) = 6 then ((qm.f k a0 l1).bind fun t233 => (if t233 = true then ((zu.f k a0 l1).bind fun t234 => (some ((t234.length : Int) == 0))) else (some false))) else (some false)) = some r := h
 clear h
 by_cases c3 : (l1.length : Int) = 6
 ·rw [if_pos c3] at H
  have c3b0 := beq_iff_eq.mpr c3; have c3b1 := bne_eq_false_iff_eq.mpr c3; clear c3; replace H := bs H; obtain ⟨t233, A4, H⟩ := H
  by_cases c5 : t233 = true
  ·subst c5
   rw [if_pos rfl] at H
   replace H := bs H; obtain ⟨t234, A6, H⟩ := H; obtain rfl := Option.some.inj H
   go_enter Try.func62, Try.ntmps62
   go_wp2_with (first | (go_at_call 105; (with_reducible refine (qm.calls k a0 _ _ l1 true _ ?_ ?_ A4.out).mono ?_); exact wC HR1; exact HC1.out; rintro e w7 ⟨rfl, hb⟩; replace HB := bq HB hb; (try clear hb)) | (go_at_call 106; (with_reducible refine (zu.calls k a0 _ _ l1 t234 _ ?_ ?_ A6.out).mono ?_); exact Kd.C_below HR1.out (bw HB); exact HC1.out; rintro e w8 ⟨v235, rfl, ho0, hb⟩; have HO236 := am (Kd.N_lower (Kd.N_mono (ok' := fun k_ => True) ho0 (fun k_ hk_ => trivial)) (bz HB)); replace HB := bq HB hb; (try clear hb); (try clear ho0); obtain ⟨Ao9, co9, eo9⟩ := Kd.N_slice HO236.out; subst eo9))
   go_ret
   exact ⟨fq, bw HB⟩
  ·replace c5 := Bool.eq_false_iff.mpr c5
   subst c5
   rw [if_neg (show ¬ (false = true) by decide)] at H
   obtain rfl := Option.some.inj H
   go_enter Try.func62, Try.ntmps62
   go_wp2_with (first | (go_at_call 105; (with_reducible refine (qm.calls k a0 _ _ l1 false _ ?_ ?_ A4.out).mono ?_); exact wC HR1; exact HC1.out; rintro e w10 ⟨rfl, hb⟩; replace HB := bq HB hb; (try clear hb)))
   go_ret
   exact ⟨fq, bw HB⟩
 ·rw [if_neg c3] at H
  have c3b0 := beq_eq_false_iff_ne.mpr c3; have c3b1 := bne_iff_ne.mpr c3; obtain rfl := Option.some.inj H
  go_enter Try.func62, Try.ntmps62
  go_wp2; go_ret
  exact ⟨fq, bw HB⟩
def ql.j0 : Nat → Int → Bool → List Int → Int → Option (Int × Int)
 | 0, _, _, _, _ => none
 | k + 1, x1, x24, x1000, x1001 => if x24 = true then (some (0, x1001)) else (if (wrap64 (x1001 - 1)) < (x1000.length : Int) then (if 0 ≤ (wrap64 (x1001 - 1)) then (if x1 = 0 then (none) else (some (Int.tmod (wrap64 (rd x1000 (wrap64 (x1001 - 1)))) x1, x1001))) else (none)) else (if (x1000.length : Int) = 0 then (none) else (if 0 ≤ (Int.tmod (wrap64 (x1001 - 1)) (x1000.length : Int)) then (if (Int.tmod (wrap64 (x1001 - 1)) (x1000.length : Int)) < (x1000.length : Int) then (if 0 ≤ (Int.tmod (wrap64 ((wrap64 ((wrap64 (x1001 - 1)) * 7)) + 3)) (x1000.length : Int)) then (if (Int.tmod (wrap64 ((wrap64 ((wrap64 (x1001 - 1)) * 7)) + 3)) (x1000.length : Int)) < (x1000.length : Int) then (if x1 = 0 then (none) else (some (Int.tmod (Go.bits .xor .i64 (wrap64 ((wrap64 ((wrap64 ((wrap64 ((wrap64 (rd x1000 (Int.tmod (wrap64 (x1001 - 1)) (x1000.length : Int)))) * 131)) + (wrap64 ((wrap64 (rd x1000 (Int.tmod (wrap64 ((wrap64 ((wrap64 (x1001 - 1)) * 7)) + 3)) (x1000.length : Int)))) * 1117)))) + (wrap64 ((wrap64 (x1001 - 1)) * 29)))) + (wrap64 ((wrap64 (Int.tdiv (wrap64 (x1001 - 1)) (x1000.length : Int))) * 53)))) (wrap64 (Int.tdiv (wrap64 ((wrap64 ((wrap64 ((wrap64 ((wrap64 (rd x1000 (Int.tmod (wrap64 (x1001 - 1)) (x1000.length : Int)))) * 131)) + (wrap64 ((wrap64 (rd x1000 (Int.tmod (wrap64 ((wrap64 ((wrap64 (x1001 - 1)) * 7)) + 3)) (x1000.length : Int)))) * 1117)))) + (wrap64 ((wrap64 (x1001 - 1)) * 29)))) + (wrap64 ((wrap64 (Int.tdiv (wrap64 (x1001 - 1)) (x1000.length : Int))) * 53)))) 64))) x1, x1001))) else (none)) else (none)) else (none)) else (none))))
def ql.f (k : Nat) (s0_0 : List Int) (s0_1 : Int) (a1 : Int) : Option (Int × Int) := if a1 < 1 then (ql.j0 k a1 true s0_0 (wrap64 (s0_1 + 1))) else (ql.j0 k a1 ((s0_0.length : Int) == 0) s0_0 (wrap64 (s0_1 + 1)))
theorem ql.mono_l : ∀ k, (∀ y0 y1 y2 y3, LeO (ql.j0 k y0 y1 y2 y3) (ql.j0 (k + 1) y0 y1 y2 y3))
 | 0 => fun _ _ _ _ r h => by simp [ql.j0] at h
 | k + 1 => by
  have ih0 := ql.mono_l k
  ·intro y0 y1 y2 y3
   unfold ql.j0
   repeat' first | (with_reducible first | apply ih0 | exact LeO.refl _ | exact LeO.none _ | refine LeO.ite ?_ ?_ | refine LeO.bind ?_ (fun _ => ?_)) | (first | apply ih0 | exact LeO.none _ | refine LeO.ite ?_ ?_ | refine LeO.bind ?_ (fun _ => ?_))
theorem ql.mono : ∀ a0 a1 a2 k, LeO (ql.f k a0 a1 a2) (ql.f (k + 1) a0 a1 a2) := by
 intro a0 a1 a2 k
 have ih0 := ql.mono_l k
 unfold ql.f
 repeat' first | (with_reducible first | apply ih0 | exact LeO.refl _ | exact LeO.none _ | refine LeO.ite ?_ ?_ | refine LeO.bind ?_ (fun _ => ?_)) | (first | apply ih0 | exact LeO.none _ | refine LeO.ite ?_ ?_ | refine LeO.bind ?_ (fun _ => ?_))
theorem ql.calls (k : Nat) (g : Nat) (s0_0 : List Int) (s0_1 : Int) (a1 : Int) (r1 : Int) (r2 : Int) (w0 w : World) (hI : IsS112 w0 w g s0_0 s0_1) (hB : Below w0.heap.size w0 w) (h : ql.f k s0_0 s0_1 a1 = some (r1, r2)) :
  Calls Try.prog 71 #[.pointer (some ⟨g, 0, none⟩), .int .i64 a1] w fun e w' => e = .returned (.int .i64 r1) ∧ IsS112 w0 w' g s0_0 r2 ∧ Below w0.heap.size w0 w' ∧ KeepBut w w' g none := by
 have HI0 := am hI
 have HK := am (KeepBut.refl w g none)
 have HL := am hB.size
 clear hI
 have HW0 := am hB.size
 have HB := am hB
 clear hB
 have H : (if a1 < 1 then (ql.j0 k a1 true s0_0 (wrap64 (s0_1 + 1))) else (ql.j0 k a1 ((s0_0.length : Int) == 0) s0_0 (wrap64 (s0_1 + 1)))) = some (r1, r2) := h
 clear h
 have HC3 := am H
 clear H
 obtain ⟨ASz4_0, cSz4_0, HGz4, hgz4, HSz4_0⟩ := HI0.out
 have hcz4_0 := qa4 HGz4
 have hcz4_1 := qav HGz4
 have hfz4_1 := qg HGz4 1
 clear HGz4 hgz4
 go_enter Try.func71, Try.ntmps71
 go_upto_region 2 with (fail)
 repeat (go_quiet (fail); go_upto_region 2 with (fail))
 go_cut [24] (fun v24 wc => ∃ (kq : Nat) (x24_2 : Bool), v24 = .bool x24_2 ∧ qb (ql.j0 kq a1 x24_2 s0_0 (wrap64 (s0_1 + 1)) = some (r1, r2)) ∧ qb (kq ≤ k) ∧ qb (IsS112 w0 wc g s0_0 (wrap64 (s0_1 + 1))) ∧ qb (KeepBut w wc g none) ∧ qb (Below w0.heap.size w0 wc))
 case first =>
  have H := HC3.out
  clear HC3
  by_cases c5 : a1 < 1
  ·rw [if_pos c5] at H
   have c5b0 := decide_eq_true c5; clear c5
   (first | rw [c5b0] | (simp only [Qx, Q2]; rw [c5b0]) | skip)
   have H' := am H; clear H; go_wp2
   repeat (go_quiet (fail); try go_wp2)
   go_meet
   case rel => exact ⟨_, (true), fr, H', ⟨by first | omega | exact Nat.le_refl _⟩, ⟨jt HI0⟩, ⟨kw HK⟩, ⟨Qh HB HI0⟩⟩
  ·rw [if_neg c5] at H
   have c5b0 := decide_eq_false c5; clear c5
   (first | rw [c5b0] | (simp only [Qx, Q2]; rw [c5b0]) | skip)
   have H' := am H; clear H
   obtain ⟨ASz6_0, cSz6_0, HGz6, hgz6, HSz6_0⟩ := HI0.out
   have hcz6_0 := qa4 HGz6
   have hcz6_1 := qav HGz6
   have hfz6_1 := qg HGz6 1
   clear HGz6 hgz6; go_wp2
   repeat (go_quiet (fail); try go_wp2)
   go_meet
   case rel => exact ⟨_, (((s0_0.length : Int) == 0)), fr, H', ⟨by first | omega | exact Nat.le_refl _⟩, ⟨jt HI0⟩, ⟨kw HK⟩, ⟨Qh HB HI0⟩⟩
 case rest =>
  clear HC3; try clear p2; try clear c5; try clear c5b0; try clear p6; try clear hcz4_0; try clear hcz4_1; try clear hcz6_0; try clear hcz6_1; try clear hfz4_1; try clear hfz6_1
  obtain ⟨kq, x24_2, rfl, HA, HJ2, HI0, HK, HB⟩ := hcut
  cases kq with
  | zero => exact absurd HA.out (by simp [ql.j0])
  | succ kj2 =>
   have H := HA.out; clear HA
   simp only [ql.j0] at H
   by_cases c7 : x24_2 = true
   ·subst c7
    rw [if_pos rfl] at H
    simp only [Option.some.injEq, Prod.mk.injEq] at H
    obtain ⟨rfl, rfl⟩ := H; go_wp2
    repeat (go_quiet (fail); try go_wp2)
    go_ret
    exact ⟨fq, jt HI0, Qh HB HI0, kw HK⟩
   ·replace c7 := Bool.eq_false_iff.mpr c7
    subst c7
    rw [if_neg (show ¬ (false = true) by decide)] at H
    by_cases c8 : (wrap64 ((wrap64 (s0_1 + 1)) - 1)) < (s0_0.length : Int)
    ·rw [if_pos c8] at H
     have c8b0 := decide_eq_true c8; clear c8
     obtain ⟨ji9, hji9⟩ : ∃ j_ : Int, (wrap64 ((wrap64 (s0_1 + 1)) - 1)) = j_ := ⟨_, rfl⟩
     (first | rw [hji9] at H | simp only [hji9] at H)
     (try rw [hji9] at c8b0)
     have hji9w : (IntKind.i64.wrap ((wrap64 (s0_1 + 1)) - 1)) = ji9 := (Qx _).trans hji9
     replace H := ifn H; obtain ⟨c10, H⟩ := H; have c10b0 := decide_eq_true c10; clear c10; replace H := ifm H; obtain ⟨c11, H⟩ := H; have c11b0 := beq_eq_false_iff_ne.mpr c11; have c11b1 := bne_iff_ne.mpr c11
     simp only [Option.some.injEq, Prod.mk.injEq] at H
     obtain ⟨rfl, rfl⟩ := H
     obtain ⟨ASz12_0, cSz12_0, HGz12, hgz12, HSz12_0⟩ := HI0.out
     have hcz12_0 := qa4 HGz12
     have hcz12_1 := qav HGz12
     have hfz12_1 := qg HGz12 1
     clear HGz12 hgz12
     have p237 : 0 ≤ ((ji9) : Int) := od
     have q237 : (ji9) < (s0_0.length : Int) := od
     obtain ⟨ad237, e237, hx237_0⟩ := Kd.at_int HSz12_0 (ji9) p237 q237
     cases e237
     replace hx237_0 := Zf HB.out hx237_0
     replace p237 := eq_true p237; replace q237 := eq_true q237; go_wp2
     repeat (go_quiet (fail); try go_wp2)
     go_ret
     exact ⟨by first | rfl | (simp [Z5, Z2] <;> rfl) | (simp only [← hji9]; first | rfl | (simp [Z5, Z2] <;> rfl)) | (simp [*, Z5, Z2] <;> rfl), jt HI0, Qh HB HI0, kw HK⟩
    ·rw [if_neg c8] at H
     have c8b0 := decide_eq_false c8; clear c8; replace H := ifm H; obtain ⟨c13, H⟩ := H; have c13b0 := beq_eq_false_iff_ne.mpr c13; have c13b1 := bne_iff_ne.mpr c13
     have c13b2 : ¬ (s0_0 = []) := fun h_ => c13 (by rw [h_]; rfl)
     obtain ⟨ji14, hji14⟩ : ∃ j_ : Int, (Int.tmod (wrap64 ((wrap64 (s0_1 + 1)) - 1)) (s0_0.length : Int)) = j_ := ⟨_, rfl⟩
     (first | rw [hji14] at H | simp only [hji14] at H)
     by_cases c15 : 0 ≤ (ji14)
     ·rw [if_pos c15] at H
      have c15b0 := decide_eq_true c15; clear c15; replace H := ifn H; obtain ⟨c16, H⟩ := H; have c16b0 := decide_eq_true c16; clear c16
      obtain ⟨ji17, hji17⟩ : ∃ j_ : Int, (Int.tmod (wrap64 ((wrap64 ((wrap64 ((wrap64 (s0_1 + 1)) - 1)) * 7)) + 3)) (s0_0.length : Int)) = j_ := ⟨_, rfl⟩
      (first | rw [hji17] at H | simp only [hji17] at H)
      replace H := ifn H; obtain ⟨c18, H⟩ := H; have c18b0 := decide_eq_true c18; clear c18; replace H := ifn H; obtain ⟨c19, H⟩ := H; have c19b0 := decide_eq_true c19; clear c19; replace H := ifm H; obtain ⟨c20, H⟩ := H; have c20b0 := beq_eq_false_iff_ne.mpr c20
      have c20b1 := bne_iff_ne.mpr c20
      simp only [Option.some.injEq, Prod.mk.injEq] at H
      obtain ⟨rfl, rfl⟩ := H
      obtain ⟨ASz21_0, cSz21_0, HGz21, hgz21, HSz21_0⟩ := HI0.out
      have hcz21_0 := qa4 HGz21
      have hcz21_1 := qav HGz21
      have hfz21_1 := qg HGz21 1
      clear HGz21 hgz21
      have p238 : 0 ≤ ((ji14) : Int) := od
      have q238 : (ji14) < (s0_0.length : Int) := od
      obtain ⟨ad238, e238, hx238_0⟩ := Kd.at_int HSz21_0 (ji14) p238 q238
      cases e238
      replace hx238_0 := Zf HB.out hx238_0
      replace p238 := eq_true p238; replace q238 := eq_true q238
      have p239 : 0 ≤ ((ji17) : Int) := od
      have q239 : (ji17) < (s0_0.length : Int) := od
      obtain ⟨ad239, e239, hx239_0⟩ := Kd.at_int HSz21_0 (ji17) p239 q239
      obtain rfl : ad238 = ad239 := (by injection e239)
      replace hx239_0 := Zf HB.out hx239_0
      replace p239 := eq_true p239; replace q239 := eq_true q239; go_wp2
      repeat (go_quiet (fail); try go_wp2)
      go_ret
      exact ⟨by first | rfl | (simp [Z5, Z2] <;> rfl) | (simp only [← hji14, ← hji17]; first | rfl | (simp [Z5, Z2] <;> rfl)) | (simp [*, Z5, Z2] <;> rfl), jt HI0, Qh HB HI0, kw HK⟩
     ·rw [if_neg c15] at H
      exact absurd H (by simp)
end Go.Proofs.Ytmgbpmihbljngaa.PA

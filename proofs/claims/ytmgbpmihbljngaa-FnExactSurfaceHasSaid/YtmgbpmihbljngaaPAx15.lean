-- Written by xprint.py, a program of this claim's own (over the kit's print.py)
import Derived.Test.YtmgbpmihbljngaaPAx0
import Derived.Test.YtmgbpmihbljngaaPAx12
namespace Go.Proofs.Ytmgbpmihbljngaa.PA
open Go.RowKit Go.Proofs.YtmgbpmihbljngaaW.PrintWords Go.Proofs.YtmgbpmihbljngaaW.PrintLast Go.Proofs.YtmgbpmihbljngaaW.PrintMore
attribute [local go_sem] max2_int min2_int max_two min_two max_three min_three max_four min_four   -- for this text's walks alone
set_option linter.unusedVariables false
set_option linter.unusedSimpArgs false

/-! ### spec_l4Less: function 165 -/
def spec_l4Less.l0 : Nat → Int → List Int → Int → List Int → List Int → Int → Option (List Int)
 | 0, _, _, _, _, _, _ => none
 | k + 1, x0, x1, x2, x3, x9, x10 => if x10 < (x1.length : Int) then (if 0 ≤ x10 then (if x10 < (x3.length : Int) then ((spec_l4Mod.f x0 (wrap64 ((rd x1 x10) - (wrap64 (x2 * (rd x3 x10)))))).bind fun t290 => (if x9.length < 17592186044416 then (spec_l4Less.l0 k x0 x1 x2 x3 (x9 ++ [t290]) (wrap64 (x10 + 1))) else (none))) else (none)) else (none)) else (some x9)
def spec_l4Less.f (k : Nat) (a0 : Int) (l1 : List Int) (a2 : Int) (l3 : List Int) : Option (List Int) := spec_l4Less.l0 k a0 l1 a2 l3 (([] : List Int)) 0
theorem spec_l4Less.mono_l : ∀ k, (∀ y0 y1 y2 y3 y4 y5, LeO (spec_l4Less.l0 k y0 y1 y2 y3 y4 y5) (spec_l4Less.l0 (k + 1) y0 y1 y2 y3 y4 y5))
 | 0 => fun _ _ _ _ _ _ r h => by simp [spec_l4Less.l0] at h
 | k + 1 => by
  have ih0 := spec_l4Less.mono_l k
  ·intro y0 y1 y2 y3 y4 y5
   unfold spec_l4Less.l0
   repeat' first | (with_reducible first | apply ih0 | exact LeO.refl _ | exact LeO.none _ | refine LeO.ite ?_ ?_ | refine LeO.bind ?_ (fun _ => ?_)) | (first | apply ih0 | exact LeO.none _ | refine LeO.ite ?_ ?_ | refine LeO.bind ?_ (fun _ => ?_))
theorem spec_l4Less.mono : ∀ a0 a1 a2 a3 k, LeO (spec_l4Less.f k a0 a1 a2 a3) (spec_l4Less.f (k + 1) a0 a1 a2 a3) := by
 intro a0 a1 a2 a3 k
 have ih0 := spec_l4Less.mono_l k
 unfold spec_l4Less.f
 repeat' first | (with_reducible first | apply ih0 | exact LeO.refl _ | exact LeO.none _ | refine LeO.ite ?_ ?_ | refine LeO.bind ?_ (fun _ => ?_)) | (first | apply ih0 | exact LeO.none _ | refine LeO.ite ?_ ?_ | refine LeO.bind ?_ (fun _ => ?_))
def spec_l4Less.T5 : Bool × List (List Nat × List Nat) := (true, [([], []), ([], []), ([], []), ([], []), ([2, 3], [2, 3]), ([4], [4]), ([], []), ([], []), ([], []), ([7, 8], [7, 8]), ([9], [9]), ([6, 10], [6, 10]), ([5, 11], [5, 11]), ([1, 12], [1, 12]), ([13], [13]), ([0, 14, 13], [0, 14]), ([15, 15, 0, 1, 2, 3, 4, 5, 6, 7, 8, 9, 10, 11, 12, 13, 14, 15], [0, 15])])
def spec_l4Less.B5 : List Nat := [0, 0, 0, 0, 12, 28, 0, 0, 0, 384, 896, 1984, 4092, 8190, 16382, 32767, 65535]
theorem spec_l4Less.tab5 : rtab .any (opsOf Try.f165 5) = spec_l4Less.T5 := by kernel_rfl
theorem spec_l4Less.bits5 : waitsOk spec_l4Less.T5.2 spec_l4Less.B5 = true := by kernel_rfl
set_option maxHeartbeats 8000000 in
set_option maxRecDepth 100000 in
theorem spec_l4Less.calls (k : Nat) (a0 : Int) (A1 : Option Addr) (c1 : Nat) (l1 : List Int) (a2 : Int) (A3 : Option Addr) (c3 : Nat) (l3 : List Int) (r : List Int) (w : World) (hr1 : Kd.C (Kd.int .i64) w A1 l1.length l1) (hc1 : l1.length ≤ c1) (hr3 : Kd.C (Kd.int .i64) w A3 l3.length l3) (hc3 : l3.length ≤ c3) (h : spec_l4Less.f k a0 l1 a2 l3 = some r) :
  Calls Try.prog 165 #[.int .i64 a0, .slice A1 l1.length c1, .int .i64 a2, .slice A3 l3.length c3] w fun e w' => ∃ v0_ : Value, e = .returned (v0_) ∧ Kd.R (Kd.int .i64) 3 w' w.heap.size (fun _ => True) v0_ r ∧ Below w.heap.size w w' := by
 have HR1 := am hr1
 have HC1 := am hc1
 clear hr1 hc1
 have HR3 := am hr3
 have HC3 := am hc3
 clear hr3 hc3
 have HB := am (Below.refl w.heap.size w)
 have H : (spec_l4Less.l0 k a0 l1 a2 l3 (([] : List Int)) 0) = some r := h
 clear h
 generalize hy285 : (([] : List Int)) = y285 at H
 have Ny285 := am hy285.symm; clear hy285; have H' := am H; clear H
 go_enter Try.func165, Try.ntmps165
 go_wp2_with (first | ((with_reducible refine gate_dst (N := 11) rfl ?_); refine li 3 ([] : List Int) ?_; intro v286 w5 ho6 hb; (first | rw [← Ny285.out] at ho6 | (simp only [Int.reduceToNat] at ho6; rw [← Ny285.out] at ho6)); have HO287 := am (Kd.R_lower ho6 (bz HB)); replace HB := bq HB hb; clear hb ho6))
 go_loopg [9, 10] k (fun kq v9 v10 w' => ∃ (x9_1 : List Int) (x10_1 : Int), v10 = .int .i64 x10_1 ∧ Aside0 (spec_l4Less.l0 kq a0 l1 a2 l3 x9_1 x10_1 = some r) ∧ Aside0 (kq ≤ k) ∧ Aside0 (Kd.R (Kd.int .i64) 3 w' w.heap.size (fun _ => True) v9 x9_1) ∧ Aside0 (Below w.heap.size w w'))
 case atStart => exact ⟨(y285), (0), fr, H', ⟨Nat.le_refl _⟩, ⟨wR HO287⟩, ⟨bw HB⟩⟩
 case round =>
  clear H'; try clear c1; try clear p2; try clear c3
  obtain ⟨x9_1, x10_1, rfl, HA, HK1, HO_9, HB⟩ := hrel
  cases gk with
  | zero => exact absurd HA.out (by simp [spec_l4Less.l0])
  | succ k1 =>
   have H := HA.out; clear HA
   simp only [spec_l4Less.l0] at H
   by_cases c7 : x10_1 < (l1.length : Int)
   ·rw [if_pos c7] at H
    have c7b0 := decide_eq_true c7; clear c7; replace H := ifn H; obtain ⟨c8, H⟩ := H; have c8b0 := decide_eq_true c8; clear c8; replace H := ifn H; obtain ⟨c9, H⟩ := H; have c9b0 := decide_eq_true c9; clear c9; replace H := bs H; obtain ⟨t290, A10, H⟩ := H
    replace H := ifn H; obtain ⟨c11, H⟩ := H; have LMc11 := am c11; clear c11
    generalize hy291 : (x9_1 ++ [t290] : List Int) = y291 at H
    have Ny291 := am hy291.symm; clear hy291; have H' := am H; clear H
    try go_wp2
    replace HO_9 := am (Kd.R_drew HO_9.out)
    replace HB := am (below_drew1 HB.out)
    have p288 : 0 ≤ (x10_1 : Int) := od
    have q288 : x10_1 < (l1.length : Int) := od
    obtain ⟨ad288, e288, hx288_0⟩ := Kd.at_int HR1.out x10_1 p288 q288
    have hw288_0 := hx288_0
    cases e288
    replace hx288_0 := wcl HB hx288_0
    replace p288 := eq_true p288; replace q288 := eq_true q288
    have p289 : 0 ≤ (x10_1 : Int) := od
    have q289 : x10_1 < (l3.length : Int) := od
    obtain ⟨ad289, e289, hx289_0⟩ := Kd.at_int HR3.out x10_1 p289 q289
    have hw289_0 := hx289_0
    cases e289
    replace hx289_0 := wcl HB hx289_0
    replace p289 := eq_true p289; replace q289 := eq_true q289
    refine st 17 (fun w' => w'.cell? (ad288.add (x10_1).toNat) = some (.int .i64 (rd l1 x10_1)) ∧ w'.cell? (ad289.add (x10_1).toNat) = some (.int .i64 (rd l3 x10_1))) [] spec_l4Less.tab5 spec_l4Less.bits5 (⟨(wcl HB hw288_0), (wcl HB hw289_0)⟩) fun hHeld HT_ HW_ => ?_
    generalize wr.drew = w12 at HO_9 HB hx288_0 hx289_0 hHeld ⊢
    refine pz 0 18 HT_ ?_; refine pz 1 19 HT_ ?_; refine pz 2 20 HT_ ?_; refine pz 3 21 HT_ ?_; refine pz 4 22 HT_ ?_; refine pz 6 24 HT_ ?_; refine pz 7 25 HT_ ?_; refine pz 8 26 HT_ ?_; refine pz 9 27 HT_ ?_; refine tk 5 23 HT_ HW_ hHeld ?_; refine tk 10 28 HT_ HW_ hHeld ?_
    refine pz 11 29 HT_ ?_; refine pz 12 30 HT_ ?_
    refine on 13 (some 31) HT_ fun K hK => ?_
    refine gs_ Try.func158 #[.int .i64 a0, .int .i64 (wrap64 ((rd l1 x10_1) - (wrap64 (a2 * (rd l3 x10_1)))))] ?_
    with_reducible refine (spec_l4Mod.calls a0 (wrap64 ((rd l1 x10_1) - (wrap64 (a2 * (rd l3 x10_1))))) t290 _ A10.out).mono ?_
    rintro e w' ⟨rfl, ⟨nd, rfl⟩⟩
    refine ⟨_, rfl, ?_⟩
    refine hK.out _ _ ⟨(wcl HB hw288_0), (wcl HB hw289_0)⟩ fun hHeld => nz ?_
    clear hK K
    refine on 14 (some 32) HT_ fun K hK => ?_
    refine value_ (w1 := ?_) (v := ?_) (by rfl) rfl ?_ ?_
    rotate_left 2
    ·go_simp
     constructor
     ·rfl
     ·rfl
    refine hK.out _ _ ⟨(World.cell?_alloc_lt _ _ _ (World.block_lt_of_cell? _ _ ((wcl HB hw288_0)))).trans ((wcl HB hw288_0)), (World.cell?_alloc_lt _ _ _ (World.block_lt_of_cell? _ _ ((wcl HB hw289_0)))).trans ((wcl HB hw289_0))⟩ fun hHeld => nz ?_
    clear hK K
    refine on 15 (some 33) HT_ fun K hK => ?_
    refine Kd.R_append_step (Kd.int .i64) (w0 := w) w.heap.size (by rfl) (.tmp 18) (.tmp 32) 23 3 (.int .i64 0) 8 rfl Try.underlying23 info3 rfl (by decide) (by omega) u9 x9_1 t290 [.int .i64 t290] (fun _ => True) (fun _ => False) rfl rfl ?aP (fun _ hk => hk.elim) ?aF ?aO ?aB ?aS ?aL ?_
    (case aP => exact rfl)
    (case aB => exact (bw HB))
    (case aF => exact (fun _ _ => trivial))
    (case aO => exact (wR HO_9))
    (case aS => exact (bz HB))
    (case aL => have := LMc11.out; omega)
    intro v292 w13 ho hb hg hat
    rw [← Ny291.out] at ho
    replace HB := am (hb)
    have HO293 := am (ho)
    clear HO_9; clear ho hb hg hat
    refine hK.out _ _ ⟨(wcl HB hw288_0), (wcl HB hw289_0)⟩ fun hHeld => nz ?_
    clear hK K; refine pz 16 9 HT_ ?_
    refine done_ (done_of HT_.out (by kernel_rfl)) ?_
    try go_wp2
    go_roundg k1
    case measure => have := HK1.out; omega
    case rel => exact ⟨(y291), (wrap64 (x10_1 + 1)), fr, H', ⟨by have := HK1.out; omega⟩, ⟨wR HO293⟩, ⟨bw HB⟩⟩
   ·rw [if_neg c7] at H
    have c7b0 := decide_eq_false c7; clear c7; obtain rfl := Option.some.inj H; go_wp2; go_ret
    exact ⟨_, fq, wR HO_9, bw HB⟩
end Go.Proofs.Ytmgbpmihbljngaa.PA

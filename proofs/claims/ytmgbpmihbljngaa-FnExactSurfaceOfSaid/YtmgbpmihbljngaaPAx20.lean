-- Written by xprint.py, a program of this claim's own (over the kit's print.py)
import Derived.Test.YtmgbpmihbljngaaPAx0
import Derived.Test.YtmgbpmihbljngaaPAx17
import Derived.LoopN
namespace Go.Proofs.Ytmgbpmihbljngaa.PA
open Go.RowKit Go.Proofs.YtmgbpmihbljngaaW.PrintWords Go.Proofs.YtmgbpmihbljngaaW.PrintLast Go.Proofs.YtmgbpmihbljngaaW.PrintMore
attribute [local go_sem] max2_int min2_int max_two min_two max_three min_three max_four min_four   -- for this text's walks alone
set_option linter.unusedVariables false
set_option linter.unusedSimpArgs false

/-! ### laws_eqIntA3: function 116 (by hand) -/
def laws_eqIntA3.f (a0_0 a0_1 a0_2 a1_0 a1_1 a1_2 : Int) : Option Bool := if (a0_0 != a1_0) = true then some false else if (a0_1 != a1_1) = true then some false else some (!(a0_2 != a1_2))
def laws_eqIntA3.T4 : Bool × List (List Nat × List Nat) := (true, [([], []), ([0], [0]), ([1], [1]), ([], []), ([3], [3]), ([4], [4]), ([2, 5], [2, 5])])
def laws_eqIntA3.B4 : List Nat := [0, 1, 3, 0, 8, 24, 63]
theorem laws_eqIntA3.tab4 : rtab .any (opsOf Try.f116 4) = laws_eqIntA3.T4 := by kernel_rfl
theorem laws_eqIntA3.bits4 : waitsOk laws_eqIntA3.T4.2 laws_eqIntA3.B4 = true := by kernel_rfl
set_option maxHeartbeats 4000000 in
set_option maxRecDepth 100000 in
theorem laws_eqIntA3.n0 (x0 x1 x2 y0 y1 y2 : Int) (w : World) (c0 : (x0 != y0) = true) :
  Calls Try.prog 116 #[.agg #[.int .i64 x0, .int .i64 x1, .int .i64 x2], .agg #[.int .i64 y0, .int .i64 y1, .int .i64 y2]] w fun e w' => e = .returned (.bool false) ∧ Below w.heap.size w w' := by
 have hu41 := Try.underlying41
 have HB := am (Below.refl w.heap.size w)
 have hS : (fun w' : World => w'.cell? ⟨w.heap.size, 0, none⟩ = some (.int .i64 x0) ∧ w'.cell? ⟨w.heap.size, 1, none⟩ = some (.int .i64 x1) ∧ w'.cell? ⟨w.heap.size, 2, none⟩ = some (.int .i64 x2) ∧ w'.cell? ⟨w.heap.size + 1, 0, none⟩ = some (.int .i64 y0) ∧ w'.cell? ⟨w.heap.size + 1, 1, none⟩ = some (.int .i64 y1) ∧ w'.cell? ⟨w.heap.size + 1, 2, none⟩ = some (.int .i64 y2)) ((w.alloc (.cells #[.int .i64 x0, .int .i64 x1, .int .i64 x2] 41)).alloc (.cells #[.int .i64 y0, .int .i64 y1, .int .i64 y2] 41)) := by
  have h1 := heap_alloc2_old w (.cells #[.int .i64 x0, .int .i64 x1, .int .i64 x2] 41) (.cells #[.int .i64 y0, .int .i64 y1, .int .i64 y2] 41)
  have h2 := heap_alloc2_new w (.cells #[.int .i64 x0, .int .i64 x1, .int .i64 x2] 41) (.cells #[.int .i64 y0, .int .i64 y1, .int .i64 y2] 41)
  exact ⟨cell_of_row _ _ 0 _ _ _ h1, cell_of_row _ _ 1 _ _ _ h1, cell_of_row _ _ 2 _ _ _ h1, cell_of_row _ _ 0 _ _ _ h2, cell_of_row _ _ 1 _ _ _ h2, cell_of_row _ _ 2 _ _ _ h2⟩
 have HS := am hS
 clear hS
 go_enter Try.func116, Try.ntmps116
 go_wp2_with fail
 refine wp_loop_rounds 4 ?_
 rw [rounds_succ]
 go_wp2_with fail
 refine st 7 (fun w' : World => w'.cell? ⟨w.heap.size, 0, none⟩ = some (.int .i64 x0) ∧ w'.cell? ⟨w.heap.size, 1, none⟩ = some (.int .i64 x1) ∧ w'.cell? ⟨w.heap.size, 2, none⟩ = some (.int .i64 x2) ∧ w'.cell? ⟨w.heap.size + 1, 0, none⟩ = some (.int .i64 y0) ∧ w'.cell? ⟨w.heap.size + 1, 1, none⟩ = some (.int .i64 y1) ∧ w'.cell? ⟨w.heap.size + 1, 2, none⟩ = some (.int .i64 y2)) [] laws_eqIntA3.tab4 laws_eqIntA3.bits4 HS.out fun hHeld HT_ HW_ => ?_
 refine pz 0 10 HT_ ?_; refine pz 1 11 HT_ ?_; refine tk 2 12 HT_ HW_ hHeld ?_; refine pz 3 13 HT_ ?_; refine pz 4 14 HT_ ?_; refine tk 5 15 HT_ HW_ hHeld ?_; refine pz 6 16 HT_ ?_
 refine done_ (done_of HT_.out (by kernel_rfl)) ?_
 clear HT_ HW_ hHeld
 go_wp2_with fail
 go_ret
 exact ⟨rfl, bw HB⟩
set_option maxHeartbeats 4000000 in
set_option maxRecDepth 100000 in
theorem laws_eqIntA3.n1 (x0 x1 x2 y0 y1 y2 : Int) (w : World) (c0 : (x0 != y0) = false) (c1 : (x1 != y1) = true) :
  Calls Try.prog 116 #[.agg #[.int .i64 x0, .int .i64 x1, .int .i64 x2], .agg #[.int .i64 y0, .int .i64 y1, .int .i64 y2]] w fun e w' => e = .returned (.bool false) ∧ Below w.heap.size w w' := by
 have hu41 := Try.underlying41
 have HB := am (Below.refl w.heap.size w)
 have hS : (fun w' : World => w'.cell? ⟨w.heap.size, 0, none⟩ = some (.int .i64 x0) ∧ w'.cell? ⟨w.heap.size, 1, none⟩ = some (.int .i64 x1) ∧ w'.cell? ⟨w.heap.size, 2, none⟩ = some (.int .i64 x2) ∧ w'.cell? ⟨w.heap.size + 1, 0, none⟩ = some (.int .i64 y0) ∧ w'.cell? ⟨w.heap.size + 1, 1, none⟩ = some (.int .i64 y1) ∧ w'.cell? ⟨w.heap.size + 1, 2, none⟩ = some (.int .i64 y2)) ((w.alloc (.cells #[.int .i64 x0, .int .i64 x1, .int .i64 x2] 41)).alloc (.cells #[.int .i64 y0, .int .i64 y1, .int .i64 y2] 41)) := by
  have h1 := heap_alloc2_old w (.cells #[.int .i64 x0, .int .i64 x1, .int .i64 x2] 41) (.cells #[.int .i64 y0, .int .i64 y1, .int .i64 y2] 41)
  have h2 := heap_alloc2_new w (.cells #[.int .i64 x0, .int .i64 x1, .int .i64 x2] 41) (.cells #[.int .i64 y0, .int .i64 y1, .int .i64 y2] 41)
  exact ⟨cell_of_row _ _ 0 _ _ _ h1, cell_of_row _ _ 1 _ _ _ h1, cell_of_row _ _ 2 _ _ _ h1, cell_of_row _ _ 0 _ _ _ h2, cell_of_row _ _ 1 _ _ _ h2, cell_of_row _ _ 2 _ _ _ h2⟩
 have HS := am hS
 clear hS
 go_enter Try.func116, Try.ntmps116
 go_wp2_with fail
 refine wp_loop_rounds 4 ?_
 rw [rounds_succ]
 go_wp2_with fail
 refine st 7 (fun w' : World => w'.cell? ⟨w.heap.size, 0, none⟩ = some (.int .i64 x0) ∧ w'.cell? ⟨w.heap.size, 1, none⟩ = some (.int .i64 x1) ∧ w'.cell? ⟨w.heap.size, 2, none⟩ = some (.int .i64 x2) ∧ w'.cell? ⟨w.heap.size + 1, 0, none⟩ = some (.int .i64 y0) ∧ w'.cell? ⟨w.heap.size + 1, 1, none⟩ = some (.int .i64 y1) ∧ w'.cell? ⟨w.heap.size + 1, 2, none⟩ = some (.int .i64 y2)) [] laws_eqIntA3.tab4 laws_eqIntA3.bits4 HS.out fun hHeld HT_ HW_ => ?_
 refine pz 0 10 HT_ ?_; refine pz 1 11 HT_ ?_; refine tk 2 12 HT_ HW_ hHeld ?_; refine pz 3 13 HT_ ?_; refine pz 4 14 HT_ ?_; refine tk 5 15 HT_ HW_ hHeld ?_; refine pz 6 16 HT_ ?_
 refine done_ (done_of HT_.out (by kernel_rfl)) ?_
 clear HT_ HW_ hHeld
 go_wp2_with fail
 rw [rounds_succ]
 go_wp2_with fail
 refine st 7 (fun w' : World => w'.cell? ⟨w.heap.size, 0, none⟩ = some (.int .i64 x0) ∧ w'.cell? ⟨w.heap.size, 1, none⟩ = some (.int .i64 x1) ∧ w'.cell? ⟨w.heap.size, 2, none⟩ = some (.int .i64 x2) ∧ w'.cell? ⟨w.heap.size + 1, 0, none⟩ = some (.int .i64 y0) ∧ w'.cell? ⟨w.heap.size + 1, 1, none⟩ = some (.int .i64 y1) ∧ w'.cell? ⟨w.heap.size + 1, 2, none⟩ = some (.int .i64 y2)) [] laws_eqIntA3.tab4 laws_eqIntA3.bits4 HS.out fun hHeld HT_ HW_ => ?_
 refine pz 0 10 HT_ ?_; refine pz 1 11 HT_ ?_; refine tk 2 12 HT_ HW_ hHeld ?_; refine pz 3 13 HT_ ?_; refine pz 4 14 HT_ ?_; refine tk 5 15 HT_ HW_ hHeld ?_; refine pz 6 16 HT_ ?_
 refine done_ (done_of HT_.out (by kernel_rfl)) ?_
 clear HT_ HW_ hHeld
 go_wp2_with fail
 go_ret
 exact ⟨rfl, bw HB⟩
set_option maxHeartbeats 4000000 in
set_option maxRecDepth 100000 in
theorem laws_eqIntA3.n2 (x0 x1 x2 y0 y1 y2 : Int) (w : World) (c0 : (x0 != y0) = false) (c1 : (x1 != y1) = false) (c2 : (x2 != y2) = true) :
  Calls Try.prog 116 #[.agg #[.int .i64 x0, .int .i64 x1, .int .i64 x2], .agg #[.int .i64 y0, .int .i64 y1, .int .i64 y2]] w fun e w' => e = .returned (.bool false) ∧ Below w.heap.size w w' := by
 have hu41 := Try.underlying41
 have HB := am (Below.refl w.heap.size w)
 have hS : (fun w' : World => w'.cell? ⟨w.heap.size, 0, none⟩ = some (.int .i64 x0) ∧ w'.cell? ⟨w.heap.size, 1, none⟩ = some (.int .i64 x1) ∧ w'.cell? ⟨w.heap.size, 2, none⟩ = some (.int .i64 x2) ∧ w'.cell? ⟨w.heap.size + 1, 0, none⟩ = some (.int .i64 y0) ∧ w'.cell? ⟨w.heap.size + 1, 1, none⟩ = some (.int .i64 y1) ∧ w'.cell? ⟨w.heap.size + 1, 2, none⟩ = some (.int .i64 y2)) ((w.alloc (.cells #[.int .i64 x0, .int .i64 x1, .int .i64 x2] 41)).alloc (.cells #[.int .i64 y0, .int .i64 y1, .int .i64 y2] 41)) := by
  have h1 := heap_alloc2_old w (.cells #[.int .i64 x0, .int .i64 x1, .int .i64 x2] 41) (.cells #[.int .i64 y0, .int .i64 y1, .int .i64 y2] 41)
  have h2 := heap_alloc2_new w (.cells #[.int .i64 x0, .int .i64 x1, .int .i64 x2] 41) (.cells #[.int .i64 y0, .int .i64 y1, .int .i64 y2] 41)
  exact ⟨cell_of_row _ _ 0 _ _ _ h1, cell_of_row _ _ 1 _ _ _ h1, cell_of_row _ _ 2 _ _ _ h1, cell_of_row _ _ 0 _ _ _ h2, cell_of_row _ _ 1 _ _ _ h2, cell_of_row _ _ 2 _ _ _ h2⟩
 have HS := am hS
 clear hS
 go_enter Try.func116, Try.ntmps116
 go_wp2_with fail
 refine wp_loop_rounds 4 ?_
 rw [rounds_succ]
 go_wp2_with fail
 refine st 7 (fun w' : World => w'.cell? ⟨w.heap.size, 0, none⟩ = some (.int .i64 x0) ∧ w'.cell? ⟨w.heap.size, 1, none⟩ = some (.int .i64 x1) ∧ w'.cell? ⟨w.heap.size, 2, none⟩ = some (.int .i64 x2) ∧ w'.cell? ⟨w.heap.size + 1, 0, none⟩ = some (.int .i64 y0) ∧ w'.cell? ⟨w.heap.size + 1, 1, none⟩ = some (.int .i64 y1) ∧ w'.cell? ⟨w.heap.size + 1, 2, none⟩ = some (.int .i64 y2)) [] laws_eqIntA3.tab4 laws_eqIntA3.bits4 HS.out fun hHeld HT_ HW_ => ?_
 refine pz 0 10 HT_ ?_; refine pz 1 11 HT_ ?_; refine tk 2 12 HT_ HW_ hHeld ?_; refine pz 3 13 HT_ ?_; refine pz 4 14 HT_ ?_; refine tk 5 15 HT_ HW_ hHeld ?_; refine pz 6 16 HT_ ?_
 refine done_ (done_of HT_.out (by kernel_rfl)) ?_
 clear HT_ HW_ hHeld
 go_wp2_with fail
 rw [rounds_succ]
 go_wp2_with fail
 refine st 7 (fun w' : World => w'.cell? ⟨w.heap.size, 0, none⟩ = some (.int .i64 x0) ∧ w'.cell? ⟨w.heap.size, 1, none⟩ = some (.int .i64 x1) ∧ w'.cell? ⟨w.heap.size, 2, none⟩ = some (.int .i64 x2) ∧ w'.cell? ⟨w.heap.size + 1, 0, none⟩ = some (.int .i64 y0) ∧ w'.cell? ⟨w.heap.size + 1, 1, none⟩ = some (.int .i64 y1) ∧ w'.cell? ⟨w.heap.size + 1, 2, none⟩ = some (.int .i64 y2)) [] laws_eqIntA3.tab4 laws_eqIntA3.bits4 HS.out fun hHeld HT_ HW_ => ?_
 refine pz 0 10 HT_ ?_; refine pz 1 11 HT_ ?_; refine tk 2 12 HT_ HW_ hHeld ?_; refine pz 3 13 HT_ ?_; refine pz 4 14 HT_ ?_; refine tk 5 15 HT_ HW_ hHeld ?_; refine pz 6 16 HT_ ?_
 refine done_ (done_of HT_.out (by kernel_rfl)) ?_
 clear HT_ HW_ hHeld
 go_wp2_with fail
 rw [rounds_succ]
 go_wp2_with fail
 refine st 7 (fun w' : World => w'.cell? ⟨w.heap.size, 0, none⟩ = some (.int .i64 x0) ∧ w'.cell? ⟨w.heap.size, 1, none⟩ = some (.int .i64 x1) ∧ w'.cell? ⟨w.heap.size, 2, none⟩ = some (.int .i64 x2) ∧ w'.cell? ⟨w.heap.size + 1, 0, none⟩ = some (.int .i64 y0) ∧ w'.cell? ⟨w.heap.size + 1, 1, none⟩ = some (.int .i64 y1) ∧ w'.cell? ⟨w.heap.size + 1, 2, none⟩ = some (.int .i64 y2)) [] laws_eqIntA3.tab4 laws_eqIntA3.bits4 HS.out fun hHeld HT_ HW_ => ?_
 refine pz 0 10 HT_ ?_; refine pz 1 11 HT_ ?_; refine tk 2 12 HT_ HW_ hHeld ?_; refine pz 3 13 HT_ ?_; refine pz 4 14 HT_ ?_; refine tk 5 15 HT_ HW_ hHeld ?_; refine pz 6 16 HT_ ?_
 refine done_ (done_of HT_.out (by kernel_rfl)) ?_
 clear HT_ HW_ hHeld
 go_wp2_with fail
 go_ret
 exact ⟨rfl, bw HB⟩
set_option maxHeartbeats 4000000 in
set_option maxRecDepth 100000 in
theorem laws_eqIntA3.yes (x0 x1 x2 y0 y1 y2 : Int) (w : World) (c0 : (x0 != y0) = false) (c1 : (x1 != y1) = false) (c2 : (x2 != y2) = false) :
  Calls Try.prog 116 #[.agg #[.int .i64 x0, .int .i64 x1, .int .i64 x2], .agg #[.int .i64 y0, .int .i64 y1, .int .i64 y2]] w fun e w' => e = .returned (.bool true) ∧ Below w.heap.size w w' := by
 have hu41 := Try.underlying41
 have HB := am (Below.refl w.heap.size w)
 have hS : (fun w' : World => w'.cell? ⟨w.heap.size, 0, none⟩ = some (.int .i64 x0) ∧ w'.cell? ⟨w.heap.size, 1, none⟩ = some (.int .i64 x1) ∧ w'.cell? ⟨w.heap.size, 2, none⟩ = some (.int .i64 x2) ∧ w'.cell? ⟨w.heap.size + 1, 0, none⟩ = some (.int .i64 y0) ∧ w'.cell? ⟨w.heap.size + 1, 1, none⟩ = some (.int .i64 y1) ∧ w'.cell? ⟨w.heap.size + 1, 2, none⟩ = some (.int .i64 y2)) ((w.alloc (.cells #[.int .i64 x0, .int .i64 x1, .int .i64 x2] 41)).alloc (.cells #[.int .i64 y0, .int .i64 y1, .int .i64 y2] 41)) := by
  have h1 := heap_alloc2_old w (.cells #[.int .i64 x0, .int .i64 x1, .int .i64 x2] 41) (.cells #[.int .i64 y0, .int .i64 y1, .int .i64 y2] 41)
  have h2 := heap_alloc2_new w (.cells #[.int .i64 x0, .int .i64 x1, .int .i64 x2] 41) (.cells #[.int .i64 y0, .int .i64 y1, .int .i64 y2] 41)
  exact ⟨cell_of_row _ _ 0 _ _ _ h1, cell_of_row _ _ 1 _ _ _ h1, cell_of_row _ _ 2 _ _ _ h1, cell_of_row _ _ 0 _ _ _ h2, cell_of_row _ _ 1 _ _ _ h2, cell_of_row _ _ 2 _ _ _ h2⟩
 have HS := am hS
 clear hS
 go_enter Try.func116, Try.ntmps116
 go_wp2_with fail
 refine wp_loop_rounds 4 ?_
 rw [rounds_succ]
 go_wp2_with fail
 refine st 7 (fun w' : World => w'.cell? ⟨w.heap.size, 0, none⟩ = some (.int .i64 x0) ∧ w'.cell? ⟨w.heap.size, 1, none⟩ = some (.int .i64 x1) ∧ w'.cell? ⟨w.heap.size, 2, none⟩ = some (.int .i64 x2) ∧ w'.cell? ⟨w.heap.size + 1, 0, none⟩ = some (.int .i64 y0) ∧ w'.cell? ⟨w.heap.size + 1, 1, none⟩ = some (.int .i64 y1) ∧ w'.cell? ⟨w.heap.size + 1, 2, none⟩ = some (.int .i64 y2)) [] laws_eqIntA3.tab4 laws_eqIntA3.bits4 HS.out fun hHeld HT_ HW_ => ?_
 refine pz 0 10 HT_ ?_; refine pz 1 11 HT_ ?_; refine tk 2 12 HT_ HW_ hHeld ?_; refine pz 3 13 HT_ ?_; refine pz 4 14 HT_ ?_; refine tk 5 15 HT_ HW_ hHeld ?_; refine pz 6 16 HT_ ?_
 refine done_ (done_of HT_.out (by kernel_rfl)) ?_
 clear HT_ HW_ hHeld
 go_wp2_with fail
 rw [rounds_succ]
 go_wp2_with fail
 refine st 7 (fun w' : World => w'.cell? ⟨w.heap.size, 0, none⟩ = some (.int .i64 x0) ∧ w'.cell? ⟨w.heap.size, 1, none⟩ = some (.int .i64 x1) ∧ w'.cell? ⟨w.heap.size, 2, none⟩ = some (.int .i64 x2) ∧ w'.cell? ⟨w.heap.size + 1, 0, none⟩ = some (.int .i64 y0) ∧ w'.cell? ⟨w.heap.size + 1, 1, none⟩ = some (.int .i64 y1) ∧ w'.cell? ⟨w.heap.size + 1, 2, none⟩ = some (.int .i64 y2)) [] laws_eqIntA3.tab4 laws_eqIntA3.bits4 HS.out fun hHeld HT_ HW_ => ?_
 refine pz 0 10 HT_ ?_; refine pz 1 11 HT_ ?_; refine tk 2 12 HT_ HW_ hHeld ?_; refine pz 3 13 HT_ ?_; refine pz 4 14 HT_ ?_; refine tk 5 15 HT_ HW_ hHeld ?_; refine pz 6 16 HT_ ?_
 refine done_ (done_of HT_.out (by kernel_rfl)) ?_
 clear HT_ HW_ hHeld
 go_wp2_with fail
 rw [rounds_succ]
 go_wp2_with fail
 refine st 7 (fun w' : World => w'.cell? ⟨w.heap.size, 0, none⟩ = some (.int .i64 x0) ∧ w'.cell? ⟨w.heap.size, 1, none⟩ = some (.int .i64 x1) ∧ w'.cell? ⟨w.heap.size, 2, none⟩ = some (.int .i64 x2) ∧ w'.cell? ⟨w.heap.size + 1, 0, none⟩ = some (.int .i64 y0) ∧ w'.cell? ⟨w.heap.size + 1, 1, none⟩ = some (.int .i64 y1) ∧ w'.cell? ⟨w.heap.size + 1, 2, none⟩ = some (.int .i64 y2)) [] laws_eqIntA3.tab4 laws_eqIntA3.bits4 HS.out fun hHeld HT_ HW_ => ?_
 refine pz 0 10 HT_ ?_; refine pz 1 11 HT_ ?_; refine tk 2 12 HT_ HW_ hHeld ?_; refine pz 3 13 HT_ ?_; refine pz 4 14 HT_ ?_; refine tk 5 15 HT_ HW_ hHeld ?_; refine pz 6 16 HT_ ?_
 refine done_ (done_of HT_.out (by kernel_rfl)) ?_
 clear HT_ HW_ hHeld
 go_wp2_with fail
 rw [rounds_succ]
 go_wp2_with fail
 go_ret
 exact ⟨rfl, bw HB⟩
theorem laws_eqIntA3.calls (a0_0 a0_1 a0_2 a1_0 a1_1 a1_2 : Int) (r : Bool) (w : World) (h : laws_eqIntA3.f a0_0 a0_1 a0_2 a1_0 a1_1 a1_2 = some r) :
  Calls Try.prog 116 #[.agg #[.int .i64 a0_0, .int .i64 a0_1, .int .i64 a0_2], .agg #[.int .i64 a1_0, .int .i64 a1_1, .int .i64 a1_2]] w fun e w' => e = .returned (.bool r) ∧ Below w.heap.size w w' := by
 unfold laws_eqIntA3.f at h
 cases c0 : (a0_0 != a1_0) with
 | true => rw [c0] at h; obtain rfl := Option.some.inj h; exact laws_eqIntA3.n0 _ _ _ _ _ _ w c0
 | false =>
  cases c1 : (a0_1 != a1_1) with
  | true => rw [c0, c1] at h; obtain rfl := Option.some.inj h; exact laws_eqIntA3.n1 _ _ _ _ _ _ w c0 c1
  | false =>
   rw [c0, c1] at h
   cases c2 : (a0_2 != a1_2) with
   | true => rw [c2] at h; obtain rfl := Option.some.inj h; exact laws_eqIntA3.n2 _ _ _ _ _ _ w c0 c1 c2
   | false => rw [c2] at h; obtain rfl := Option.some.inj h; exact laws_eqIntA3.yes _ _ _ _ _ _ w c0 c1 c2/-! ### laws_eqPoint: function 68 -/
def laws_eqPoint.f (a0_0 : Int) (a0_1 : Int) (a0_2 : Int) (a1_0 : Int) (a1_1 : Int) (a1_2 : Int) : Option (Bool) := (laws_eqIntA3.f a0_0 a0_1 a0_2 a1_0 a1_1 a1_2).bind fun t467 => (if t467 = true then (some true) else (some false))
set_option maxHeartbeats 8000000 in
set_option maxRecDepth 100000 in
theorem laws_eqPoint.calls (a0_0 : Int) (a0_1 : Int) (a0_2 : Int) (a1_0 : Int) (a1_1 : Int) (a1_2 : Int) (r : Bool) (w : World) (h : laws_eqPoint.f a0_0 a0_1 a0_2 a1_0 a1_1 a1_2 = some r) :
  Calls Try.prog 68 #[.agg #[.int .i64 a0_0, .int .i64 a0_1, .int .i64 a0_2], .agg #[.int .i64 a1_0, .int .i64 a1_1, .int .i64 a1_2]] w fun e w' => e = .returned (.bool r) ∧ Below w.heap.size w w' := by
 have hu43 := Try.underlying43
 have hu41 := Try.underlying41
 have HB := am (Below.refl w.heap.size w)
 have H : ((laws_eqIntA3.f a0_0 a0_1 a0_2 a1_0 a1_1 a1_2).bind fun t467 => (if t467 = true then (some true) else (some false))) = some r := h
 clear h; replace H := bs H; obtain ⟨t467, A3, H⟩ := H
 by_cases c4 : t467 = true
 ·subst c4
  rw [if_pos rfl] at H
  obtain rfl := Option.some.inj H
  go_enter Try.func68, Try.ntmps68
  go_wp2_with (first | ((with_reducible refine gate_dst (N := 2) rfl ?_); refine box_event ?hg (N := 2) ?hd (cs := #[.int .i64 a0_0, .int .i64 a0_1, .int .i64 a0_2]) (t := 43) ?hr ?_; (case hd => rfl); (case hg => rfl); (case hr => first | (go_simp; done) | (go_simp; rfl)); intro gb465 hg w5 hbox hb; have n0_ := bq HB hb; have n1_ := am (hbox); have n2_ := am ((by rw [hg]; exact (bz HB) : w.heap.size ≤ gb465)); have n3_ := am ((by rw [hg]; exact (bz HB) : w.heap.size ≤ gb465)); clear HB; have HB := n0_; have BK465 := n1_; have GW465 := n2_; have GE465 := n3_; clear n0_ n1_ n2_ n3_; clear hb hbox hg) | ((with_reducible refine gate_dst (N := 3) rfl ?_); refine box_event ?hg (N := 3) ?hd (cs := #[.int .i64 a1_0, .int .i64 a1_1, .int .i64 a1_2]) (t := 43) ?hr ?_; (case hd => rfl); (case hg => rfl); (case hr => first | (go_simp; done) | (go_simp; rfl)); intro gb466 hg w6 hbox hb; have n0_ := am (blk_below (g := gb465) (o := .cells #[.int .i64 a0_0, .int .i64 a0_1, .int .i64 a0_2] 43 (0, 0)) (by (with_reducible repeat (first | refine blk_drewN ?_ _ | refine blk_drew ?_ | refine blk_alloc ?_ _)); exact BK465.out) hb); have n1_ := am (below_step (by repeat (first | (with_reducible first | exact HB.out | apply below_alloc | apply pw_below_drewN | apply below_drew1 | refine below_set ?_ GE465.out) | exact HB.out)) hb); have n2_ := am (hbox); have n3_ := am ((by rw [hg]; exact (below_size (by repeat (first | (with_reducible first | exact HB.out | apply below_alloc | apply pw_below_drewN | apply below_drew1 | refine below_set ?_ GE465.out) | exact HB.out))) : w.heap.size ≤ gb466)); have n4_ := am ((by rw [hg]; exact (below_size (by repeat (first | (with_reducible first | exact HB.out | apply below_alloc | apply pw_below_drewN | apply below_drew1 | refine below_set ?_ GE465.out) | exact HB.out))) : w.heap.size ≤ gb466)); have n5_ := am ((by rw [hg]; exact Nat.ne_of_lt (blk_lt (g := gb465) (o := .cells #[.int .i64 a0_0, .int .i64 a0_1, .int .i64 a0_2] 43 (0, 0)) (by (with_reducible repeat (first | refine blk_drewN ?_ _ | refine blk_drew ?_ | refine blk_alloc ?_ _)); exact BK465.out)) : gb465 ≠ gb466)); have n6_ := am ((by rw [hg]; exact Nat.ne_of_gt (blk_lt (g := gb465) (o := .cells #[.int .i64 a0_0, .int .i64 a0_1, .int .i64 a0_2] 43 (0, 0)) (by (with_reducible repeat (first | refine blk_drewN ?_ _ | refine blk_drew ?_ | refine blk_alloc ?_ _)); exact BK465.out)) : gb466 ≠ gb465)); clear BK465; clear HB; have BK465 := n0_; have HB := n1_; have BK466 := n2_; have GW466 := n3_; have GE466 := n4_; have NB465_466 := n5_; have NB466_465 := n6_; clear n0_ n1_ n2_ n3_ n4_ n5_ n6_; clear hb hbox hg; have hnb7 := NB465_466.out; have hnc7 := NB466_465.out; have hcz8_0 : w6.cell? ⟨gb465, 0, none⟩ = some (.int .i64 a0_0) := (blk_cell BK465.out 0).trans rfl; have hcz8_1 : w6.cell? ⟨gb465, 1, none⟩ = some (.int .i64 a0_1) := (blk_cell BK465.out 1).trans rfl; have hcz8_2 : w6.cell? ⟨gb465, 2, none⟩ = some (.int .i64 a0_2) := (blk_cell BK465.out 2).trans rfl; have hfz8_0 := blk_frozen BK465.out 0; have hfz8_1 := blk_frozen BK465.out 1; have hfz8_2 := blk_frozen BK465.out 2; have hcz9_0 : w6.cell? ⟨gb466, 0, none⟩ = some (.int .i64 a1_0) := (blk_cell BK466.out 0).trans rfl; have hcz9_1 : w6.cell? ⟨gb466, 1, none⟩ = some (.int .i64 a1_1) := (blk_cell BK466.out 1).trans rfl; have hcz9_2 : w6.cell? ⟨gb466, 2, none⟩ = some (.int .i64 a1_2) := (blk_cell BK466.out 2).trans rfl; have hfz9_0 := blk_frozen BK466.out 0; have hfz9_1 := blk_frozen BK466.out 1; have hfz9_2 := blk_frozen BK466.out 2) | ((with_reducible refine gate_callee (f := 116) rfl ?_); refine gl 9 Try.func116 #[.agg #[.int .i64 a0_0, .int .i64 a0_1, .int .i64 a0_2], .agg #[.int .i64 a1_0, .int .i64 a1_1, .int .i64 a1_2]] ?_; (with_reducible refine (laws_eqIntA3.calls a0_0 a0_1 a0_2 a1_0 a1_1 a1_2 true _ A3.out).mono ?_); rintro e w10 ⟨rfl, hb⟩; refine ⟨_, rfl, ?_⟩; have n0_ := am (blk_below (g := gb465) (o := .cells #[.int .i64 a0_0, .int .i64 a0_1, .int .i64 a0_2] 43 (0, 0)) (by (with_reducible repeat (first | refine blk_drewN ?_ _ | refine blk_drew ?_ | refine blk_alloc ?_ _)); exact BK465.out) hb); have n1_ := am (blk_below (g := gb466) (o := .cells #[.int .i64 a1_0, .int .i64 a1_1, .int .i64 a1_2] 43 (0, 0)) (by (with_reducible repeat (first | refine blk_drewN ?_ _ | refine blk_drew ?_ | refine blk_alloc ?_ _)); exact BK466.out) hb); have n2_ := am (below_step (by repeat (first | (with_reducible first | exact HB.out | apply below_alloc | apply pw_below_drewN | apply below_drew1 | refine below_set ?_ GE465.out | refine below_set ?_ GE466.out) | exact HB.out)) hb); clear BK465; clear BK466; clear HB; have BK465 := n0_; have BK466 := n1_; have HB := n2_; clear n0_ n1_ n2_; (try clear hb)))
  go_ret
  exact ⟨fq, by repeat (first | (with_reducible first | exact HB.out | apply below_alloc | apply pw_below_drewN | apply below_drew1 | refine below_set ?_ GE465.out | refine below_set ?_ GE466.out) | exact HB.out)⟩
 ·replace c4 := Bool.eq_false_iff.mpr c4
  subst c4
  rw [if_neg (show ¬ (false = true) by decide)] at H
  obtain rfl := Option.some.inj H
  go_enter Try.func68, Try.ntmps68
  go_wp2_with (first | ((with_reducible refine gate_dst (N := 2) rfl ?_); refine box_event ?hg (N := 2) ?hd (cs := #[.int .i64 a0_0, .int .i64 a0_1, .int .i64 a0_2]) (t := 43) ?hr ?_; (case hd => rfl); (case hg => rfl); (case hr => first | (go_simp; done) | (go_simp; rfl)); intro gb465 hg w11 hbox hb; have n0_ := bq HB hb; have n1_ := am (hbox); have n2_ := am ((by rw [hg]; exact (bz HB) : w.heap.size ≤ gb465)); have n3_ := am ((by rw [hg]; exact (bz HB) : w.heap.size ≤ gb465)); clear HB; have HB := n0_; have BK465 := n1_; have GW465 := n2_; have GE465 := n3_; clear n0_ n1_ n2_ n3_; clear hb hbox hg) | ((with_reducible refine gate_dst (N := 3) rfl ?_); refine box_event ?hg (N := 3) ?hd (cs := #[.int .i64 a1_0, .int .i64 a1_1, .int .i64 a1_2]) (t := 43) ?hr ?_; (case hd => rfl); (case hg => rfl); (case hr => first | (go_simp; done) | (go_simp; rfl)); intro gb466 hg w12 hbox hb; have n0_ := am (blk_below (g := gb465) (o := .cells #[.int .i64 a0_0, .int .i64 a0_1, .int .i64 a0_2] 43 (0, 0)) (by (with_reducible repeat (first | refine blk_drewN ?_ _ | refine blk_drew ?_ | refine blk_alloc ?_ _)); exact BK465.out) hb); have n1_ := am (below_step (by repeat (first | (with_reducible first | exact HB.out | apply below_alloc | apply pw_below_drewN | apply below_drew1 | refine below_set ?_ GE465.out) | exact HB.out)) hb); have n2_ := am (hbox); have n3_ := am ((by rw [hg]; exact (below_size (by repeat (first | (with_reducible first | exact HB.out | apply below_alloc | apply pw_below_drewN | apply below_drew1 | refine below_set ?_ GE465.out) | exact HB.out))) : w.heap.size ≤ gb466)); have n4_ := am ((by rw [hg]; exact (below_size (by repeat (first | (with_reducible first | exact HB.out | apply below_alloc | apply pw_below_drewN | apply below_drew1 | refine below_set ?_ GE465.out) | exact HB.out))) : w.heap.size ≤ gb466)); have n5_ := am ((by rw [hg]; exact Nat.ne_of_lt (blk_lt (g := gb465) (o := .cells #[.int .i64 a0_0, .int .i64 a0_1, .int .i64 a0_2] 43 (0, 0)) (by (with_reducible repeat (first | refine blk_drewN ?_ _ | refine blk_drew ?_ | refine blk_alloc ?_ _)); exact BK465.out)) : gb465 ≠ gb466)); have n6_ := am ((by rw [hg]; exact Nat.ne_of_gt (blk_lt (g := gb465) (o := .cells #[.int .i64 a0_0, .int .i64 a0_1, .int .i64 a0_2] 43 (0, 0)) (by (with_reducible repeat (first | refine blk_drewN ?_ _ | refine blk_drew ?_ | refine blk_alloc ?_ _)); exact BK465.out)) : gb466 ≠ gb465)); clear BK465; clear HB; have BK465 := n0_; have HB := n1_; have BK466 := n2_; have GW466 := n3_; have GE466 := n4_; have NB465_466 := n5_; have NB466_465 := n6_; clear n0_ n1_ n2_ n3_ n4_ n5_ n6_; clear hb hbox hg; have hnb13 := NB465_466.out; have hnc13 := NB466_465.out; have hcz14_0 : w12.cell? ⟨gb465, 0, none⟩ = some (.int .i64 a0_0) := (blk_cell BK465.out 0).trans rfl; have hcz14_1 : w12.cell? ⟨gb465, 1, none⟩ = some (.int .i64 a0_1) := (blk_cell BK465.out 1).trans rfl; have hcz14_2 : w12.cell? ⟨gb465, 2, none⟩ = some (.int .i64 a0_2) := (blk_cell BK465.out 2).trans rfl; have hfz14_0 := blk_frozen BK465.out 0; have hfz14_1 := blk_frozen BK465.out 1; have hfz14_2 := blk_frozen BK465.out 2; have hcz15_0 : w12.cell? ⟨gb466, 0, none⟩ = some (.int .i64 a1_0) := (blk_cell BK466.out 0).trans rfl; have hcz15_1 : w12.cell? ⟨gb466, 1, none⟩ = some (.int .i64 a1_1) := (blk_cell BK466.out 1).trans rfl; have hcz15_2 : w12.cell? ⟨gb466, 2, none⟩ = some (.int .i64 a1_2) := (blk_cell BK466.out 2).trans rfl; have hfz15_0 := blk_frozen BK466.out 0; have hfz15_1 := blk_frozen BK466.out 1; have hfz15_2 := blk_frozen BK466.out 2) | ((with_reducible refine gate_callee (f := 116) rfl ?_); refine gl 9 Try.func116 #[.agg #[.int .i64 a0_0, .int .i64 a0_1, .int .i64 a0_2], .agg #[.int .i64 a1_0, .int .i64 a1_1, .int .i64 a1_2]] ?_; (with_reducible refine (laws_eqIntA3.calls a0_0 a0_1 a0_2 a1_0 a1_1 a1_2 false _ A3.out).mono ?_); rintro e w16 ⟨rfl, hb⟩; refine ⟨_, rfl, ?_⟩; have n0_ := am (blk_below (g := gb465) (o := .cells #[.int .i64 a0_0, .int .i64 a0_1, .int .i64 a0_2] 43 (0, 0)) (by (with_reducible repeat (first | refine blk_drewN ?_ _ | refine blk_drew ?_ | refine blk_alloc ?_ _)); exact BK465.out) hb); have n1_ := am (blk_below (g := gb466) (o := .cells #[.int .i64 a1_0, .int .i64 a1_1, .int .i64 a1_2] 43 (0, 0)) (by (with_reducible repeat (first | refine blk_drewN ?_ _ | refine blk_drew ?_ | refine blk_alloc ?_ _)); exact BK466.out) hb); have n2_ := am (below_step (by repeat (first | (with_reducible first | exact HB.out | apply below_alloc | apply pw_below_drewN | apply below_drew1 | refine below_set ?_ GE465.out | refine below_set ?_ GE466.out) | exact HB.out)) hb); clear BK465; clear BK466; clear HB; have BK465 := n0_; have BK466 := n1_; have HB := n2_; clear n0_ n1_ n2_; (try clear hb)))
  go_ret
  exact ⟨fq, by repeat (first | (with_reducible first | exact HB.out | apply below_alloc | apply pw_below_drewN | apply below_drew1 | refine below_set ?_ GE465.out | refine below_set ?_ GE466.out) | exact HB.out)⟩/-! ### laws_eqPointS: function 24 -/
def laws_eqPointS.l0 : Nat → List (S43) → List (S43) → Int → Option (Bool)
 | 0, _, _, _ => none
 | k + 1, x0, x1, x5 => if x5 < (x0.length : Int) then (if 0 ≤ x5 then (if x5 < (x1.length : Int) then ((laws_eqPoint.f ((rd_T43 x0 x5).f0.f0) ((rd_T43 x0 x5).f0.f1) ((rd_T43 x0 x5).f0.f2) ((rd_T43 x1 x5).f0.f0) ((rd_T43 x1 x5).f0.f1) ((rd_T43 x1 x5).f0.f2)).bind fun t470 => (if t470 = true then (laws_eqPointS.l0 k x0 x1 (wrap64 (x5 + 1))) else (some false))) else (none)) else (none)) else (some true)
def laws_eqPointS.f (k : Nat) (l0 : List (S43)) (l1 : List (S43)) : Option (Bool) := if (l0.length : Int) = (l1.length : Int) then (laws_eqPointS.l0 k l0 l1 0) else (some false)
theorem laws_eqPointS.mono_l : ∀ k, (∀ y0 y1 y2, LeO (laws_eqPointS.l0 k y0 y1 y2) (laws_eqPointS.l0 (k + 1) y0 y1 y2))
 | 0 => fun _ _ _ r h => by simp [laws_eqPointS.l0] at h
 | k + 1 => by
  have ih0 := laws_eqPointS.mono_l k
  ·intro y0 y1 y2
   unfold laws_eqPointS.l0
   repeat' first | (with_reducible first | apply ih0 | exact LeO.refl _ | exact LeO.none _ | refine LeO.ite ?_ ?_ | refine LeO.bind ?_ (fun _ => ?_)) | (first | apply ih0 | exact LeO.none _ | refine LeO.ite ?_ ?_ | refine LeO.bind ?_ (fun _ => ?_))
theorem laws_eqPointS.mono : ∀ a0 a1 k, LeO (laws_eqPointS.f k a0 a1) (laws_eqPointS.f (k + 1) a0 a1) := by
 intro a0 a1 k
 have ih0 := laws_eqPointS.mono_l k
 unfold laws_eqPointS.f
 repeat' first | (with_reducible first | apply ih0 | exact LeO.refl _ | exact LeO.none _ | refine LeO.ite ?_ ?_ | refine LeO.bind ?_ (fun _ => ?_)) | (first | apply ih0 | exact LeO.none _ | refine LeO.ite ?_ ?_ | refine LeO.bind ?_ (fun _ => ?_))
def laws_eqPointS.T6 : Bool × List (List Nat × List Nat) := (true, [([], []), ([], []), ([0, 1], [0, 1]), ([2], [2]), ([], []), ([], []), ([4, 5], [4, 5]), ([6], [6]), ([3, 7], [3, 7]), ([8], [8])])
def laws_eqPointS.B6 : List Nat := [0, 0, 3, 7, 0, 0, 48, 112, 255, 511]
theorem laws_eqPointS.tab6 : rtab .any (opsOf Try.f24 6) = laws_eqPointS.T6 := by kernel_rfl
theorem laws_eqPointS.bits6 : waitsOk laws_eqPointS.T6.2 laws_eqPointS.B6 = true := by kernel_rfl
set_option maxHeartbeats 8000000 in
set_option maxRecDepth 100000 in
theorem laws_eqPointS.calls (k : Nat) (A0 : Option Addr) (c0 : Nat) (l0 : List (S43)) (A1 : Option Addr) (c1 : Nat) (l1 : List (S43)) (r : Bool) (w : World) (hr0 : Kd.C k43 w A0 l0.length l0) (hc0 : l0.length ≤ c0) (hr1 : Kd.C k43 w A1 l1.length l1) (hc1 : l1.length ≤ c1) (h : laws_eqPointS.f k l0 l1 = some r) :
  Calls Try.prog 24 #[.slice A0 l0.length c0, .slice A1 l1.length c1] w fun e w' => e = .returned (.bool r) ∧ Below w.heap.size w w' := by
 have hu43 := Try.underlying43
 have HR0 := am hr0
 have HC0 := am hc0
 clear hr0 hc0
 have HR1 := am hr1
 have HC1 := am hc1
 clear hr1 hc1
 have HB := am (Below.refl w.heap.size w)
 have H : (if (l0.length : Int) = (l1.length : Int) then (laws_eqPointS.l0 k l0 l1 0) else (some false)) = some r := h
 clear h
 by_cases c3 : (l0.length : Int) = (l1.length : Int)
 ·rw [if_pos c3] at H
  have c3b0 := beq_iff_eq.mpr c3; have c3b1 := bne_eq_false_iff_eq.mpr c3
  have c3b2 : (l0.length == l1.length) = true := by first | simpa using c3 | (simp at c3 ⊢; omega)
  clear c3; have H' := am H; clear H
  go_enter Try.func24, Try.ntmps24
  go_wp2
  go_loopg [5] k (fun kq v5 w' => ∃ (x5_1 : Int), v5 = .int .i64 x5_1 ∧ Aside0 (laws_eqPointS.l0 kq l0 l1 x5_1 = some r) ∧ Aside0 (kq ≤ k) ∧ Aside0 (Below w.heap.size w w'))
  case atStart => exact ⟨(0), fr, H', ⟨Nat.le_refl _⟩, ⟨bw HB⟩⟩
  case round =>
   clear H'; try clear c1; try clear c2; try clear p2; try clear c3; try clear c3b0; try clear c3b1; try clear c3b2
   obtain ⟨x5_1, rfl, HA, HK1, HB⟩ := hrel
   cases gk with
   | zero => exact absurd HA.out (by simp [laws_eqPointS.l0])
   | succ k1 =>
    have H := HA.out; clear HA
    simp only [laws_eqPointS.l0] at H
    by_cases c4 : x5_1 < (l0.length : Int)
    ·rw [if_pos c4] at H
     have c4b0 := decide_eq_true c4; clear c4; replace H := ifn H; obtain ⟨c5, H⟩ := H; have c5b0 := decide_eq_true c5; clear c5; replace H := ifn H; obtain ⟨c6, H⟩ := H; have c6b0 := decide_eq_true c6; clear c6; replace H := bs H; obtain ⟨t470, A7, H⟩ := H
     by_cases c8 : t470 = true
     ·subst c8
      rw [if_pos rfl] at H
      have H' := am H; clear H
      try go_wp2
      replace HB := am (below_drew1 HB.out)
      have p468 : 0 ≤ (x5_1 : Int) := od
      have q468 : x5_1 < (l0.length : Int) := od
      obtain ⟨ad468, e468, hx468_0, hx468_1, hx468_2⟩ := at_T43 HR0.out x5_1 p468 q468
      have hw468_2 := hx468_2
      have hw468_1 := hx468_1
      have hw468_0 := hx468_0
      cases e468
      replace hx468_0 := wcl HB hx468_0
      replace hx468_1 := wcl HB hx468_1
      replace hx468_2 := wcl HB hx468_2
      replace p468 := eq_true p468; replace q468 := eq_true q468
      have p469 : 0 ≤ (x5_1 : Int) := od
      have q469 : x5_1 < (l1.length : Int) := od
      obtain ⟨ad469, e469, hx469_0, hx469_1, hx469_2⟩ := at_T43 HR1.out x5_1 p469 q469
      have hw469_2 := hx469_2
      have hw469_1 := hx469_1
      have hw469_0 := hx469_0
      cases e469
      replace hx469_0 := wcl HB hx469_0
      replace hx469_1 := wcl HB hx469_1
      replace hx469_2 := wcl HB hx469_2
      replace p469 := eq_true p469; replace q469 := eq_true q469
      refine st 10 (fun w' => w'.cell? (ad468.add ((x5_1).toNat * 3)) = some (.int .i64 ((rd_T43 l0 x5_1).f0.f0)) ∧ w'.cell? ⟨(ad468.add ((x5_1).toNat * 3)).block, (ad468.add ((x5_1).toNat * 3)).off + 1, none⟩ = some (.int .i64 ((rd_T43 l0 x5_1).f0.f1)) ∧ w'.cell? ⟨(ad468.add ((x5_1).toNat * 3)).block, (ad468.add ((x5_1).toNat * 3)).off + 2, none⟩ = some (.int .i64 ((rd_T43 l0 x5_1).f0.f2)) ∧ w'.cell? (ad469.add ((x5_1).toNat * 3)) = some (.int .i64 ((rd_T43 l1 x5_1).f0.f0)) ∧ w'.cell? ⟨(ad469.add ((x5_1).toNat * 3)).block, (ad469.add ((x5_1).toNat * 3)).off + 1, none⟩ = some (.int .i64 ((rd_T43 l1 x5_1).f0.f1)) ∧ w'.cell? ⟨(ad469.add ((x5_1).toNat * 3)).block, (ad469.add ((x5_1).toNat * 3)).off + 2, none⟩ = some (.int .i64 ((rd_T43 l1 x5_1).f0.f2))) [] laws_eqPointS.tab6 laws_eqPointS.bits6 (⟨(wcl HB hw468_0), (wcl HB hw468_1), (wcl HB hw468_2), (wcl HB hw469_0), (wcl HB hw469_1), (wcl HB hw469_2)⟩) fun hHeld HT_ HW_ => ?_
      generalize wr.drew = w9 at HB hx468_0 hx468_1 hx468_2 hx469_0 hx469_1 hx469_2 hHeld ⊢
      refine pz 0 17 HT_ ?_; refine pz 1 18 HT_ ?_; refine pz 2 19 HT_ ?_; refine pz 4 21 HT_ ?_; refine pz 5 22 HT_ ?_; refine pz 6 23 HT_ ?_; refine tk 3 20 HT_ HW_ hHeld ?_; refine tk 7 24 HT_ HW_ hHeld ?_
      refine on 8 (some 25) HT_ fun K hK => ?_
      refine gs_ Try.func68 #[.agg #[.int .i64 ((rd_T43 l0 x5_1).f0.f0), .int .i64 ((rd_T43 l0 x5_1).f0.f1), .int .i64 ((rd_T43 l0 x5_1).f0.f2)], .agg #[.int .i64 ((rd_T43 l1 x5_1).f0.f0), .int .i64 ((rd_T43 l1 x5_1).f0.f1), .int .i64 ((rd_T43 l1 x5_1).f0.f2)]] ?_
      with_reducible refine (laws_eqPoint.calls ((rd_T43 l0 x5_1).f0.f0) ((rd_T43 l0 x5_1).f0.f1) ((rd_T43 l0 x5_1).f0.f2) ((rd_T43 l1 x5_1).f0.f0) ((rd_T43 l1 x5_1).f0.f1) ((rd_T43 l1 x5_1).f0.f2) true _ A7.out).mono ?_
      rintro e w10 ⟨rfl, hb⟩
      refine ⟨_, rfl, ?_⟩
      replace HB := bq HB hb
      (try clear hb)
      (try clear hb2)
      (try clear hk)
      (try clear hi)
      refine hK.out _ _ ⟨(wcl HB hw468_0), (wcl HB hw468_1), (wcl HB hw468_2), (wcl HB hw469_0), (wcl HB hw469_1), (wcl HB hw469_2)⟩ fun hHeld => nz ?_
      clear hK K; refine pz 9 26 HT_ ?_
      refine done_ (done_of HT_.out (by kernel_rfl)) ?_
      try go_wp2
      go_roundg k1
      case measure => have := HK1.out; omega
      case rel => exact ⟨(wrap64 (x5_1 + 1)), fr, H', ⟨by have := HK1.out; omega⟩, ⟨bw HB⟩⟩
     ·replace c8 := Bool.eq_false_iff.mpr c8
      subst c8
      rw [if_neg (show ¬ (false = true) by decide)] at H
      obtain rfl := Option.some.inj H
      try go_wp2
      replace HB := am (below_drew1 HB.out)
      have p468 : 0 ≤ (x5_1 : Int) := od
      have q468 : x5_1 < (l0.length : Int) := od
      obtain ⟨ad468, e468, hx468_0, hx468_1, hx468_2⟩ := at_T43 HR0.out x5_1 p468 q468
      have hw468_2 := hx468_2
      have hw468_1 := hx468_1
      have hw468_0 := hx468_0
      cases e468
      replace hx468_0 := wcl HB hx468_0
      replace hx468_1 := wcl HB hx468_1
      replace hx468_2 := wcl HB hx468_2
      replace p468 := eq_true p468; replace q468 := eq_true q468
      have p469 : 0 ≤ (x5_1 : Int) := od
      have q469 : x5_1 < (l1.length : Int) := od
      obtain ⟨ad469, e469, hx469_0, hx469_1, hx469_2⟩ := at_T43 HR1.out x5_1 p469 q469
      have hw469_2 := hx469_2
      have hw469_1 := hx469_1
      have hw469_0 := hx469_0
      cases e469
      replace hx469_0 := wcl HB hx469_0
      replace hx469_1 := wcl HB hx469_1
      replace hx469_2 := wcl HB hx469_2
      replace p469 := eq_true p469; replace q469 := eq_true q469
      refine st 10 (fun w' => w'.cell? (ad468.add ((x5_1).toNat * 3)) = some (.int .i64 ((rd_T43 l0 x5_1).f0.f0)) ∧ w'.cell? ⟨(ad468.add ((x5_1).toNat * 3)).block, (ad468.add ((x5_1).toNat * 3)).off + 1, none⟩ = some (.int .i64 ((rd_T43 l0 x5_1).f0.f1)) ∧ w'.cell? ⟨(ad468.add ((x5_1).toNat * 3)).block, (ad468.add ((x5_1).toNat * 3)).off + 2, none⟩ = some (.int .i64 ((rd_T43 l0 x5_1).f0.f2)) ∧ w'.cell? (ad469.add ((x5_1).toNat * 3)) = some (.int .i64 ((rd_T43 l1 x5_1).f0.f0)) ∧ w'.cell? ⟨(ad469.add ((x5_1).toNat * 3)).block, (ad469.add ((x5_1).toNat * 3)).off + 1, none⟩ = some (.int .i64 ((rd_T43 l1 x5_1).f0.f1)) ∧ w'.cell? ⟨(ad469.add ((x5_1).toNat * 3)).block, (ad469.add ((x5_1).toNat * 3)).off + 2, none⟩ = some (.int .i64 ((rd_T43 l1 x5_1).f0.f2))) [] laws_eqPointS.tab6 laws_eqPointS.bits6 (⟨(wcl HB hw468_0), (wcl HB hw468_1), (wcl HB hw468_2), (wcl HB hw469_0), (wcl HB hw469_1), (wcl HB hw469_2)⟩) fun hHeld HT_ HW_ => ?_
      generalize wr.drew = w11 at HB hx468_0 hx468_1 hx468_2 hx469_0 hx469_1 hx469_2 hHeld ⊢
      refine pz 0 17 HT_ ?_; refine pz 1 18 HT_ ?_; refine pz 2 19 HT_ ?_; refine pz 4 21 HT_ ?_; refine pz 5 22 HT_ ?_; refine pz 6 23 HT_ ?_; refine tk 3 20 HT_ HW_ hHeld ?_; refine tk 7 24 HT_ HW_ hHeld ?_
      refine on 8 (some 25) HT_ fun K hK => ?_
      refine gs_ Try.func68 #[.agg #[.int .i64 ((rd_T43 l0 x5_1).f0.f0), .int .i64 ((rd_T43 l0 x5_1).f0.f1), .int .i64 ((rd_T43 l0 x5_1).f0.f2)], .agg #[.int .i64 ((rd_T43 l1 x5_1).f0.f0), .int .i64 ((rd_T43 l1 x5_1).f0.f1), .int .i64 ((rd_T43 l1 x5_1).f0.f2)]] ?_
      with_reducible refine (laws_eqPoint.calls ((rd_T43 l0 x5_1).f0.f0) ((rd_T43 l0 x5_1).f0.f1) ((rd_T43 l0 x5_1).f0.f2) ((rd_T43 l1 x5_1).f0.f0) ((rd_T43 l1 x5_1).f0.f1) ((rd_T43 l1 x5_1).f0.f2) false _ A7.out).mono ?_
      rintro e w12 ⟨rfl, hb⟩
      refine ⟨_, rfl, ?_⟩
      replace HB := bq HB hb
      (try clear hb)
      (try clear hb2)
      (try clear hk)
      (try clear hi)
      refine hK.out _ _ ⟨(wcl HB hw468_0), (wcl HB hw468_1), (wcl HB hw468_2), (wcl HB hw469_0), (wcl HB hw469_1), (wcl HB hw469_2)⟩ fun hHeld => nz ?_
      clear hK K; refine pz 9 26 HT_ ?_
      refine done_ (done_of HT_.out (by kernel_rfl)) ?_
      try go_wp2
      go_ret
      exact ⟨fq, bw HB⟩
    ·rw [if_neg c4] at H
     have c4b0 := decide_eq_false c4; clear c4; obtain rfl := Option.some.inj H; go_wp2; go_ret
     exact ⟨fq, bw HB⟩
 ·rw [if_neg c3] at H
  have c3b0 := beq_eq_false_iff_ne.mpr c3; have c3b1 := bne_iff_ne.mpr c3
  have c3b2 : (l0.length == l1.length) = false := by first | simpa using c3 | (simp at c3 ⊢; omega)
  obtain rfl := Option.some.inj H
  go_enter Try.func24, Try.ntmps24
  go_wp2; go_ret
  exact ⟨fq, bw HB⟩/-! ### laws_markPointS: function 25 (by hand) -/
/-- the numbers that are marked into points -/
def mkP (a : Int) (n : Nat) : List S43 := (List.range n).map fun (j : Nat) => ⟨⟨a + 3 * (j : Int), a + 3 * (j : Int) + 1, a + 3 * (j : Int) + 2⟩⟩
def laws_markPointS.f (l0 : List S43) (a1 : Int) : Option (Int × List S43) := if l0.length ≤ 1048576 ∧ 0 ≤ a1 ∧ a1 ≤ 1000000000 then some (a1 + 3 * (l0.length : Int), mkP a1 l0.length) else none
theorem mk_cells {w : World} {base g n cap : Nat} {ok : Nat → Prop} {xs : List S43} (h : Kd.R k43 43 w base ok (.slice (some ⟨g, 0, none⟩) n cap) xs) (i : Nat) (hi : i < n) (x y z : Int) (hx : rd_T43 xs (i : Int) = ⟨⟨x, y, z⟩⟩) : ∀ j u, ([.int .i64 x, .int .i64 y, .int .i64 z] : List Value)[j]? = some u → w.cell? ⟨g, (i : Int).toNat * k43.sz + j, none⟩ = some u := by
 have hr := Kd.R_reads' h
 obtain ⟨ad, e, x0, x1, x2⟩ := at_T43 hr.2.2 (i : Int) (by omega) (by omega)
 obtain rfl := Option.some.inj e
 rw [hx] at x0 x1 x2
 have hz : k43.sz = 3 := rfl
 have ea : (⟨g, 0, none⟩ : Addr).add ((i : Int).toNat * 3) = ⟨g, i * 3, none⟩ := by
  rw [Int.toNat_natCast]
  unfold Addr.add
  split
  ·next e => rw [e]
  ·simp
 rw [ea] at x0 x1 x2
 intro j u hj
 rw [hz]
 match j, hj with
 | 0, hj => obtain rfl := Option.some.inj hj; exact x0
 | 1, hj => obtain rfl := Option.some.inj hj; exact x1
 | 2, hj => obtain rfl := Option.some.inj hj; exact x2
/-- one number of a point of an own row is written -/
theorem mk_store {W : World} {base g n cap : Nat} {ok : Nat → Prop} {xs : List S43} (h : Kd.R k43 43 W base ok (.slice (some ⟨g, 0, none⟩) n cap) xs) (i : Nat) (hi : i < n) (x y z : Int) (hx : rd_T43 xs (i : Int) = ⟨⟨x, y, z⟩⟩) (j : Nat) (v x' y' z' : Int) (hj : j < 3) (he : ([.int .i64 x, .int .i64 y, .int .i64 z] : List Value).take j ++ [.int .i64 v] ++ ([.int .i64 x, .int .i64 y, .int .i64 z] : List Value).drop (j + 1) = [.int .i64 x', .int .i64 y', .int .i64 z']) :
  (Kd.R k43 43 (W.setCell ⟨g, i * 3 + j, none⟩ (.int .i64 v)) base ok (.slice (some ⟨g, 0, none⟩) n cap) (xs.set i ⟨⟨x', y', z'⟩⟩) ∧ W.grownBy (W.setCell ⟨g, i * 3 + j, none⟩ (.int .i64 v)) (some g)) ∧ W.cell? ⟨g, i * 3 + j, none⟩ = ([.int .i64 x, .int .i64 y, .int .i64 z] : List Value)[j]? ∧ W.frozen? ⟨g, i * 3 + j, none⟩ = false := by
 have hc := mk_cells h i hi x y z hx
 have hz : k43.sz = 3 := rfl
 rw [Int.toNat_natCast, hz] at hc
 refine ⟨?_, ?_, ?_⟩
 ·have := Kd.R_seg (okp := fun _ => False) h (i : Int) (by omega) (by omega) (c := [.int .i64 x, .int .i64 y, .int .i64 z]) (seg := [.int .i64 v]) (j := j) rfl (by rw [Int.toNat_natCast, hz]; exact hc) (by show j + 1 ≤ 3; omega) (x' := ⟨⟨x', y', z'⟩⟩) (by show k43.M W base _ _ (List.take j _ ++ [_] ++ List.drop (j + 1) _); rw [he]; exact k43_mkM _ _ _ _) (fun _ hk => hk.elim)
  rw [Int.toNat_natCast, hz] at this
  exact this
 ·rcases (show j = 0 ∨ j = 1 ∨ j = 2 by omega) with rfl | rfl | rfl
  ·exact hc 0 _ rfl
  ·exact hc 1 _ rfl
  ·exact hc 2 _ rfl
 ·obtain ⟨g2, c2, hv, _, _, cl, hg⟩ := Kd.R_form h (by have := (Kd.R_reads' h).1; omega)
  injection hv with ha
  injection ha with ha
  injection ha with ha
  subst ha
  exact blk_frozen hg _
theorem mk_meas {i d n : Nat} (h : i + (d + 1) = n) : n - (((i + 1 : Nat) : Int)).toNat < n - ((i : Int)).toNat := by omega
theorem mk_rd (xs : List S43) (i : Nat) (hi : i < xs.length) (x : S43) : rd_T43 (xs.set i x) (i : Int) = x := by simp [rd_T43, List.getD_eq_getElem?_getD, hi]
set_option maxHeartbeats 8000000 in
set_option maxRecDepth 100000 in
theorem laws_markPointS.calls (P0_ : Nat → Prop) (u9000_ : Value) (l0 : List S43) (a1 : Int) (r1 : Int) (r2 : List S43) (w0 w : World) (hB : Below w0.heap.size w0 w) (ho0 : Kd.R k43 43 w w0.heap.size P0_ u9000_ l0) (h : laws_markPointS.f l0 a1 = some (r1, r2)) :
  Calls Try.prog 25 #[u9000_, .int .i64 a1] w fun e w' => e = .returned (.int .i64 r1) ∧ Kd.R k43 43 w' w0.heap.size (fun k_ => (P0_ k_ ∨ w.heap.size ≤ k_)) u9000_ r2 ∧ Below w0.heap.size w0 w' ∧ Kept w w' (fun k_ => P0_ k_) := by
 have hu43 := Try.underlying43
 have hu41 := Try.underlying41
 have hu34 := Try.underlying34
 have HO := am (show Kd.R k43 43 w w0.heap.size (fun k_ => (P0_ k_ ∨ w.heap.size ≤ k_)) u9000_ l0 from Kd.R_mono ho0 (fun k_ hk => (.inl hk)))
 have HK := am (Kept.refl w (fun k_ => P0_ k_))
 have HP0 := am (fun k (hk : u9000_.ownBlock = some k) => ho0.1 k hk)
 have HB := am hB
 unfold laws_markPointS.f at h
 split at h
 rotate_left
 ·exact absurd h (by simp)
 next hlen =>
 have HLEN := am hlen
 replace h := Option.some.inj h
 simp only [Prod.mk.injEq] at h
 obtain ⟨rfl, rfl⟩ := h
 clear hB ho0 hlen
 obtain ⟨Ao, co, eo⟩ := Kd.R_slice HO.out
 have HEO := am eo
 subst eo
 go_enter Try.func25, Try.ntmps25
 go_wp2
 go_loopw [1, 5] (fun v1 v5 w' => ∃ (d i : Nat) (xs : List S43), v1 = .int .i64 (a1 + 3 * (i : Int)) ∧ v5 = .int .i64 (i : Int) ∧ Aside0 (i + d = l0.length) ∧ Aside0 (xs = mkP a1 i ++ l0.drop i) ∧ Aside0 (Kd.R k43 43 w' w0.heap.size (fun k_ => (P0_ k_ ∨ w.heap.size ≤ k_)) (.slice Ao l0.length co) xs) ∧ Aside0 (Kept w w' (fun k_ => P0_ k_)) ∧ Aside0 (Below w0.heap.size w0 w')) (fun _ v5 _ => l0.length - (intOf v5).toNat)
 case atStart => exact ⟨l0.length, 0, l0, by simp, rfl, ⟨by omega⟩, ⟨by simp [mkP]⟩, ⟨HO.out⟩, ⟨HK.out⟩, ⟨HB.out⟩⟩
 case round =>
  clear HO HK HB
  obtain ⟨d, i, xs, rfl, rfl, HD, HX, HO, HK, HB⟩ := hrel
  cases d with
  | zero =>
   have hi : i = l0.length := by have := HD.out; omega
   subst hi
   have hlt : decide (l0.length < l0.length) = false := decide_eq_false (by omega)
   go_wp2; go_ret
   refine ⟨fq, ?_, HB.out, HK.out⟩
   have e := HX.out
   rw [List.drop_length, List.append_nil] at e
   rw [← e]
   exact HO.out
  | succ d =>
   have hlt : (i < l0.length) = True := eq_true (by have := HD.out; omega)
   have hl : xs.length = l0.length := by rw [HX.out]; simp [mkP]; have := HD.out; omega
   obtain ⟨g, cap, hv, hbg, hgl, cl, hgc⟩ := Kd.R_form HO.out (by have := HD.out; omega)
   injection hv with ha hn hc
   subst ha; subst hc
   have HBG := am hbg
   clear hn hgc cl hgl hbg
   obtain ⟨⟨⟨x, y, z⟩⟩, hX⟩ : ∃ X, rd_T43 xs (i : Int) = X := ⟨_, rfl⟩
   have e1 : rd_T43 (xs.set i ⟨⟨a1 + 3 * (i : Int), y, z⟩⟩) (i : Int) = ⟨⟨a1 + 3 * (i : Int), y, z⟩⟩ := mk_rd xs i (by have := HD.out; omega) _
   have e2 : rd_T43 ((xs.set i ⟨⟨a1 + 3 * (i : Int), y, z⟩⟩).set i ⟨⟨a1 + 3 * (i : Int), a1 + 3 * (i : Int) + 1, z⟩⟩) (i : Int) = ⟨⟨a1 + 3 * (i : Int), a1 + 3 * (i : Int) + 1, z⟩⟩ := mk_rd _ i (by have := HD.out; rw [List.length_set]; omega) _
   have E0 := am hX
   have E1 := am e1
   have E2 := am e2
   have HL := am hl
   clear hX e1 e2 hl
   have p0 : (0 ≤ (i : Int)) = True := eq_true (by omega)
   have w1_ : wrap64 (a1 + 3 * (i : Int) + 1) = a1 + 3 * (i : Int) + 1 := by have := HLEN.out; have := HD.out; unfold wrap64; omega
   have w2_ : wrap64 (a1 + 3 * (i : Int) + 1 + 1) = a1 + 3 * (i : Int) + 2 := by have := HLEN.out; have := HD.out; unfold wrap64; omega
   have w3_ : wrap64 (a1 + 3 * (i : Int) + 2 + 1) = a1 + 3 * (i : Int) + 3 := by have := HLEN.out; have := HD.out; unfold wrap64; omega
   have w4_ : wrap64 ((i : Int) + 1) = ((i + 1 : Nat) : Int) := by have := HLEN.out; have := HD.out; unfold wrap64; omega
   obtain ⟨⟨r0, hg0⟩, hc0, hf0⟩ := mk_store HO.out i (by have := HD.out; omega) x y z E0.out 0 (a1 + 3 * (i : Int)) (a1 + 3 * (i : Int)) y z (by omega) rfl
   rw [Nat.add_zero] at r0 hg0 hc0 hf0
   have HO1 := am r0
   have HK1 := am (Kept.of_grown (S := (fun k_ => P0_ k_)) hg0 HK.out (fun k_ e_ => (HO.out.1 k_ e_)))
   have HB1 := am (below_set HB.out HBG.out (j := i * 3) (v := .int .i64 (a1 + 3 * (i : Int))))
   clear r0 hg0
   obtain ⟨⟨r1, hg1⟩, hc1, hf1⟩ := mk_store HO1.out i (by have := HD.out; omega) (a1 + 3 * (i : Int)) y z E1.out 1 (a1 + 3 * (i : Int) + 1) (a1 + 3 * (i : Int)) (a1 + 3 * (i : Int) + 1) z (by omega) rfl
   have HO2 := am r1
   have HK2 := am (Kept.of_grown (S := (fun k_ => P0_ k_)) hg1 HK1.out (fun k_ e_ => (HO1.out.1 k_ e_)))
   have HB2 := am (below_set HB1.out HBG.out (j := i * 3 + 1) (v := .int .i64 (a1 + 3 * (i : Int) + 1)))
   clear r1 hg1
   obtain ⟨⟨r2, hg2⟩, hc2, hf2⟩ := mk_store HO2.out i (by have := HD.out; omega) (a1 + 3 * (i : Int)) (a1 + 3 * (i : Int) + 1) z E2.out 2 (a1 + 3 * (i : Int) + 2) (a1 + 3 * (i : Int)) (a1 + 3 * (i : Int) + 1) (a1 + 3 * (i : Int) + 2) (by omega) rfl
   have HO3 := am r2
   have HK3 := am (Kept.of_grown (S := (fun k_ => P0_ k_)) hg2 HK2.out (fun k_ e_ => (HO2.out.1 k_ e_)))
   have HB3 := am (below_set HB2.out HBG.out (j := i * 3 + 2) (v := .int .i64 (a1 + 3 * (i : Int) + 2)))
   clear r2 hg2
   replace hc0 : wr.cell? ⟨g, i * 3, none⟩ = some (.int .i64 x) := hc0
   replace hf0 : wr.frozen? ⟨g, i * 3, none⟩ = false := hf0
   replace hc1 : (wr.setCell ⟨g, i * 3, none⟩ (.int .i64 (a1 + 3 * (i : Int)))).cell? ⟨g, i * 3 + 1, none⟩ = some (.int .i64 y) := hc1
   replace hf1 : (wr.setCell ⟨g, i * 3, none⟩ (.int .i64 (a1 + 3 * (i : Int)))).frozen? ⟨g, i * 3 + 1, none⟩ = false := hf1
   replace hc2 : ((wr.setCell ⟨g, i * 3, none⟩ (.int .i64 (a1 + 3 * (i : Int)))).setCell ⟨g, i * 3 + 1, none⟩ (.int .i64 (a1 + 3 * (i : Int) + 1))).cell? ⟨g, i * 3 + 2, none⟩ = some (.int .i64 z) := hc2
   replace hf2 : ((wr.setCell ⟨g, i * 3, none⟩ (.int .i64 (a1 + 3 * (i : Int)))).setCell ⟨g, i * 3 + 1, none⟩ (.int .i64 (a1 + 3 * (i : Int) + 1))).frozen? ⟨g, i * 3 + 2, none⟩ = false := hf2
   go_wp2
   refine wp_loop_rounds 4 ?_
   rw [rounds_succ]
   go_wp2
   rw [rounds_succ]
   go_wp2
   rw [rounds_succ]
   go_wp2
   rw [rounds_succ]
   go_wp2
   refine ⟨⟨d, i + 1, _, by rw [w3_]; congr 1; omega, by rw [w4_], ⟨by have := HD.out; omega⟩, ?_, HO3, HK3, HB3⟩, ?_⟩
   ·refine ⟨?_⟩
    rw [List.set_set, List.set_set, HX.out, List.drop_eq_getElem_cons (by have := HD.out; omega), List.set_append_right _ _ (by simp [mkP]), show i - (mkP a1 i).length = 0 by simp [mkP], List.set_cons_zero]
    simp [mkP, List.range_succ]
   ·rw [w4_]
    exact mk_meas HD.out/-! ### laws_markIntS: function 26 -/
def laws_markIntS.l0 : Nat → List Int → Int → Int → Option (Int × List Int)
 | 0, _, _, _ => none
 | k + 1, x0, x1, x5 => if x5 < (x0.length : Int) then (if 0 ≤ x5 then (laws_markIntS.l0 k (x0.set (x5 : Int).toNat x1) (wrap64 (x1 + 1)) (wrap64 (x5 + 1))) else (none)) else (some (x1, x0))
def laws_markIntS.f (k : Nat) (l0 : List Int) (a1 : Int) : Option (Int × List Int) := laws_markIntS.l0 k l0 a1 0
theorem laws_markIntS.mono_l : ∀ k, (∀ y0 y1 y2, LeO (laws_markIntS.l0 k y0 y1 y2) (laws_markIntS.l0 (k + 1) y0 y1 y2))
 | 0 => fun _ _ _ r h => by simp [laws_markIntS.l0] at h
 | k + 1 => by
  have ih0 := laws_markIntS.mono_l k
  ·intro y0 y1 y2
   unfold laws_markIntS.l0
   repeat' first | (with_reducible first | apply ih0 | exact LeO.refl _ | exact LeO.none _ | refine LeO.ite ?_ ?_ | refine LeO.bind ?_ (fun _ => ?_)) | (first | apply ih0 | exact LeO.none _ | refine LeO.ite ?_ ?_ | refine LeO.bind ?_ (fun _ => ?_))
theorem laws_markIntS.mono : ∀ a0 a1 k, LeO (laws_markIntS.f k a0 a1) (laws_markIntS.f (k + 1) a0 a1) := by
 intro a0 a1 k
 have ih0 := laws_markIntS.mono_l k
 unfold laws_markIntS.f
 repeat' first | (with_reducible first | apply ih0 | exact LeO.refl _ | exact LeO.none _ | refine LeO.ite ?_ ?_ | refine LeO.bind ?_ (fun _ => ?_)) | (first | apply ih0 | exact LeO.none _ | refine LeO.ite ?_ ?_ | refine LeO.bind ?_ (fun _ => ?_))
set_option maxHeartbeats 8000000 in
set_option maxRecDepth 100000 in
theorem laws_markIntS.calls (k : Nat) (P0_ : Nat → Prop) (u9000_ : Value) (l0 : List Int) (a1 : Int) (r1 : Int) (r2 : List Int) (w0 w : World) (hB : Below w0.heap.size w0 w) (ho0 : Kd.R (Kd.int .i64) 3 w w0.heap.size P0_ u9000_ l0) (h : laws_markIntS.f k l0 a1 = some (r1, r2)) :
  Calls Try.prog 26 #[u9000_, .int .i64 a1] w fun e w' => e = .returned (.int .i64 r1) ∧ Kd.R (Kd.int .i64) 3 w' w0.heap.size (fun k_ => (P0_ k_ ∨ w.heap.size ≤ k_)) u9000_ r2 ∧ Below w0.heap.size w0 w' ∧ Kept w w' (fun k_ => P0_ k_) := by
 have HO0 := am (show Kd.R (Kd.int .i64) 3 w w0.heap.size (fun k_ => (P0_ k_ ∨ w.heap.size ≤ k_)) u9000_ l0 from Kd.R_mono ho0 (fun k_ hk => (.inl hk)))
 have HK := am (Kept.refl w (fun k_ => P0_ k_))
 have HW0 := am hB.size
 have HB := am hB
 clear hB
 have H : (laws_markIntS.l0 k l0 a1 0) = some (r1, r2) := h
 clear h; have H' := am H; clear H
 go_enter Try.func26, Try.ntmps26
 go_wp2
 go_loopg [1, 5] k (fun kq v1 v5 w' => ∃ (x0_1 : List Int) (x1_1 : Int) (x5_1 : Int), v1 = .int .i64 x1_1 ∧ v5 = .int .i64 x5_1 ∧ Aside0 (laws_markIntS.l0 kq x0_1 x1_1 x5_1 = some (r1, r2)) ∧ Aside0 (kq ≤ k) ∧ Aside0 (Kd.R (Kd.int .i64) 3 w' w0.heap.size (fun k_ => (P0_ k_ ∨ w.heap.size ≤ k_)) u9000_ x0_1) ∧ Aside0 (Kept w w' (fun k_ => P0_ k_)) ∧ Aside0 (Below w0.heap.size w0 w'))
 case atStart => exact ⟨(l0), (a1), (0), fr, fr, H', ⟨Nat.le_refl _⟩, ⟨wR HO0⟩, ⟨by repeat (first | (with_reducible first | exact HK.out | apply Kept.alloc | apply Kept.drewN | apply Kept.drew) | exact HK.out)⟩, ⟨bw HB⟩⟩
 case round =>
  clear H'; try clear c2; try clear p2
  obtain ⟨x0_1, x1_1, x5_1, rfl, rfl, HA, HK1, HO_0, HK, HB⟩ := hrel
  cases gk with
  | zero => exact absurd HA.out (by simp [laws_markIntS.l0])
  | succ k1 =>
   have H := HA.out; clear HA
   simp only [laws_markIntS.l0] at H
   by_cases c3 : x5_1 < (x0_1.length : Int)
   ·rw [if_pos c3] at H
    have c3b0 := decide_eq_true c3; clear c3; replace H := ifn H; obtain ⟨c4, H⟩ := H; have c4b0 := decide_eq_true c4; clear c4
    generalize hy471 : (x0_1.set (x5_1 : Int).toNat x1_1 : List Int) = y471 at H
    have Ny471 := am hy471.symm; clear hy471; have H' := am H; clear H
    obtain ⟨Ao6, co6, eo6⟩ := Kd.R_slice HO_0.out
    subst eo6
    have p5 : 0 ≤ (x5_1 : Int) := od
    have q5 : (x5_1 : Int) < ((x0_1.length : Int) : Int) := od
    obtain ⟨go5, co5, eo5, gb5, gl5, cl5, HG5⟩ := Kd.R_form HO_0.out (by omega)
    (first | cases eo5 | (injection eo5 with ea_ en_ ec_; (first | subst ea_ | (injection ea_ with ea_; subst ea_)); subst ec_; clear en_))
    have GB5 := am gb5
    have GG5 := am HG5
    clear gb5 gl5 HG5
    have HMgo5 := am (show (P0_ go5 ∨ w.heap.size ≤ go5) from (HO_0.out.1 _ rfl))
    obtain ⟨hx5_0, hf5_0⟩ := Kd.R_celln 0 HO_0.out (x5_1 : Int) p5 q5
    replace p5 := eq_true p5; replace q5 := eq_true q5
    have HP7 := Kd.R_putg HO_0.out (x5_1 : Int) x1_1
    go_wp2_with (first | ((with_reducible refine gate_store (t := 3) (p := 15) rfl ?_); refine store_event (t := 3) (p := 15) (v := ?vo_w8) (w1 := (wr.setCell ⟨go5, (x5_1 : Int).toNat, none⟩ (.int .i64 x1_1))) ?hg ?ho ?hn ?hr ?_; (case ho => rfl); (case hg => rfl); (case hn => rfl); (case hr => first | (go_simp; done) | (go_simp; rfl)); intro w8 hw; have hg : wr.grownBy w8 (some go5) := (by rw [hw]; exact HP7.2); have hp_ : Kd.R (Kd.int .i64) 3 w8 w0.heap.size (fun k_ => (P0_ k_ ∨ w.heap.size ≤ k_)) (.slice (some ⟨go5, 0, none⟩) x0_1.length co6) y471 := (by rw [hw, Ny471.out]; exact HP7.1); clear HP7; replace HB := am ((by rw [hw]; exact below_set (HB.out) GB5.out : Below w0.heap.size w0 w8)); replace HK := am (Kept.of_grown (S := (fun k_ => P0_ k_)) hg (by repeat (first | (with_reducible first | exact HK.out | apply Kept.alloc | apply Kept.drewN | apply Kept.drew) | exact HK.out)) (fun k_ e_ => (HO_0.out.1 k_ e_))); replace HO_0 := am (hp_); clear hg hw hp_))
    go_roundg k1
    case measure => have := HK1.out; omega
    case rel => exact ⟨(y471), (wrap64 (x1_1 + 1)), (wrap64 (x5_1 + 1)), fr, fr, H', ⟨by have := HK1.out; omega⟩, ⟨wR HO_0⟩, ⟨by repeat (first | (with_reducible first | exact HK.out | apply Kept.alloc | apply Kept.drewN | apply Kept.drew) | exact HK.out)⟩, ⟨bw HB⟩⟩
   ·rw [if_neg c3] at H
    have c3b0 := decide_eq_false c3; clear c3
    simp only [Option.some.injEq, Prod.mk.injEq] at H
    obtain ⟨rfl, rfl⟩ := H
    obtain ⟨Ao9, co9, eo9⟩ := Kd.R_slice HO_0.out
    subst eo9; go_wp2; go_ret
    exact ⟨fq, wR HO_0, bw HB, by repeat (first | (with_reducible first | exact HK.out | apply Kept.alloc | apply Kept.drewN | apply Kept.drew) | exact HK.out)⟩
end Go.Proofs.Ytmgbpmihbljngaa.PA

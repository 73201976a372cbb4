-- Written by xprint.py, a program of this claim's own (over the kit's print.py)
import Derived.Test.YtmgbpmihbljngaaPAx0
import Derived.Test.YtmgbpmihbljngaaPAx11
import Derived.Test.YtmgbpmihbljngaaPAx15
import Derived.Deep.Cut
namespace Go.Proofs.Ytmgbpmihbljngaa.PA
open Go.RowKit Go.Proofs.YtmgbpmihbljngaaW.PrintWords Go.Proofs.YtmgbpmihbljngaaW.PrintLast Go.Proofs.YtmgbpmihbljngaaW.PrintMore
attribute [local go_sem] max2_int min2_int max_two min_two max_three min_three max_four min_four   -- for this text's walks alone
set_option linter.unusedVariables false
set_option linter.unusedSimpArgs false

/-! ### spec_l4Reduce: function 150 -/
mutual
def spec_l4Reduce.l0 : Nat → Int → List (List Int) → Int → List (List Int) → List Int → Int → Option ((List (List Int)) × List Int)
 | 0, _, _, _, _, _, _ => none
 | k + 1, x0, x1, x2, x8, x9, x10 => if x10 < x2 then (spec_l4Reduce.l1 k x0 x1 x2 x8 x9 x10 (-1) 0) else (some (x8, x9))
def spec_l4Reduce.l1 : Nat → Int → List (List Int) → Int → List (List Int) → List Int → Int → Int → Int → Option ((List (List Int)) × List Int)
 | 0, _, _, _, _, _, _, _, _ => none
 | k + 1, x0, x1, x2, x8, x9, x10, x11, x12 => if x12 < (x1.length : Int) then (spec_l4Reduce.j2 k x0 x1 x2 x8 x9 x10 x11 x12 (decide (x11 < 0))) else (spec_l4Reduce.j2 k x0 x1 x2 x8 x9 x10 x11 x12 false)
def spec_l4Reduce.j2 : Nat → Int → List (List Int) → Int → List (List Int) → List Int → Int → Int → Int → Bool → Option ((List (List Int)) × List Int)
 | 0, _, _, _, _, _, _, _, _, _ => none
 | k + 1, x0, x1, x2, x8, x9, x10, x11, x12, x31 => if x31 = true then (if 0 ≤ x12 then (if x12 < (x1.length : Int) then (if 0 ≤ x10 then (if x10 < ((rd_L4 x1 x12).length : Int) then (if (rd (rd_L4 x1 x12) x10) = 0 then (spec_l4Reduce.l1 k x0 x1 x2 x8 x9 x10 x11 (wrap64 (x12 + 1))) else (spec_l4Reduce.l1 k x0 x1 x2 x8 x9 x10 x12 (wrap64 (x12 + 1)))) else (none)) else (none)) else (none)) else (none)) else (if x11 < 0 then (spec_l4Reduce.l0 k x0 x1 x2 x8 x9 (wrap64 (x10 + 1))) else (if 0 ≤ x11 then (if x11 < (x1.length : Int) then ((spec_l4Row.f k x0 (rd_L4 x1 x11)).bind fun t303 => (spec_l4Reduce.l2 k x0 x1 x2 x8 x9 x10 x11 t303 (([] : List (List Int))) 0)) else (none)) else (none)))
def spec_l4Reduce.l2 : Nat → Int → List (List Int) → Int → List (List Int) → List Int → Int → Int → List Int → List (List Int) → Int → Option ((List (List Int)) × List Int)
 | 0, _, _, _, _, _, _, _, _, _, _ => none
 | k + 1, x0, x1, x2, x8, x9, x10, x11, x13, x14, x15 => if x15 < (x1.length : Int) then (if x15 = x11 then (spec_l4Reduce.l2 k x0 x1 x2 x8 x9 x10 x11 x13 x14 (wrap64 (x15 + 1))) else (if 0 ≤ x15 then (if 0 ≤ x10 then (if x10 < ((rd_L4 x1 x15).length : Int) then ((spec_l4Less.f k x0 (rd_L4 x1 x15) (rd (rd_L4 x1 x15) x10) x13).bind fun t312 => (if x14.length < 5864062014805 then (spec_l4Reduce.l2 k x0 x1 x2 x8 x9 x10 x11 x13 (x14 ++ [t312]) (wrap64 (x15 + 1))) else (none))) else (none)) else (none)) else (none))) else (spec_l4Reduce.l3 k x0 x14 x2 x8 x9 x10 x13 0)
def spec_l4Reduce.l3 : Nat → Int → List (List Int) → Int → List (List Int) → List Int → Int → List Int → Int → Option ((List (List Int)) × List Int)
 | 0, _, _, _, _, _, _, _, _ => none
 | k + 1, x0, x1, x2, x8, x9, x10, x13, x16 => if x16 < (x8.length : Int) then (if 0 ≤ x16 then (if 0 ≤ x10 then (if x10 < ((rd_L4 x8 x16).length : Int) then ((spec_l4Less.f k x0 (rd_L4 x8 x16) (rd (rd_L4 x8 x16) x10) x13).bind fun t321 => (spec_l4Reduce.l3 k x0 x1 x2 (x8.set (x16 : Int).toNat t321) x9 x10 x13 (wrap64 (x16 + 1)))) else (none)) else (none)) else (none)) else (if x8.length < 5864062014805 then (if x9.length < 17592186044416 then (spec_l4Reduce.l0 k x0 x1 x2 (x8 ++ [x13]) (x9 ++ [x10]) (wrap64 (x10 + 1))) else (none)) else (none))
end
def spec_l4Reduce.f (k : Nat) (a0 : Int) (l1 : List (List Int)) (a2 : Int) : Option ((List (List Int)) × List Int) := spec_l4Reduce.l0 k a0 l1 a2 (([] : List (List Int))) (([] : List Int)) 0
theorem spec_l4Reduce.mono_l : ∀ k, (∀ y0 y1 y2 y3 y4 y5, LeO (spec_l4Reduce.l0 k y0 y1 y2 y3 y4 y5) (spec_l4Reduce.l0 (k + 1) y0 y1 y2 y3 y4 y5)) ∧ (∀ y0 y1 y2 y3 y4 y5 y6 y7, LeO (spec_l4Reduce.l1 k y0 y1 y2 y3 y4 y5 y6 y7) (spec_l4Reduce.l1 (k + 1) y0 y1 y2 y3 y4 y5 y6 y7)) ∧ (∀ y0 y1 y2 y3 y4 y5 y6 y7 y8, LeO (spec_l4Reduce.j2 k y0 y1 y2 y3 y4 y5 y6 y7 y8) (spec_l4Reduce.j2 (k + 1) y0 y1 y2 y3 y4 y5 y6 y7 y8)) ∧ (∀ y0 y1 y2 y3 y4 y5 y6 y7 y8 y9, LeO (spec_l4Reduce.l2 k y0 y1 y2 y3 y4 y5 y6 y7 y8 y9) (spec_l4Reduce.l2 (k + 1) y0 y1 y2 y3 y4 y5 y6 y7 y8 y9)) ∧ (∀ y0 y1 y2 y3 y4 y5 y6 y7, LeO (spec_l4Reduce.l3 k y0 y1 y2 y3 y4 y5 y6 y7) (spec_l4Reduce.l3 (k + 1) y0 y1 y2 y3 y4 y5 y6 y7))
 | 0 => ⟨fun _ _ _ _ _ _ r h => by simp [spec_l4Reduce.l0] at h, fun _ _ _ _ _ _ _ _ r h => by simp [spec_l4Reduce.l1] at h, fun _ _ _ _ _ _ _ _ _ r h => by simp [spec_l4Reduce.j2] at h, fun _ _ _ _ _ _ _ _ _ _ r h => by simp [spec_l4Reduce.l2] at h, fun _ _ _ _ _ _ _ _ r h => by simp [spec_l4Reduce.l3] at h⟩
 | k + 1 => by
  obtain ⟨ih0, ih1, ih2, ih3, ih4⟩ := spec_l4Reduce.mono_l k
  refine ⟨?_, ?_, ?_, ?_, ?_⟩
  ·intro y0 y1 y2 y3 y4 y5
   unfold spec_l4Reduce.l0
   repeat' first | (with_reducible first | apply ih0 | apply ih1 | apply ih2 | apply ih3 | apply ih4 | apply spec_l4Less.mono | apply spec_l4Row.mono | exact LeO.refl _ | exact LeO.none _ | refine LeO.ite ?_ ?_ | refine LeO.bind ?_ (fun _ => ?_)) | (first | apply ih0 | apply ih1 | apply ih2 | apply ih3 | apply ih4 | apply spec_l4Less.mono | apply spec_l4Row.mono | exact LeO.none _ | refine LeO.ite ?_ ?_ | refine LeO.bind ?_ (fun _ => ?_))
  ·intro y0 y1 y2 y3 y4 y5 y6 y7
   unfold spec_l4Reduce.l1
   repeat' first | (with_reducible first | apply ih0 | apply ih1 | apply ih2 | apply ih3 | apply ih4 | apply spec_l4Less.mono | apply spec_l4Row.mono | exact LeO.refl _ | exact LeO.none _ | refine LeO.ite ?_ ?_ | refine LeO.bind ?_ (fun _ => ?_)) | (first | apply ih0 | apply ih1 | apply ih2 | apply ih3 | apply ih4 | apply spec_l4Less.mono | apply spec_l4Row.mono | exact LeO.none _ | refine LeO.ite ?_ ?_ | refine LeO.bind ?_ (fun _ => ?_))
  ·intro y0 y1 y2 y3 y4 y5 y6 y7 y8
   unfold spec_l4Reduce.j2
   repeat' first | (with_reducible first | apply ih0 | apply ih1 | apply ih2 | apply ih3 | apply ih4 | apply spec_l4Less.mono | apply spec_l4Row.mono | exact LeO.refl _ | exact LeO.none _ | refine LeO.ite ?_ ?_ | refine LeO.bind ?_ (fun _ => ?_)) | (first | apply ih0 | apply ih1 | apply ih2 | apply ih3 | apply ih4 | apply spec_l4Less.mono | apply spec_l4Row.mono | exact LeO.none _ | refine LeO.ite ?_ ?_ | refine LeO.bind ?_ (fun _ => ?_))
  ·intro y0 y1 y2 y3 y4 y5 y6 y7 y8 y9
   unfold spec_l4Reduce.l2
   repeat' first | (with_reducible first | apply ih0 | apply ih1 | apply ih2 | apply ih3 | apply ih4 | apply spec_l4Less.mono | apply spec_l4Row.mono | exact LeO.refl _ | exact LeO.none _ | refine LeO.ite ?_ ?_ | refine LeO.bind ?_ (fun _ => ?_)) | (first | apply ih0 | apply ih1 | apply ih2 | apply ih3 | apply ih4 | apply spec_l4Less.mono | apply spec_l4Row.mono | exact LeO.none _ | refine LeO.ite ?_ ?_ | refine LeO.bind ?_ (fun _ => ?_))
  ·intro y0 y1 y2 y3 y4 y5 y6 y7
   unfold spec_l4Reduce.l3
   repeat' first | (with_reducible first | apply ih0 | apply ih1 | apply ih2 | apply ih3 | apply ih4 | apply spec_l4Less.mono | apply spec_l4Row.mono | exact LeO.refl _ | exact LeO.none _ | refine LeO.ite ?_ ?_ | refine LeO.bind ?_ (fun _ => ?_)) | (first | apply ih0 | apply ih1 | apply ih2 | apply ih3 | apply ih4 | apply spec_l4Less.mono | apply spec_l4Row.mono | exact LeO.none _ | refine LeO.ite ?_ ?_ | refine LeO.bind ?_ (fun _ => ?_))
theorem spec_l4Reduce.mono : ∀ a0 a1 a2 k, LeO (spec_l4Reduce.f k a0 a1 a2) (spec_l4Reduce.f (k + 1) a0 a1 a2) := by
 intro a0 a1 a2 k
 obtain ⟨ih0, ih1, ih2, ih3, ih4⟩ := spec_l4Reduce.mono_l k
 unfold spec_l4Reduce.f
 repeat' first | (with_reducible first | apply ih0 | apply ih1 | apply ih2 | apply ih3 | apply ih4 | apply spec_l4Less.mono | apply spec_l4Row.mono | exact LeO.refl _ | exact LeO.none _ | refine LeO.ite ?_ ?_ | refine LeO.bind ?_ (fun _ => ?_)) | (first | apply ih0 | apply ih1 | apply ih2 | apply ih3 | apply ih4 | apply spec_l4Less.mono | apply spec_l4Row.mono | exact LeO.none _ | refine LeO.ite ?_ ?_ | refine LeO.bind ?_ (fun _ => ?_))
def spec_l4Reduce.T19 : Bool × List (List Nat × List Nat) := (true, [([], []), ([], []), ([], []), ([], []), ([2, 3], [2, 3]), ([4], [4]), ([], []), ([], []), ([6, 7], [6, 7]), ([8], [8]), ([], []), ([9, 10], [9, 10]), ([11], [11]), ([], []), ([1, 5, 12, 13], [1, 5, 12, 13]), ([14], [14]), ([0, 15, 14], [0, 15]), ([16, 16, 0, 1, 2, 3, 4, 5, 6, 7, 8, 9, 10, 11, 12, 13, 14, 15, 16], [0, 16])])
def spec_l4Reduce.B19 : List Nat := [0, 0, 0, 0, 12, 28, 0, 0, 192, 448, 0, 1984, 4032, 0, 16382, 32766, 65535, 131071]
theorem spec_l4Reduce.tab19 : rtab .any (opsOf Try.f150 19) = spec_l4Reduce.T19 := by kernel_rfl
theorem spec_l4Reduce.bits19 : waitsOk spec_l4Reduce.T19.2 spec_l4Reduce.B19 = true := by kernel_rfl
def spec_l4Reduce.T24 : Bool × List (List Nat × List Nat) := (true, [([], []), ([], []), ([], []), ([], []), ([], []), ([3, 4], [3, 4]), ([5], [5]), ([], []), ([], []), ([7, 8], [7, 8]), ([9], [9]), ([], []), ([10, 11], [10, 11]), ([12], [12]), ([], []), ([2, 6, 13, 14], [2, 6, 13, 14]), ([0, 1, 0, 1, 2, 3, 4, 5, 6, 7, 8, 9, 10, 11, 12, 13, 14, 15], [0, 1]), ([16, 15, 15, 0, 1, 2, 3, 4, 5, 6, 7, 8, 9, 10, 11, 12, 13, 14, 15], [15, 16])])
def spec_l4Reduce.B24 : List Nat := [0, 0, 0, 0, 0, 24, 56, 0, 0, 384, 896, 0, 3968, 8064, 0, 32764, 65535, 131071]
theorem spec_l4Reduce.tab24 : rtab .any (opsOf Try.f150 24) = spec_l4Reduce.T24 := by kernel_rfl
theorem spec_l4Reduce.bits24 : waitsOk spec_l4Reduce.T24.2 spec_l4Reduce.B24 = true := by kernel_rfl
set_option maxHeartbeats 8000000 in
set_option maxRecDepth 100000 in
theorem spec_l4Reduce.calls (k : Nat) (a0 : Int) (P1_ : Nat → Prop) (A1 : Option Addr) (c1 : Nat) (l1 : List (List Int)) (a2 : Int) (r1 : List (List Int)) (r2 : List Int) (w : World) (hs1 : Kd.V (Kd.slice 3 (Kd.int .i64)) 23 w w.heap.size (fun k_ => P1_ k_) (.slice A1 l1.length c1) l1) (h : spec_l4Reduce.f k a0 l1 a2 = some (r1, r2)) :
  Calls Try.prog 150 #[.int .i64 a0, .slice A1 l1.length c1, .int .i64 a2] w fun e w' => ∃ v0_ v1_ : Value, e = .returned (.tuple #[v0_, v1_]) ∧ Kd.N (Kd.slice 3 (Kd.int .i64)) 23 w' w.heap.size (fun k_ => (P1_ k_ ∨ w.heap.size ≤ k_) ∧ some k_ ≠ (v1_ : Value).ownBlock) v0_ r1 ∧ Kd.R (Kd.int .i64) 3 w' w.heap.size (fun k_ => (w.heap.size ≤ k_)) v1_ r2 ∧ Below w.heap.size w w' := by
 have HO1 := am (show Kd.V (Kd.slice 3 (Kd.int .i64)) 23 w w.heap.size (fun k_ => (P1_ k_ ∨ w.heap.size ≤ k_)) (.slice A1 l1.length c1) l1 from Kd.V_mono hs1 (fun k_ hk => .inl hk))
 have HB := am (Below.refl w.heap.size w)
 have H : (spec_l4Reduce.l0 k a0 l1 a2 (([] : List (List Int))) (([] : List Int)) 0) = some (r1, r2) := h
 clear h
 obtain ⟨y294, hy294⟩ : ∃ y_ : List (List Int), y_ = (([] : List (List Int))) := ⟨_, rfl⟩
 replace H : (spec_l4Reduce.l0 k a0 l1 a2 y294 (([] : List Int)) 0) = some (r1, r2) := by first | (rw [hy294]; with_reducible exact H) | (have H2_ := (Option.bind_some _ _).symm.trans H; rw [hy294]; with_reducible exact H2_) | (have H2_ := (Option.bind_some _ _).symm.trans H; with_reducible exact H2_) | with_reducible exact H | (rw [hy294]; exact H) | exact H
 have Ny294 := am hy294; clear hy294
 generalize hy297 : (([] : List Int)) = y297 at H
 have Ny297 := am hy297.symm; clear hy297; have H' := am H; clear H
 go_enter Try.func150, Try.ntmps150
 go_wp2_with (first | ((with_reducible refine gate_dst (N := 17) rfl ?_); refine Kd.N_lit (Kd.slice 3 (Kd.int .i64)) _ 23 ?hg (N' := 17) ?hd (xs := ([] : List (List Int))) (inner := []) (ok := (fun k_ => (P1_ k_ ∨ w.heap.size ≤ k_))) (okp := (fun k_ => (P1_ k_ ∨ w.heap.size ≤ k_))) ?hr ?hp (fun _ hk => hk) ((show ∀ k_, w.heap.size ≤ k_ → (fun k_ => (P1_ k_ ∨ w.heap.size ≤ k_)) k_ from fun k_ hk => (.inr (Nat.le_trans (bz HB) hk))) _ (Nat.le_refl _)) (Below.refl _ _) (Nat.le_refl _) (by simp) ?_; (case hd => rfl); (case hg => rfl); (case hr => first | (go_simp; done) | (go_simp; rfl)); (case hp => exact (Reps.none _ _)); intro v295 w4 ho5 hb hg_ hnew_; clear hg_ hnew_; (first | rw [← Ny294.out] at ho5 | (simp only [Int.reduceToNat] at ho5; rw [← Ny294.out] at ho5)); replace HO1 := eV HO1 (Kd.N_base ho5) hb; have HO296 := am (Kd.N_lower ho5 (bz HB)); replace HB := bq HB hb; clear hb ho5) | ((with_reducible refine gate_dst (N := 18) rfl ?_); refine li 3 ([] : List Int) ?_; intro v298 w6 ho7 hb; (first | rw [← Ny297.out] at ho7 | (simp only [Int.reduceToNat] at ho7; rw [← Ny297.out] at ho7)); replace HO1 := eV HO1 (Kd.R_base ho7) hb; replace HO296 := eN HO296 (Kd.R_base ho7) hb; have HO299 := am (mR ho7 HB); replace HB := bq HB hb; clear hb ho7))
 go_loopg [1, 8, 9, 10] k (fun kq v1 v8 v9 v10 w' => ∃ (x1_1 : List (List Int)) (x8_1 : List (List Int)) (x9_1 : List Int) (x10_1 : Int), v10 = .int .i64 x10_1 ∧ Aside0 (spec_l4Reduce.l0 kq a0 x1_1 a2 x8_1 x9_1 x10_1 = some (r1, r2)) ∧ Aside0 (kq ≤ k) ∧ Aside0 (Kd.V (Kd.slice 3 (Kd.int .i64)) 23 w' w.heap.size (fun k_ => (P1_ k_ ∨ w.heap.size ≤ k_) ∧ some k_ ≠ (v8 : Value).ownBlock ∧ some k_ ≠ (v9 : Value).ownBlock) v1 x1_1) ∧ Aside0 (Kd.N (Kd.slice 3 (Kd.int .i64)) 23 w' w.heap.size (fun k_ => (P1_ k_ ∨ w.heap.size ≤ k_) ∧ some k_ ≠ (v9 : Value).ownBlock) v8 x8_1) ∧ Aside0 (Kd.R (Kd.int .i64) 3 w' w.heap.size (fun k_ => (w.heap.size ≤ k_)) v9 x9_1) ∧ Aside0 (Below w.heap.size w w'))
 case atStart => exact ⟨(l1), (y294), (y297), (0), fr, H', ⟨Nat.le_refl _⟩, ⟨Kd.V_below (Kd.V_mono HO1.out (fun _ hk => ⟨hk.1.1, ⟨hk.1.2, hk.2⟩⟩)) gs⟩, ⟨wN HO296⟩, ⟨Kd.R_below (Kd.R_mono HO299.out (fun _ hk => hk.1)) gs⟩, ⟨bw HB⟩⟩
 case round =>
  clear H'; try clear c1; try clear p2
  obtain ⟨x1_1, x8_1, x9_1, x10_1, rfl, HA, HK1, HO_1, HO_8, HO_9, HB⟩ := hrel
  cases gk with
  | zero => exact absurd HA.out (by simp [spec_l4Reduce.l0])
  | succ k1 =>
   have H := HA.out; clear HA
   simp only [spec_l4Reduce.l0] at H
   by_cases c8 : x10_1 < a2
   ·rw [if_pos c8] at H
    have c8b0 := decide_eq_true c8; clear c8; have H' := am H; clear H; go_wp2
    go_loopg [11, 12] k1 (fun kq v11 v12 w' => ∃ (x11_2 : Int) (x12_2 : Int), v11 = .int .i64 x11_2 ∧ v12 = .int .i64 x12_2 ∧ Aside0 (spec_l4Reduce.l1 kq a0 x1_1 a2 x8_1 x9_1 x10_1 x11_2 x12_2 = some (r1, r2)) ∧ Aside0 (kq ≤ k1) ∧ Aside0 (Kd.V (Kd.slice 3 (Kd.int .i64)) 23 w' w.heap.size (fun k_ => (P1_ k_ ∨ w.heap.size ≤ k_) ∧ some k_ ≠ (u8 : Value).ownBlock ∧ some k_ ≠ (u9 : Value).ownBlock) u1 x1_1) ∧ Aside0 (Kd.N (Kd.slice 3 (Kd.int .i64)) 23 w' w.heap.size (fun k_ => (P1_ k_ ∨ w.heap.size ≤ k_) ∧ some k_ ≠ (u9 : Value).ownBlock) u8 x8_1) ∧ Aside0 (Kd.R (Kd.int .i64) 3 w' w.heap.size (fun k_ => (w.heap.size ≤ k_)) u9 x9_1) ∧ Aside0 (Below w.heap.size w w'))
    case atStart => exact ⟨((-1)), (0), fr, fr, H', ⟨Nat.le_refl _⟩, ⟨wV HO_1⟩, ⟨wN HO_8⟩, ⟨wR HO_9⟩, ⟨bw HB⟩⟩
    case round =>
     clear H'; try clear c1; try clear p2; try clear c8; try clear c8b0; try clear p2
     obtain ⟨x11_2, x12_2, rfl, rfl, HA, HK2, HO_1, HO_8, HO_9, HB⟩ := hrel
     cases gk with
     | zero => exact absurd HA.out (by simp [spec_l4Reduce.l1])
     | succ k2 =>
      have H := HA.out; clear HA
      simp only [spec_l4Reduce.l1] at H
      have HC9 := am H
      clear H
      go_upto_region 8 with (fail)
      go_cut [31] (fun v31 wc => ∃ (kq : Nat) (x31_8 : Bool), v31 = .bool x31_8 ∧ Aside0 (spec_l4Reduce.j2 kq a0 x1_1 a2 x8_1 x9_1 x10_1 x11_2 x12_2 x31_8 = some (r1, r2)) ∧ Aside0 (kq ≤ k2) ∧ Aside0 (Kd.V (Kd.slice 3 (Kd.int .i64)) 23 wc w.heap.size (fun k_ => (P1_ k_ ∨ w.heap.size ≤ k_) ∧ some k_ ≠ (u8 : Value).ownBlock ∧ some k_ ≠ (u9 : Value).ownBlock) u1 x1_1) ∧ Aside0 (Kd.N (Kd.slice 3 (Kd.int .i64)) 23 wc w.heap.size (fun k_ => (P1_ k_ ∨ w.heap.size ≤ k_) ∧ some k_ ≠ (u9 : Value).ownBlock) u8 x8_1) ∧ Aside0 (Kd.R (Kd.int .i64) 3 wc w.heap.size (fun k_ => (w.heap.size ≤ k_)) u9 x9_1) ∧ Aside0 (Below w.heap.size w wc))
      case first =>
       have H := HC9.out
       clear HC9
       by_cases c10 : x12_2 < (x1_1.length : Int)
       ·rw [if_pos c10] at H
        have c10b0 := decide_eq_true c10; clear c10
        (first | rw [c10b0] | (simp only [i64_w, i32_w]; rw [c10b0]) | skip)
        have H' := am H; clear H
        obtain ⟨Ao11, co11, eo11⟩ := Kd.V_slice HO_1.out
        subst eo11; go_wp2
        go_meet
        case rel => exact ⟨_, (decide (x11_2 < 0)), fr, H', ⟨by have := HK1.out; have := HK2.out; first | omega | exact Nat.le_refl _⟩, ⟨wV HO_1⟩, ⟨wN HO_8⟩, ⟨wR HO_9⟩, ⟨bw HB⟩⟩
       ·rw [if_neg c10] at H
        have c10b0 := decide_eq_false c10; clear c10
        (first | rw [c10b0] | (simp only [i64_w, i32_w]; rw [c10b0]) | skip)
        have H' := am H; clear H
        obtain ⟨Ao12, co12, eo12⟩ := Kd.V_slice HO_1.out
        subst eo12; go_wp2
        go_meet
        case rel => exact ⟨_, (false), fr, H', ⟨by have := HK1.out; have := HK2.out; first | omega | exact Nat.le_refl _⟩, ⟨wV HO_1⟩, ⟨wN HO_8⟩, ⟨wR HO_9⟩, ⟨bw HB⟩⟩
      case rest =>
       clear HC9; try clear c1; try clear p2; try clear c8; try clear c8b0; try clear c10; try clear c10b0; try clear p2
       obtain ⟨kq, x31_8, rfl, HA, HJ8, HO_1, HO_8, HO_9, HB⟩ := hcut
       cases kq with
       | zero => exact absurd HA.out (by simp [spec_l4Reduce.j2])
       | succ kj8 =>
        have H := HA.out; clear HA
        simp only [spec_l4Reduce.j2] at H
        by_cases c13 : x31_8 = true
        ·subst c13
         rw [if_pos rfl] at H
         replace H := ifn H; obtain ⟨c14, H⟩ := H; have c14b0 := decide_eq_true c14; clear c14; replace H := ifn H; obtain ⟨c15, H⟩ := H; have c15b0 := decide_eq_true c15; clear c15; replace H := ifn H; obtain ⟨c16, H⟩ := H; have c16b0 := decide_eq_true c16
         clear c16; replace H := ifn H; obtain ⟨c17, H⟩ := H; have c17b0 := decide_eq_true c17; clear c17
         by_cases c18 : (rd (rd_L4 x1_1 x12_2) x10_1) = 0
         ·rw [if_pos c18] at H
          have c18b0 := beq_iff_eq.mpr c18; have c18b1 := bne_eq_false_iff_eq.mpr c18; clear c18; have H' := am H; clear H
          obtain ⟨Ao19, co19, eo19⟩ := Kd.V_slice HO_1.out
          subst eo19
          have p300 : 0 ≤ (x12_2 : Int) := od
          have q300 : x12_2 < (x1_1.length : Int) := od
          obtain ⟨ad300, A300_0, c300_0, e300, hx300_0, hl300_0, hi300_0⟩ := at_L4 (Kd.V_reads' HO_1.out).2.2 x12_2 p300 q300
          cases e300
          obtain ⟨ce300, hce300, hMe300, hcc300⟩ := Kd.V_get HO_1.out [] x12_2 p300 (by first | exact q300 | exact od | (have e_ := (Kd.V_reads' HO_1.out).1; omega))
          obtain ⟨ua300_0, uc300_0, rfl, ul300_0, ge300_0⟩ := Kd.FK_slice_open hMe300
          have hv300_0 := hcc300 0 _ rfl
          rw [Nat.add_zero, show ((Kd.slice 3 (Kd.int .i64))).sz = 1 from rfl, Nat.mul_one] at hv300_0
          replace hv300_0 := Option.some.inj (hv300_0.symm.trans hx300_0)
          injection hv300_0 with hva_ hvn_ hvc_
          rw [hva_] at ge300_0
          rw [hvc_] at ul300_0
          have HL300_0 := am (show Kd.V (Kd.int .i64) 3 _ w.heap.size _ _ (rd_L4 x1_1 x12_2) from Kd.V_mk ul300_0 ge300_0)
          clear hva_ hvn_ hvc_ ge300_0 ul300_0; clear hcc300 hce300
          have HR300_0 := am hi300_0
          have HC300_0 := am hl300_0
          clear hi300_0 hl300_0; replace p300 := eq_true p300; replace q300 := eq_true q300
          have p301 : 0 ≤ (x10_1 : Int) := od
          have q301 : x10_1 < ((rd_L4 x1_1 x12_2).length : Int) := od
          obtain ⟨ad301, e301, hx301_0⟩ := Kd.at_int HR300_0.out x10_1 p301 q301
          cases e301; replace p301 := eq_true p301; replace q301 := eq_true q301; go_wp2
          go_roundg kj8
          case measure => have := HK1.out; have := HK2.out; have := HJ8.out; omega
          case rel => exact ⟨(x11_2), (wrap64 (x12_2 + 1)), fr, fr, H', ⟨by have := HK1.out; have := HK2.out; have := HJ8.out; omega⟩, ⟨wV HO_1⟩, ⟨wN HO_8⟩, ⟨wR HO_9⟩, ⟨bw HB⟩⟩
         ·rw [if_neg c18] at H
          have c18b0 := beq_eq_false_iff_ne.mpr c18; have c18b1 := bne_iff_ne.mpr c18; have H' := am H; clear H
          obtain ⟨Ao20, co20, eo20⟩ := Kd.V_slice HO_1.out
          subst eo20
          have p300 : 0 ≤ (x12_2 : Int) := od
          have q300 : x12_2 < (x1_1.length : Int) := od
          obtain ⟨ad300, A300_0, c300_0, e300, hx300_0, hl300_0, hi300_0⟩ := at_L4 (Kd.V_reads' HO_1.out).2.2 x12_2 p300 q300
          cases e300
          obtain ⟨ce300, hce300, hMe300, hcc300⟩ := Kd.V_get HO_1.out [] x12_2 p300 (by first | exact q300 | exact od | (have e_ := (Kd.V_reads' HO_1.out).1; omega))
          obtain ⟨ua300_0, uc300_0, rfl, ul300_0, ge300_0⟩ := Kd.FK_slice_open hMe300
          have hv300_0 := hcc300 0 _ rfl
          rw [Nat.add_zero, show ((Kd.slice 3 (Kd.int .i64))).sz = 1 from rfl, Nat.mul_one] at hv300_0
          replace hv300_0 := Option.some.inj (hv300_0.symm.trans hx300_0)
          injection hv300_0 with hva_ hvn_ hvc_
          rw [hva_] at ge300_0
          rw [hvc_] at ul300_0
          have HL300_0 := am (show Kd.V (Kd.int .i64) 3 _ w.heap.size _ _ (rd_L4 x1_1 x12_2) from Kd.V_mk ul300_0 ge300_0)
          clear hva_ hvn_ hvc_ ge300_0 ul300_0; clear hcc300 hce300
          have HR300_0 := am hi300_0
          have HC300_0 := am hl300_0
          clear hi300_0 hl300_0; replace p300 := eq_true p300; replace q300 := eq_true q300
          have p301 : 0 ≤ (x10_1 : Int) := od
          have q301 : x10_1 < ((rd_L4 x1_1 x12_2).length : Int) := od
          obtain ⟨ad301, e301, hx301_0⟩ := Kd.at_int HR300_0.out x10_1 p301 q301
          cases e301; replace p301 := eq_true p301; replace q301 := eq_true q301; go_wp2
          go_roundg kj8
          case measure => have := HK1.out; have := HK2.out; have := HJ8.out; omega
          case rel => exact ⟨(x12_2), (wrap64 (x12_2 + 1)), fr, fr, H', ⟨by have := HK1.out; have := HK2.out; have := HJ8.out; omega⟩, ⟨wV HO_1⟩, ⟨wN HO_8⟩, ⟨wR HO_9⟩, ⟨bw HB⟩⟩
        ·replace c13 := Bool.eq_false_iff.mpr c13
         subst c13
         rw [if_neg (show ¬ (false = true) by decide)] at H
         by_cases c21 : x11_2 < 0
         ·rw [if_pos c21] at H
          have c21b0 := decide_eq_true c21; clear c21; have H' := am H; clear H; go_wp2
          go_roundg kj8
          case measure => have := HK1.out; have := HK2.out; have := HJ8.out; omega
          case rel => exact ⟨(x1_1), (x8_1), (x9_1), (wrap64 (x10_1 + 1)), fr, H', ⟨by have := HK1.out; have := HK2.out; have := HJ8.out; omega⟩, ⟨wV HO_1⟩, ⟨wN HO_8⟩, ⟨wR HO_9⟩, ⟨bw HB⟩⟩
         ·rw [if_neg c21] at H
          have c21b0 := decide_eq_false c21; clear c21; replace H := ifn H; obtain ⟨c22, H⟩ := H; have c22b0 := decide_eq_true c22; clear c22; replace H := ifn H; obtain ⟨c23, H⟩ := H; have c23b0 := decide_eq_true c23; clear c23; replace H := bs H; obtain ⟨t303, A24, H⟩ := H
          generalize hy306 : (([] : List (List Int))) = y306 at H
          have Ny306 := am hy306.symm; clear hy306; have H' := am H; clear H
          obtain ⟨Ao25, co25, eo25⟩ := Kd.V_slice HO_1.out
          subst eo25
          have p302 : 0 ≤ (x11_2 : Int) := od
          have q302 : x11_2 < (x1_1.length : Int) := od
          obtain ⟨ad302, A302_0, c302_0, e302, hx302_0, hl302_0, hi302_0⟩ := at_L4 (Kd.V_reads' HO_1.out).2.2 x11_2 p302 q302
          cases e302
          obtain ⟨ce302, hce302, hMe302, hcc302⟩ := Kd.V_get HO_1.out [] x11_2 p302 (by first | exact q302 | exact od | (have e_ := (Kd.V_reads' HO_1.out).1; omega))
          obtain ⟨ua302_0, uc302_0, rfl, ul302_0, ge302_0⟩ := Kd.FK_slice_open hMe302
          have hv302_0 := hcc302 0 _ rfl
          rw [Nat.add_zero, show ((Kd.slice 3 (Kd.int .i64))).sz = 1 from rfl, Nat.mul_one] at hv302_0
          replace hv302_0 := Option.some.inj (hv302_0.symm.trans hx302_0)
          injection hv302_0 with hva_ hvn_ hvc_
          rw [hva_] at ge302_0
          rw [hvc_] at ul302_0
          have HL302_0 := am (show Kd.V (Kd.int .i64) 3 _ w.heap.size _ _ (rd_L4 x1_1 x11_2) from Kd.V_mk ul302_0 ge302_0)
          clear hva_ hvn_ hvc_ ge302_0 ul302_0; clear hcc302 hce302
          have HR302_0 := am hi302_0
          have HC302_0 := am hl302_0
          clear hi302_0 hl302_0; replace p302 := eq_true p302; replace q302 := eq_true q302
          go_wp2_with (first | ((with_reducible refine gate_callee (f := 80) rfl ?_); refine gl 50 Try.func80 #[.int .i64 a0, .slice A302_0 (rd_L4 x1_1 x11_2).length c302_0] ?_; (with_reducible refine (spec_l4Row.calls kj8 a0 _ _ (rd_L4 x1_1 x11_2) t303 _ ?_ ?_ A24.out).mono ?_); exact wC HR302_0; exact HC302_0.out; rintro e w26 ⟨v304, rfl, ho0, hb⟩; refine ⟨_, rfl, ?_⟩; replace HO_1 := eV HO_1 (Kd.R_base ho0) hb; replace HO_8 := eN HO_8 (Kd.R_base ho0) hb; replace HL302_0 := eV HL302_0 (Kd.R_base ho0) hb; have HO305 := am (Kd.R_lower (Kd.R_new' (Kd.R_newM (M := fun k_ => (w.heap.size ≤ k_)) ho0 (bz HB) (fun k_ h_ => h_)) (Kd.R_lt (wR HO_9))) (bz HB)); replace HO_9 := eR HO_9 (Kd.R_base ho0) hb; replace HR302_0 := am (Kd.C_below (wC HR302_0) hb); replace HB := bq HB hb; (try clear hb); (try clear ho0)) | ((with_reducible refine gate_dst (N := 51) rfl ?_); refine Kd.N_lit (Kd.slice 3 (Kd.int .i64)) _ 23 ?hg (N' := 51) ?hd (xs := ([] : List (List Int))) (inner := []) (ok := (fun k_ => (P1_ k_ ∨ w.heap.size ≤ k_) ∧ some k_ ≠ (u8 : Value).ownBlock ∧ some k_ ≠ (u9 : Value).ownBlock ∧ some k_ ≠ (v304 : Value).ownBlock)) (okp := (fun k_ => (P1_ k_ ∨ w.heap.size ≤ k_) ∧ some k_ ≠ (u8 : Value).ownBlock ∧ some k_ ≠ (u9 : Value).ownBlock ∧ some k_ ≠ (v304 : Value).ownBlock)) ?hr ?hp (fun _ hk => hk) ((show ∀ k_, w26.heap.size ≤ k_ → (fun k_ => (P1_ k_ ∨ w.heap.size ≤ k_) ∧ some k_ ≠ (u8 : Value).ownBlock ∧ some k_ ≠ (u9 : Value).ownBlock ∧ some k_ ≠ (v304 : Value).ownBlock) k_ from fun k_ hk => ⟨(.inr (Nat.le_trans (bz HB) hk)), Kd.fresh' (Kd.N_lt (wN HO_8)) k_ hk, Kd.fresh' (Kd.R_lt (wR HO_9)) k_ hk, Kd.fresh' (Kd.R_lt (wR HO305)) k_ hk⟩) _ (Nat.le_refl _)) (Below.refl _ _) (Nat.le_refl _) (by simp) ?_; (case hd => rfl); (case hg => rfl); (case hr => first | (go_simp; done) | (go_simp; rfl)); (case hp => exact (Reps.none _ _)); intro v307 w27 ho28 hb hg_ hnew_; clear hg_ hnew_; (first | rw [← Ny306.out] at ho28 | (simp only [Int.reduceToNat] at ho28; rw [← Ny306.out] at ho28)); replace HO_1 := eV HO_1 (Kd.N_base ho28) hb; replace HO_8 := eN HO_8 (Kd.N_base ho28) hb; replace HO_9 := am (Kd.R_below (wR HO_9) hb); replace HL302_0 := eV HL302_0 (Kd.N_base ho28) hb; replace HO305 := am (Kd.R_below (wR HO305) hb); have HO308 := am (Kd.N_lower ho28 (bz HB)); replace HR302_0 := am (Kd.C_below (wC HR302_0) hb); replace HB := bq HB hb; clear hb ho28))
          go_loopg [14, 15] kj8 (fun kq v14 v15 w' => ∃ (x14_4 : List (List Int)) (x15_4 : Int), v15 = .int .i64 x15_4 ∧ Aside0 (spec_l4Reduce.l2 kq a0 x1_1 a2 x8_1 x9_1 x10_1 x11_2 t303 x14_4 x15_4 = some (r1, r2)) ∧ Aside0 (kq ≤ kj8) ∧ Aside0 (Kd.V (Kd.slice 3 (Kd.int .i64)) 23 w' w.heap.size (fun k_ => (P1_ k_ ∨ w.heap.size ≤ k_) ∧ some k_ ≠ (u8 : Value).ownBlock ∧ some k_ ≠ (u9 : Value).ownBlock ∧ some k_ ≠ (v304 : Value).ownBlock ∧ some k_ ≠ (v14 : Value).ownBlock) (.slice (some ad302) x1_1.length co25) x1_1) ∧ Aside0 (Kd.N (Kd.slice 3 (Kd.int .i64)) 23 w' w.heap.size (fun k_ => (P1_ k_ ∨ w.heap.size ≤ k_) ∧ some k_ ≠ (u9 : Value).ownBlock ∧ some k_ ≠ (v304 : Value).ownBlock ∧ some k_ ≠ (v14 : Value).ownBlock) u8 x8_1) ∧ Aside0 (Kd.R (Kd.int .i64) 3 w' w.heap.size (fun k_ => (w.heap.size ≤ k_) ∧ some k_ ≠ (v304 : Value).ownBlock) u9 x9_1) ∧ Aside0 (Kd.R (Kd.int .i64) 3 w' w.heap.size (fun k_ => (w.heap.size ≤ k_) ∧ some k_ ≠ (u9 : Value).ownBlock) v304 t303) ∧ Aside0 (Kd.N (Kd.slice 3 (Kd.int .i64)) 23 w' w.heap.size (fun k_ => (P1_ k_ ∨ w.heap.size ≤ k_) ∧ some k_ ≠ (u8 : Value).ownBlock ∧ some k_ ≠ (u9 : Value).ownBlock ∧ some k_ ≠ (v304 : Value).ownBlock) v14 x14_4) ∧ Aside0 (Below w.heap.size w w'))
          case atStart => exact ⟨(y306), (0), fr, H', ⟨Nat.le_refl _⟩, ⟨Kd.V_below (Kd.V_mono HO_1.out (fun _ hk => ⟨hk.1.1.1, ⟨hk.1.1.2.1, ⟨hk.1.1.2.2, ⟨hk.1.2, hk.2⟩⟩⟩⟩)) gs⟩, ⟨Kd.N_below (Kd.N_mono HO_8.out (fun _ hk => ⟨hk.1.1.1, ⟨hk.1.1.2, ⟨hk.1.2, hk.2⟩⟩⟩)) gs⟩, ⟨wR HO_9⟩, ⟨Kd.R_below (Kd.R_mono HO305.out (fun _ hk => ⟨hk.1.1, hk.2⟩)) gs⟩, ⟨wN HO308⟩, ⟨bw HB⟩⟩
          case round =>
           clear H'; try clear c1; try clear c2; try clear p2; try clear c3; try clear p3; try clear q3; try clear hx3; try clear p6; try clear c8; try clear c8b0; try clear c10; try clear c10b0; try clear c13; try clear c14; try clear c14b0; try clear c15
           try clear c15b0; try clear c16; try clear c16b0; try clear c17; try clear c17b0; try clear c18; try clear c18b0; try clear c18b1; try clear c21; try clear c21b0; try clear c22; try clear c22b0; try clear c23; try clear c23b0; try clear hx300_0
           try clear hx301_0; try clear hx302_0; try clear p2; try clear p300; try clear p301; try clear p302; try clear q300; try clear q301; try clear q302
           obtain ⟨x14_4, x15_4, rfl, HA, HK4, HO_1, HO_8, HO_9, HO_13, HO_14, HB⟩ := hrel
           cases gk with
           | zero => exact absurd HA.out (by simp [spec_l4Reduce.l2])
           | succ k4 =>
            have H := HA.out; clear HA
            simp only [spec_l4Reduce.l2] at H
            by_cases c29 : x15_4 < (x1_1.length : Int)
            ·rw [if_pos c29] at H
             have c29b0 := decide_eq_true c29; clear c29
             by_cases c30 : x15_4 = x11_2
             ·rw [if_pos c30] at H
              have c30b0 := beq_iff_eq.mpr c30; have c30b1 := bne_eq_false_iff_eq.mpr c30; clear c30; have H' := am H; clear H; go_wp2
              go_roundg k4
              case measure => have := HK1.out; have := HK2.out; have := HJ8.out; have := HK4.out; omega
              case rel => exact ⟨(x14_4), (wrap64 (x15_4 + 1)), fr, H', ⟨by have := HK1.out; have := HK2.out; have := HJ8.out; have := HK4.out; omega⟩, ⟨wV HO_1⟩, ⟨wN HO_8⟩, ⟨wR HO_9⟩, ⟨wR HO_13⟩, ⟨wN HO_14⟩, ⟨bw HB⟩⟩
             ·rw [if_neg c30] at H
              have c30b0 := beq_eq_false_iff_ne.mpr c30; have c30b1 := bne_iff_ne.mpr c30; replace H := ifn H; obtain ⟨c31, H⟩ := H; have c31b0 := decide_eq_true c31; clear c31; replace H := ifn H; obtain ⟨c32, H⟩ := H; have c32b0 := decide_eq_true c32; clear c32
              replace H := ifn H; obtain ⟨c33, H⟩ := H; have c33b0 := decide_eq_true c33; clear c33; replace H := bs H; obtain ⟨t312, A34, H⟩ := H; replace H := ifn H; obtain ⟨c35, H⟩ := H; have LMc35 := am c35; clear c35
              generalize hy315 : (x14_4 ++ [t312] : List (List Int)) = y315 at H
              have Ny315 := am hy315.symm; clear hy315; have H' := am H; clear H
              try go_wp2
              replace HO_1 := am (Kd.V_drew HO_1.out)
              replace HO_8 := am (Kd.N_drew HO_8.out)
              replace HO_9 := am (Kd.R_drew HO_9.out)
              replace HO_13 := am (Kd.R_drew HO_13.out)
              replace HO_14 := am (Kd.N_drew HO_14.out)
              replace HB := am (below_drew1 HB.out)
              have p309 : 0 ≤ (x15_4 : Int) := od
              have q309 : x15_4 < (x1_1.length : Int) := od
              obtain ⟨ad309, A309_0, c309_0, e309, hx309_0, hl309_0, hi309_0⟩ := at_L4 (Kd.V_reads' HO_1.out).2.2 x15_4 p309 q309
              obtain rfl : ad302 = ad309 := (by injection e309)
              obtain ⟨ce309, hce309, hMe309, hcc309⟩ := Kd.V_get HO_1.out [] x15_4 p309 (by first | exact q309 | exact od | (have e_ := (Kd.V_reads' HO_1.out).1; omega))
              obtain ⟨ua309_0, uc309_0, rfl, ul309_0, ge309_0⟩ := Kd.FK_slice_open hMe309
              have hv309_0 := hcc309 0 _ rfl
              rw [Nat.add_zero, show ((Kd.slice 3 (Kd.int .i64))).sz = 1 from rfl, Nat.mul_one] at hv309_0
              replace hv309_0 := Option.some.inj (hv309_0.symm.trans hx309_0)
              injection hv309_0 with hva_ hvn_ hvc_
              rw [hva_] at ge309_0
              rw [hvc_] at ul309_0
              have HL309_0 := am (show Kd.V (Kd.int .i64) 3 _ w.heap.size _ _ (rd_L4 x1_1 x15_4) from Kd.V_mk ul309_0 ge309_0)
              clear hva_ hvn_ hvc_ ge309_0 ul309_0; clear hcc309 hce309
              have HR309_0 := am hi309_0
              have HC309_0 := am hl309_0
              clear hi309_0 hl309_0; replace p309 := eq_true p309; replace q309 := eq_true q309
              have p310 : 0 ≤ (x15_4 : Int) := od
              have q310 : x15_4 < (x1_1.length : Int) := od
              obtain ⟨ad310, A310_0, c310_0, e310, hx310_0, hl310_0, hi310_0⟩ := at_L4 (Kd.V_reads' HO_1.out).2.2 x15_4 p310 q310
              obtain rfl : ad302 = ad310 := (by injection e310)
              obtain ⟨ce310, hce310, hMe310, hcc310⟩ := Kd.V_get HO_1.out [] x15_4 p310 (by first | exact q310 | exact od | (have e_ := (Kd.V_reads' HO_1.out).1; omega))
              obtain ⟨ua310_0, uc310_0, rfl, ul310_0, ge310_0⟩ := Kd.FK_slice_open hMe310
              have hv310_0 := hcc310 0 _ rfl
              rw [Nat.add_zero, show ((Kd.slice 3 (Kd.int .i64))).sz = 1 from rfl, Nat.mul_one] at hv310_0
              replace hv310_0 := Option.some.inj (hv310_0.symm.trans hx310_0)
              injection hv310_0 with hva_ hvn_ hvc_
              rw [hva_] at ge310_0
              rw [hvc_] at ul310_0
              have HL310_0 := am (show Kd.V (Kd.int .i64) 3 _ w.heap.size _ _ (rd_L4 x1_1 x15_4) from Kd.V_mk ul310_0 ge310_0)
              clear hva_ hvn_ hvc_ ge310_0 ul310_0; clear hcc310 hce310
              have HR310_0 := am hi310_0
              have HC310_0 := am hl310_0
              clear hi310_0 hl310_0; replace p310 := eq_true p310; replace q310 := eq_true q310
              have ea_ := Option.some.inj (hx309_0.symm.trans hx310_0)
              injection ea_ with ea_ en_ ec_
              subst ea_; subst ec_; clear en_
              have p311 : 0 ≤ (x10_1 : Int) := od
              have q311 : x10_1 < ((rd_L4 x1_1 x15_4).length : Int) := od
              obtain ⟨ad311, e311, hx311_0⟩ := Kd.at_int HR310_0.out x10_1 p311 q311
              cases e311; replace p311 := eq_true p311; replace q311 := eq_true q311
              obtain ⟨Ao37, co37, eo37⟩ := Kd.R_slice HO_13.out
              (first | subst eo37 | (injection eo37 with f1_ f2_ f3_; have f4_ := f1_.symm; have f5_ := f3_.symm; clear f1_ f2_ f3_; subst f4_; subst f5_))
              refine st 18 (fun w' => w'.cell? (ad302.add (x15_4).toNat) = some (.slice (some ad311) (rd_L4 x1_1 x15_4).length c309_0) ∧ w'.cell? (ad302.add (x15_4).toNat) = some (.slice (some ad311) (rd_L4 x1_1 x15_4).length c309_0) ∧ w'.cell? (ad311.add (x10_1).toNat) = some (.int .i64 (rd (rd_L4 x1_1 x15_4) x10_1))) [15, 16] spec_l4Reduce.tab19 spec_l4Reduce.bits19 (⟨hx309_0, hx310_0, hx311_0⟩) fun hHeld HT_ HW_ => ?_
              generalize wr.drew = w36 at HO_1 HO_8 HO_9 HO_13 HO_14 HB HL309_0 HL310_0 HR309_0 HR310_0 hx309_0 hx310_0 hx311_0 hHeld ⊢
              refine pz 0 61 HT_ ?_; refine pz 1 62 HT_ ?_; refine pz 2 63 HT_ ?_; refine pz 3 64 HT_ ?_; refine pz 4 65 HT_ ?_; refine pz 6 67 HT_ ?_; refine pz 7 68 HT_ ?_; refine pz 8 69 HT_ ?_; refine pz 10 71 HT_ ?_; refine pz 13 74 HT_ ?_; refine tk 5 66 HT_ HW_ hHeld ?_
              refine tk 9 70 HT_ HW_ hHeld ?_; refine pz 11 72 HT_ ?_; refine tk 12 73 HT_ HW_ hHeld ?_
              refine on 14 (some 75) HT_ fun K hK => ?_
              refine gs_ Try.func165 #[.int .i64 a0, .slice (some ad311) (rd_L4 x1_1 x15_4).length c309_0, .int .i64 (rd (rd_L4 x1_1 x15_4) x10_1), .slice Ao37 t303.length co37] ?_
              with_reducible refine (spec_l4Less.calls k4 a0 _ _ (rd_L4 x1_1 x15_4) (rd (rd_L4 x1_1 x15_4) x10_1) _ _ t303 t312 _ ?side1 ?side2 ?side3 ?side4 A34.out).mono ?_
              (case side1 => exact wC HR309_0)
              (case side2 => exact HC309_0.out)
              (case side3 => exact Kd.C_below (Kd.R_reads' HO_13.out).2.2 gs)
              (case side4 => exact (Kd.R_reads' HO_13.out).2.1)
              rintro e w38 ⟨v313, rfl, ho0, hb⟩
              have HS0_ := (hb.cell (World.block_lt_of_cell? _ _ (hHeld.1))).trans (hHeld.1)
              have HS1_ := (hb.cell (World.block_lt_of_cell? _ _ (hHeld.2.1))).trans (hHeld.2.1)
              have HS2_ := (hb.cell (World.block_lt_of_cell? _ _ (hHeld.2.2))).trans (hHeld.2.2)
              refine ⟨_, rfl, ?_⟩
              replace HO_1 := eV HO_1 (Kd.R_base ho0) hb
              replace HO_8 := eN HO_8 (Kd.R_base ho0) hb
              replace HO_14 := eN HO_14 (Kd.R_base ho0) hb
              replace HL309_0 := eV HL309_0 (Kd.R_base ho0) hb
              replace HL310_0 := eV HL310_0 (Kd.R_base ho0) hb
              have HO314 := am (Kd.R_lower (Kd.R_new' (Kd.R_new' (Kd.R_newM (M := fun k_ => (w.heap.size ≤ k_)) ho0 (bz HB) (fun k_ h_ => h_)) (Kd.R_lt (wR HO_9))) (Kd.R_lt (wR HO_13))) (bz HB))
              replace HO_9 := eR HO_9 (Kd.R_base ho0) hb
              replace HO_13 := eR HO_13 (Kd.R_base ho0) hb
              replace HR309_0 := am (Kd.C_below (wC HR309_0) hb)
              replace HR310_0 := am (Kd.C_below (wC HR310_0) hb)
              replace HB := bq HB hb
              (try clear hb)
              (try clear hb2)
              (try clear hk)
              (try clear hi)
              (try clear ho0)
              obtain ⟨Ao40, co40, eo40⟩ := Kd.R_slice HO314.out
              (first | subst eo40 | (injection eo40 with f1_ f2_ f3_; have f4_ := f1_.symm; have f5_ := f3_.symm; clear f1_ f2_ f3_; subst f4_; subst f5_))
              refine hK.out _ _ ⟨HS0_, HS1_, HS2_⟩ fun hHeld => nz ?_
              clear hK K
              refine la 15 (some 76) HT_ fun K hK => ?_
              refine value_ (w1 := ?_) (v := ?_) (by rfl) rfl ?_ ?_
              rotate_left 2
              ·go_simp
               constructor
               ·rfl
               ·rfl
              refine hK.out _ _ (nz ?_)
              clear hK K
              refine la 16 (some 77) HT_ fun K hK => ?_
              refine Kd.N_append_step (Kd.slice 3 (Kd.int .i64)) (w0 := w) w.heap.size (by rfl) (.tmp 61) (.tmp 76) 47 23 (.slice none 0 0) 24 rfl Try.underlying47 info23 rfl (by decide) (by omega) u14 x14_4 t312 [.slice Ao40 t312.length co40] (fun k_ => (P1_ k_ ∨ w.heap.size ≤ k_) ∧ some k_ ≠ (u8 : Value).ownBlock ∧ some k_ ≠ (u9 : Value).ownBlock ∧ some k_ ≠ (.slice Ao37 t303.length co37 : Value).ownBlock) (fun k_ => ((fun k_ => (P1_ k_ ∨ w.heap.size ≤ k_) ∧ some k_ ≠ (u8 : Value).ownBlock ∧ some k_ ≠ (u9 : Value).ownBlock ∧ some k_ ≠ (.slice Ao37 t303.length co37 : Value).ownBlock)) k_ ∧ some k_ ≠ (u14 : Value).ownBlock) rfl rfl ?aP (fun _ hk => hk) ?aF ?aO ?aB ?aS ?aL ?_
              (case aP => exact (Kd.FK_slice_mk (Kd.R_reads' (Kd.R_mono (ok' := (fun k_ => ((fun k_ => (P1_ k_ ∨ w.heap.size ≤ k_) ∧ some k_ ≠ (u8 : Value).ownBlock ∧ some k_ ≠ (u9 : Value).ownBlock ∧ some k_ ≠ (.slice Ao37 t303.length co37 : Value).ownBlock)) k_ ∧ some k_ ≠ (u14 : Value).ownBlock)) (Kd.R_apart' (Kd.R_apart' (HO314.out) (Kd.N_typed HO_8.out) (by decide)) (Kd.N_typed HO_14.out) (by decide)) (fun k_ hk => ⟨⟨(.inr (hk.1.1.1.1.1)), ⟨hk.1.2, ⟨hk.1.1.1.2, hk.1.1.2⟩⟩⟩, hk.2⟩))).2.1 (Kd.R_F (Kd.R_mono (ok' := (fun k_ => ((fun k_ => (P1_ k_ ∨ w.heap.size ≤ k_) ∧ some k_ ≠ (u8 : Value).ownBlock ∧ some k_ ≠ (u9 : Value).ownBlock ∧ some k_ ≠ (.slice Ao37 t303.length co37 : Value).ownBlock)) k_ ∧ some k_ ≠ (u14 : Value).ownBlock)) (Kd.R_apart' (Kd.R_apart' (HO314.out) (Kd.N_typed HO_8.out) (by decide)) (Kd.N_typed HO_14.out) (by decide)) (fun k_ hk => ⟨⟨(.inr (hk.1.1.1.1.1)), ⟨hk.1.2, ⟨hk.1.1.1.2, hk.1.1.2⟩⟩⟩, hk.2⟩)))))
              (case aB => exact (bw HB))
              (case aF => exact (fun k_ hk => ⟨(.inr (Nat.le_trans (bz HB) hk)), Kd.fresh' (Kd.N_lt (wN HO_8)) k_ hk, Kd.fresh' (Kd.R_lt (wR HO_9)) k_ hk, Kd.fresh' (Kd.R_lt (wR HO_13)) k_ hk⟩))
              (case aO => exact (by (with_reducible repeat (first | apply Kd.N_alloc | apply Kd.N_drewN | apply Kd.N_drew)); exact Kd.N_mono HO_14.out (fun _ hk => ⟨hk.1.1, ⟨hk.1.2.1, ⟨hk.1.2.2.1, hk.1.2.2.2⟩⟩⟩)))
              (case aS => exact (bz HB))
              (case aL => have := LMc35.out; omega)
              intro v316 w39 ho hb hg hat
              rw [← Ny315.out] at ho
              replace HO_1 := am (Kd.V_afterv (ok := (fun k_ => (P1_ k_ ∨ w.heap.size ≤ k_) ∧ some k_ ≠ (u8 : Value).ownBlock ∧ some k_ ≠ (u9 : Value).ownBlock ∧ some k_ ≠ (.slice Ao37 t303.length co37 : Value).ownBlock ∧ some k_ ≠ (.slice Ao40 t312.length co40 : Value).ownBlock)) (by (with_reducible repeat (first | apply Kd.V_alloc | apply Kd.V_drewN | apply Kd.V_drew)); exact Kd.V_mono HO_1.out (fun _ hk => ⟨⟨hk.1.1, ⟨hk.1.2.1, ⟨hk.1.2.2.1, ⟨hk.1.2.2.2.1, hk.2⟩⟩⟩⟩, hk.1.2.2.2.2⟩)) hg hat)
              replace HO_8 := am (Kd.N_afterv (ok := (fun k_ => (P1_ k_ ∨ w.heap.size ≤ k_) ∧ some k_ ≠ (u9 : Value).ownBlock ∧ some k_ ≠ (.slice Ao37 t303.length co37 : Value).ownBlock ∧ some k_ ≠ (.slice Ao40 t312.length co40 : Value).ownBlock)) (by (with_reducible repeat (first | apply Kd.N_alloc | apply Kd.N_drewN | apply Kd.N_drew)); exact Kd.N_mono HO_8.out (fun _ hk => ⟨⟨hk.1.1, ⟨hk.1.2.1, ⟨hk.1.2.2.1, hk.2⟩⟩⟩, hk.1.2.2.2⟩)) hg hat)
              replace HO_9 := am (Kd.R_over' (wR HO_9) (Kd.N_typed (wN HO_14)) (by decide) hg)
              replace HO_13 := am (Kd.R_over' (wR HO_13) (Kd.N_typed (wN HO_14)) (by decide) hg)
              replace HL309_0 := am (Kd.V_afterv (ok := (fun k_ => (P1_ k_ ∨ w.heap.size ≤ k_) ∧ some k_ ≠ (u8 : Value).ownBlock ∧ some k_ ≠ (u9 : Value).ownBlock ∧ some k_ ≠ (.slice Ao37 t303.length co37 : Value).ownBlock ∧ some k_ ≠ (.slice Ao40 t312.length co40 : Value).ownBlock)) (by (with_reducible repeat (first | apply Kd.V_alloc | apply Kd.V_drewN | apply Kd.V_drew)); exact Kd.V_mono HL309_0.out (fun _ hk => ⟨⟨hk.1.1, ⟨hk.1.2.1, ⟨hk.1.2.2.1, ⟨hk.1.2.2.2.1, hk.2⟩⟩⟩⟩, hk.1.2.2.2.2⟩)) hg hat)
              replace HL310_0 := am (Kd.V_afterv (ok := (fun k_ => (P1_ k_ ∨ w.heap.size ≤ k_) ∧ some k_ ≠ (u8 : Value).ownBlock ∧ some k_ ≠ (u9 : Value).ownBlock ∧ some k_ ≠ (.slice Ao37 t303.length co37 : Value).ownBlock ∧ some k_ ≠ (.slice Ao40 t312.length co40 : Value).ownBlock)) (by (with_reducible repeat (first | apply Kd.V_alloc | apply Kd.V_drewN | apply Kd.V_drew)); exact Kd.V_mono HL310_0.out (fun _ hk => ⟨⟨hk.1.1, ⟨hk.1.2.1, ⟨hk.1.2.2.1, ⟨hk.1.2.2.2.1, hk.2⟩⟩⟩⟩, hk.1.2.2.2.2⟩)) hg hat)
              replace HB := am (hb)
              have HO317 := am (ho)
              clear HO_14 HO314; clear ho hb hg hat
              refine hK.out _ _ (nz ?_)
              clear hK K; refine pz 17 14 HT_ ?_
              refine done_ (done_of HT_.out (by kernel_rfl)) ?_
              try go_wp2
              go_roundg k4
              case measure => have := HK1.out; have := HK2.out; have := HJ8.out; have := HK4.out; omega
              case rel => exact ⟨(y315), (wrap64 (x15_4 + 1)), fr, H', ⟨by have := HK1.out; have := HK2.out; have := HJ8.out; have := HK4.out; omega⟩, ⟨Kd.V_below (Kd.V_mono HO_1.out (fun _ hk => ⟨hk.1.1, ⟨hk.1.2.1, ⟨hk.1.2.2.1, ⟨hk.1.2.2.2.1, hk.2⟩⟩⟩⟩)) gs⟩, ⟨Kd.N_below (Kd.N_mono HO_8.out (fun _ hk => ⟨hk.1.1, ⟨hk.1.2.1, ⟨hk.1.2.2.1, hk.2⟩⟩⟩)) gs⟩, ⟨Kd.R_below (Kd.R_mono HO_9.out (fun _ hk => ⟨hk.1.1, hk.1.2⟩)) gs⟩, ⟨Kd.R_below (Kd.R_mono HO_13.out (fun _ hk => ⟨hk.1.1, hk.1.2⟩)) gs⟩, ⟨wN HO317⟩, ⟨bw HB⟩⟩
            ·rw [if_neg c29] at H
             have c29b0 := decide_eq_false c29; clear c29; have H' := am H; clear H; go_wp2
             go_loopg [16] k4 (fun kq v16 w' => ∃ (x8_5 : List (List Int)) (x16_5 : Int), v16 = .int .i64 x16_5 ∧ Aside0 (spec_l4Reduce.l3 kq a0 x14_4 a2 x8_5 x9_1 x10_1 t303 x16_5 = some (r1, r2)) ∧ Aside0 (kq ≤ k4) ∧ Aside0 (Kd.N (Kd.slice 3 (Kd.int .i64)) 23 w' w.heap.size (fun k_ => (P1_ k_ ∨ w.heap.size ≤ k_) ∧ some k_ ≠ (u8 : Value).ownBlock ∧ some k_ ≠ (u9 : Value).ownBlock ∧ some k_ ≠ (v304 : Value).ownBlock) u14 x14_4) ∧ Aside0 (Kd.N (Kd.slice 3 (Kd.int .i64)) 23 w' w.heap.size (fun k_ => (P1_ k_ ∨ w.heap.size ≤ k_) ∧ some k_ ≠ (u14 : Value).ownBlock ∧ some k_ ≠ (u9 : Value).ownBlock ∧ some k_ ≠ (v304 : Value).ownBlock) u8 x8_5) ∧ Aside0 (Kd.R (Kd.int .i64) 3 w' w.heap.size (fun k_ => (w.heap.size ≤ k_) ∧ some k_ ≠ (v304 : Value).ownBlock) u9 x9_1) ∧ Aside0 (Kd.R (Kd.int .i64) 3 w' w.heap.size (fun k_ => (w.heap.size ≤ k_) ∧ some k_ ≠ (u9 : Value).ownBlock) v304 t303) ∧ Aside0 (Below w.heap.size w w'))
             case atStart => exact ⟨(x8_1), (0), fr, H', ⟨Nat.le_refl _⟩, ⟨wN HO_14⟩, ⟨Kd.N_below (Kd.N_mono HO_8.out (fun _ hk => ⟨hk.1, ⟨hk.2.2.2, ⟨hk.2.1, hk.2.2.1⟩⟩⟩)) gs⟩, ⟨wR HO_9⟩, ⟨wR HO_13⟩, ⟨bw HB⟩⟩
             case round =>
              clear H'; try clear c1; try clear c2; try clear p2; try clear c3; try clear p3; try clear q3; try clear hx3; try clear p6; try clear c8; try clear c8b0; try clear c10; try clear c10b0; try clear c13; try clear c14; try clear c14b0; try clear c15
              try clear c15b0; try clear c16; try clear c16b0; try clear c17; try clear c17b0; try clear c18; try clear c18b0; try clear c18b1; try clear c21; try clear c21b0; try clear c22; try clear c22b0; try clear c23; try clear c23b0; try clear c29; try clear c29b0
              try clear c30; try clear c30b0; try clear c30b1; try clear p30; try clear q30; try clear hx30; try clear c31; try clear c31b0; try clear p31; try clear q31; try clear hx31; try clear c32; try clear c32b0; try clear c33; try clear c33b0; try clear c35
              try clear hx300_0; try clear hx301_0; try clear hx302_0; try clear hx309_0; try clear hx310_0; try clear hx311_0; try clear p2; try clear p3; try clear p300; try clear p301; try clear p302; try clear p309; try clear p310; try clear p311; try clear p6
              try clear q3; try clear q300; try clear q301; try clear q302; try clear q309; try clear q310; try clear q311
              obtain ⟨x8_5, x16_5, rfl, HA, HK5, HO_1, HO_8, HO_9, HO_13, HB⟩ := hrel
              cases gk with
              | zero => exact absurd HA.out (by simp [spec_l4Reduce.l3])
              | succ k5 =>
               have H := HA.out; clear HA
               simp only [spec_l4Reduce.l3] at H
               by_cases c41 : x16_5 < (x8_5.length : Int)
               ·rw [if_pos c41] at H
                have c41b0 := decide_eq_true c41; clear c41; replace H := ifn H; obtain ⟨c42, H⟩ := H; have c42b0 := decide_eq_true c42; clear c42; replace H := ifn H; obtain ⟨c43, H⟩ := H; have c43b0 := decide_eq_true c43; clear c43; replace H := ifn H; obtain ⟨c44, H⟩ := H
                have c44b0 := decide_eq_true c44; clear c44; replace H := bs H; obtain ⟨t321, A45, H⟩ := H
                generalize hy324 : (x8_5.set (x16_5 : Int).toNat t321 : List (List Int)) = y324 at H
                have Ny324 := am hy324.symm; clear hy324; have H' := am H; clear H
                obtain ⟨Ao47, co47, eo47⟩ := Kd.N_slice HO_8.out
                subst eo47
                try go_wp2
                replace HO_1 := am (Kd.N_drew HO_1.out)
                replace HO_8 := am (Kd.N_drew HO_8.out)
                replace HO_9 := am (Kd.R_drew HO_9.out)
                replace HO_13 := am (Kd.R_drew HO_13.out)
                replace HB := am (below_drew1 HB.out)
                have p318 : 0 ≤ (x16_5 : Int) := od
                have q318 : x16_5 < (x8_5.length : Int) := od
                obtain ⟨ad318, A318_0, c318_0, e318, hx318_0, hl318_0, hi318_0⟩ := at_L4 (Kd.N_reads' HO_8.out).2.2 x16_5 p318 q318
                cases e318
                obtain ⟨ce318, hce318, hMe318, hcc318⟩ := Kd.N_get HO_8.out [] x16_5 p318 (by first | exact q318 | exact od | (have e_ := (Kd.N_reads' HO_8.out).1; omega))
                obtain ⟨ua318_0, uc318_0, rfl, ul318_0, ge318_0⟩ := Kd.FK_slice_open hMe318
                have hv318_0 := hcc318 0 _ rfl
                rw [Nat.add_zero, show ((Kd.slice 3 (Kd.int .i64))).sz = 1 from rfl, Nat.mul_one] at hv318_0
                replace hv318_0 := Option.some.inj (hv318_0.symm.trans hx318_0)
                injection hv318_0 with hva_ hvn_ hvc_
                rw [hva_] at ge318_0
                rw [hvc_] at ul318_0
                have HL318_0 := am (show Kd.V (Kd.int .i64) 3 _ w.heap.size _ _ (rd_L4 x8_5 x16_5) from Kd.V_mk ul318_0 ge318_0)
                clear hva_ hvn_ hvc_ ge318_0 ul318_0; clear hcc318 hce318
                have HR318_0 := am hi318_0
                have HC318_0 := am hl318_0
                clear hi318_0 hl318_0; replace p318 := eq_true p318; replace q318 := eq_true q318
                have p319 : 0 ≤ (x16_5 : Int) := od
                have q319 : x16_5 < (x8_5.length : Int) := od
                obtain ⟨ad319, A319_0, c319_0, e319, hx319_0, hl319_0, hi319_0⟩ := at_L4 (Kd.N_reads' HO_8.out).2.2 x16_5 p319 q319
                obtain rfl : ad318 = ad319 := (by injection e319)
                obtain ⟨ce319, hce319, hMe319, hcc319⟩ := Kd.N_get HO_8.out [] x16_5 p319 (by first | exact q319 | exact od | (have e_ := (Kd.N_reads' HO_8.out).1; omega))
                obtain ⟨ua319_0, uc319_0, rfl, ul319_0, ge319_0⟩ := Kd.FK_slice_open hMe319
                have hv319_0 := hcc319 0 _ rfl
                rw [Nat.add_zero, show ((Kd.slice 3 (Kd.int .i64))).sz = 1 from rfl, Nat.mul_one] at hv319_0
                replace hv319_0 := Option.some.inj (hv319_0.symm.trans hx319_0)
                injection hv319_0 with hva_ hvn_ hvc_
                rw [hva_] at ge319_0
                rw [hvc_] at ul319_0
                have HL319_0 := am (show Kd.V (Kd.int .i64) 3 _ w.heap.size _ _ (rd_L4 x8_5 x16_5) from Kd.V_mk ul319_0 ge319_0)
                clear hva_ hvn_ hvc_ ge319_0 ul319_0; clear hcc319 hce319
                have HR319_0 := am hi319_0
                have HC319_0 := am hl319_0
                clear hi319_0 hl319_0; replace p319 := eq_true p319; replace q319 := eq_true q319
                have ea_ := Option.some.inj (hx318_0.symm.trans hx319_0)
                injection ea_ with ea_ en_ ec_
                subst ea_; subst ec_; clear en_
                have p320 : 0 ≤ (x10_1 : Int) := od
                have q320 : x10_1 < ((rd_L4 x8_5 x16_5).length : Int) := od
                obtain ⟨ad320, e320, hx320_0⟩ := Kd.at_int HR319_0.out x10_1 p320 q320
                cases e320; replace p320 := eq_true p320; replace q320 := eq_true q320
                obtain ⟨Ao49, co49, eo49⟩ := Kd.R_slice HO_13.out
                (first | subst eo49 | (injection eo49 with f1_ f2_ f3_; have f4_ := f1_.symm; have f5_ := f3_.symm; clear f1_ f2_ f3_; subst f4_; subst f5_))
                refine st 18 (fun w' => w'.cell? (ad318.add (x16_5).toNat) = some (.slice (some ad320) (rd_L4 x8_5 x16_5).length c318_0) ∧ w'.cell? (ad318.add (x16_5).toNat) = some (.slice (some ad320) (rd_L4 x8_5 x16_5).length c318_0) ∧ w'.cell? (ad320.add (x10_1).toNat) = some (.int .i64 (rd (rd_L4 x8_5 x16_5) x10_1))) [17] spec_l4Reduce.tab24 spec_l4Reduce.bits24 (⟨hx318_0, hx319_0, hx320_0⟩) fun hHeld HT_ HW_ => ?_
                generalize wr.drew = w48 at HO_1 HO_8 HO_9 HO_13 HB HL318_0 HL319_0 HR318_0 HR319_0 hx318_0 hx319_0 hx320_0 hHeld ⊢
                refine pz 0 85 HT_ ?_; refine pz 1 86 HT_ ?_; refine pz 2 87 HT_ ?_; refine pz 3 88 HT_ ?_; refine pz 4 89 HT_ ?_; refine pz 5 90 HT_ ?_; refine pz 7 92 HT_ ?_; refine pz 8 93 HT_ ?_; refine pz 9 94 HT_ ?_; refine pz 11 96 HT_ ?_; refine pz 14 99 HT_ ?_
                refine tk 6 91 HT_ HW_ hHeld ?_; refine tk 10 95 HT_ HW_ hHeld ?_; refine pz 12 97 HT_ ?_; refine tk 13 98 HT_ HW_ hHeld ?_
                refine on 15 (some 100) HT_ fun K hK => ?_
                refine gs_ Try.func165 #[.int .i64 a0, .slice (some ad320) (rd_L4 x8_5 x16_5).length c318_0, .int .i64 (rd (rd_L4 x8_5 x16_5) x10_1), .slice Ao49 t303.length co49] ?_
                with_reducible refine (spec_l4Less.calls k5 a0 _ _ (rd_L4 x8_5 x16_5) (rd (rd_L4 x8_5 x16_5) x10_1) _ _ t303 t321 _ ?side1 ?side2 ?side3 ?side4 A45.out).mono ?_
                (case side1 => exact wC HR318_0)
                (case side2 => exact HC318_0.out)
                (case side3 => exact Kd.C_below (Kd.R_reads' HO_13.out).2.2 gs)
                (case side4 => exact (Kd.R_reads' HO_13.out).2.1)
                rintro e w50 ⟨v322, rfl, ho0, hb⟩
                have HS0_ := (hb.cell (World.block_lt_of_cell? _ _ (hHeld.1))).trans (hHeld.1)
                have HS1_ := (hb.cell (World.block_lt_of_cell? _ _ (hHeld.2.1))).trans (hHeld.2.1)
                have HS2_ := (hb.cell (World.block_lt_of_cell? _ _ (hHeld.2.2))).trans (hHeld.2.2)
                refine ⟨_, rfl, ?_⟩
                replace HO_1 := eN HO_1 (Kd.R_base ho0) hb
                replace HO_8 := eN HO_8 (Kd.R_base ho0) hb
                replace HL318_0 := eV HL318_0 (Kd.R_base ho0) hb
                replace HL319_0 := eV HL319_0 (Kd.R_base ho0) hb
                have HO323 := am (Kd.R_lower (Kd.R_new' (Kd.R_new' (Kd.R_newM (M := fun k_ => (w.heap.size ≤ k_)) ho0 (bz HB) (fun k_ h_ => h_)) (Kd.R_lt (wR HO_9))) (Kd.R_lt (wR HO_13))) (bz HB))
                replace HO_9 := eR HO_9 (Kd.R_base ho0) hb
                replace HO_13 := eR HO_13 (Kd.R_base ho0) hb
                replace HR318_0 := am (Kd.C_below (wC HR318_0) hb)
                replace HR319_0 := am (Kd.C_below (wC HR319_0) hb)
                replace HB := bq HB hb
                (try clear hb)
                (try clear hb2)
                (try clear hk)
                (try clear hi)
                (try clear ho0)
                have p46 : 0 ≤ (x16_5 : Int) := od
                have q46 : (x16_5 : Int) < ((x8_5.length : Int) : Int) := od
                obtain ⟨go46, co46, eo46, gb46, gl46, cl46, HG46⟩ := Kd.N_form HO_8.out (by omega)
                (first | cases eo46 | (injection eo46 with ea_ en_ ec_; (first | subst ea_ | (injection ea_ with ea_; subst ea_)); subst ec_; clear en_))
                have GB46 := am gb46
                have GG46 := am HG46
                clear gb46 gl46 HG46
                (first | simp only [add_plain] at hx318_0 | skip)
                (first | simp only [add_plain] at hx319_0 | skip)
                obtain ⟨ce46, hcl46, hM46, hcc46, hfr46⟩ := Kd.N_elem HO_8.out [] (x16_5 : Int) p46 q46
                obtain ⟨ua46_0, uc46_0, rfl, ul46_0, ge46_0⟩ := Kd.FK_slice_open hM46
                have hx46_0 := hcc46 0 _ rfl
                have hf46_0 := hfr46 0
                (try simp only [show ((Kd.slice 3 (Kd.int .i64))).sz = 1 from rfl, Nat.mul_one, Nat.add_zero] at hx46_0)
                (try simp only [show ((Kd.slice 3 (Kd.int .i64))).sz = 1 from rfl, Nat.mul_one, Nat.add_zero] at hf46_0)
                clear hcl46 hcc46 hfr46 hM46; replace p46 := eq_true p46; replace q46 := eq_true q46
                obtain ⟨Ao51, co51, eo51⟩ := Kd.R_slice HO323.out
                (first | subst eo51 | (injection eo51 with f1_ f2_ f3_; have f4_ := f1_.symm; have f5_ := f3_.symm; clear f1_ f2_ f3_; subst f4_; subst f5_))
                have HX52 := am (show Kd.N (Kd.slice 3 (Kd.int .i64)) 23 _ w.heap.size (fun k_ => (P1_ k_ ∨ w.heap.size ≤ k_) ∧ some k_ ≠ (u14 : Value).ownBlock ∧ some k_ ≠ (u9 : Value).ownBlock ∧ some k_ ≠ (.slice Ao49 t303.length co49 : Value).ownBlock ∧ some k_ ≠ (.slice Ao51 t321.length co51 : Value).ownBlock) (.slice (some ⟨go46, 0, none⟩) x8_5.length co47) x8_5 from (Kd.N_mono (HO_8.out) (fun k_ hk => ⟨hk.1.1, ⟨hk.1.2.1, ⟨hk.1.2.2.1, ⟨hk.1.2.2.2, hk.2⟩⟩⟩⟩)))
                replace HX52 := am (show Kd.N (Kd.slice 3 (Kd.int .i64)) 23 _ w.heap.size (fun k_ => (P1_ k_ ∨ w.heap.size ≤ k_) ∧ some k_ ≠ (u14 : Value).ownBlock ∧ some k_ ≠ (u9 : Value).ownBlock ∧ some k_ ≠ (.slice Ao49 t303.length co49 : Value).ownBlock) (.slice (some ⟨go46, 0, none⟩) x8_5.length co47) x8_5 from Kd.N_mono HX52.out (fun k_ hk => ⟨hk.1, ⟨hk.2.1, ⟨hk.2.2.1, hk.2.2.2.1⟩⟩⟩))
                obtain ⟨ce52, hcl52, hM52, hcc52, hfr52⟩ := Kd.N_elem HX52.out [] (x16_5 : Int) (od) (by have h_ : (x16_5 : Int) < ((x8_5.length : Int) : Int) := od; first | exact h_ | (have e_ := (Kd.N_reads' HO_8.out).1; omega) | simpa using h_)
                obtain ⟨ua52_0, uc52_0, rfl, ul52_0, ge52_0⟩ := Kd.FK_slice_open hM52
                have HP52 := (Kd.N_seg HX52.out (x16_5 : Int) (od) (by have h_ : (x16_5 : Int) < ((x8_5.length : Int) : Int) := od; first | exact h_ | (have e_ := (Kd.N_reads' HO_8.out).1; omega) | simpa using h_) (seg := [.slice Ao51 t321.length co51]) (j := 0) hcl52 hcc52 (show 1 ≤ 1 from by decide) (x' := t321) (Kd.FK_slice_mk (Kd.R_reads' (Kd.R_mono (ok' := (fun k_ => ((fun k_ => (P1_ k_ ∨ w.heap.size ≤ k_) ∧ some k_ ≠ (u14 : Value).ownBlock ∧ some k_ ≠ (u9 : Value).ownBlock ∧ some k_ ≠ (.slice Ao49 t303.length co49 : Value).ownBlock)) k_ ∧ k_ ≠ go46)) (Kd.R_apart' (Kd.R_apart' (HO323.out) (Kd.N_typed HO_1.out) (by decide)) (Kd.N_typed HO_8.out) (by decide)) (fun k_ hk => ⟨⟨(.inr (hk.1.1.1.1.1)), ⟨hk.1.2, ⟨hk.1.1.1.2, hk.1.1.2⟩⟩⟩, fun e_ => (hk.2) (by rw [e_]; rfl)⟩))).2.1 (Kd.R_F (Kd.R_mono (ok' := (fun k_ => ((fun k_ => (P1_ k_ ∨ w.heap.size ≤ k_) ∧ some k_ ≠ (u14 : Value).ownBlock ∧ some k_ ≠ (u9 : Value).ownBlock ∧ some k_ ≠ (.slice Ao49 t303.length co49 : Value).ownBlock)) k_ ∧ k_ ≠ go46)) (Kd.R_apart' (Kd.R_apart' (HO323.out) (Kd.N_typed HO_1.out) (by decide)) (Kd.N_typed HO_8.out) (by decide)) (fun k_ hk => ⟨⟨(.inr (hk.1.1.1.1.1)), ⟨hk.1.2, ⟨hk.1.1.1.2, hk.1.1.2⟩⟩⟩, fun e_ => (hk.2) (by rw [e_]; rfl)⟩)))) (fun _ hk => hk)).1
                (try simp only [show ((Kd.slice 3 (Kd.int .i64))).sz = 1 from rfl, Nat.mul_one, Nat.add_zero] at HP52)
                rw [← Ny324.out] at HP52
                have HQ52 := am HP52
                clear hcl52 hcc52 hfr52 hM52 HP52
                refine hK.out _ _ ⟨HS0_, HS1_, HS2_⟩ fun hHeld => nz ?_
                clear hK K; refine pz 16 101 HT_ ?_
                refine la 17 none HT_ fun K hK => ?_
                refine skip_ (w1 := ?_) (by rfl) rfl ?_ ?_
                rotate_left
                ·go_simp
                 rfl
                refine hK.out _ _ ?_
                clear hK K
                refine done_ (done_of HT_.out (by kernel_rfl)) ?_
                try go_wp2
                go_roundg k5
                case measure => have := HK1.out; have := HK2.out; have := HJ8.out; have := HK4.out; have := HK5.out; omega
                case rel => exact ⟨(y324), (wrap64 (x16_5 + 1)), fr, H', ⟨by have := HK1.out; have := HK2.out; have := HJ8.out; have := HK4.out; have := HK5.out; omega⟩, ⟨by (with_reducible repeat (first | apply Kd.N_alloc | apply Kd.N_drewN | apply Kd.N_drew)); exact Kd.N_mono (Kd.N_far (p := ⟨go46, (x16_5 : Int).toNat, none⟩) (Kd.N_mono HO_1.out (fun k_ hk => (⟨hk, fun e_ => hk.1.2.1 (by rw [e_]; rfl)⟩ : _ ∧ k_ ≠ go46))) (fun _ hk => hk.2) (.slice Ao51 t321.length co51)) (fun _ hk => ⟨hk.1.1.1, ⟨hk.1.1.2.1, ⟨hk.1.1.2.2.1, hk.1.1.2.2.2⟩⟩⟩)⟩, ⟨wN HQ52⟩, ⟨by (with_reducible repeat (first | apply Kd.R_alloc | apply Kd.R_drewN | apply Kd.R_drew)); exact Kd.R_mono (Kd.R_far (p := ⟨go46, (x16_5 : Int).toNat, none⟩) (Kd.R_types HO_9.out GG46.out (by decide)) (fun _ hk => hk.2) (.slice Ao51 t321.length co51)) (fun _ hk => ⟨hk.1.1.1, hk.1.1.2⟩)⟩, ⟨by (with_reducible repeat (first | apply Kd.R_alloc | apply Kd.R_drewN | apply Kd.R_drew)); exact Kd.R_mono (Kd.R_far (p := ⟨go46, (x16_5 : Int).toNat, none⟩) (Kd.R_types HO_13.out GG46.out (by decide)) (fun _ hk => hk.2) (.slice Ao51 t321.length co51)) (fun _ hk => ⟨hk.1.1.1, hk.1.1.2⟩)⟩, ⟨bx_ HB⟩⟩
               ·rw [if_neg c41] at H
                have c41b0 := decide_eq_false c41; clear c41; replace H := ifn H; obtain ⟨c53, H⟩ := H; have LMc53 := am c53; clear c53
                generalize hy325 : (x8_5 ++ [t303] : List (List Int)) = y325 at H
                have Ny325 := am hy325.symm; clear hy325; replace H := ifn H; obtain ⟨c54, H⟩ := H; have LMc54 := am c54; clear c54
                generalize hy328 : (x9_1 ++ [x10_1] : List Int) = y328 at H
                have Ny328 := am hy328.symm; clear hy328; have H' := am H; clear H
                obtain ⟨Ao55, co55, eo55⟩ := Kd.N_slice HO_8.out
                subst eo55
                obtain ⟨Ao57, co57, eo57⟩ := Kd.R_slice HO_13.out
                subst eo57
                go_wp2_with (first | ((with_reducible refine gate_builtin (b := .append) (xs := #[.tmp 102, .tmp 104]) rfl ?_); at_builtin; refine Kd.N_append (Kd.slice 3 (Kd.int .i64)) (w0 := w) w.heap.size rfl (.tmp 102) (.tmp 104) 47 23 (.slice none 0 0) 24 rfl Try.underlying47 info23 rfl (by decide) (by omega) (.slice Ao55 x8_5.length co55) x8_5 t303 [.slice Ao57 t303.length co57] (fun k_ => (P1_ k_ ∨ w.heap.size ≤ k_) ∧ some k_ ≠ (u14 : Value).ownBlock ∧ some k_ ≠ (u9 : Value).ownBlock) (fun k_ => ((fun k_ => (P1_ k_ ∨ w.heap.size ≤ k_) ∧ some k_ ≠ (u14 : Value).ownBlock ∧ some k_ ≠ (u9 : Value).ownBlock)) k_ ∧ some k_ ≠ (.slice Ao55 x8_5.length co55 : Value).ownBlock) rfl rfl ?aP (fun _ hk => hk) ?aF ?aO ?aB ?aS ?aL ?_; (case aP => exact (Kd.FK_slice_mk (Kd.R_reads' (Kd.R_mono (ok' := (fun k_ => ((fun k_ => (P1_ k_ ∨ w.heap.size ≤ k_) ∧ some k_ ≠ (u14 : Value).ownBlock ∧ some k_ ≠ (u9 : Value).ownBlock)) k_ ∧ some k_ ≠ (.slice Ao55 x8_5.length co55 : Value).ownBlock)) (Kd.R_apart' (Kd.R_apart' (HO_13.out) (Kd.N_typed HO_1.out) (by decide)) (Kd.N_typed HO_8.out) (by decide)) (fun k_ hk => ⟨⟨(.inr (hk.1.1.1)), ⟨hk.1.2, hk.1.1.2⟩⟩, hk.2⟩))).2.1 (Kd.R_F (Kd.R_mono (ok' := (fun k_ => ((fun k_ => (P1_ k_ ∨ w.heap.size ≤ k_) ∧ some k_ ≠ (u14 : Value).ownBlock ∧ some k_ ≠ (u9 : Value).ownBlock)) k_ ∧ some k_ ≠ (.slice Ao55 x8_5.length co55 : Value).ownBlock)) (Kd.R_apart' (Kd.R_apart' (HO_13.out) (Kd.N_typed HO_1.out) (by decide)) (Kd.N_typed HO_8.out) (by decide)) (fun k_ hk => ⟨⟨(.inr (hk.1.1.1)), ⟨hk.1.2, hk.1.1.2⟩⟩, hk.2⟩))))); (case aB => exact (bw HB)); (case aF => exact (fun k_ hk => ⟨(.inr (Nat.le_trans (bz HB) hk)), Kd.fresh' (Kd.N_lt (wN HO_1)) k_ hk, Kd.fresh' (Kd.R_lt (wR HO_9)) k_ hk⟩)); (case aO => exact (by (with_reducible repeat (first | apply Kd.N_alloc | apply Kd.N_drewN | apply Kd.N_drew)); exact Kd.N_mono HO_8.out (fun _ hk => ⟨hk.1, ⟨hk.2.1, hk.2.2.1⟩⟩))); (case aS => exact (bz HB)); (case aL => have := LMc53.out; omega); intro v326 w56 ho hb hg hat; rw [← Ny325.out] at ho; replace HO_1 := am (Kd.N_afterv (ok := (fun k_ => (P1_ k_ ∨ w.heap.size ≤ k_) ∧ some k_ ≠ (u9 : Value).ownBlock ∧ some k_ ≠ (.slice Ao57 t303.length co57 : Value).ownBlock)) (by (with_reducible repeat (first | apply Kd.N_alloc | apply Kd.N_drewN | apply Kd.N_drew)); exact Kd.N_mono HO_1.out (fun _ hk => ⟨⟨hk.1, ⟨hk.2.2.1, hk.2.2.2⟩⟩, hk.2.1⟩)) hg hat); replace HO_9 := am (Kd.R_over' (wR HO_9) (Kd.N_typed (wN HO_8)) (by decide) hg); replace HB := am (hb); have HO327 := am (ho); clear HO_8 HO_13; clear ho hb hg hat) | ((with_reducible refine gate_builtin (b := .append) (xs := #[.tmp 106, .tmp 108]) rfl ?_); at_builtin; refine Kd.R_append (Kd.int .i64) (w0 := w) w.heap.size rfl (.tmp 106) (.tmp 108) 23 3 (.int .i64 0) 8 rfl Try.underlying23 info3 rfl (by decide) (by omega) u9 x9_1 x10_1 [.int .i64 x10_1] (fun k_ => (w.heap.size ≤ k_)) (fun _ => False) rfl rfl ?aP (fun _ hk => hk.elim) ?aF ?aO ?aB ?aS ?aL ?_; (case aP => exact rfl); (case aB => exact (bw HB)); (case aF => exact (fun k_ hk => (Nat.le_trans (bz HB) hk))); (case aO => exact (by (with_reducible repeat (first | apply Kd.R_alloc | apply Kd.R_drewN | apply Kd.R_drew)); exact Kd.R_mono HO_9.out (fun _ hk => hk.1))); (case aS => exact (bz HB)); (case aL => have := LMc54.out; omega); intro v329 w58 ho hb hg hat; rw [← Ny328.out] at ho; replace HO_1 := am (Kd.N_afterv (ok := (fun k_ => (P1_ k_ ∨ w.heap.size ≤ k_) ∧ some k_ ≠ (v326 : Value).ownBlock)) (by (with_reducible repeat (first | apply Kd.N_alloc | apply Kd.N_drewN | apply Kd.N_drew)); exact Kd.N_mono HO_1.out (fun _ hk => ⟨⟨hk.1.1, hk.2⟩, hk.1.2.1⟩)) hg hat); replace HO327 := am (Kd.N_afterv (ok := (fun k_ => (P1_ k_ ∨ w.heap.size ≤ k_) ∧ some k_ ≠ (u14 : Value).ownBlock)) (by (with_reducible repeat (first | apply Kd.N_alloc | apply Kd.N_drewN | apply Kd.N_drew)); exact Kd.N_mono HO327.out (fun _ hk => ⟨⟨hk.1, hk.2.1⟩, hk.2.2⟩)) hg hat); replace HB := am (hb); have HO330 := am (ho); clear HO_9; clear ho hb hg hat))
                go_roundg k5
                case measure => have := HK1.out; have := HK2.out; have := HJ8.out; have := HK4.out; have := HK5.out; omega
                case rel => exact ⟨(x14_4), (y325), (y328), (wrap64 (x10_1 + 1)), fr, H', ⟨by have := HK1.out; have := HK2.out; have := HJ8.out; have := HK4.out; have := HK5.out; omega⟩, ⟨Kd.N_V (by (with_reducible repeat (first | apply Kd.N_alloc | apply Kd.N_drewN | apply Kd.N_drew)); exact Kd.N_mono HO_1.out (fun _ hk => ⟨hk.1.1, ⟨hk.1.2, hk.2⟩⟩))⟩, ⟨Kd.N_below (Kd.N_mono HO327.out (fun _ hk => ⟨hk.1.1, hk.2⟩)) gs⟩, ⟨wR HO330⟩, ⟨bw HB⟩⟩
   ·rw [if_neg c8] at H
    have c8b0 := decide_eq_false c8; clear c8
    simp only [Option.some.injEq, Prod.mk.injEq] at H
    obtain ⟨rfl, rfl⟩ := H; go_wp2
    go_ret2
    exact ⟨_, _, fq, wN HO_8, wR HO_9, bw HB⟩
end Go.Proofs.Ytmgbpmihbljngaa.PA

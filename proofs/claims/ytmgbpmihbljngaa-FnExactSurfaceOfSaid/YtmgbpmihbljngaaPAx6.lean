-- Written by xprint.py, a program of this claim's own (over the kit's print.py)
import Derived.Test.YtmgbpmihbljngaaPAx0
import Derived.Test.YtmgbpmihbljngaaPAx1
import Derived.Test.YtmgbpmihbljngaaPAx5
import Derived.Deep.Cut
namespace Go.Proofs.Ytmgbpmihbljngaa.PA
open Go.RowKit Go.Proofs.YtmgbpmihbljngaaW.PrintWords Go.Proofs.YtmgbpmihbljngaaW.PrintLast Go.Proofs.YtmgbpmihbljngaaW.PrintMore
attribute [local go_sem] max2_int min2_int max_two min_two max_three min_three max_four min_four   -- for this text's walks alone
set_option linter.unusedVariables false
set_option linter.unusedSimpArgs false

/-! ### spec_l4Reduce: function 150 -/
mutual
def spec_l4Reduce.l0 : Nat → Int → List (List Int) → Int → List (List Int) → List Int → Int → Option ((List (List Int)) × List Int)
 | 0, _, _, _, _, _, _ => none
 | k + 1, x0, x1, x2, x8, x9, x10 => if x10 < x2 then (spec_l4Reduce.l1 k x0 x1 x2 x8 x9 x10 (-1) 0) else (some (x8, x9))
def spec_l4Reduce.l1 : Nat → Int → List (List Int) → Int → List (List Int) → List Int → Int → Int → Int → Option ((List (List Int)) × List Int)
 | 0, _, _, _, _, _, _, _, _ => none
 | k + 1, x0, x1, x2, x8, x9, x10, x11, x12 => if x12 < (x1.length : Int) then (spec_l4Reduce.j2 k x0 x1 x2 x8 x9 x10 x11 x12 (decide (x11 < 0))) else (spec_l4Reduce.j2 k x0 x1 x2 x8 x9 x10 x11 x12 false)
def spec_l4Reduce.j2 : Nat → Int → List (List Int) → Int → List (List Int) → List Int → Int → Int → Int → Bool → Option ((List (List Int)) × List Int)
 | 0, _, _, _, _, _, _, _, _, _ => none
 | k + 1, x0, x1, x2, x8, x9, x10, x11, x12, x31 => if x31 = true then (if 0 ≤ x12 then (if x12 < (x1.length : Int) then (if 0 ≤ x10 then (if x10 < ((rd_L4 x1 x12).length : Int) then (if (rd (rd_L4 x1 x12) x10) = 0 then (spec_l4Reduce.l1 k x0 x1 x2 x8 x9 x10 x11 (wrap64 (x12 + 1))) else (spec_l4Reduce.l1 k x0 x1 x2 x8 x9 x10 x12 (wrap64 (x12 + 1)))) else (none)) else (none)) else (none)) else (none)) else (if x11 < 0 then (spec_l4Reduce.l0 k x0 x1 x2 x8 x9 (wrap64 (x10 + 1))) else (if 0 ≤ x11 then (if x11 < (x1.length : Int) then ((spec_l4Row.f k x0 (rd_L4 x1 x11)).bind fun t157 => (spec_l4Reduce.l2 k x0 x1 x2 x8 x9 x10 x11 t157 (([] : List (List Int))) 0)) else (none)) else (none)))
def spec_l4Reduce.l2 : Nat → Int → List (List Int) → Int → List (List Int) → List Int → Int → Int → List Int → List (List Int) → Int → Option ((List (List Int)) × List Int)
 | 0, _, _, _, _, _, _, _, _, _, _ => none
 | k + 1, x0, x1, x2, x8, x9, x10, x11, x13, x14, x15 => if x15 < (x1.length : Int) then (if x15 = x11 then (spec_l4Reduce.l2 k x0 x1 x2 x8 x9 x10 x11 x13 x14 (wrap64 (x15 + 1))) else (if 0 ≤ x15 then (if 0 ≤ x10 then (if x10 < ((rd_L4 x1 x15).length : Int) then ((spec_l4Less.f k x0 (rd_L4 x1 x15) (rd (rd_L4 x1 x15) x10) x13).bind fun t166 => (if x14.length < 5864062014805 then (spec_l4Reduce.l2 k x0 x1 x2 x8 x9 x10 x11 x13 (x14 ++ [t166]) (wrap64 (x15 + 1))) else (none))) else (none)) else (none)) else (none))) else (spec_l4Reduce.l3 k x0 x14 x2 x8 x9 x10 x13 0)
def spec_l4Reduce.l3 : Nat → Int → List (List Int) → Int → List (List Int) → List Int → Int → List Int → Int → Option ((List (List Int)) × List Int)
 | 0, _, _, _, _, _, _, _, _ => none
 | k + 1, x0, x1, x2, x8, x9, x10, x13, x16 => if x16 < (x8.length : Int) then (if 0 ≤ x16 then (if 0 ≤ x10 then (if x10 < ((rd_L4 x8 x16).length : Int) then ((spec_l4Less.f k x0 (rd_L4 x8 x16) (rd (rd_L4 x8 x16) x10) x13).bind fun t175 => (spec_l4Reduce.l3 k x0 x1 x2 (x8.set (x16 : Int).toNat t175) x9 x10 x13 (wrap64 (x16 + 1)))) else (none)) else (none)) else (none)) else (if x8.length < 5864062014805 then (if x9.length < 17592186044416 then (spec_l4Reduce.l0 k x0 x1 x2 (x8 ++ [x13]) (x9 ++ [x10]) (wrap64 (x10 + 1))) else (none)) else (none))
end
def spec_l4Reduce.f (k : Nat) (a0 : Int) (l1 : List (List Int)) (a2 : Int) : Option ((List (List Int)) × List Int) := spec_l4Reduce.l0 k a0 l1 a2 (([] : List (List Int))) (([] : List Int)) 0
theorem spec_l4Reduce.mono_l : ∀ k, (∀ y0 y1 y2 y3 y4 y5, LeO (spec_l4Reduce.l0 k y0 y1 y2 y3 y4 y5) (spec_l4Reduce.l0 (k + 1) y0 y1 y2 y3 y4 y5)) ∧ (∀ y0 y1 y2 y3 y4 y5 y6 y7, LeO (spec_l4Reduce.l1 k y0 y1 y2 y3 y4 y5 y6 y7) (spec_l4Reduce.l1 (k + 1) y0 y1 y2 y3 y4 y5 y6 y7)) ∧ (∀ y0 y1 y2 y3 y4 y5 y6 y7 y8, LeO (spec_l4Reduce.j2 k y0 y1 y2 y3 y4 y5 y6 y7 y8) (spec_l4Reduce.j2 (k + 1) y0 y1 y2 y3 y4 y5 y6 y7 y8)) ∧ (∀ y0 y1 y2 y3 y4 y5 y6 y7 y8 y9, LeO (spec_l4Reduce.l2 k y0 y1 y2 y3 y4 y5 y6 y7 y8 y9) (spec_l4Reduce.l2 (k + 1) y0 y1 y2 y3 y4 y5 y6 y7 y8 y9)) ∧ (∀ y0 y1 y2 y3 y4 y5 y6 y7, LeO (spec_l4Reduce.l3 k y0 y1 y2 y3 y4 y5 y6 y7) (spec_l4Reduce.l3 (k + 1) y0 y1 y2 y3 y4 y5 y6 y7))
 | 0 => ⟨fun _ _ _ _ _ _ r h => by simp [spec_l4Reduce.l0] at h, fun _ _ _ _ _ _ _ _ r h => by simp [spec_l4Reduce.l1] at h, fun _ _ _ _ _ _ _ _ _ r h => by simp [spec_l4Reduce.j2] at h, fun _ _ _ _ _ _ _ _ _ _ r h => by simp [spec_l4Reduce.l2] at h, fun _ _ _ _ _ _ _ _ r h => by simp [spec_l4Reduce.l3] at h⟩
 | k + 1 => by
  obtain ⟨ih0, ih1, ih2, ih3, ih4⟩ := spec_l4Reduce.mono_l k
  refine ⟨?_, ?_, ?_, ?_, ?_⟩
  ·intro y0 y1 y2 y3 y4 y5
   unfold spec_l4Reduce.l0
   repeat' first | (with_reducible first | apply ih0 | apply ih1 | apply ih2 | apply ih3 | apply ih4 | apply spec_l4Less.mono | apply spec_l4Row.mono | exact LeO.refl _ | exact LeO.none _ | refine LeO.ite ?_ ?_ | refine LeO.bind ?_ (fun _ => ?_)) | (first | apply ih0 | apply ih1 | apply ih2 | apply ih3 | apply ih4 | apply spec_l4Less.mono | apply spec_l4Row.mono | exact LeO.none _ | refine LeO.ite ?_ ?_ | refine LeO.bind ?_ (fun _ => ?_))
  ·intro y0 y1 y2 y3 y4 y5 y6 y7
   unfold spec_l4Reduce.l1
   repeat' first | (with_reducible first | apply ih0 | apply ih1 | apply ih2 | apply ih3 | apply ih4 | apply spec_l4Less.mono | apply spec_l4Row.mono | exact LeO.refl _ | exact LeO.none _ | refine LeO.ite ?_ ?_ | refine LeO.bind ?_ (fun _ => ?_)) | (first | apply ih0 | apply ih1 | apply ih2 | apply ih3 | apply ih4 | apply spec_l4Less.mono | apply spec_l4Row.mono | exact LeO.none _ | refine LeO.ite ?_ ?_ | refine LeO.bind ?_ (fun _ => ?_))
  ·intro y0 y1 y2 y3 y4 y5 y6 y7 y8
   unfold spec_l4Reduce.j2
   repeat' first | (with_reducible first | apply ih0 | apply ih1 | apply ih2 | apply ih3 | apply ih4 | apply spec_l4Less.mono | apply spec_l4Row.mono | exact LeO.refl _ | exact LeO.none _ | refine LeO.ite ?_ ?_ | refine LeO.bind ?_ (fun _ => ?_)) | (first | apply ih0 | apply ih1 | apply ih2 | apply ih3 | apply ih4 | apply spec_l4Less.mono | apply spec_l4Row.mono | exact LeO.none _ | refine LeO.ite ?_ ?_ | refine LeO.bind ?_ (fun _ => ?_))
  ·intro y0 y1 y2 y3 y4 y5 y6 y7 y8 y9
   unfold spec_l4Reduce.l2
   repeat' first | (with_reducible first | apply ih0 | apply ih1 | apply ih2 | apply ih3 | apply ih4 | apply spec_l4Less.mono | apply spec_l4Row.mono | exact LeO.refl _ | exact LeO.none _ | refine LeO.ite ?_ ?_ | refine LeO.bind ?_ (fun _ => ?_)) | (first | apply ih0 | apply ih1 | apply ih2 | apply ih3 | apply ih4 | apply spec_l4Less.mono | apply spec_l4Row.mono | exact LeO.none _ | refine LeO.ite ?_ ?_ | refine LeO.bind ?_ (fun _ => ?_))
  ·intro y0 y1 y2 y3 y4 y5 y6 y7
   unfold spec_l4Reduce.l3
   repeat' first | (with_reducible first | apply ih0 | apply ih1 | apply ih2 | apply ih3 | apply ih4 | apply spec_l4Less.mono | apply spec_l4Row.mono | exact LeO.refl _ | exact LeO.none _ | refine LeO.ite ?_ ?_ | refine LeO.bind ?_ (fun _ => ?_)) | (first | apply ih0 | apply ih1 | apply ih2 | apply ih3 | apply ih4 | apply spec_l4Less.mono | apply spec_l4Row.mono | exact LeO.none _ | refine LeO.ite ?_ ?_ | refine LeO.bind ?_ (fun _ => ?_))
theorem spec_l4Reduce.mono : ∀ a0 a1 a2 k, LeO (spec_l4Reduce.f k a0 a1 a2) (spec_l4Reduce.f (k + 1) a0 a1 a2) := by
 intro a0 a1 a2 k
 obtain ⟨ih0, ih1, ih2, ih3, ih4⟩ := spec_l4Reduce.mono_l k
 unfold spec_l4Reduce.f
 repeat' first | (with_reducible first | apply ih0 | apply ih1 | apply ih2 | apply ih3 | apply ih4 | apply spec_l4Less.mono | apply spec_l4Row.mono | exact LeO.refl _ | exact LeO.none _ | refine LeO.ite ?_ ?_ | refine LeO.bind ?_ (fun _ => ?_)) | (first | apply ih0 | apply ih1 | apply ih2 | apply ih3 | apply ih4 | apply spec_l4Less.mono | apply spec_l4Row.mono | exact LeO.none _ | refine LeO.ite ?_ ?_ | refine LeO.bind ?_ (fun _ => ?_))
def spec_l4Reduce.T19 : Bool × List (List Nat × List Nat) := (true, [([], []), ([], []), ([], []), ([], []), ([2, 3], [2, 3]), ([4], [4]), ([], []), ([], []), ([6, 7], [6, 7]), ([8], [8]), ([], []), ([9, 10], [9, 10]), ([11], [11]), ([], []), ([1, 5, 12, 13], [1, 5, 12, 13]), ([14], [14]), ([0, 15, 14], [0, 15]), ([16, 16, 0, 1, 2, 3, 4, 5, 6, 7, 8, 9, 10, 11, 12, 13, 14, 15, 16], [0, 16])])
def spec_l4Reduce.B19 : List Nat := [0, 0, 0, 0, 12, 28, 0, 0, 192, 448, 0, 1984, 4032, 0, 16382, 32766, 65535, 131071]
theorem spec_l4Reduce.tab19 : rtab .any (opsOf Try.f150 19) = spec_l4Reduce.T19 := by kernel_rfl
theorem spec_l4Reduce.bits19 : waitsOk spec_l4Reduce.T19.2 spec_l4Reduce.B19 = true := by kernel_rfl
def spec_l4Reduce.T24 : Bool × List (List Nat × List Nat) := (true, [([], []), ([], []), ([], []), ([], []), ([], []), ([3, 4], [3, 4]), ([5], [5]), ([], []), ([], []), ([7, 8], [7, 8]), ([9], [9]), ([], []), ([10, 11], [10, 11]), ([12], [12]), ([], []), ([2, 6, 13, 14], [2, 6, 13, 14]), ([0, 1, 0, 1, 2, 3, 4, 5, 6, 7, 8, 9, 10, 11, 12, 13, 14, 15], [0, 1]), ([16, 15, 15, 0, 1, 2, 3, 4, 5, 6, 7, 8, 9, 10, 11, 12, 13, 14, 15], [15, 16])])
def spec_l4Reduce.B24 : List Nat := [0, 0, 0, 0, 0, 24, 56, 0, 0, 384, 896, 0, 3968, 8064, 0, 32764, 65535, 131071]
theorem spec_l4Reduce.tab24 : rtab .any (opsOf Try.f150 24) = spec_l4Reduce.T24 := by kernel_rfl
theorem spec_l4Reduce.bits24 : waitsOk spec_l4Reduce.T24.2 spec_l4Reduce.B24 = true := by kernel_rfl
set_option maxHeartbeats 8000000 in
set_option maxRecDepth 100000 in
theorem spec_l4Reduce.calls (k : Nat) (a0 : Int) (P1_ : Nat → Prop) (A1 : Option Addr) (c1 : Nat) (l1 : List (List Int)) (a2 : Int) (r1 : List (List Int)) (r2 : List Int) (w : World) (hs1 : Kd.V (Kd.slice 3 (Kd.int .i64)) 23 w w.heap.size (fun k_ => P1_ k_) (.slice A1 l1.length c1) l1) (h : spec_l4Reduce.f k a0 l1 a2 = some (r1, r2)) :
  Calls Try.prog 150 #[.int .i64 a0, .slice A1 l1.length c1, .int .i64 a2] w fun e w' => ∃ v0_ v1_ : Value, e = .returned (.tuple #[v0_, v1_]) ∧ Kd.N (Kd.slice 3 (Kd.int .i64)) 23 w' w.heap.size (fun k_ => (P1_ k_ ∨ w.heap.size ≤ k_) ∧ some k_ ≠ (v1_ : Value).ownBlock) v0_ r1 ∧ Kd.R (Kd.int .i64) 3 w' w.heap.size (fun k_ => (w.heap.size ≤ k_)) v1_ r2 ∧ Below w.heap.size w w' := by
 have HO1 := am (show Kd.V (Kd.slice 3 (Kd.int .i64)) 23 w w.heap.size (fun k_ => (P1_ k_ ∨ w.heap.size ≤ k_)) (.slice A1 l1.length c1) l1 from Kd.V_mono hs1 (fun k_ hk => .inl hk))
 have HB := am (Below.refl w.heap.size w)
 have H : (spec_l4Reduce.l0 k a0 l1 a2 (([] : List (List Int))) (([] : List Int)) 0) = some (r1, r2) := h
 clear h
 obtain ⟨y148, hy148⟩ : ∃ y_ : List (List Int), y_ = (([] : List (List Int))) := ⟨_, rfl⟩
 replace H : (spec_l4Reduce.l0 k a0 l1 a2 y148 (([] : List Int)) 0) = some (r1, r2) := by first | (rw [hy148]; with_reducible exact H) | (have H2_ := (Option.bind_some _ _).symm.trans H; rw [hy148]; with_reducible exact H2_) | (have H2_ := (Option.bind_some _ _).symm.trans H; with_reducible exact H2_) | with_reducible exact H | (rw [hy148]; exact H) | exact H
 have Ny148 := am hy148; clear hy148
 generalize hy151 : (([] : List Int)) = y151 at H
 have Ny151 := am hy151.symm; clear hy151; have H' := am H; clear H
 go_enter Try.func150, Try.ntmps150
 go_wp2_with (first | ((with_reducible refine gate_dst (N := 17) rfl ?_); refine Kd.N_lit (Kd.slice 3 (Kd.int .i64)) _ 23 ?hg (N' := 17) ?hd (xs := ([] : List (List Int))) (inner := []) (ok := (fun k_ => (P1_ k_ ∨ w.heap.size ≤ k_))) (okp := (fun k_ => (P1_ k_ ∨ w.heap.size ≤ k_))) ?hr ?hp (fun _ hk => hk) ((show ∀ k_, w.heap.size ≤ k_ → (fun k_ => (P1_ k_ ∨ w.heap.size ≤ k_)) k_ from fun k_ hk => (.inr (Nat.le_trans (bz HB) hk))) _ (Nat.le_refl _)) (Below.refl _ _) (Nat.le_refl _) (by simp) ?_; (case hd => rfl); (case hg => rfl); (case hr => first | (go_simp; done) | (go_simp; rfl)); (case hp => exact (Reps.none _ _)); intro v149 w4 ho5 hb hg_ hnew_; clear hg_ hnew_; (first | rw [← Ny148.out] at ho5 | (simp only [Int.reduceToNat] at ho5; rw [← Ny148.out] at ho5)); replace HO1 := eV HO1 (Kd.N_base ho5) hb; have HO150 := am (Kd.N_lower ho5 (bz HB)); replace HB := bq HB hb; clear hb ho5) | ((with_reducible refine gate_dst (N := 18) rfl ?_); refine li 3 ([] : List Int) ?_; intro v152 w6 ho7 hb; (first | rw [← Ny151.out] at ho7 | (simp only [Int.reduceToNat] at ho7; rw [← Ny151.out] at ho7)); replace HO1 := eV HO1 (Kd.R_base ho7) hb; replace HO150 := eN HO150 (Kd.R_base ho7) hb; have HO153 := am (mR ho7 HB); replace HB := bq HB hb; clear hb ho7))
 go_loopg [1, 8, 9, 10] k (fun kq v1 v8 v9 v10 w' => ∃ (x1_1 : List (List Int)) (x8_1 : List (List Int)) (x9_1 : List Int) (x10_1 : Int), v10 = .int .i64 x10_1 ∧ Aside0 (spec_l4Reduce.l0 kq a0 x1_1 a2 x8_1 x9_1 x10_1 = some (r1, r2)) ∧ Aside0 (kq ≤ k) ∧ Aside0 (Kd.V (Kd.slice 3 (Kd.int .i64)) 23 w' w.heap.size (fun k_ => (P1_ k_ ∨ w.heap.size ≤ k_) ∧ some k_ ≠ (v8 : Value).ownBlock ∧ some k_ ≠ (v9 : Value).ownBlock) v1 x1_1) ∧ Aside0 (Kd.N (Kd.slice 3 (Kd.int .i64)) 23 w' w.heap.size (fun k_ => (P1_ k_ ∨ w.heap.size ≤ k_) ∧ some k_ ≠ (v9 : Value).ownBlock) v8 x8_1) ∧ Aside0 (Kd.R (Kd.int .i64) 3 w' w.heap.size (fun k_ => (w.heap.size ≤ k_)) v9 x9_1) ∧ Aside0 (Below w.heap.size w w'))
 case atStart => exact ⟨(l1), (y148), (y151), (0), fr, H', ⟨Nat.le_refl _⟩, ⟨Kd.V_below (Kd.V_mono HO1.out (fun _ hk => ⟨hk.1.1, ⟨hk.1.2, hk.2⟩⟩)) gs⟩, ⟨wN HO150⟩, ⟨Kd.R_below (Kd.R_mono HO153.out (fun _ hk => hk.1)) gs⟩, ⟨bw HB⟩⟩
 case round =>
  clear H'; try clear c1; try clear p2
  obtain ⟨x1_1, x8_1, x9_1, x10_1, rfl, HA, HK1, HO_1, HO_8, HO_9, HB⟩ := hrel
  cases gk with
  | zero => exact absurd HA.out (by simp [spec_l4Reduce.l0])
  | succ k1 =>
   have H := HA.out; clear HA
   simp only [spec_l4Reduce.l0] at H
   by_cases c8 : x10_1 < a2
   ·rw [if_pos c8] at H
    have c8b0 := decide_eq_true c8; clear c8; have H' := am H; clear H; go_wp2
    go_loopg [11, 12] k1 (fun kq v11 v12 w' => ∃ (x11_2 : Int) (x12_2 : Int), v11 = .int .i64 x11_2 ∧ v12 = .int .i64 x12_2 ∧ Aside0 (spec_l4Reduce.l1 kq a0 x1_1 a2 x8_1 x9_1 x10_1 x11_2 x12_2 = some (r1, r2)) ∧ Aside0 (kq ≤ k1) ∧ Aside0 (Kd.V (Kd.slice 3 (Kd.int .i64)) 23 w' w.heap.size (fun k_ => (P1_ k_ ∨ w.heap.size ≤ k_) ∧ some k_ ≠ (u8 : Value).ownBlock ∧ some k_ ≠ (u9 : Value).ownBlock) u1 x1_1) ∧ Aside0 (Kd.N (Kd.slice 3 (Kd.int .i64)) 23 w' w.heap.size (fun k_ => (P1_ k_ ∨ w.heap.size ≤ k_) ∧ some k_ ≠ (u9 : Value).ownBlock) u8 x8_1) ∧ Aside0 (Kd.R (Kd.int .i64) 3 w' w.heap.size (fun k_ => (w.heap.size ≤ k_)) u9 x9_1) ∧ Aside0 (Below w.heap.size w w'))
    case atStart => exact ⟨((-1)), (0), fr, fr, H', ⟨Nat.le_refl _⟩, ⟨wV HO_1⟩, ⟨wN HO_8⟩, ⟨wR HO_9⟩, ⟨bw HB⟩⟩
    case round =>
     clear H'; try clear c1; try clear p2; try clear c8; try clear c8b0; try clear p2
     obtain ⟨x11_2, x12_2, rfl, rfl, HA, HK2, HO_1, HO_8, HO_9, HB⟩ := hrel
     cases gk with
     | zero => exact absurd HA.out (by simp [spec_l4Reduce.l1])
     | succ k2 =>
      have H := HA.out; clear HA
      simp only [spec_l4Reduce.l1] at H
      have HC9 := am H
      clear H
      go_upto_region 8 with (fail)
      go_cut [31] (fun v31 wc => ∃ (kq : Nat) (x31_8 : Bool), v31 = .bool x31_8 ∧ Aside0 (spec_l4Reduce.j2 kq a0 x1_1 a2 x8_1 x9_1 x10_1 x11_2 x12_2 x31_8 = some (r1, r2)) ∧ Aside0 (kq ≤ k2) ∧ Aside0 (Kd.V (Kd.slice 3 (Kd.int .i64)) 23 wc w.heap.size (fun k_ => (P1_ k_ ∨ w.heap.size ≤ k_) ∧ some k_ ≠ (u8 : Value).ownBlock ∧ some k_ ≠ (u9 : Value).ownBlock) u1 x1_1) ∧ Aside0 (Kd.N (Kd.slice 3 (Kd.int .i64)) 23 wc w.heap.size (fun k_ => (P1_ k_ ∨ w.heap.size ≤ k_) ∧ some k_ ≠ (u9 : Value).ownBlock) u8 x8_1) ∧ Aside0 (Kd.R (Kd.int .i64) 3 wc w.heap.size (fun k_ => (w.heap.size ≤ k_)) u9 x9_1) ∧ Aside0 (Below w.heap.size w wc))
      case first =>
       have H := HC9.out
       clear HC9
       by_cases c10 : x12_2 < (x1_1.length : Int)
       ·rw [if_pos c10] at H
        have c10b0 := decide_eq_true c10; clear c10
        (first | rw [c10b0] | (simp only [i64_w, i32_w]; rw [c10b0]) | skip)
        have H' := am H; clear H
        obtain ⟨Ao11, co11, eo11⟩ := Kd.V_slice HO_1.out
        subst eo11; go_wp2
        go_meet
        case rel => exact ⟨_, (decide (x11_2 < 0)), fr, H', ⟨by have := HK1.out; have := HK2.out; first | omega | exact Nat.le_refl _⟩, ⟨wV HO_1⟩, ⟨wN HO_8⟩, ⟨wR HO_9⟩, ⟨bw HB⟩⟩
       ·rw [if_neg c10] at H
        have c10b0 := decide_eq_false c10; clear c10
        (first | rw [c10b0] | (simp only [i64_w, i32_w]; rw [c10b0]) | skip)
        have H' := am H; clear H
        obtain ⟨Ao12, co12, eo12⟩ := Kd.V_slice HO_1.out
        subst eo12; go_wp2
        go_meet
        case rel => exact ⟨_, (false), fr, H', ⟨by have := HK1.out; have := HK2.out; first | omega | exact Nat.le_refl _⟩, ⟨wV HO_1⟩, ⟨wN HO_8⟩, ⟨wR HO_9⟩, ⟨bw HB⟩⟩
      case rest =>
       clear HC9; try clear c1; try clear p2; try clear c8; try clear c8b0; try clear c10; try clear c10b0; try clear p2
       obtain ⟨kq, x31_8, rfl, HA, HJ8, HO_1, HO_8, HO_9, HB⟩ := hcut
       cases kq with
       | zero => exact absurd HA.out (by simp [spec_l4Reduce.j2])
       | succ kj8 =>
        have H := HA.out; clear HA
        simp only [spec_l4Reduce.j2] at H
        by_cases c13 : x31_8 = true
        ·subst c13
         rw [if_pos rfl] at H
         replace H := ifn H; obtain ⟨c14, H⟩ := H; have c14b0 := decide_eq_true c14; clear c14; replace H := ifn H; obtain ⟨c15, H⟩ := H; have c15b0 := decide_eq_true c15; clear c15; replace H := ifn H; obtain ⟨c16, H⟩ := H; have c16b0 := decide_eq_true c16
         clear c16; replace H := ifn H; obtain ⟨c17, H⟩ := H; have c17b0 := decide_eq_true c17; clear c17
         by_cases c18 : (rd (rd_L4 x1_1 x12_2) x10_1) = 0
         ·rw [if_pos c18] at H
          have c18b0 := beq_iff_eq.mpr c18; have c18b1 := bne_eq_false_iff_eq.mpr c18; clear c18; have H' := am H; clear H
          obtain ⟨Ao19, co19, eo19⟩ := Kd.V_slice HO_1.out
          subst eo19
          have p154 : 0 ≤ (x12_2 : Int) := od
          have q154 : x12_2 < (x1_1.length : Int) := od
          obtain ⟨ad154, A154_0, c154_0, e154, hx154_0, hl154_0, hi154_0⟩ := at_L4 (Kd.V_reads' HO_1.out).2.2 x12_2 p154 q154
          cases e154
          obtain ⟨ce154, hce154, hMe154, hcc154⟩ := Kd.V_get HO_1.out [] x12_2 p154 (by first | exact q154 | exact od | (have e_ := (Kd.V_reads' HO_1.out).1; omega))
          obtain ⟨ua154_0, uc154_0, rfl, ul154_0, ge154_0⟩ := Kd.FK_slice_open hMe154
          have hv154_0 := hcc154 0 _ rfl
          rw [Nat.add_zero, show ((Kd.slice 3 (Kd.int .i64))).sz = 1 from rfl, Nat.mul_one] at hv154_0
          replace hv154_0 := Option.some.inj (hv154_0.symm.trans hx154_0)
          injection hv154_0 with hva_ hvn_ hvc_
          rw [hva_] at ge154_0
          rw [hvc_] at ul154_0
          have HL154_0 := am (show Kd.V (Kd.int .i64) 3 _ w.heap.size _ _ (rd_L4 x1_1 x12_2) from Kd.V_mk ul154_0 ge154_0)
          clear hva_ hvn_ hvc_ ge154_0 ul154_0; clear hcc154 hce154
          have HR154_0 := am hi154_0
          have HC154_0 := am hl154_0
          clear hi154_0 hl154_0; replace p154 := eq_true p154; replace q154 := eq_true q154
          have p155 : 0 ≤ (x10_1 : Int) := od
          have q155 : x10_1 < ((rd_L4 x1_1 x12_2).length : Int) := od
          obtain ⟨ad155, e155, hx155_0⟩ := Kd.at_int HR154_0.out x10_1 p155 q155
          cases e155; replace p155 := eq_true p155; replace q155 := eq_true q155; go_wp2
          go_roundg kj8
          case measure => have := HK1.out; have := HK2.out; have := HJ8.out; omega
          case rel => exact ⟨(x11_2), (wrap64 (x12_2 + 1)), fr, fr, H', ⟨by have := HK1.out; have := HK2.out; have := HJ8.out; omega⟩, ⟨wV HO_1⟩, ⟨wN HO_8⟩, ⟨wR HO_9⟩, ⟨bw HB⟩⟩
         ·rw [if_neg c18] at H
          have c18b0 := beq_eq_false_iff_ne.mpr c18; have c18b1 := bne_iff_ne.mpr c18; have H' := am H; clear H
          obtain ⟨Ao20, co20, eo20⟩ := Kd.V_slice HO_1.out
          subst eo20
          have p154 : 0 ≤ (x12_2 : Int) := od
          have q154 : x12_2 < (x1_1.length : Int) := od
          obtain ⟨ad154, A154_0, c154_0, e154, hx154_0, hl154_0, hi154_0⟩ := at_L4 (Kd.V_reads' HO_1.out).2.2 x12_2 p154 q154
          cases e154
          obtain ⟨ce154, hce154, hMe154, hcc154⟩ := Kd.V_get HO_1.out [] x12_2 p154 (by first | exact q154 | exact od | (have e_ := (Kd.V_reads' HO_1.out).1; omega))
          obtain ⟨ua154_0, uc154_0, rfl, ul154_0, ge154_0⟩ := Kd.FK_slice_open hMe154
          have hv154_0 := hcc154 0 _ rfl
          rw [Nat.add_zero, show ((Kd.slice 3 (Kd.int .i64))).sz = 1 from rfl, Nat.mul_one] at hv154_0
          replace hv154_0 := Option.some.inj (hv154_0.symm.trans hx154_0)
          injection hv154_0 with hva_ hvn_ hvc_
          rw [hva_] at ge154_0
          rw [hvc_] at ul154_0
          have HL154_0 := am (show Kd.V (Kd.int .i64) 3 _ w.heap.size _ _ (rd_L4 x1_1 x12_2) from Kd.V_mk ul154_0 ge154_0)
          clear hva_ hvn_ hvc_ ge154_0 ul154_0; clear hcc154 hce154
          have HR154_0 := am hi154_0
          have HC154_0 := am hl154_0
          clear hi154_0 hl154_0; replace p154 := eq_true p154; replace q154 := eq_true q154
          have p155 : 0 ≤ (x10_1 : Int) := od
          have q155 : x10_1 < ((rd_L4 x1_1 x12_2).length : Int) := od
          obtain ⟨ad155, e155, hx155_0⟩ := Kd.at_int HR154_0.out x10_1 p155 q155
          cases e155; replace p155 := eq_true p155; replace q155 := eq_true q155; go_wp2
          go_roundg kj8
          case measure => have := HK1.out; have := HK2.out; have := HJ8.out; omega
          case rel => exact ⟨(x12_2), (wrap64 (x12_2 + 1)), fr, fr, H', ⟨by have := HK1.out; have := HK2.out; have := HJ8.out; omega⟩, ⟨wV HO_1⟩, ⟨wN HO_8⟩, ⟨wR HO_9⟩, ⟨bw HB⟩⟩
        ·replace c13 := Bool.eq_false_iff.mpr c13
         subst c13
         rw [if_neg (show ¬ (false = true) by decide)] at H
         by_cases c21 : x11_2 < 0
         ·rw [if_pos c21] at H
          have c21b0 := decide_eq_true c21; clear c21; have H' := am H; clear H; go_wp2
          go_roundg kj8
          case measure => have := HK1.out; have := HK2.out; have := HJ8.out; omega
          case rel => exact ⟨(x1_1), (x8_1), (x9_1), (wrap64 (x10_1 + 1)), fr, H', ⟨by have := HK1.out; have := HK2.out; have := HJ8.out; omega⟩, ⟨wV HO_1⟩, ⟨wN HO_8⟩, ⟨wR HO_9⟩, ⟨bw HB⟩⟩
         ·rw [if_neg c21] at H
          have c21b0 := decide_eq_false c21; clear c21; replace H := ifn H; obtain ⟨c22, H⟩ := H; have c22b0 := decide_eq_true c22; clear c22; replace H := ifn H; obtain ⟨c23, H⟩ := H; have c23b0 := decide_eq_true c23; clear c23; replace H := bs H; obtain ⟨t157, A24, H⟩ := H
          generalize hy160 : (([] : List (List Int))) = y160 at H
          have Ny160 := am hy160.symm; clear hy160; have H' := am H; clear H
          obtain ⟨Ao25, co25, eo25⟩ := Kd.V_slice HO_1.out
          subst eo25
          have p156 : 0 ≤ (x11_2 : Int) := od
          have q156 : x11_2 < (x1_1.length : Int) := od
          obtain ⟨ad156, A156_0, c156_0, e156, hx156_0, hl156_0, hi156_0⟩ := at_L4 (Kd.V_reads' HO_1.out).2.2 x11_2 p156 q156
          cases e156
          obtain ⟨ce156, hce156, hMe156, hcc156⟩ := Kd.V_get HO_1.out [] x11_2 p156 (by first | exact q156 | exact od | (have e_ := (Kd.V_reads' HO_1.out).1; omega))
          obtain ⟨ua156_0, uc156_0, rfl, ul156_0, ge156_0⟩ := Kd.FK_slice_open hMe156
          have hv156_0 := hcc156 0 _ rfl
          rw [Nat.add_zero, show ((Kd.slice 3 (Kd.int .i64))).sz = 1 from rfl, Nat.mul_one] at hv156_0
          replace hv156_0 := Option.some.inj (hv156_0.symm.trans hx156_0)
          injection hv156_0 with hva_ hvn_ hvc_
          rw [hva_] at ge156_0
          rw [hvc_] at ul156_0
          have HL156_0 := am (show Kd.V (Kd.int .i64) 3 _ w.heap.size _ _ (rd_L4 x1_1 x11_2) from Kd.V_mk ul156_0 ge156_0)
          clear hva_ hvn_ hvc_ ge156_0 ul156_0; clear hcc156 hce156
          have HR156_0 := am hi156_0
          have HC156_0 := am hl156_0
          clear hi156_0 hl156_0; replace p156 := eq_true p156; replace q156 := eq_true q156
          go_wp2_with (first | ((with_reducible refine gate_callee (f := 80) rfl ?_); refine gl 50 Try.func80 #[.int .i64 a0, .slice A156_0 (rd_L4 x1_1 x11_2).length c156_0] ?_; (with_reducible refine (spec_l4Row.calls kj8 a0 _ _ (rd_L4 x1_1 x11_2) t157 _ ?_ ?_ A24.out).mono ?_); exact wC HR156_0; exact HC156_0.out; rintro e w26 ⟨v158, rfl, ho0, hb⟩; refine ⟨_, rfl, ?_⟩; replace HO_1 := eV HO_1 (Kd.R_base ho0) hb; replace HO_8 := eN HO_8 (Kd.R_base ho0) hb; replace HL156_0 := eV HL156_0 (Kd.R_base ho0) hb; have HO159 := am (Kd.R_lower (Kd.R_new' (Kd.R_newM (M := fun k_ => (w.heap.size ≤ k_)) ho0 (bz HB) (fun k_ h_ => h_)) (Kd.R_lt (wR HO_9))) (bz HB)); replace HO_9 := eR HO_9 (Kd.R_base ho0) hb; replace HR156_0 := am (Kd.C_below (wC HR156_0) hb); replace HB := bq HB hb; (try clear hb); (try clear ho0)) | ((with_reducible refine gate_dst (N := 51) rfl ?_); refine Kd.N_lit (Kd.slice 3 (Kd.int .i64)) _ 23 ?hg (N' := 51) ?hd (xs := ([] : List (List Int))) (inner := []) (ok := (fun k_ => (P1_ k_ ∨ w.heap.size ≤ k_) ∧ some k_ ≠ (u8 : Value).ownBlock ∧ some k_ ≠ (u9 : Value).ownBlock ∧ some k_ ≠ (v158 : Value).ownBlock)) (okp := (fun k_ => (P1_ k_ ∨ w.heap.size ≤ k_) ∧ some k_ ≠ (u8 : Value).ownBlock ∧ some k_ ≠ (u9 : Value).ownBlock ∧ some k_ ≠ (v158 : Value).ownBlock)) ?hr ?hp (fun _ hk => hk) ((show ∀ k_, w26.heap.size ≤ k_ → (fun k_ => (P1_ k_ ∨ w.heap.size ≤ k_) ∧ some k_ ≠ (u8 : Value).ownBlock ∧ some k_ ≠ (u9 : Value).ownBlock ∧ some k_ ≠ (v158 : Value).ownBlock) k_ from fun k_ hk => ⟨(.inr (Nat.le_trans (bz HB) hk)), Kd.fresh' (Kd.N_lt (wN HO_8)) k_ hk, Kd.fresh' (Kd.R_lt (wR HO_9)) k_ hk, Kd.fresh' (Kd.R_lt (wR HO159)) k_ hk⟩) _ (Nat.le_refl _)) (Below.refl _ _) (Nat.le_refl _) (by simp) ?_; (case hd => rfl); (case hg => rfl); (case hr => first | (go_simp; done) | (go_simp; rfl)); (case hp => exact (Reps.none _ _)); intro v161 w27 ho28 hb hg_ hnew_; clear hg_ hnew_; (first | rw [← Ny160.out] at ho28 | (simp only [Int.reduceToNat] at ho28; rw [← Ny160.out] at ho28)); replace HO_1 := eV HO_1 (Kd.N_base ho28) hb; replace HO_8 := eN HO_8 (Kd.N_base ho28) hb; replace HO_9 := am (Kd.R_below (wR HO_9) hb); replace HL156_0 := eV HL156_0 (Kd.N_base ho28) hb; replace HO159 := am (Kd.R_below (wR HO159) hb); have HO162 := am (Kd.N_lower ho28 (bz HB)); replace HR156_0 := am (Kd.C_below (wC HR156_0) hb); replace HB := bq HB hb; clear hb ho28))
          go_loopg [14, 15] kj8 (fun kq v14 v15 w' => ∃ (x14_4 : List (List Int)) (x15_4 : Int), v15 = .int .i64 x15_4 ∧ Aside0 (spec_l4Reduce.l2 kq a0 x1_1 a2 x8_1 x9_1 x10_1 x11_2 t157 x14_4 x15_4 = some (r1, r2)) ∧ Aside0 (kq ≤ kj8) ∧ Aside0 (Kd.V (Kd.slice 3 (Kd.int .i64)) 23 w' w.heap.size (fun k_ => (P1_ k_ ∨ w.heap.size ≤ k_) ∧ some k_ ≠ (u8 : Value).ownBlock ∧ some k_ ≠ (u9 : Value).ownBlock ∧ some k_ ≠ (v158 : Value).ownBlock ∧ some k_ ≠ (v14 : Value).ownBlock) (.slice (some ad156) x1_1.length co25) x1_1) ∧ Aside0 (Kd.N (Kd.slice 3 (Kd.int .i64)) 23 w' w.heap.size (fun k_ => (P1_ k_ ∨ w.heap.size ≤ k_) ∧ some k_ ≠ (u9 : Value).ownBlock ∧ some k_ ≠ (v158 : Value).ownBlock ∧ some k_ ≠ (v14 : Value).ownBlock) u8 x8_1) ∧ Aside0 (Kd.R (Kd.int .i64) 3 w' w.heap.size (fun k_ => (w.heap.size ≤ k_) ∧ some k_ ≠ (v158 : Value).ownBlock) u9 x9_1) ∧ Aside0 (Kd.R (Kd.int .i64) 3 w' w.heap.size (fun k_ => (w.heap.size ≤ k_) ∧ some k_ ≠ (u9 : Value).ownBlock) v158 t157) ∧ Aside0 (Kd.N (Kd.slice 3 (Kd.int .i64)) 23 w' w.heap.size (fun k_ => (P1_ k_ ∨ w.heap.size ≤ k_) ∧ some k_ ≠ (u8 : Value).ownBlock ∧ some k_ ≠ (u9 : Value).ownBlock ∧ some k_ ≠ (v158 : Value).ownBlock) v14 x14_4) ∧ Aside0 (Below w.heap.size w w'))
          case atStart => exact ⟨(y160), (0), fr, H', ⟨Nat.le_refl _⟩, ⟨Kd.V_below (Kd.V_mono HO_1.out (fun _ hk => ⟨hk.1.1.1, ⟨hk.1.1.2.1, ⟨hk.1.1.2.2, ⟨hk.1.2, hk.2⟩⟩⟩⟩)) gs⟩, ⟨Kd.N_below (Kd.N_mono HO_8.out (fun _ hk => ⟨hk.1.1.1, ⟨hk.1.1.2, ⟨hk.1.2, hk.2⟩⟩⟩)) gs⟩, ⟨wR HO_9⟩, ⟨Kd.R_below (Kd.R_mono HO159.out (fun _ hk => ⟨hk.1.1, hk.2⟩)) gs⟩, ⟨wN HO162⟩, ⟨bw HB⟩⟩
          case round =>
           clear H'; try clear c1; try clear p1; try clear q1; try clear hx1; try clear c2; try clear p2; try clear p6; try clear c8; try clear c8b0; try clear c10; try clear c10b0; try clear c13; try clear c14; try clear c14b0; try clear c15; try clear c15b0
           try clear p15; try clear q15; try clear hx15; try clear c16; try clear c16b0; try clear c17; try clear c17b0; try clear c18; try clear c18b0; try clear c18b1; try clear c21; try clear c21b0; try clear c22; try clear c22b0; try clear c23; try clear c23b0
           try clear hx154_0; try clear hx155_0; try clear hx156_0; try clear p154; try clear p155; try clear p156; try clear p2; try clear q154; try clear q155; try clear q156
           obtain ⟨x14_4, x15_4, rfl, HA, HK4, HO_1, HO_8, HO_9, HO_13, HO_14, HB⟩ := hrel
           cases gk with
           | zero => exact absurd HA.out (by simp [spec_l4Reduce.l2])
           | succ k4 =>
            have H := HA.out; clear HA
            simp only [spec_l4Reduce.l2] at H
            by_cases c29 : x15_4 < (x1_1.length : Int)
            ·rw [if_pos c29] at H
             have c29b0 := decide_eq_true c29; clear c29
             by_cases c30 : x15_4 = x11_2
             ·rw [if_pos c30] at H
              have c30b0 := beq_iff_eq.mpr c30; have c30b1 := bne_eq_false_iff_eq.mpr c30; clear c30; have H' := am H; clear H; go_wp2
              go_roundg k4
              case measure => have := HK1.out; have := HK2.out; have := HJ8.out; have := HK4.out; omega
              case rel => exact ⟨(x14_4), (wrap64 (x15_4 + 1)), fr, H', ⟨by have := HK1.out; have := HK2.out; have := HJ8.out; have := HK4.out; omega⟩, ⟨wV HO_1⟩, ⟨wN HO_8⟩, ⟨wR HO_9⟩, ⟨wR HO_13⟩, ⟨wN HO_14⟩, ⟨bw HB⟩⟩
             ·rw [if_neg c30] at H
              have c30b0 := beq_eq_false_iff_ne.mpr c30; have c30b1 := bne_iff_ne.mpr c30; replace H := ifn H; obtain ⟨c31, H⟩ := H; have c31b0 := decide_eq_true c31; clear c31; replace H := ifn H; obtain ⟨c32, H⟩ := H; have c32b0 := decide_eq_true c32; clear c32
              replace H := ifn H; obtain ⟨c33, H⟩ := H; have c33b0 := decide_eq_true c33; clear c33; replace H := bs H; obtain ⟨t166, A34, H⟩ := H; replace H := ifn H; obtain ⟨c35, H⟩ := H; have LMc35 := am c35; clear c35
              generalize hy169 : (x14_4 ++ [t166] : List (List Int)) = y169 at H
              have Ny169 := am hy169.symm; clear hy169; have H' := am H; clear H
              try go_wp2
              replace HO_1 := am (Kd.V_drew HO_1.out)
              replace HO_8 := am (Kd.N_drew HO_8.out)
              replace HO_9 := am (Kd.R_drew HO_9.out)
              replace HO_13 := am (Kd.R_drew HO_13.out)
              replace HO_14 := am (Kd.N_drew HO_14.out)
              replace HB := am (below_drew1 HB.out)
              have p163 : 0 ≤ (x15_4 : Int) := od
              have q163 : x15_4 < (x1_1.length : Int) := od
              obtain ⟨ad163, A163_0, c163_0, e163, hx163_0, hl163_0, hi163_0⟩ := at_L4 (Kd.V_reads' HO_1.out).2.2 x15_4 p163 q163
              obtain rfl : ad156 = ad163 := (by injection e163)
              obtain ⟨ce163, hce163, hMe163, hcc163⟩ := Kd.V_get HO_1.out [] x15_4 p163 (by first | exact q163 | exact od | (have e_ := (Kd.V_reads' HO_1.out).1; omega))
              obtain ⟨ua163_0, uc163_0, rfl, ul163_0, ge163_0⟩ := Kd.FK_slice_open hMe163
              have hv163_0 := hcc163 0 _ rfl
              rw [Nat.add_zero, show ((Kd.slice 3 (Kd.int .i64))).sz = 1 from rfl, Nat.mul_one] at hv163_0
              replace hv163_0 := Option.some.inj (hv163_0.symm.trans hx163_0)
              injection hv163_0 with hva_ hvn_ hvc_
              rw [hva_] at ge163_0
              rw [hvc_] at ul163_0
              have HL163_0 := am (show Kd.V (Kd.int .i64) 3 _ w.heap.size _ _ (rd_L4 x1_1 x15_4) from Kd.V_mk ul163_0 ge163_0)
              clear hva_ hvn_ hvc_ ge163_0 ul163_0; clear hcc163 hce163
              have HR163_0 := am hi163_0
              have HC163_0 := am hl163_0
              clear hi163_0 hl163_0; replace p163 := eq_true p163; replace q163 := eq_true q163
              have p164 : 0 ≤ (x15_4 : Int) := od
              have q164 : x15_4 < (x1_1.length : Int) := od
              obtain ⟨ad164, A164_0, c164_0, e164, hx164_0, hl164_0, hi164_0⟩ := at_L4 (Kd.V_reads' HO_1.out).2.2 x15_4 p164 q164
              obtain rfl : ad156 = ad164 := (by injection e164)
              obtain ⟨ce164, hce164, hMe164, hcc164⟩ := Kd.V_get HO_1.out [] x15_4 p164 (by first | exact q164 | exact od | (have e_ := (Kd.V_reads' HO_1.out).1; omega))
              obtain ⟨ua164_0, uc164_0, rfl, ul164_0, ge164_0⟩ := Kd.FK_slice_open hMe164
              have hv164_0 := hcc164 0 _ rfl
              rw [Nat.add_zero, show ((Kd.slice 3 (Kd.int .i64))).sz = 1 from rfl, Nat.mul_one] at hv164_0
              replace hv164_0 := Option.some.inj (hv164_0.symm.trans hx164_0)
              injection hv164_0 with hva_ hvn_ hvc_
              rw [hva_] at ge164_0
              rw [hvc_] at ul164_0
              have HL164_0 := am (show Kd.V (Kd.int .i64) 3 _ w.heap.size _ _ (rd_L4 x1_1 x15_4) from Kd.V_mk ul164_0 ge164_0)
              clear hva_ hvn_ hvc_ ge164_0 ul164_0; clear hcc164 hce164
              have HR164_0 := am hi164_0
              have HC164_0 := am hl164_0
              clear hi164_0 hl164_0; replace p164 := eq_true p164; replace q164 := eq_true q164
              have ea_ := Option.some.inj (hx163_0.symm.trans hx164_0)
              injection ea_ with ea_ en_ ec_
              subst ea_; subst ec_; clear en_
              have p165 : 0 ≤ (x10_1 : Int) := od
              have q165 : x10_1 < ((rd_L4 x1_1 x15_4).length : Int) := od
              obtain ⟨ad165, e165, hx165_0⟩ := Kd.at_int HR164_0.out x10_1 p165 q165
              cases e165; replace p165 := eq_true p165; replace q165 := eq_true q165
              obtain ⟨Ao37, co37, eo37⟩ := Kd.R_slice HO_13.out
              (first | subst eo37 | (injection eo37 with f1_ f2_ f3_; have f4_ := f1_.symm; have f5_ := f3_.symm; clear f1_ f2_ f3_; subst f4_; subst f5_))
              refine st 18 (fun w' => w'.cell? (ad156.add (x15_4).toNat) = some (.slice (some ad165) (rd_L4 x1_1 x15_4).length c163_0) ∧ w'.cell? (ad156.add (x15_4).toNat) = some (.slice (some ad165) (rd_L4 x1_1 x15_4).length c163_0) ∧ w'.cell? (ad165.add (x10_1).toNat) = some (.int .i64 (rd (rd_L4 x1_1 x15_4) x10_1))) [15, 16] spec_l4Reduce.tab19 spec_l4Reduce.bits19 (⟨hx163_0, hx164_0, hx165_0⟩) fun hHeld HT_ HW_ => ?_
              generalize wr.drew = w36 at HO_1 HO_8 HO_9 HO_13 HO_14 HB HL163_0 HL164_0 HR163_0 HR164_0 hx163_0 hx164_0 hx165_0 hHeld ⊢
              refine pz 0 61 HT_ ?_; refine pz 1 62 HT_ ?_; refine pz 2 63 HT_ ?_; refine pz 3 64 HT_ ?_; refine pz 4 65 HT_ ?_; refine pz 6 67 HT_ ?_; refine pz 7 68 HT_ ?_; refine pz 8 69 HT_ ?_; refine pz 10 71 HT_ ?_; refine pz 13 74 HT_ ?_; refine tk 5 66 HT_ HW_ hHeld ?_
              refine tk 9 70 HT_ HW_ hHeld ?_; refine pz 11 72 HT_ ?_; refine tk 12 73 HT_ HW_ hHeld ?_
              refine on 14 (some 75) HT_ fun K hK => ?_
              refine gs_ Try.func165 #[.int .i64 a0, .slice (some ad165) (rd_L4 x1_1 x15_4).length c163_0, .int .i64 (rd (rd_L4 x1_1 x15_4) x10_1), .slice Ao37 t157.length co37] ?_
              with_reducible refine (spec_l4Less.calls k4 a0 _ _ (rd_L4 x1_1 x15_4) (rd (rd_L4 x1_1 x15_4) x10_1) _ _ t157 t166 _ ?side1 ?side2 ?side3 ?side4 A34.out).mono ?_
              (case side1 => exact wC HR163_0)
              (case side2 => exact HC163_0.out)
              (case side3 => exact Kd.C_below (Kd.R_reads' HO_13.out).2.2 gs)
              (case side4 => exact (Kd.R_reads' HO_13.out).2.1)
              rintro e w38 ⟨v167, rfl, ho0, hb⟩
              have HS0_ := (hb.cell (World.block_lt_of_cell? _ _ (hHeld.1))).trans (hHeld.1)
              have HS1_ := (hb.cell (World.block_lt_of_cell? _ _ (hHeld.2.1))).trans (hHeld.2.1)
              have HS2_ := (hb.cell (World.block_lt_of_cell? _ _ (hHeld.2.2))).trans (hHeld.2.2)
              refine ⟨_, rfl, ?_⟩
              replace HO_1 := eV HO_1 (Kd.R_base ho0) hb
              replace HO_8 := eN HO_8 (Kd.R_base ho0) hb
              replace HO_14 := eN HO_14 (Kd.R_base ho0) hb
              replace HL163_0 := eV HL163_0 (Kd.R_base ho0) hb
              replace HL164_0 := eV HL164_0 (Kd.R_base ho0) hb
              have HO168 := am (Kd.R_lower (Kd.R_new' (Kd.R_new' (Kd.R_newM (M := fun k_ => (w.heap.size ≤ k_)) ho0 (bz HB) (fun k_ h_ => h_)) (Kd.R_lt (wR HO_9))) (Kd.R_lt (wR HO_13))) (bz HB))
              replace HO_9 := eR HO_9 (Kd.R_base ho0) hb
              replace HO_13 := eR HO_13 (Kd.R_base ho0) hb
              replace HR163_0 := am (Kd.C_below (wC HR163_0) hb)
              replace HR164_0 := am (Kd.C_below (wC HR164_0) hb)
              replace HB := bq HB hb
              (try clear hb)
              (try clear hb2)
              (try clear hk)
              (try clear hi)
              (try clear ho0)
              obtain ⟨Ao40, co40, eo40⟩ := Kd.R_slice HO168.out
              (first | subst eo40 | (injection eo40 with f1_ f2_ f3_; have f4_ := f1_.symm; have f5_ := f3_.symm; clear f1_ f2_ f3_; subst f4_; subst f5_))
              refine hK.out _ _ ⟨HS0_, HS1_, HS2_⟩ fun hHeld => nz ?_
              clear hK K
              refine la 15 (some 76) HT_ fun K hK => ?_
              refine value_ (w1 := ?_) (v := ?_) (by rfl) rfl ?_ ?_
              rotate_left 2
              ·go_simp
               constructor
               ·rfl
               ·rfl
              refine hK.out _ _ (nz ?_)
              clear hK K
              refine la 16 (some 77) HT_ fun K hK => ?_
              refine Kd.N_append_step (Kd.slice 3 (Kd.int .i64)) (w0 := w) w.heap.size (by rfl) (.tmp 61) (.tmp 76) 47 23 (.slice none 0 0) 24 rfl Try.underlying47 info23 rfl (by decide) (by omega) u14 x14_4 t166 [.slice Ao40 t166.length co40] (fun k_ => (P1_ k_ ∨ w.heap.size ≤ k_) ∧ some k_ ≠ (u8 : Value).ownBlock ∧ some k_ ≠ (u9 : Value).ownBlock ∧ some k_ ≠ (.slice Ao37 t157.length co37 : Value).ownBlock) (fun k_ => ((fun k_ => (P1_ k_ ∨ w.heap.size ≤ k_) ∧ some k_ ≠ (u8 : Value).ownBlock ∧ some k_ ≠ (u9 : Value).ownBlock ∧ some k_ ≠ (.slice Ao37 t157.length co37 : Value).ownBlock)) k_ ∧ some k_ ≠ (u14 : Value).ownBlock) rfl rfl ?aP (fun _ hk => hk) ?aF ?aO ?aB ?aS ?aL ?_
              (case aP => exact (Kd.FK_slice_mk (Kd.R_reads' (Kd.R_mono (ok' := (fun k_ => ((fun k_ => (P1_ k_ ∨ w.heap.size ≤ k_) ∧ some k_ ≠ (u8 : Value).ownBlock ∧ some k_ ≠ (u9 : Value).ownBlock ∧ some k_ ≠ (.slice Ao37 t157.length co37 : Value).ownBlock)) k_ ∧ some k_ ≠ (u14 : Value).ownBlock)) (Kd.R_apart' (Kd.R_apart' (HO168.out) (Kd.N_typed HO_8.out) (by decide)) (Kd.N_typed HO_14.out) (by decide)) (fun k_ hk => ⟨⟨(.inr (hk.1.1.1.1.1)), ⟨hk.1.2, ⟨hk.1.1.1.2, hk.1.1.2⟩⟩⟩, hk.2⟩))).2.1 (Kd.R_F (Kd.R_mono (ok' := (fun k_ => ((fun k_ => (P1_ k_ ∨ w.heap.size ≤ k_) ∧ some k_ ≠ (u8 : Value).ownBlock ∧ some k_ ≠ (u9 : Value).ownBlock ∧ some k_ ≠ (.slice Ao37 t157.length co37 : Value).ownBlock)) k_ ∧ some k_ ≠ (u14 : Value).ownBlock)) (Kd.R_apart' (Kd.R_apart' (HO168.out) (Kd.N_typed HO_8.out) (by decide)) (Kd.N_typed HO_14.out) (by decide)) (fun k_ hk => ⟨⟨(.inr (hk.1.1.1.1.1)), ⟨hk.1.2, ⟨hk.1.1.1.2, hk.1.1.2⟩⟩⟩, hk.2⟩)))))
              (case aB => exact (bw HB))
              (case aF => exact (fun k_ hk => ⟨(.inr (Nat.le_trans (bz HB) hk)), Kd.fresh' (Kd.N_lt (wN HO_8)) k_ hk, Kd.fresh' (Kd.R_lt (wR HO_9)) k_ hk, Kd.fresh' (Kd.R_lt (wR HO_13)) k_ hk⟩))
              (case aO => exact (by (with_reducible repeat (first | apply Kd.N_alloc | apply Kd.N_drewN | apply Kd.N_drew)); exact Kd.N_mono HO_14.out (fun _ hk => ⟨hk.1.1, ⟨hk.1.2.1, ⟨hk.1.2.2.1, hk.1.2.2.2⟩⟩⟩)))
              (case aS => exact (bz HB))
              (case aL => have := LMc35.out; omega)
              intro v170 w39 ho hb hg hat
              rw [← Ny169.out] at ho
              replace HO_1 := am (Kd.V_afterv (ok := (fun k_ => (P1_ k_ ∨ w.heap.size ≤ k_) ∧ some k_ ≠ (u8 : Value).ownBlock ∧ some k_ ≠ (u9 : Value).ownBlock ∧ some k_ ≠ (.slice Ao37 t157.length co37 : Value).ownBlock ∧ some k_ ≠ (.slice Ao40 t166.length co40 : Value).ownBlock)) (by (with_reducible repeat (first | apply Kd.V_alloc | apply Kd.V_drewN | apply Kd.V_drew)); exact Kd.V_mono HO_1.out (fun _ hk => ⟨⟨hk.1.1, ⟨hk.1.2.1, ⟨hk.1.2.2.1, ⟨hk.1.2.2.2.1, hk.2⟩⟩⟩⟩, hk.1.2.2.2.2⟩)) hg hat)
              replace HO_8 := am (Kd.N_afterv (ok := (fun k_ => (P1_ k_ ∨ w.heap.size ≤ k_) ∧ some k_ ≠ (u9 : Value).ownBlock ∧ some k_ ≠ (.slice Ao37 t157.length co37 : Value).ownBlock ∧ some k_ ≠ (.slice Ao40 t166.length co40 : Value).ownBlock)) (by (with_reducible repeat (first | apply Kd.N_alloc | apply Kd.N_drewN | apply Kd.N_drew)); exact Kd.N_mono HO_8.out (fun _ hk => ⟨⟨hk.1.1, ⟨hk.1.2.1, ⟨hk.1.2.2.1, hk.2⟩⟩⟩, hk.1.2.2.2⟩)) hg hat)
              replace HO_9 := am (Kd.R_over' (wR HO_9) (Kd.N_typed (wN HO_14)) (by decide) hg)
              replace HO_13 := am (Kd.R_over' (wR HO_13) (Kd.N_typed (wN HO_14)) (by decide) hg)
              replace HL163_0 := am (Kd.V_afterv (ok := (fun k_ => (P1_ k_ ∨ w.heap.size ≤ k_) ∧ some k_ ≠ (u8 : Value).ownBlock ∧ some k_ ≠ (u9 : Value).ownBlock ∧ some k_ ≠ (.slice Ao37 t157.length co37 : Value).ownBlock ∧ some k_ ≠ (.slice Ao40 t166.length co40 : Value).ownBlock)) (by (with_reducible repeat (first | apply Kd.V_alloc | apply Kd.V_drewN | apply Kd.V_drew)); exact Kd.V_mono HL163_0.out (fun _ hk => ⟨⟨hk.1.1, ⟨hk.1.2.1, ⟨hk.1.2.2.1, ⟨hk.1.2.2.2.1, hk.2⟩⟩⟩⟩, hk.1.2.2.2.2⟩)) hg hat)
              replace HL164_0 := am (Kd.V_afterv (ok := (fun k_ => (P1_ k_ ∨ w.heap.size ≤ k_) ∧ some k_ ≠ (u8 : Value).ownBlock ∧ some k_ ≠ (u9 : Value).ownBlock ∧ some k_ ≠ (.slice Ao37 t157.length co37 : Value).ownBlock ∧ some k_ ≠ (.slice Ao40 t166.length co40 : Value).ownBlock)) (by (with_reducible repeat (first | apply Kd.V_alloc | apply Kd.V_drewN | apply Kd.V_drew)); exact Kd.V_mono HL164_0.out (fun _ hk => ⟨⟨hk.1.1, ⟨hk.1.2.1, ⟨hk.1.2.2.1, ⟨hk.1.2.2.2.1, hk.2⟩⟩⟩⟩, hk.1.2.2.2.2⟩)) hg hat)
              replace HB := am (hb)
              have HO171 := am (ho)
              clear HO_14 HO168; clear ho hb hg hat
              refine hK.out _ _ (nz ?_)
              clear hK K; refine pz 17 14 HT_ ?_
              refine done_ (done_of HT_.out (by kernel_rfl)) ?_
              try go_wp2
              go_roundg k4
              case measure => have := HK1.out; have := HK2.out; have := HJ8.out; have := HK4.out; omega
              case rel => exact ⟨(y169), (wrap64 (x15_4 + 1)), fr, H', ⟨by have := HK1.out; have := HK2.out; have := HJ8.out; have := HK4.out; omega⟩, ⟨Kd.V_below (Kd.V_mono HO_1.out (fun _ hk => ⟨hk.1.1, ⟨hk.1.2.1, ⟨hk.1.2.2.1, ⟨hk.1.2.2.2.1, hk.2⟩⟩⟩⟩)) gs⟩, ⟨Kd.N_below (Kd.N_mono HO_8.out (fun _ hk => ⟨hk.1.1, ⟨hk.1.2.1, ⟨hk.1.2.2.1, hk.2⟩⟩⟩)) gs⟩, ⟨Kd.R_below (Kd.R_mono HO_9.out (fun _ hk => ⟨hk.1.1, hk.1.2⟩)) gs⟩, ⟨Kd.R_below (Kd.R_mono HO_13.out (fun _ hk => ⟨hk.1.1, hk.1.2⟩)) gs⟩, ⟨wN HO171⟩, ⟨bw HB⟩⟩
            ·rw [if_neg c29] at H
             have c29b0 := decide_eq_false c29; clear c29; have H' := am H; clear H; go_wp2
             go_loopg [16] k4 (fun kq v16 w' => ∃ (x8_5 : List (List Int)) (x16_5 : Int), v16 = .int .i64 x16_5 ∧ Aside0 (spec_l4Reduce.l3 kq a0 x14_4 a2 x8_5 x9_1 x10_1 t157 x16_5 = some (r1, r2)) ∧ Aside0 (kq ≤ k4) ∧ Aside0 (Kd.N (Kd.slice 3 (Kd.int .i64)) 23 w' w.heap.size (fun k_ => (P1_ k_ ∨ w.heap.size ≤ k_) ∧ some k_ ≠ (u8 : Value).ownBlock ∧ some k_ ≠ (u9 : Value).ownBlock ∧ some k_ ≠ (v158 : Value).ownBlock) u14 x14_4) ∧ Aside0 (Kd.N (Kd.slice 3 (Kd.int .i64)) 23 w' w.heap.size (fun k_ => (P1_ k_ ∨ w.heap.size ≤ k_) ∧ some k_ ≠ (u14 : Value).ownBlock ∧ some k_ ≠ (u9 : Value).ownBlock ∧ some k_ ≠ (v158 : Value).ownBlock) u8 x8_5) ∧ Aside0 (Kd.R (Kd.int .i64) 3 w' w.heap.size (fun k_ => (w.heap.size ≤ k_) ∧ some k_ ≠ (v158 : Value).ownBlock) u9 x9_1) ∧ Aside0 (Kd.R (Kd.int .i64) 3 w' w.heap.size (fun k_ => (w.heap.size ≤ k_) ∧ some k_ ≠ (u9 : Value).ownBlock) v158 t157) ∧ Aside0 (Below w.heap.size w w'))
             case atStart => exact ⟨(x8_1), (0), fr, H', ⟨Nat.le_refl _⟩, ⟨wN HO_14⟩, ⟨Kd.N_below (Kd.N_mono HO_8.out (fun _ hk => ⟨hk.1, ⟨hk.2.2.2, ⟨hk.2.1, hk.2.2.1⟩⟩⟩)) gs⟩, ⟨wR HO_9⟩, ⟨wR HO_13⟩, ⟨bw HB⟩⟩
             case round =>
              clear H'; try clear c1; try clear p1; try clear q1; try clear hx1; try clear c2; try clear p2; try clear c3; try clear p6; try clear c8; try clear c8b0; try clear c10; try clear c10b0; try clear c13; try clear c14; try clear c14b0; try clear c15
              try clear c15b0; try clear p15; try clear q15; try clear hx15; try clear c16; try clear c16b0; try clear p16; try clear q16; try clear hx16; try clear c17; try clear c17b0; try clear c18; try clear c18b0; try clear c18b1; try clear c21; try clear c21b0
              try clear c22; try clear c22b0; try clear c23; try clear c23b0; try clear c29; try clear c29b0; try clear c30; try clear c30b0; try clear c30b1; try clear c31; try clear c31b0; try clear c32; try clear c32b0; try clear c33; try clear c33b0; try clear c35
              try clear hx154_0; try clear hx155_0; try clear hx156_0; try clear hx163_0; try clear hx164_0; try clear hx165_0; try clear p1; try clear p15; try clear p154; try clear p155; try clear p156; try clear p163; try clear p164; try clear p165; try clear p2
              try clear p6; try clear q1; try clear q15; try clear q154; try clear q155; try clear q156; try clear q163; try clear q164; try clear q165
              obtain ⟨x8_5, x16_5, rfl, HA, HK5, HO_1, HO_8, HO_9, HO_13, HB⟩ := hrel
              cases gk with
              | zero => exact absurd HA.out (by simp [spec_l4Reduce.l3])
              | succ k5 =>
               have H := HA.out; clear HA
               simp only [spec_l4Reduce.l3] at H
               by_cases c41 : x16_5 < (x8_5.length : Int)
               ·rw [if_pos c41] at H
                have c41b0 := decide_eq_true c41; clear c41; replace H := ifn H; obtain ⟨c42, H⟩ := H; have c42b0 := decide_eq_true c42; clear c42; replace H := ifn H; obtain ⟨c43, H⟩ := H; have c43b0 := decide_eq_true c43; clear c43; replace H := ifn H; obtain ⟨c44, H⟩ := H
                have c44b0 := decide_eq_true c44; clear c44; replace H := bs H; obtain ⟨t175, A45, H⟩ := H
                generalize hy178 : (x8_5.set (x16_5 : Int).toNat t175 : List (List Int)) = y178 at H
                have Ny178 := am hy178.symm; clear hy178; have H' := am H; clear H
                obtain ⟨Ao47, co47, eo47⟩ := Kd.N_slice HO_8.out
                subst eo47
                try go_wp2
                replace HO_1 := am (Kd.N_drew HO_1.out)
                replace HO_8 := am (Kd.N_drew HO_8.out)
                replace HO_9 := am (Kd.R_drew HO_9.out)
                replace HO_13 := am (Kd.R_drew HO_13.out)
                replace HB := am (below_drew1 HB.out)
                have p172 : 0 ≤ (x16_5 : Int) := od
                have q172 : x16_5 < (x8_5.length : Int) := od
                obtain ⟨ad172, A172_0, c172_0, e172, hx172_0, hl172_0, hi172_0⟩ := at_L4 (Kd.N_reads' HO_8.out).2.2 x16_5 p172 q172
                cases e172
                obtain ⟨ce172, hce172, hMe172, hcc172⟩ := Kd.N_get HO_8.out [] x16_5 p172 (by first | exact q172 | exact od | (have e_ := (Kd.N_reads' HO_8.out).1; omega))
                obtain ⟨ua172_0, uc172_0, rfl, ul172_0, ge172_0⟩ := Kd.FK_slice_open hMe172
                have hv172_0 := hcc172 0 _ rfl
                rw [Nat.add_zero, show ((Kd.slice 3 (Kd.int .i64))).sz = 1 from rfl, Nat.mul_one] at hv172_0
                replace hv172_0 := Option.some.inj (hv172_0.symm.trans hx172_0)
                injection hv172_0 with hva_ hvn_ hvc_
                rw [hva_] at ge172_0
                rw [hvc_] at ul172_0
                have HL172_0 := am (show Kd.V (Kd.int .i64) 3 _ w.heap.size _ _ (rd_L4 x8_5 x16_5) from Kd.V_mk ul172_0 ge172_0)
                clear hva_ hvn_ hvc_ ge172_0 ul172_0; clear hcc172 hce172
                have HR172_0 := am hi172_0
                have HC172_0 := am hl172_0
                clear hi172_0 hl172_0; replace p172 := eq_true p172; replace q172 := eq_true q172
                have p173 : 0 ≤ (x16_5 : Int) := od
                have q173 : x16_5 < (x8_5.length : Int) := od
                obtain ⟨ad173, A173_0, c173_0, e173, hx173_0, hl173_0, hi173_0⟩ := at_L4 (Kd.N_reads' HO_8.out).2.2 x16_5 p173 q173
                obtain rfl : ad172 = ad173 := (by injection e173)
                obtain ⟨ce173, hce173, hMe173, hcc173⟩ := Kd.N_get HO_8.out [] x16_5 p173 (by first | exact q173 | exact od | (have e_ := (Kd.N_reads' HO_8.out).1; omega))
                obtain ⟨ua173_0, uc173_0, rfl, ul173_0, ge173_0⟩ := Kd.FK_slice_open hMe173
                have hv173_0 := hcc173 0 _ rfl
                rw [Nat.add_zero, show ((Kd.slice 3 (Kd.int .i64))).sz = 1 from rfl, Nat.mul_one] at hv173_0
                replace hv173_0 := Option.some.inj (hv173_0.symm.trans hx173_0)
                injection hv173_0 with hva_ hvn_ hvc_
                rw [hva_] at ge173_0
                rw [hvc_] at ul173_0
                have HL173_0 := am (show Kd.V (Kd.int .i64) 3 _ w.heap.size _ _ (rd_L4 x8_5 x16_5) from Kd.V_mk ul173_0 ge173_0)
                clear hva_ hvn_ hvc_ ge173_0 ul173_0; clear hcc173 hce173
                have HR173_0 := am hi173_0
                have HC173_0 := am hl173_0
                clear hi173_0 hl173_0; replace p173 := eq_true p173; replace q173 := eq_true q173
                have ea_ := Option.some.inj (hx172_0.symm.trans hx173_0)
                injection ea_ with ea_ en_ ec_
                subst ea_; subst ec_; clear en_
                have p174 : 0 ≤ (x10_1 : Int) := od
                have q174 : x10_1 < ((rd_L4 x8_5 x16_5).length : Int) := od
                obtain ⟨ad174, e174, hx174_0⟩ := Kd.at_int HR173_0.out x10_1 p174 q174
                cases e174; replace p174 := eq_true p174; replace q174 := eq_true q174
                obtain ⟨Ao49, co49, eo49⟩ := Kd.R_slice HO_13.out
                (first | subst eo49 | (injection eo49 with f1_ f2_ f3_; have f4_ := f1_.symm; have f5_ := f3_.symm; clear f1_ f2_ f3_; subst f4_; subst f5_))
                refine st 18 (fun w' => w'.cell? (ad172.add (x16_5).toNat) = some (.slice (some ad174) (rd_L4 x8_5 x16_5).length c172_0) ∧ w'.cell? (ad172.add (x16_5).toNat) = some (.slice (some ad174) (rd_L4 x8_5 x16_5).length c172_0) ∧ w'.cell? (ad174.add (x10_1).toNat) = some (.int .i64 (rd (rd_L4 x8_5 x16_5) x10_1))) [17] spec_l4Reduce.tab24 spec_l4Reduce.bits24 (⟨hx172_0, hx173_0, hx174_0⟩) fun hHeld HT_ HW_ => ?_
                generalize wr.drew = w48 at HO_1 HO_8 HO_9 HO_13 HB HL172_0 HL173_0 HR172_0 HR173_0 hx172_0 hx173_0 hx174_0 hHeld ⊢
                refine pz 0 85 HT_ ?_; refine pz 1 86 HT_ ?_; refine pz 2 87 HT_ ?_; refine pz 3 88 HT_ ?_; refine pz 4 89 HT_ ?_; refine pz 5 90 HT_ ?_; refine pz 7 92 HT_ ?_; refine pz 8 93 HT_ ?_; refine pz 9 94 HT_ ?_; refine pz 11 96 HT_ ?_; refine pz 14 99 HT_ ?_
                refine tk 6 91 HT_ HW_ hHeld ?_; refine tk 10 95 HT_ HW_ hHeld ?_; refine pz 12 97 HT_ ?_; refine tk 13 98 HT_ HW_ hHeld ?_
                refine on 15 (some 100) HT_ fun K hK => ?_
                refine gs_ Try.func165 #[.int .i64 a0, .slice (some ad174) (rd_L4 x8_5 x16_5).length c172_0, .int .i64 (rd (rd_L4 x8_5 x16_5) x10_1), .slice Ao49 t157.length co49] ?_
                with_reducible refine (spec_l4Less.calls k5 a0 _ _ (rd_L4 x8_5 x16_5) (rd (rd_L4 x8_5 x16_5) x10_1) _ _ t157 t175 _ ?side1 ?side2 ?side3 ?side4 A45.out).mono ?_
                (case side1 => exact wC HR172_0)
                (case side2 => exact HC172_0.out)
                (case side3 => exact Kd.C_below (Kd.R_reads' HO_13.out).2.2 gs)
                (case side4 => exact (Kd.R_reads' HO_13.out).2.1)
                rintro e w50 ⟨v176, rfl, ho0, hb⟩
                have HS0_ := (hb.cell (World.block_lt_of_cell? _ _ (hHeld.1))).trans (hHeld.1)
                have HS1_ := (hb.cell (World.block_lt_of_cell? _ _ (hHeld.2.1))).trans (hHeld.2.1)
                have HS2_ := (hb.cell (World.block_lt_of_cell? _ _ (hHeld.2.2))).trans (hHeld.2.2)
                refine ⟨_, rfl, ?_⟩
                replace HO_1 := eN HO_1 (Kd.R_base ho0) hb
                replace HO_8 := eN HO_8 (Kd.R_base ho0) hb
                replace HL172_0 := eV HL172_0 (Kd.R_base ho0) hb
                replace HL173_0 := eV HL173_0 (Kd.R_base ho0) hb
                have HO177 := am (Kd.R_lower (Kd.R_new' (Kd.R_new' (Kd.R_newM (M := fun k_ => (w.heap.size ≤ k_)) ho0 (bz HB) (fun k_ h_ => h_)) (Kd.R_lt (wR HO_9))) (Kd.R_lt (wR HO_13))) (bz HB))
                replace HO_9 := eR HO_9 (Kd.R_base ho0) hb
                replace HO_13 := eR HO_13 (Kd.R_base ho0) hb
                replace HR172_0 := am (Kd.C_below (wC HR172_0) hb)
                replace HR173_0 := am (Kd.C_below (wC HR173_0) hb)
                replace HB := bq HB hb
                (try clear hb)
                (try clear hb2)
                (try clear hk)
                (try clear hi)
                (try clear ho0)
                have p46 : 0 ≤ (x16_5 : Int) := od
                have q46 : (x16_5 : Int) < ((x8_5.length : Int) : Int) := od
                obtain ⟨go46, co46, eo46, gb46, gl46, cl46, HG46⟩ := Kd.N_form HO_8.out (by omega)
                (first | cases eo46 | (injection eo46 with ea_ en_ ec_; (first | subst ea_ | (injection ea_ with ea_; subst ea_)); subst ec_; clear en_))
                have GB46 := am gb46
                have GG46 := am HG46
                clear gb46 gl46 HG46
                (first | simp only [add_plain] at hx172_0 | skip)
                (first | simp only [add_plain] at hx173_0 | skip)
                obtain ⟨ce46, hcl46, hM46, hcc46, hfr46⟩ := Kd.N_elem HO_8.out [] (x16_5 : Int) p46 q46
                obtain ⟨ua46_0, uc46_0, rfl, ul46_0, ge46_0⟩ := Kd.FK_slice_open hM46
                have hx46_0 := hcc46 0 _ rfl
                have hf46_0 := hfr46 0
                (try simp only [show ((Kd.slice 3 (Kd.int .i64))).sz = 1 from rfl, Nat.mul_one, Nat.add_zero] at hx46_0)
                (try simp only [show ((Kd.slice 3 (Kd.int .i64))).sz = 1 from rfl, Nat.mul_one, Nat.add_zero] at hf46_0)
                clear hcl46 hcc46 hfr46 hM46; replace p46 := eq_true p46; replace q46 := eq_true q46
                obtain ⟨Ao51, co51, eo51⟩ := Kd.R_slice HO177.out
                (first | subst eo51 | (injection eo51 with f1_ f2_ f3_; have f4_ := f1_.symm; have f5_ := f3_.symm; clear f1_ f2_ f3_; subst f4_; subst f5_))
                have HX52 := am (show Kd.N (Kd.slice 3 (Kd.int .i64)) 23 _ w.heap.size (fun k_ => (P1_ k_ ∨ w.heap.size ≤ k_) ∧ some k_ ≠ (u14 : Value).ownBlock ∧ some k_ ≠ (u9 : Value).ownBlock ∧ some k_ ≠ (.slice Ao49 t157.length co49 : Value).ownBlock ∧ some k_ ≠ (.slice Ao51 t175.length co51 : Value).ownBlock) (.slice (some ⟨go46, 0, none⟩) x8_5.length co47) x8_5 from (Kd.N_mono (HO_8.out) (fun k_ hk => ⟨hk.1.1, ⟨hk.1.2.1, ⟨hk.1.2.2.1, ⟨hk.1.2.2.2, hk.2⟩⟩⟩⟩)))
                replace HX52 := am (show Kd.N (Kd.slice 3 (Kd.int .i64)) 23 _ w.heap.size (fun k_ => (P1_ k_ ∨ w.heap.size ≤ k_) ∧ some k_ ≠ (u14 : Value).ownBlock ∧ some k_ ≠ (u9 : Value).ownBlock ∧ some k_ ≠ (.slice Ao49 t157.length co49 : Value).ownBlock) (.slice (some ⟨go46, 0, none⟩) x8_5.length co47) x8_5 from Kd.N_mono HX52.out (fun k_ hk => ⟨hk.1, ⟨hk.2.1, ⟨hk.2.2.1, hk.2.2.2.1⟩⟩⟩))
                obtain ⟨ce52, hcl52, hM52, hcc52, hfr52⟩ := Kd.N_elem HX52.out [] (x16_5 : Int) (od) (by have h_ : (x16_5 : Int) < ((x8_5.length : Int) : Int) := od; first | exact h_ | (have e_ := (Kd.N_reads' HO_8.out).1; omega) | simpa using h_)
                obtain ⟨ua52_0, uc52_0, rfl, ul52_0, ge52_0⟩ := Kd.FK_slice_open hM52
                have HP52 := (Kd.N_seg HX52.out (x16_5 : Int) (od) (by have h_ : (x16_5 : Int) < ((x8_5.length : Int) : Int) := od; first | exact h_ | (have e_ := (Kd.N_reads' HO_8.out).1; omega) | simpa using h_) (seg := [.slice Ao51 t175.length co51]) (j := 0) hcl52 hcc52 (show 1 ≤ 1 from by decide) (x' := t175) (Kd.FK_slice_mk (Kd.R_reads' (Kd.R_mono (ok' := (fun k_ => ((fun k_ => (P1_ k_ ∨ w.heap.size ≤ k_) ∧ some k_ ≠ (u14 : Value).ownBlock ∧ some k_ ≠ (u9 : Value).ownBlock ∧ some k_ ≠ (.slice Ao49 t157.length co49 : Value).ownBlock)) k_ ∧ k_ ≠ go46)) (Kd.R_apart' (Kd.R_apart' (HO177.out) (Kd.N_typed HO_1.out) (by decide)) (Kd.N_typed HO_8.out) (by decide)) (fun k_ hk => ⟨⟨(.inr (hk.1.1.1.1.1)), ⟨hk.1.2, ⟨hk.1.1.1.2, hk.1.1.2⟩⟩⟩, fun e_ => (hk.2) (by rw [e_]; rfl)⟩))).2.1 (Kd.R_F (Kd.R_mono (ok' := (fun k_ => ((fun k_ => (P1_ k_ ∨ w.heap.size ≤ k_) ∧ some k_ ≠ (u14 : Value).ownBlock ∧ some k_ ≠ (u9 : Value).ownBlock ∧ some k_ ≠ (.slice Ao49 t157.length co49 : Value).ownBlock)) k_ ∧ k_ ≠ go46)) (Kd.R_apart' (Kd.R_apart' (HO177.out) (Kd.N_typed HO_1.out) (by decide)) (Kd.N_typed HO_8.out) (by decide)) (fun k_ hk => ⟨⟨(.inr (hk.1.1.1.1.1)), ⟨hk.1.2, ⟨hk.1.1.1.2, hk.1.1.2⟩⟩⟩, fun e_ => (hk.2) (by rw [e_]; rfl)⟩)))) (fun _ hk => hk)).1
                (try simp only [show ((Kd.slice 3 (Kd.int .i64))).sz = 1 from rfl, Nat.mul_one, Nat.add_zero] at HP52)
                rw [← Ny178.out] at HP52
                have HQ52 := am HP52
                clear hcl52 hcc52 hfr52 hM52 HP52
                refine hK.out _ _ ⟨HS0_, HS1_, HS2_⟩ fun hHeld => nz ?_
                clear hK K; refine pz 16 101 HT_ ?_
                refine la 17 none HT_ fun K hK => ?_
                refine skip_ (w1 := ?_) (by rfl) rfl ?_ ?_
                rotate_left
                ·go_simp
                 rfl
                refine hK.out _ _ ?_
                clear hK K
                refine done_ (done_of HT_.out (by kernel_rfl)) ?_
                try go_wp2
                go_roundg k5
                case measure => have := HK1.out; have := HK2.out; have := HJ8.out; have := HK4.out; have := HK5.out; omega
                case rel => exact ⟨(y178), (wrap64 (x16_5 + 1)), fr, H', ⟨by have := HK1.out; have := HK2.out; have := HJ8.out; have := HK4.out; have := HK5.out; omega⟩, ⟨by (with_reducible repeat (first | apply Kd.N_alloc | apply Kd.N_drewN | apply Kd.N_drew)); exact Kd.N_mono (Kd.N_far (p := ⟨go46, (x16_5 : Int).toNat, none⟩) (Kd.N_mono HO_1.out (fun k_ hk => (⟨hk, fun e_ => hk.1.2.1 (by rw [e_]; rfl)⟩ : _ ∧ k_ ≠ go46))) (fun _ hk => hk.2) (.slice Ao51 t175.length co51)) (fun _ hk => ⟨hk.1.1.1, ⟨hk.1.1.2.1, ⟨hk.1.1.2.2.1, hk.1.1.2.2.2⟩⟩⟩)⟩, ⟨wN HQ52⟩, ⟨by (with_reducible repeat (first | apply Kd.R_alloc | apply Kd.R_drewN | apply Kd.R_drew)); exact Kd.R_mono (Kd.R_far (p := ⟨go46, (x16_5 : Int).toNat, none⟩) (Kd.R_types HO_9.out GG46.out (by decide)) (fun _ hk => hk.2) (.slice Ao51 t175.length co51)) (fun _ hk => ⟨hk.1.1.1, hk.1.1.2⟩)⟩, ⟨by (with_reducible repeat (first | apply Kd.R_alloc | apply Kd.R_drewN | apply Kd.R_drew)); exact Kd.R_mono (Kd.R_far (p := ⟨go46, (x16_5 : Int).toNat, none⟩) (Kd.R_types HO_13.out GG46.out (by decide)) (fun _ hk => hk.2) (.slice Ao51 t175.length co51)) (fun _ hk => ⟨hk.1.1.1, hk.1.1.2⟩)⟩, ⟨by repeat (first | (with_reducible first | exact HB.out | apply below_alloc | apply pw_below_drewN | apply below_drew1 | refine below_set ?_ GB46.out) | exact HB.out)⟩⟩
               ·rw [if_neg c41] at H
                have c41b0 := decide_eq_false c41; clear c41; replace H := ifn H; obtain ⟨c53, H⟩ := H; have LMc53 := am c53; clear c53
                generalize hy179 : (x8_5 ++ [t157] : List (List Int)) = y179 at H
                have Ny179 := am hy179.symm; clear hy179; replace H := ifn H; obtain ⟨c54, H⟩ := H; have LMc54 := am c54; clear c54
                generalize hy182 : (x9_1 ++ [x10_1] : List Int) = y182 at H
                have Ny182 := am hy182.symm; clear hy182; have H' := am H; clear H
                obtain ⟨Ao55, co55, eo55⟩ := Kd.N_slice HO_8.out
                subst eo55
                obtain ⟨Ao57, co57, eo57⟩ := Kd.R_slice HO_13.out
                subst eo57
                go_wp2_with (first | ((with_reducible refine gate_builtin (b := .append) (xs := #[.tmp 102, .tmp 104]) rfl ?_); at_builtin; refine Kd.N_append (Kd.slice 3 (Kd.int .i64)) (w0 := w) w.heap.size rfl (.tmp 102) (.tmp 104) 47 23 (.slice none 0 0) 24 rfl Try.underlying47 info23 rfl (by decide) (by omega) (.slice Ao55 x8_5.length co55) x8_5 t157 [.slice Ao57 t157.length co57] (fun k_ => (P1_ k_ ∨ w.heap.size ≤ k_) ∧ some k_ ≠ (u14 : Value).ownBlock ∧ some k_ ≠ (u9 : Value).ownBlock) (fun k_ => ((fun k_ => (P1_ k_ ∨ w.heap.size ≤ k_) ∧ some k_ ≠ (u14 : Value).ownBlock ∧ some k_ ≠ (u9 : Value).ownBlock)) k_ ∧ some k_ ≠ (.slice Ao55 x8_5.length co55 : Value).ownBlock) rfl rfl ?aP (fun _ hk => hk) ?aF ?aO ?aB ?aS ?aL ?_; (case aP => exact (Kd.FK_slice_mk (Kd.R_reads' (Kd.R_mono (ok' := (fun k_ => ((fun k_ => (P1_ k_ ∨ w.heap.size ≤ k_) ∧ some k_ ≠ (u14 : Value).ownBlock ∧ some k_ ≠ (u9 : Value).ownBlock)) k_ ∧ some k_ ≠ (.slice Ao55 x8_5.length co55 : Value).ownBlock)) (Kd.R_apart' (Kd.R_apart' (HO_13.out) (Kd.N_typed HO_1.out) (by decide)) (Kd.N_typed HO_8.out) (by decide)) (fun k_ hk => ⟨⟨(.inr (hk.1.1.1)), ⟨hk.1.2, hk.1.1.2⟩⟩, hk.2⟩))).2.1 (Kd.R_F (Kd.R_mono (ok' := (fun k_ => ((fun k_ => (P1_ k_ ∨ w.heap.size ≤ k_) ∧ some k_ ≠ (u14 : Value).ownBlock ∧ some k_ ≠ (u9 : Value).ownBlock)) k_ ∧ some k_ ≠ (.slice Ao55 x8_5.length co55 : Value).ownBlock)) (Kd.R_apart' (Kd.R_apart' (HO_13.out) (Kd.N_typed HO_1.out) (by decide)) (Kd.N_typed HO_8.out) (by decide)) (fun k_ hk => ⟨⟨(.inr (hk.1.1.1)), ⟨hk.1.2, hk.1.1.2⟩⟩, hk.2⟩))))); (case aB => exact (bw HB)); (case aF => exact (fun k_ hk => ⟨(.inr (Nat.le_trans (bz HB) hk)), Kd.fresh' (Kd.N_lt (wN HO_1)) k_ hk, Kd.fresh' (Kd.R_lt (wR HO_9)) k_ hk⟩)); (case aO => exact (by (with_reducible repeat (first | apply Kd.N_alloc | apply Kd.N_drewN | apply Kd.N_drew)); exact Kd.N_mono HO_8.out (fun _ hk => ⟨hk.1, ⟨hk.2.1, hk.2.2.1⟩⟩))); (case aS => exact (bz HB)); (case aL => have := LMc53.out; omega); intro v180 w56 ho hb hg hat; rw [← Ny179.out] at ho; replace HO_1 := am (Kd.N_afterv (ok := (fun k_ => (P1_ k_ ∨ w.heap.size ≤ k_) ∧ some k_ ≠ (u9 : Value).ownBlock ∧ some k_ ≠ (.slice Ao57 t157.length co57 : Value).ownBlock)) (by (with_reducible repeat (first | apply Kd.N_alloc | apply Kd.N_drewN | apply Kd.N_drew)); exact Kd.N_mono HO_1.out (fun _ hk => ⟨⟨hk.1, ⟨hk.2.2.1, hk.2.2.2⟩⟩, hk.2.1⟩)) hg hat); replace HO_9 := am (Kd.R_over' (wR HO_9) (Kd.N_typed (wN HO_8)) (by decide) hg); replace HB := am (hb); have HO181 := am (ho); clear HO_8 HO_13; clear ho hb hg hat) | ((with_reducible refine gate_builtin (b := .append) (xs := #[.tmp 106, .tmp 108]) rfl ?_); at_builtin; refine Kd.R_append (Kd.int .i64) (w0 := w) w.heap.size rfl (.tmp 106) (.tmp 108) 23 3 (.int .i64 0) 8 rfl Try.underlying23 info3 rfl (by decide) (by omega) u9 x9_1 x10_1 [.int .i64 x10_1] (fun k_ => (w.heap.size ≤ k_)) (fun _ => False) rfl rfl ?aP (fun _ hk => hk.elim) ?aF ?aO ?aB ?aS ?aL ?_; (case aP => exact rfl); (case aB => exact (bw HB)); (case aF => exact (fun k_ hk => (Nat.le_trans (bz HB) hk))); (case aO => exact (by (with_reducible repeat (first | apply Kd.R_alloc | apply Kd.R_drewN | apply Kd.R_drew)); exact Kd.R_mono HO_9.out (fun _ hk => hk.1))); (case aS => exact (bz HB)); (case aL => have := LMc54.out; omega); intro v183 w58 ho hb hg hat; rw [← Ny182.out] at ho; replace HO_1 := am (Kd.N_afterv (ok := (fun k_ => (P1_ k_ ∨ w.heap.size ≤ k_) ∧ some k_ ≠ (v180 : Value).ownBlock)) (by (with_reducible repeat (first | apply Kd.N_alloc | apply Kd.N_drewN | apply Kd.N_drew)); exact Kd.N_mono HO_1.out (fun _ hk => ⟨⟨hk.1.1, hk.2⟩, hk.1.2.1⟩)) hg hat); replace HO181 := am (Kd.N_afterv (ok := (fun k_ => (P1_ k_ ∨ w.heap.size ≤ k_) ∧ some k_ ≠ (u14 : Value).ownBlock)) (by (with_reducible repeat (first | apply Kd.N_alloc | apply Kd.N_drewN | apply Kd.N_drew)); exact Kd.N_mono HO181.out (fun _ hk => ⟨⟨hk.1, hk.2.1⟩, hk.2.2⟩)) hg hat); replace HB := am (hb); have HO184 := am (ho); clear HO_9; clear ho hb hg hat))
                go_roundg k5
                case measure => have := HK1.out; have := HK2.out; have := HJ8.out; have := HK4.out; have := HK5.out; omega
                case rel => exact ⟨(x14_4), (y179), (y182), (wrap64 (x10_1 + 1)), fr, H', ⟨by have := HK1.out; have := HK2.out; have := HJ8.out; have := HK4.out; have := HK5.out; omega⟩, ⟨Kd.N_V (by (with_reducible repeat (first | apply Kd.N_alloc | apply Kd.N_drewN | apply Kd.N_drew)); exact Kd.N_mono HO_1.out (fun _ hk => ⟨hk.1.1, ⟨hk.1.2, hk.2⟩⟩))⟩, ⟨Kd.N_below (Kd.N_mono HO181.out (fun _ hk => ⟨hk.1.1, hk.2⟩)) gs⟩, ⟨wR HO184⟩, ⟨bw HB⟩⟩
   ·rw [if_neg c8] at H
    have c8b0 := decide_eq_false c8; clear c8
    simp only [Option.some.injEq, Prod.mk.injEq] at H
    obtain ⟨rfl, rfl⟩ := H; go_wp2
    go_ret2
    exact ⟨_, _, fq, wN HO_8, wR HO_9, bw HB⟩
end Go.Proofs.Ytmgbpmihbljngaa.PA

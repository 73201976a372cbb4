-- Written by xprint.py, a program of this claim's own (over the kit's print.py)
import Derived.Test.YtmenehnfgenlpaaPAx0
import Derived.Test.YtmenehnfgenlpaaPAx6
import Derived.Test.YtmenehnfgenlpaaPAx7
import Derived.Deep.Cut
namespace Go.Proofs.Ytmenehnfgenlpaa.PA
open Go.RowKit Go.Proofs.YtmenehnfgenlpaaW.PrintWords Go.Proofs.YtmenehnfgenlpaaW.PrintLast Go.Proofs.YtmenehnfgenlpaaW.PrintMore
attribute [local go_sem] max2_int min2_int max_two min_two max_three min_three max_four min_four   -- for this text's walks alone
set_option linter.unusedVariables false
set_option linter.unusedSimpArgs false

/-! ### spec_l4Reduce: function 60 -/
mutual
def spec_l4Reduce.l0 : Nat → Int → List (List Int) → Int → List (List Int) → List Int → Int → Option ((List (List Int)) × List Int)
 | 0, _, _, _, _, _, _ => none
 | k + 1, x0, x1, x2, x8, x9, x10 => if x10 < x2 then (spec_l4Reduce.l1 k x0 x1 x2 x8 x9 x10 (-1) 0) else (some (x8, x9))
def spec_l4Reduce.l1 : Nat → Int → List (List Int) → Int → List (List Int) → List Int → Int → Int → Int → Option ((List (List Int)) × List Int)
 | 0, _, _, _, _, _, _, _, _ => none
 | k + 1, x0, x1, x2, x8, x9, x10, x11, x12 => if x12 < (x1.length : Int) then (spec_l4Reduce.j2 k x0 x1 x2 x8 x9 x10 x11 x12 (decide (x11 < 0))) else (spec_l4Reduce.j2 k x0 x1 x2 x8 x9 x10 x11 x12 false)
def spec_l4Reduce.j2 : Nat → Int → List (List Int) → Int → List (List Int) → List Int → Int → Int → Int → Bool → Option ((List (List Int)) × List Int)
 | 0, _, _, _, _, _, _, _, _, _ => none
 | k + 1, x0, x1, x2, x8, x9, x10, x11, x12, x31 => if x31 = true then (if 0 ≤ x12 then (if x12 < (x1.length : Int) then (if 0 ≤ x10 then (if x10 < ((rd_L1 x1 x12).length : Int) then (if (rd (rd_L1 x1 x12) x10) = 0 then (spec_l4Reduce.l1 k x0 x1 x2 x8 x9 x10 x11 (wrap64 (x12 + 1))) else (spec_l4Reduce.l1 k x0 x1 x2 x8 x9 x10 x12 (wrap64 (x12 + 1)))) else (none)) else (none)) else (none)) else (none)) else (if x11 < 0 then (spec_l4Reduce.l0 k x0 x1 x2 x8 x9 (wrap64 (x10 + 1))) else (if 0 ≤ x11 then (if x11 < (x1.length : Int) then ((spec_l4Row.f k x0 (rd_L1 x1 x11)).bind fun t271 => (spec_l4Reduce.l2 k x0 x1 x2 x8 x9 x10 x11 t271 (([] : List (List Int))) 0)) else (none)) else (none)))
def spec_l4Reduce.l2 : Nat → Int → List (List Int) → Int → List (List Int) → List Int → Int → Int → List Int → List (List Int) → Int → Option ((List (List Int)) × List Int)
 | 0, _, _, _, _, _, _, _, _, _, _ => none
 | k + 1, x0, x1, x2, x8, x9, x10, x11, x13, x14, x15 => if x15 < (x1.length : Int) then (if x15 = x11 then (spec_l4Reduce.l2 k x0 x1 x2 x8 x9 x10 x11 x13 x14 (wrap64 (x15 + 1))) else (if 0 ≤ x15 then (if 0 ≤ x10 then (if x10 < ((rd_L1 x1 x15).length : Int) then ((spec_l4Less.f k x0 (rd_L1 x1 x15) (rd (rd_L1 x1 x15) x10) x13).bind fun t280 => (if x14.length < 5864062014805 then (spec_l4Reduce.l2 k x0 x1 x2 x8 x9 x10 x11 x13 (x14 ++ [t280]) (wrap64 (x15 + 1))) else (none))) else (none)) else (none)) else (none))) else (spec_l4Reduce.l3 k x0 x14 x2 x8 x9 x10 x13 0)
def spec_l4Reduce.l3 : Nat → Int → List (List Int) → Int → List (List Int) → List Int → Int → List Int → Int → Option ((List (List Int)) × List Int)
 | 0, _, _, _, _, _, _, _, _ => none
 | k + 1, x0, x1, x2, x8, x9, x10, x13, x16 => if x16 < (x8.length : Int) then (if 0 ≤ x16 then (if 0 ≤ x10 then (if x10 < ((rd_L1 x8 x16).length : Int) then ((spec_l4Less.f k x0 (rd_L1 x8 x16) (rd (rd_L1 x8 x16) x10) x13).bind fun t289 => (spec_l4Reduce.l3 k x0 x1 x2 (x8.set (x16 : Int).toNat t289) x9 x10 x13 (wrap64 (x16 + 1)))) else (none)) else (none)) else (none)) else (if x8.length < 5864062014805 then (if x9.length < 17592186044416 then (spec_l4Reduce.l0 k x0 x1 x2 (x8 ++ [x13]) (x9 ++ [x10]) (wrap64 (x10 + 1))) else (none)) else (none))
end
def spec_l4Reduce.f (k : Nat) (a0 : Int) (l1 : List (List Int)) (a2 : Int) : Option ((List (List Int)) × List Int) := spec_l4Reduce.l0 k a0 l1 a2 (([] : List (List Int))) (([] : List Int)) 0
theorem spec_l4Reduce.mono_l : ∀ k, (∀ y0 y1 y2 y3 y4 y5, LeO (spec_l4Reduce.l0 k y0 y1 y2 y3 y4 y5) (spec_l4Reduce.l0 (k + 1) y0 y1 y2 y3 y4 y5)) ∧ (∀ y0 y1 y2 y3 y4 y5 y6 y7, LeO (spec_l4Reduce.l1 k y0 y1 y2 y3 y4 y5 y6 y7) (spec_l4Reduce.l1 (k + 1) y0 y1 y2 y3 y4 y5 y6 y7)) ∧ (∀ y0 y1 y2 y3 y4 y5 y6 y7 y8, LeO (spec_l4Reduce.j2 k y0 y1 y2 y3 y4 y5 y6 y7 y8) (spec_l4Reduce.j2 (k + 1) y0 y1 y2 y3 y4 y5 y6 y7 y8)) ∧ (∀ y0 y1 y2 y3 y4 y5 y6 y7 y8 y9, LeO (spec_l4Reduce.l2 k y0 y1 y2 y3 y4 y5 y6 y7 y8 y9) (spec_l4Reduce.l2 (k + 1) y0 y1 y2 y3 y4 y5 y6 y7 y8 y9)) ∧ (∀ y0 y1 y2 y3 y4 y5 y6 y7, LeO (spec_l4Reduce.l3 k y0 y1 y2 y3 y4 y5 y6 y7) (spec_l4Reduce.l3 (k + 1) y0 y1 y2 y3 y4 y5 y6 y7))
 | 0 => ⟨fun _ _ _ _ _ _ r h => by simp [spec_l4Reduce.l0] at h, fun _ _ _ _ _ _ _ _ r h => by simp [spec_l4Reduce.l1] at h, fun _ _ _ _ _ _ _ _ _ r h => by simp [spec_l4Reduce.j2] at h, fun _ _ _ _ _ _ _ _ _ _ r h => by simp [spec_l4Reduce.l2] at h, fun _ _ _ _ _ _ _ _ r h => by simp [spec_l4Reduce.l3] at h⟩
 | k + 1 => by
  obtain ⟨ih0, ih1, ih2, ih3, ih4⟩ := spec_l4Reduce.mono_l k
  refine ⟨?_, ?_, ?_, ?_, ?_⟩
  ·intro y0 y1 y2 y3 y4 y5
   unfold spec_l4Reduce.l0
   repeat' first | (with_reducible first | apply ih0 | apply ih1 | apply ih2 | apply ih3 | apply ih4 | apply spec_l4Less.mono | apply spec_l4Row.mono | exact LeO.refl _ | exact LeO.none _ | refine LeO.ite ?_ ?_ | refine LeO.bind ?_ (fun _ => ?_)) | (first | apply ih0 | apply ih1 | apply ih2 | apply ih3 | apply ih4 | apply spec_l4Less.mono | apply spec_l4Row.mono | exact LeO.none _ | refine LeO.ite ?_ ?_ | refine LeO.bind ?_ (fun _ => ?_))
  ·intro y0 y1 y2 y3 y4 y5 y6 y7
   unfold spec_l4Reduce.l1
   repeat' first | (with_reducible first | apply ih0 | apply ih1 | apply ih2 | apply ih3 | apply ih4 | apply spec_l4Less.mono | apply spec_l4Row.mono | exact LeO.refl _ | exact LeO.none _ | refine LeO.ite ?_ ?_ | refine LeO.bind ?_ (fun _ => ?_)) | (first | apply ih0 | apply ih1 | apply ih2 | apply ih3 | apply ih4 | apply spec_l4Less.mono | apply spec_l4Row.mono | exact LeO.none _ | refine LeO.ite ?_ ?_ | refine LeO.bind ?_ (fun _ => ?_))
  ·intro y0 y1 y2 y3 y4 y5 y6 y7 y8
   unfold spec_l4Reduce.j2
   repeat' first | (with_reducible first | apply ih0 | apply ih1 | apply ih2 | apply ih3 | apply ih4 | apply spec_l4Less.mono | apply spec_l4Row.mono | exact LeO.refl _ | exact LeO.none _ | refine LeO.ite ?_ ?_ | refine LeO.bind ?_ (fun _ => ?_)) | (first | apply ih0 | apply ih1 | apply ih2 | apply ih3 | apply ih4 | apply spec_l4Less.mono | apply spec_l4Row.mono | exact LeO.none _ | refine LeO.ite ?_ ?_ | refine LeO.bind ?_ (fun _ => ?_))
  ·intro y0 y1 y2 y3 y4 y5 y6 y7 y8 y9
   unfold spec_l4Reduce.l2
   repeat' first | (with_reducible first | apply ih0 | apply ih1 | apply ih2 | apply ih3 | apply ih4 | apply spec_l4Less.mono | apply spec_l4Row.mono | exact LeO.refl _ | exact LeO.none _ | refine LeO.ite ?_ ?_ | refine LeO.bind ?_ (fun _ => ?_)) | (first | apply ih0 | apply ih1 | apply ih2 | apply ih3 | apply ih4 | apply spec_l4Less.mono | apply spec_l4Row.mono | exact LeO.none _ | refine LeO.ite ?_ ?_ | refine LeO.bind ?_ (fun _ => ?_))
  ·intro y0 y1 y2 y3 y4 y5 y6 y7
   unfold spec_l4Reduce.l3
   repeat' first | (with_reducible first | apply ih0 | apply ih1 | apply ih2 | apply ih3 | apply ih4 | apply spec_l4Less.mono | apply spec_l4Row.mono | exact LeO.refl _ | exact LeO.none _ | refine LeO.ite ?_ ?_ | refine LeO.bind ?_ (fun _ => ?_)) | (first | apply ih0 | apply ih1 | apply ih2 | apply ih3 | apply ih4 | apply spec_l4Less.mono | apply spec_l4Row.mono | exact LeO.none _ | refine LeO.ite ?_ ?_ | refine LeO.bind ?_ (fun _ => ?_))
theorem spec_l4Reduce.mono : ∀ a0 a1 a2 k, LeO (spec_l4Reduce.f k a0 a1 a2) (spec_l4Reduce.f (k + 1) a0 a1 a2) := by
 intro a0 a1 a2 k
 obtain ⟨ih0, ih1, ih2, ih3, ih4⟩ := spec_l4Reduce.mono_l k
 unfold spec_l4Reduce.f
 repeat' first | (with_reducible first | apply ih0 | apply ih1 | apply ih2 | apply ih3 | apply ih4 | apply spec_l4Less.mono | apply spec_l4Row.mono | exact LeO.refl _ | exact LeO.none _ | refine LeO.ite ?_ ?_ | refine LeO.bind ?_ (fun _ => ?_)) | (first | apply ih0 | apply ih1 | apply ih2 | apply ih3 | apply ih4 | apply spec_l4Less.mono | apply spec_l4Row.mono | exact LeO.none _ | refine LeO.ite ?_ ?_ | refine LeO.bind ?_ (fun _ => ?_))
def spec_l4Reduce.T19 : Bool × List (List Nat × List Nat) := (true, [([], []), ([], []), ([], []), ([], []), ([2, 3], [2, 3]), ([4], [4]), ([], []), ([], []), ([6, 7], [6, 7]), ([8], [8]), ([], []), ([9, 10], [9, 10]), ([11], [11]), ([], []), ([1, 5, 12, 13], [1, 5, 12, 13]), ([14], [14]), ([0, 15, 14], [0, 15]), ([16, 16, 0, 1, 2, 3, 4, 5, 6, 7, 8, 9, 10, 11, 12, 13, 14, 15, 16], [0, 16])])
def spec_l4Reduce.B19 : List Nat := [0, 0, 0, 0, 12, 28, 0, 0, 192, 448, 0, 1984, 4032, 0, 16382, 32766, 65535, 131071]
theorem spec_l4Reduce.tab19 : rtab .any (opsOf Try.f60 19) = spec_l4Reduce.T19 := by kernel_rfl
theorem spec_l4Reduce.bits19 : waitsOk spec_l4Reduce.T19.2 spec_l4Reduce.B19 = true := by kernel_rfl
def spec_l4Reduce.T24 : Bool × List (List Nat × List Nat) := (true, [([], []), ([], []), ([], []), ([], []), ([], []), ([3, 4], [3, 4]), ([5], [5]), ([], []), ([], []), ([7, 8], [7, 8]), ([9], [9]), ([], []), ([10, 11], [10, 11]), ([12], [12]), ([], []), ([2, 6, 13, 14], [2, 6, 13, 14]), ([0, 1, 0, 1, 2, 3, 4, 5, 6, 7, 8, 9, 10, 11, 12, 13, 14, 15], [0, 1]), ([16, 15, 15, 0, 1, 2, 3, 4, 5, 6, 7, 8, 9, 10, 11, 12, 13, 14, 15], [15, 16])])
def spec_l4Reduce.B24 : List Nat := [0, 0, 0, 0, 0, 24, 56, 0, 0, 384, 896, 0, 3968, 8064, 0, 32764, 65535, 131071]
theorem spec_l4Reduce.tab24 : rtab .any (opsOf Try.f60 24) = spec_l4Reduce.T24 := by kernel_rfl
theorem spec_l4Reduce.bits24 : waitsOk spec_l4Reduce.T24.2 spec_l4Reduce.B24 = true := by kernel_rfl
set_option maxHeartbeats 8000000 in
set_option maxRecDepth 100000 in
theorem spec_l4Reduce.calls (k : Nat) (a0 : Int) (P1_ : Nat → Prop) (A1 : Option Addr) (c1 : Nat) (l1 : List (List Int)) (a2 : Int) (r1 : List (List Int)) (r2 : List Int) (w : World) (hs1 : Kd.V (Kd.slice 3 (Kd.int .i64)) 22 w w.heap.size (fun k_ => P1_ k_) (.slice A1 l1.length c1) l1) (h : spec_l4Reduce.f k a0 l1 a2 = some (r1, r2)) :
  Calls Try.prog 60 #[.int .i64 a0, .slice A1 l1.length c1, .int .i64 a2] w fun e w' => ∃ v0_ v1_ : Value, e = .returned (.tuple #[v0_, v1_]) ∧ Kd.N (Kd.slice 3 (Kd.int .i64)) 22 w' w.heap.size (fun k_ => (P1_ k_ ∨ w.heap.size ≤ k_) ∧ some k_ ≠ (v1_ : Value).ownBlock) v0_ r1 ∧ Kd.R (Kd.int .i64) 3 w' w.heap.size (fun k_ => (w.heap.size ≤ k_)) v1_ r2 ∧ Below w.heap.size w w' := by
 have HO1 := am (show Kd.V (Kd.slice 3 (Kd.int .i64)) 22 w w.heap.size (fun k_ => (P1_ k_ ∨ w.heap.size ≤ k_)) (.slice A1 l1.length c1) l1 from Kd.V_mono hs1 (fun k_ hk => .inl hk))
 have HB := am (Below.refl w.heap.size w)
 have H : (spec_l4Reduce.l0 k a0 l1 a2 (([] : List (List Int))) (([] : List Int)) 0) = some (r1, r2) := h
 clear h
 obtain ⟨y262, hy262⟩ : ∃ y_ : List (List Int), y_ = (([] : List (List Int))) := ⟨_, rfl⟩
 replace H : (spec_l4Reduce.l0 k a0 l1 a2 y262 (([] : List Int)) 0) = some (r1, r2) := by first | (rw [hy262]; with_reducible exact H) | (have H2_ := (Option.bind_some _ _).symm.trans H; rw [hy262]; with_reducible exact H2_) | (have H2_ := (Option.bind_some _ _).symm.trans H; with_reducible exact H2_) | with_reducible exact H | (rw [hy262]; exact H) | exact H
 have Ny262 := am hy262; clear hy262
 generalize hy265 : (([] : List Int)) = y265 at H
 have Ny265 := am hy265.symm; clear hy265; have H' := am H; clear H
 go_enter Try.func60, Try.ntmps60
 go_wp2_with (first | ((with_reducible refine gate_dst (N := 17) rfl ?_); refine Kd.N_lit (Kd.slice 3 (Kd.int .i64)) _ 22 ?hg (N' := 17) ?hd (xs := ([] : List (List Int))) (inner := []) (ok := (fun k_ => (P1_ k_ ∨ w.heap.size ≤ k_))) (okp := (fun k_ => (P1_ k_ ∨ w.heap.size ≤ k_))) ?hr ?hp (fun _ hk => hk) ((show ∀ k_, w.heap.size ≤ k_ → (fun k_ => (P1_ k_ ∨ w.heap.size ≤ k_)) k_ from fun k_ hk => (.inr (Nat.le_trans (bz HB) hk))) _ (Nat.le_refl _)) (Below.refl _ _) (Nat.le_refl _) (by simp) ?_; (case hd => rfl); (case hg => rfl); (case hr => first | (go_simp; done) | (go_simp; rfl)); (case hp => exact (Reps.none _ _)); intro v263 w4 ho5 hb hg_ hnew_; clear hg_ hnew_; (first | rw [← Ny262.out] at ho5 | (simp only [Int.reduceToNat] at ho5; rw [← Ny262.out] at ho5)); replace HO1 := eV HO1 (Kd.N_base ho5) hb; have HO264 := am (Kd.N_lower ho5 (bz HB)); replace HB := bq HB hb; clear hb ho5) | ((with_reducible refine gate_dst (N := 18) rfl ?_); refine li 3 ([] : List Int) ?_; intro v266 w6 ho7 hb; (first | rw [← Ny265.out] at ho7 | (simp only [Int.reduceToNat] at ho7; rw [← Ny265.out] at ho7)); replace HO1 := eV HO1 (Kd.R_base ho7) hb; replace HO264 := eN HO264 (Kd.R_base ho7) hb; have HO267 := am (mR ho7 HB); replace HB := bq HB hb; clear hb ho7))
 go_loopg [1, 8, 9, 10] k (fun kq v1 v8 v9 v10 w' => ∃ (x1_1 : List (List Int)) (x8_1 : List (List Int)) (x9_1 : List Int) (x10_1 : Int), v10 = .int .i64 x10_1 ∧ Aside0 (spec_l4Reduce.l0 kq a0 x1_1 a2 x8_1 x9_1 x10_1 = some (r1, r2)) ∧ Aside0 (kq ≤ k) ∧ Aside0 (Kd.V (Kd.slice 3 (Kd.int .i64)) 22 w' w.heap.size (fun k_ => (P1_ k_ ∨ w.heap.size ≤ k_) ∧ some k_ ≠ (v8 : Value).ownBlock ∧ some k_ ≠ (v9 : Value).ownBlock) v1 x1_1) ∧ Aside0 (Kd.N (Kd.slice 3 (Kd.int .i64)) 22 w' w.heap.size (fun k_ => (P1_ k_ ∨ w.heap.size ≤ k_) ∧ some k_ ≠ (v9 : Value).ownBlock) v8 x8_1) ∧ Aside0 (Kd.R (Kd.int .i64) 3 w' w.heap.size (fun k_ => (w.heap.size ≤ k_)) v9 x9_1) ∧ Aside0 (Below w.heap.size w w'))
 case atStart => exact ⟨(l1), (y262), (y265), (0), fr, H', ⟨Nat.le_refl _⟩, ⟨Kd.V_below (Kd.V_mono HO1.out (fun _ hk => ⟨hk.1.1, ⟨hk.1.2, hk.2⟩⟩)) gs⟩, ⟨wN HO264⟩, ⟨Kd.R_below (Kd.R_mono HO267.out (fun _ hk => hk.1)) gs⟩, ⟨bw HB⟩⟩
 case round =>
  clear H'; try clear c1; try clear p2; try clear c6
  obtain ⟨x1_1, x8_1, x9_1, x10_1, rfl, HA, HK1, HO_1, HO_8, HO_9, HB⟩ := hrel
  cases gk with
  | zero => exact absurd HA.out (by simp [spec_l4Reduce.l0])
  | succ k1 =>
   have H := HA.out; clear HA
   simp only [spec_l4Reduce.l0] at H
   by_cases c8 : x10_1 < a2
   ·rw [if_pos c8] at H
    have c8b0 := decide_eq_true c8; clear c8; have H' := am H; clear H; go_wp2
    go_loopg [11, 12] k1 (fun kq v11 v12 w' => ∃ (x11_2 : Int) (x12_2 : Int), v11 = .int .i64 x11_2 ∧ v12 = .int .i64 x12_2 ∧ Aside0 (spec_l4Reduce.l1 kq a0 x1_1 a2 x8_1 x9_1 x10_1 x11_2 x12_2 = some (r1, r2)) ∧ Aside0 (kq ≤ k1) ∧ Aside0 (Kd.V (Kd.slice 3 (Kd.int .i64)) 22 w' w.heap.size (fun k_ => (P1_ k_ ∨ w.heap.size ≤ k_) ∧ some k_ ≠ (u8 : Value).ownBlock ∧ some k_ ≠ (u9 : Value).ownBlock) u1 x1_1) ∧ Aside0 (Kd.N (Kd.slice 3 (Kd.int .i64)) 22 w' w.heap.size (fun k_ => (P1_ k_ ∨ w.heap.size ≤ k_) ∧ some k_ ≠ (u9 : Value).ownBlock) u8 x8_1) ∧ Aside0 (Kd.R (Kd.int .i64) 3 w' w.heap.size (fun k_ => (w.heap.size ≤ k_)) u9 x9_1) ∧ Aside0 (Below w.heap.size w w'))
    case atStart => exact ⟨((-1)), (0), fr, fr, H', ⟨Nat.le_refl _⟩, ⟨wV HO_1⟩, ⟨wN HO_8⟩, ⟨wR HO_9⟩, ⟨bw HB⟩⟩
    case round =>
     clear H'; try clear c1; try clear p2; try clear c6; try clear c8; try clear c8b0; try clear p2
     obtain ⟨x11_2, x12_2, rfl, rfl, HA, HK2, HO_1, HO_8, HO_9, HB⟩ := hrel
     cases gk with
     | zero => exact absurd HA.out (by simp [spec_l4Reduce.l1])
     | succ k2 =>
      have H := HA.out; clear HA
      simp only [spec_l4Reduce.l1] at H
      have HC9 := am H
      clear H
      go_upto_region 8 with (fail)
      go_cut [31] (fun v31 wc => ∃ (kq : Nat) (x31_8 : Bool), v31 = .bool x31_8 ∧ Aside0 (spec_l4Reduce.j2 kq a0 x1_1 a2 x8_1 x9_1 x10_1 x11_2 x12_2 x31_8 = some (r1, r2)) ∧ Aside0 (kq ≤ k2) ∧ Aside0 (Kd.V (Kd.slice 3 (Kd.int .i64)) 22 wc w.heap.size (fun k_ => (P1_ k_ ∨ w.heap.size ≤ k_) ∧ some k_ ≠ (u8 : Value).ownBlock ∧ some k_ ≠ (u9 : Value).ownBlock) u1 x1_1) ∧ Aside0 (Kd.N (Kd.slice 3 (Kd.int .i64)) 22 wc w.heap.size (fun k_ => (P1_ k_ ∨ w.heap.size ≤ k_) ∧ some k_ ≠ (u9 : Value).ownBlock) u8 x8_1) ∧ Aside0 (Kd.R (Kd.int .i64) 3 wc w.heap.size (fun k_ => (w.heap.size ≤ k_)) u9 x9_1) ∧ Aside0 (Below w.heap.size w wc))
      case first =>
       have H := HC9.out
       clear HC9
       by_cases c10 : x12_2 < (x1_1.length : Int)
       ·rw [if_pos c10] at H
        have c10b0 := decide_eq_true c10; clear c10
        (first | rw [c10b0] | (simp only [i64_w, i32_w]; rw [c10b0]) | skip)
        have H' := am H; clear H
        obtain ⟨Ao11, co11, eo11⟩ := Kd.V_slice HO_1.out
        subst eo11; go_wp2
        go_meet
        case rel => exact ⟨_, (decide (x11_2 < 0)), fr, H', ⟨by have := HK1.out; have := HK2.out; first | omega | exact Nat.le_refl _⟩, ⟨wV HO_1⟩, ⟨wN HO_8⟩, ⟨wR HO_9⟩, ⟨bw HB⟩⟩
       ·rw [if_neg c10] at H
        have c10b0 := decide_eq_false c10; clear c10
        (first | rw [c10b0] | (simp only [i64_w, i32_w]; rw [c10b0]) | skip)
        have H' := am H; clear H
        obtain ⟨Ao12, co12, eo12⟩ := Kd.V_slice HO_1.out
        subst eo12; go_wp2
        go_meet
        case rel => exact ⟨_, (false), fr, H', ⟨by have := HK1.out; have := HK2.out; first | omega | exact Nat.le_refl _⟩, ⟨wV HO_1⟩, ⟨wN HO_8⟩, ⟨wR HO_9⟩, ⟨bw HB⟩⟩
      case rest =>
       clear HC9; try clear c1; try clear p2; try clear c6; try clear c8; try clear c8b0; try clear c10; try clear c10b0; try clear p2
       obtain ⟨kq, x31_8, rfl, HA, HJ8, HO_1, HO_8, HO_9, HB⟩ := hcut
       cases kq with
       | zero => exact absurd HA.out (by simp [spec_l4Reduce.j2])
       | succ kj8 =>
        have H := HA.out; clear HA
        simp only [spec_l4Reduce.j2] at H
        by_cases c13 : x31_8 = true
        ·subst c13
         rw [if_pos rfl] at H
         replace H := ifn H; obtain ⟨c14, H⟩ := H; have c14b0 := decide_eq_true c14; clear c14; replace H := ifn H; obtain ⟨c15, H⟩ := H; have c15b0 := decide_eq_true c15; clear c15; replace H := ifn H; obtain ⟨c16, H⟩ := H; have c16b0 := decide_eq_true c16
         clear c16; replace H := ifn H; obtain ⟨c17, H⟩ := H; have c17b0 := decide_eq_true c17; clear c17
         by_cases c18 : (rd (rd_L1 x1_1 x12_2) x10_1) = 0
         ·rw [if_pos c18] at H
          have c18b0 := beq_iff_eq.mpr c18; have c18b1 := bne_eq_false_iff_eq.mpr c18; clear c18; have H' := am H; clear H
          obtain ⟨Ao19, co19, eo19⟩ := Kd.V_slice HO_1.out
          subst eo19
          have p268 : 0 ≤ (x12_2 : Int) := od
          have q268 : x12_2 < (x1_1.length : Int) := od
          obtain ⟨ad268, A268_0, c268_0, e268, hx268_0, hl268_0, hi268_0⟩ := at_L1 (Kd.V_reads' HO_1.out).2.2 x12_2 p268 q268
          cases e268
          obtain ⟨ce268, hce268, hMe268, hcc268⟩ := Kd.V_get HO_1.out [] x12_2 p268 (by first | exact q268 | exact od | (have e_ := (Kd.V_reads' HO_1.out).1; omega))
          obtain ⟨ua268_0, uc268_0, rfl, ul268_0, ge268_0⟩ := Kd.FK_slice_open hMe268
          have hv268_0 := hcc268 0 _ rfl
          rw [Nat.add_zero, show ((Kd.slice 3 (Kd.int .i64))).sz = 1 from rfl, Nat.mul_one] at hv268_0
          replace hv268_0 := Option.some.inj (hv268_0.symm.trans hx268_0)
          injection hv268_0 with hva_ hvn_ hvc_
          rw [hva_] at ge268_0
          rw [hvc_] at ul268_0
          have HL268_0 := am (show Kd.V (Kd.int .i64) 3 _ w.heap.size _ _ (rd_L1 x1_1 x12_2) from Kd.V_mk ul268_0 ge268_0)
          clear hva_ hvn_ hvc_ ge268_0 ul268_0; clear hcc268 hce268
          have HR268_0 := am hi268_0
          have HC268_0 := am hl268_0
          clear hi268_0 hl268_0; replace p268 := eq_true p268; replace q268 := eq_true q268
          have p269 : 0 ≤ (x10_1 : Int) := od
          have q269 : x10_1 < ((rd_L1 x1_1 x12_2).length : Int) := od
          obtain ⟨ad269, e269, hx269_0⟩ := Kd.at_int HR268_0.out x10_1 p269 q269
          cases e269; replace p269 := eq_true p269; replace q269 := eq_true q269; go_wp2
          go_roundg kj8
          case measure => have := HK1.out; have := HK2.out; have := HJ8.out; omega
          case rel => exact ⟨(x11_2), (wrap64 (x12_2 + 1)), fr, fr, H', ⟨by have := HK1.out; have := HK2.out; have := HJ8.out; omega⟩, ⟨wV HO_1⟩, ⟨wN HO_8⟩, ⟨wR HO_9⟩, ⟨bw HB⟩⟩
         ·rw [if_neg c18] at H
          have c18b0 := beq_eq_false_iff_ne.mpr c18; have c18b1 := bne_iff_ne.mpr c18; have H' := am H; clear H
          obtain ⟨Ao20, co20, eo20⟩ := Kd.V_slice HO_1.out
          subst eo20
          have p268 : 0 ≤ (x12_2 : Int) := od
          have q268 : x12_2 < (x1_1.length : Int) := od
          obtain ⟨ad268, A268_0, c268_0, e268, hx268_0, hl268_0, hi268_0⟩ := at_L1 (Kd.V_reads' HO_1.out).2.2 x12_2 p268 q268
          cases e268
          obtain ⟨ce268, hce268, hMe268, hcc268⟩ := Kd.V_get HO_1.out [] x12_2 p268 (by first | exact q268 | exact od | (have e_ := (Kd.V_reads' HO_1.out).1; omega))
          obtain ⟨ua268_0, uc268_0, rfl, ul268_0, ge268_0⟩ := Kd.FK_slice_open hMe268
          have hv268_0 := hcc268 0 _ rfl
          rw [Nat.add_zero, show ((Kd.slice 3 (Kd.int .i64))).sz = 1 from rfl, Nat.mul_one] at hv268_0
          replace hv268_0 := Option.some.inj (hv268_0.symm.trans hx268_0)
          injection hv268_0 with hva_ hvn_ hvc_
          rw [hva_] at ge268_0
          rw [hvc_] at ul268_0
          have HL268_0 := am (show Kd.V (Kd.int .i64) 3 _ w.heap.size _ _ (rd_L1 x1_1 x12_2) from Kd.V_mk ul268_0 ge268_0)
          clear hva_ hvn_ hvc_ ge268_0 ul268_0; clear hcc268 hce268
          have HR268_0 := am hi268_0
          have HC268_0 := am hl268_0
          clear hi268_0 hl268_0; replace p268 := eq_true p268; replace q268 := eq_true q268
          have p269 : 0 ≤ (x10_1 : Int) := od
          have q269 : x10_1 < ((rd_L1 x1_1 x12_2).length : Int) := od
          obtain ⟨ad269, e269, hx269_0⟩ := Kd.at_int HR268_0.out x10_1 p269 q269
          cases e269; replace p269 := eq_true p269; replace q269 := eq_true q269; go_wp2
          go_roundg kj8
          case measure => have := HK1.out; have := HK2.out; have := HJ8.out; omega
          case rel => exact ⟨(x12_2), (wrap64 (x12_2 + 1)), fr, fr, H', ⟨by have := HK1.out; have := HK2.out; have := HJ8.out; omega⟩, ⟨wV HO_1⟩, ⟨wN HO_8⟩, ⟨wR HO_9⟩, ⟨bw HB⟩⟩
        ·replace c13 := Bool.eq_false_iff.mpr c13
         subst c13
         rw [if_neg (show ¬ (false = true) by decide)] at H
         by_cases c21 : x11_2 < 0
         ·rw [if_pos c21] at H
          have c21b0 := decide_eq_true c21; clear c21; have H' := am H; clear H; go_wp2
          go_roundg kj8
          case measure => have := HK1.out; have := HK2.out; have := HJ8.out; omega
          case rel => exact ⟨(x1_1), (x8_1), (x9_1), (wrap64 (x10_1 + 1)), fr, H', ⟨by have := HK1.out; have := HK2.out; have := HJ8.out; omega⟩, ⟨wV HO_1⟩, ⟨wN HO_8⟩, ⟨wR HO_9⟩, ⟨bw HB⟩⟩
         ·rw [if_neg c21] at H
          have c21b0 := decide_eq_false c21; clear c21; replace H := ifn H; obtain ⟨c22, H⟩ := H; have c22b0 := decide_eq_true c22; clear c22; replace H := ifn H; obtain ⟨c23, H⟩ := H; have c23b0 := decide_eq_true c23; clear c23; replace H := bs H; obtain ⟨t271, A24, H⟩ := H
          generalize hy274 : (([] : List (List Int))) = y274 at H
          have Ny274 := am hy274.symm; clear hy274; have H' := am H; clear H
          obtain ⟨Ao25, co25, eo25⟩ := Kd.V_slice HO_1.out
          subst eo25
          have p270 : 0 ≤ (x11_2 : Int) := od
          have q270 : x11_2 < (x1_1.length : Int) := od
          obtain ⟨ad270, A270_0, c270_0, e270, hx270_0, hl270_0, hi270_0⟩ := at_L1 (Kd.V_reads' HO_1.out).2.2 x11_2 p270 q270
          cases e270
          obtain ⟨ce270, hce270, hMe270, hcc270⟩ := Kd.V_get HO_1.out [] x11_2 p270 (by first | exact q270 | exact od | (have e_ := (Kd.V_reads' HO_1.out).1; omega))
          obtain ⟨ua270_0, uc270_0, rfl, ul270_0, ge270_0⟩ := Kd.FK_slice_open hMe270
          have hv270_0 := hcc270 0 _ rfl
          rw [Nat.add_zero, show ((Kd.slice 3 (Kd.int .i64))).sz = 1 from rfl, Nat.mul_one] at hv270_0
          replace hv270_0 := Option.some.inj (hv270_0.symm.trans hx270_0)
          injection hv270_0 with hva_ hvn_ hvc_
          rw [hva_] at ge270_0
          rw [hvc_] at ul270_0
          have HL270_0 := am (show Kd.V (Kd.int .i64) 3 _ w.heap.size _ _ (rd_L1 x1_1 x11_2) from Kd.V_mk ul270_0 ge270_0)
          clear hva_ hvn_ hvc_ ge270_0 ul270_0; clear hcc270 hce270
          have HR270_0 := am hi270_0
          have HC270_0 := am hl270_0
          clear hi270_0 hl270_0; replace p270 := eq_true p270; replace q270 := eq_true q270
          go_wp2_with (first | ((with_reducible refine gate_callee (f := 44) rfl ?_); refine gl 50 Try.func44 #[.int .i64 a0, .slice A270_0 (rd_L1 x1_1 x11_2).length c270_0] ?_; (with_reducible refine (spec_l4Row.calls kj8 a0 _ _ (rd_L1 x1_1 x11_2) t271 _ ?_ ?_ A24.out).mono ?_); exact wC HR270_0; exact HC270_0.out; rintro e w26 ⟨v272, rfl, ho0, hb⟩; refine ⟨_, rfl, ?_⟩; replace HO_1 := eV HO_1 (Kd.R_base ho0) hb; replace HO_8 := eN HO_8 (Kd.R_base ho0) hb; replace HL270_0 := eV HL270_0 (Kd.R_base ho0) hb; have HO273 := am (Kd.R_lower (Kd.R_new' (Kd.R_newM (M := fun k_ => (w.heap.size ≤ k_)) ho0 (bz HB) (fun k_ h_ => h_)) (Kd.R_lt (wR HO_9))) (bz HB)); replace HO_9 := eR HO_9 (Kd.R_base ho0) hb; replace HR270_0 := am (Kd.C_below (wC HR270_0) hb); replace HB := bq HB hb; (try clear hb); (try clear ho0)) | ((with_reducible refine gate_dst (N := 51) rfl ?_); refine Kd.N_lit (Kd.slice 3 (Kd.int .i64)) _ 22 ?hg (N' := 51) ?hd (xs := ([] : List (List Int))) (inner := []) (ok := (fun k_ => (P1_ k_ ∨ w.heap.size ≤ k_) ∧ some k_ ≠ (u8 : Value).ownBlock ∧ some k_ ≠ (u9 : Value).ownBlock ∧ some k_ ≠ (v272 : Value).ownBlock)) (okp := (fun k_ => (P1_ k_ ∨ w.heap.size ≤ k_) ∧ some k_ ≠ (u8 : Value).ownBlock ∧ some k_ ≠ (u9 : Value).ownBlock ∧ some k_ ≠ (v272 : Value).ownBlock)) ?hr ?hp (fun _ hk => hk) ((show ∀ k_, w26.heap.size ≤ k_ → (fun k_ => (P1_ k_ ∨ w.heap.size ≤ k_) ∧ some k_ ≠ (u8 : Value).ownBlock ∧ some k_ ≠ (u9 : Value).ownBlock ∧ some k_ ≠ (v272 : Value).ownBlock) k_ from fun k_ hk => ⟨(.inr (Nat.le_trans (bz HB) hk)), Kd.fresh' (Kd.N_lt (wN HO_8)) k_ hk, Kd.fresh' (Kd.R_lt (wR HO_9)) k_ hk, Kd.fresh' (Kd.R_lt (wR HO273)) k_ hk⟩) _ (Nat.le_refl _)) (Below.refl _ _) (Nat.le_refl _) (by simp) ?_; (case hd => rfl); (case hg => rfl); (case hr => first | (go_simp; done) | (go_simp; rfl)); (case hp => exact (Reps.none _ _)); intro v275 w27 ho28 hb hg_ hnew_; clear hg_ hnew_; (first | rw [← Ny274.out] at ho28 | (simp only [Int.reduceToNat] at ho28; rw [← Ny274.out] at ho28)); replace HO_1 := eV HO_1 (Kd.N_base ho28) hb; replace HO_8 := eN HO_8 (Kd.N_base ho28) hb; replace HO_9 := am (Kd.R_below (wR HO_9) hb); replace HL270_0 := eV HL270_0 (Kd.N_base ho28) hb; replace HO273 := am (Kd.R_below (wR HO273) hb); have HO276 := am (Kd.N_lower ho28 (bz HB)); replace HR270_0 := am (Kd.C_below (wC HR270_0) hb); replace HB := bq HB hb; clear hb ho28))
          go_loopg [14, 15] kj8 (fun kq v14 v15 w' => ∃ (x14_4 : List (List Int)) (x15_4 : Int), v15 = .int .i64 x15_4 ∧ Aside0 (spec_l4Reduce.l2 kq a0 x1_1 a2 x8_1 x9_1 x10_1 x11_2 t271 x14_4 x15_4 = some (r1, r2)) ∧ Aside0 (kq ≤ kj8) ∧ Aside0 (Kd.V (Kd.slice 3 (Kd.int .i64)) 22 w' w.heap.size (fun k_ => (P1_ k_ ∨ w.heap.size ≤ k_) ∧ some k_ ≠ (u8 : Value).ownBlock ∧ some k_ ≠ (u9 : Value).ownBlock ∧ some k_ ≠ (v272 : Value).ownBlock ∧ some k_ ≠ (v14 : Value).ownBlock) (.slice (some ad270) x1_1.length co25) x1_1) ∧ Aside0 (Kd.N (Kd.slice 3 (Kd.int .i64)) 22 w' w.heap.size (fun k_ => (P1_ k_ ∨ w.heap.size ≤ k_) ∧ some k_ ≠ (u9 : Value).ownBlock ∧ some k_ ≠ (v272 : Value).ownBlock ∧ some k_ ≠ (v14 : Value).ownBlock) u8 x8_1) ∧ Aside0 (Kd.R (Kd.int .i64) 3 w' w.heap.size (fun k_ => (w.heap.size ≤ k_) ∧ some k_ ≠ (v272 : Value).ownBlock) u9 x9_1) ∧ Aside0 (Kd.R (Kd.int .i64) 3 w' w.heap.size (fun k_ => (w.heap.size ≤ k_) ∧ some k_ ≠ (u9 : Value).ownBlock) v272 t271) ∧ Aside0 (Kd.N (Kd.slice 3 (Kd.int .i64)) 22 w' w.heap.size (fun k_ => (P1_ k_ ∨ w.heap.size ≤ k_) ∧ some k_ ≠ (u8 : Value).ownBlock ∧ some k_ ≠ (u9 : Value).ownBlock ∧ some k_ ≠ (v272 : Value).ownBlock) v14 x14_4) ∧ Aside0 (Below w.heap.size w w'))
          case atStart => exact ⟨(y274), (0), fr, H', ⟨Nat.le_refl _⟩, ⟨Kd.V_below (Kd.V_mono HO_1.out (fun _ hk => ⟨hk.1.1.1, ⟨hk.1.1.2.1, ⟨hk.1.1.2.2, ⟨hk.1.2, hk.2⟩⟩⟩⟩)) gs⟩, ⟨Kd.N_below (Kd.N_mono HO_8.out (fun _ hk => ⟨hk.1.1.1, ⟨hk.1.1.2, ⟨hk.1.2, hk.2⟩⟩⟩)) gs⟩, ⟨wR HO_9⟩, ⟨Kd.R_below (Kd.R_mono HO273.out (fun _ hk => ⟨hk.1.1, hk.2⟩)) gs⟩, ⟨wN HO276⟩, ⟨bw HB⟩⟩
          case round =>
           clear H'; try clear c1; try clear c2; try clear p2; try clear q2; try clear hx2; try clear c4; try clear c6; try clear p6; try clear c8; try clear c8b0; try clear c10; try clear c10b0; try clear c13; try clear c14; try clear c14b0; try clear c15
           try clear c15b0; try clear c16; try clear c16b0; try clear c17; try clear c17b0; try clear c18; try clear c18b0; try clear c18b1; try clear c21; try clear c21b0; try clear c22; try clear c22b0; try clear c23; try clear c23b0; try clear c26; try clear p26
           try clear q26; try clear hx26; try clear c27; try clear p27; try clear q27; try clear hx27; try clear hx268_0; try clear hx269_0; try clear hx270_0; try clear p2; try clear p268; try clear p269; try clear p270; try clear q268; try clear q269
           try clear q270
           obtain ⟨x14_4, x15_4, rfl, HA, HK4, HO_1, HO_8, HO_9, HO_13, HO_14, HB⟩ := hrel
           cases gk with
           | zero => exact absurd HA.out (by simp [spec_l4Reduce.l2])
           | succ k4 =>
            have H := HA.out; clear HA
            simp only [spec_l4Reduce.l2] at H
            by_cases c29 : x15_4 < (x1_1.length : Int)
            ·rw [if_pos c29] at H
             have c29b0 := decide_eq_true c29; clear c29
             by_cases c30 : x15_4 = x11_2
             ·rw [if_pos c30] at H
              have c30b0 := beq_iff_eq.mpr c30; have c30b1 := bne_eq_false_iff_eq.mpr c30; clear c30; have H' := am H; clear H; go_wp2
              go_roundg k4
              case measure => have := HK1.out; have := HK2.out; have := HJ8.out; have := HK4.out; omega
              case rel => exact ⟨(x14_4), (wrap64 (x15_4 + 1)), fr, H', ⟨by have := HK1.out; have := HK2.out; have := HJ8.out; have := HK4.out; omega⟩, ⟨wV HO_1⟩, ⟨wN HO_8⟩, ⟨wR HO_9⟩, ⟨wR HO_13⟩, ⟨wN HO_14⟩, ⟨bw HB⟩⟩
             ·rw [if_neg c30] at H
              have c30b0 := beq_eq_false_iff_ne.mpr c30; have c30b1 := bne_iff_ne.mpr c30; replace H := ifn H; obtain ⟨c31, H⟩ := H; have c31b0 := decide_eq_true c31; clear c31; replace H := ifn H; obtain ⟨c32, H⟩ := H; have c32b0 := decide_eq_true c32; clear c32
              replace H := ifn H; obtain ⟨c33, H⟩ := H; have c33b0 := decide_eq_true c33; clear c33; replace H := bs H; obtain ⟨t280, A34, H⟩ := H; replace H := ifn H; obtain ⟨c35, H⟩ := H; have LMc35 := am c35; clear c35
              generalize hy283 : (x14_4 ++ [t280] : List (List Int)) = y283 at H
              have Ny283 := am hy283.symm; clear hy283; have H' := am H; clear H
              try go_wp2
              replace HO_1 := am (Kd.V_drew HO_1.out)
              replace HO_8 := am (Kd.N_drew HO_8.out)
              replace HO_9 := am (Kd.R_drew HO_9.out)
              replace HO_13 := am (Kd.R_drew HO_13.out)
              replace HO_14 := am (Kd.N_drew HO_14.out)
              replace HB := am (below_drew1 HB.out)
              have p277 : 0 ≤ (x15_4 : Int) := od
              have q277 : x15_4 < (x1_1.length : Int) := od
              obtain ⟨ad277, A277_0, c277_0, e277, hx277_0, hl277_0, hi277_0⟩ := at_L1 (Kd.V_reads' HO_1.out).2.2 x15_4 p277 q277
              obtain rfl : ad270 = ad277 := (by injection e277)
              obtain ⟨ce277, hce277, hMe277, hcc277⟩ := Kd.V_get HO_1.out [] x15_4 p277 (by first | exact q277 | exact od | (have e_ := (Kd.V_reads' HO_1.out).1; omega))
              obtain ⟨ua277_0, uc277_0, rfl, ul277_0, ge277_0⟩ := Kd.FK_slice_open hMe277
              have hv277_0 := hcc277 0 _ rfl
              rw [Nat.add_zero, show ((Kd.slice 3 (Kd.int .i64))).sz = 1 from rfl, Nat.mul_one] at hv277_0
              replace hv277_0 := Option.some.inj (hv277_0.symm.trans hx277_0)
              injection hv277_0 with hva_ hvn_ hvc_
              rw [hva_] at ge277_0
              rw [hvc_] at ul277_0
              have HL277_0 := am (show Kd.V (Kd.int .i64) 3 _ w.heap.size _ _ (rd_L1 x1_1 x15_4) from Kd.V_mk ul277_0 ge277_0)
              clear hva_ hvn_ hvc_ ge277_0 ul277_0; clear hcc277 hce277
              have HR277_0 := am hi277_0
              have HC277_0 := am hl277_0
              clear hi277_0 hl277_0; replace p277 := eq_true p277; replace q277 := eq_true q277
              have p278 : 0 ≤ (x15_4 : Int) := od
              have q278 : x15_4 < (x1_1.length : Int) := od
              obtain ⟨ad278, A278_0, c278_0, e278, hx278_0, hl278_0, hi278_0⟩ := at_L1 (Kd.V_reads' HO_1.out).2.2 x15_4 p278 q278
              obtain rfl : ad270 = ad278 := (by injection e278)
              obtain ⟨ce278, hce278, hMe278, hcc278⟩ := Kd.V_get HO_1.out [] x15_4 p278 (by first | exact q278 | exact od | (have e_ := (Kd.V_reads' HO_1.out).1; omega))
              obtain ⟨ua278_0, uc278_0, rfl, ul278_0, ge278_0⟩ := Kd.FK_slice_open hMe278
              have hv278_0 := hcc278 0 _ rfl
              rw [Nat.add_zero, show ((Kd.slice 3 (Kd.int .i64))).sz = 1 from rfl, Nat.mul_one] at hv278_0
              replace hv278_0 := Option.some.inj (hv278_0.symm.trans hx278_0)
              injection hv278_0 with hva_ hvn_ hvc_
              rw [hva_] at ge278_0
              rw [hvc_] at ul278_0
              have HL278_0 := am (show Kd.V (Kd.int .i64) 3 _ w.heap.size _ _ (rd_L1 x1_1 x15_4) from Kd.V_mk ul278_0 ge278_0)
              clear hva_ hvn_ hvc_ ge278_0 ul278_0; clear hcc278 hce278
              have HR278_0 := am hi278_0
              have HC278_0 := am hl278_0
              clear hi278_0 hl278_0; replace p278 := eq_true p278; replace q278 := eq_true q278
              have ea_ := Option.some.inj (hx277_0.symm.trans hx278_0)
              injection ea_ with ea_ en_ ec_
              subst ea_; subst ec_; clear en_
              have p279 : 0 ≤ (x10_1 : Int) := od
              have q279 : x10_1 < ((rd_L1 x1_1 x15_4).length : Int) := od
              obtain ⟨ad279, e279, hx279_0⟩ := Kd.at_int HR278_0.out x10_1 p279 q279
              cases e279; replace p279 := eq_true p279; replace q279 := eq_true q279
              obtain ⟨Ao37, co37, eo37⟩ := Kd.R_slice HO_13.out
              (first | subst eo37 | (injection eo37 with f1_ f2_ f3_; have f4_ := f1_.symm; have f5_ := f3_.symm; clear f1_ f2_ f3_; subst f4_; subst f5_))
              refine st 18 (fun w' => w'.cell? (ad270.add (x15_4).toNat) = some (.slice (some ad279) (rd_L1 x1_1 x15_4).length c277_0) ∧ w'.cell? (ad270.add (x15_4).toNat) = some (.slice (some ad279) (rd_L1 x1_1 x15_4).length c277_0) ∧ w'.cell? (ad279.add (x10_1).toNat) = some (.int .i64 (rd (rd_L1 x1_1 x15_4) x10_1))) [15, 16] spec_l4Reduce.tab19 spec_l4Reduce.bits19 (⟨hx277_0, hx278_0, hx279_0⟩) fun hHeld HT_ HW_ => ?_
              generalize wr.drew = w36 at HO_1 HO_8 HO_9 HO_13 HO_14 HB HL277_0 HL278_0 HR277_0 HR278_0 hx277_0 hx278_0 hx279_0 hHeld ⊢
              refine pz 0 61 HT_ ?_; refine pz 1 62 HT_ ?_; refine pz 2 63 HT_ ?_; refine pz 3 64 HT_ ?_; refine pz 4 65 HT_ ?_; refine pz 6 67 HT_ ?_; refine pz 7 68 HT_ ?_; refine pz 8 69 HT_ ?_; refine pz 10 71 HT_ ?_; refine pz 13 74 HT_ ?_; refine tk 5 66 HT_ HW_ hHeld ?_
              refine tk 9 70 HT_ HW_ hHeld ?_; refine pz 11 72 HT_ ?_; refine tk 12 73 HT_ HW_ hHeld ?_
              refine on 14 (some 75) HT_ fun K hK => ?_
              refine gs_ Try.func87 #[.int .i64 a0, .slice (some ad279) (rd_L1 x1_1 x15_4).length c277_0, .int .i64 (rd (rd_L1 x1_1 x15_4) x10_1), .slice Ao37 t271.length co37] ?_
              with_reducible refine (spec_l4Less.calls k4 a0 _ _ (rd_L1 x1_1 x15_4) (rd (rd_L1 x1_1 x15_4) x10_1) _ _ t271 t280 _ ?side1 ?side2 ?side3 ?side4 A34.out).mono ?_
              (case side1 => exact wC HR277_0)
              (case side2 => exact HC277_0.out)
              (case side3 => exact Kd.C_below (Kd.R_reads' HO_13.out).2.2 gs)
              (case side4 => exact (Kd.R_reads' HO_13.out).2.1)
              rintro e w38 ⟨v281, rfl, ho0, hb⟩
              have HS0_ := (hb.cell (World.block_lt_of_cell? _ _ (hHeld.1))).trans (hHeld.1)
              have HS1_ := (hb.cell (World.block_lt_of_cell? _ _ (hHeld.2.1))).trans (hHeld.2.1)
              have HS2_ := (hb.cell (World.block_lt_of_cell? _ _ (hHeld.2.2))).trans (hHeld.2.2)
              refine ⟨_, rfl, ?_⟩
              replace HO_1 := eV HO_1 (Kd.R_base ho0) hb
              replace HO_8 := eN HO_8 (Kd.R_base ho0) hb
              replace HO_14 := eN HO_14 (Kd.R_base ho0) hb
              replace HL277_0 := eV HL277_0 (Kd.R_base ho0) hb
              replace HL278_0 := eV HL278_0 (Kd.R_base ho0) hb
              have HO282 := am (Kd.R_lower (Kd.R_new' (Kd.R_new' (Kd.R_newM (M := fun k_ => (w.heap.size ≤ k_)) ho0 (bz HB) (fun k_ h_ => h_)) (Kd.R_lt (wR HO_9))) (Kd.R_lt (wR HO_13))) (bz HB))
              replace HO_9 := eR HO_9 (Kd.R_base ho0) hb
              replace HO_13 := eR HO_13 (Kd.R_base ho0) hb
              replace HR277_0 := am (Kd.C_below (wC HR277_0) hb)
              replace HR278_0 := am (Kd.C_below (wC HR278_0) hb)
              replace HB := bq HB hb
              (try clear hb)
              (try clear hb2)
              (try clear hk)
              (try clear hi)
              (try clear ho0)
              obtain ⟨Ao40, co40, eo40⟩ := Kd.R_slice HO282.out
              (first | subst eo40 | (injection eo40 with f1_ f2_ f3_; have f4_ := f1_.symm; have f5_ := f3_.symm; clear f1_ f2_ f3_; subst f4_; subst f5_))
              refine hK.out _ _ ⟨HS0_, HS1_, HS2_⟩ fun hHeld => nz ?_
              clear hK K
              refine la 15 (some 76) HT_ fun K hK => ?_
              refine value_ (w1 := ?_) (v := ?_) (by rfl) rfl ?_ ?_
              rotate_left 2
              ·go_simp
               constructor
               ·rfl
               ·rfl
              refine hK.out _ _ (nz ?_)
              clear hK K
              refine la 16 (some 77) HT_ fun K hK => ?_
              refine Kd.N_append_step (Kd.slice 3 (Kd.int .i64)) (w0 := w) w.heap.size (by rfl) (.tmp 61) (.tmp 76) 45 22 (.slice none 0 0) 24 rfl Try.underlying45 info22 rfl (by decide) (by omega) u14 x14_4 t280 [.slice Ao40 t280.length co40] (fun k_ => (P1_ k_ ∨ w.heap.size ≤ k_) ∧ some k_ ≠ (u8 : Value).ownBlock ∧ some k_ ≠ (u9 : Value).ownBlock ∧ some k_ ≠ (.slice Ao37 t271.length co37 : Value).ownBlock) (fun k_ => ((fun k_ => (P1_ k_ ∨ w.heap.size ≤ k_) ∧ some k_ ≠ (u8 : Value).ownBlock ∧ some k_ ≠ (u9 : Value).ownBlock ∧ some k_ ≠ (.slice Ao37 t271.length co37 : Value).ownBlock)) k_ ∧ some k_ ≠ (u14 : Value).ownBlock) rfl rfl ?aP (fun _ hk => hk) ?aF ?aO ?aB ?aS ?aL ?_
              (case aP => exact (Kd.FK_slice_mk (Kd.R_reads' (Kd.R_mono (ok' := (fun k_ => ((fun k_ => (P1_ k_ ∨ w.heap.size ≤ k_) ∧ some k_ ≠ (u8 : Value).ownBlock ∧ some k_ ≠ (u9 : Value).ownBlock ∧ some k_ ≠ (.slice Ao37 t271.length co37 : Value).ownBlock)) k_ ∧ some k_ ≠ (u14 : Value).ownBlock)) (Kd.R_apart' (Kd.R_apart' (HO282.out) (Kd.N_typed HO_8.out) (by decide)) (Kd.N_typed HO_14.out) (by decide)) (fun k_ hk => ⟨⟨(.inr (hk.1.1.1.1.1)), ⟨hk.1.2, ⟨hk.1.1.1.2, hk.1.1.2⟩⟩⟩, hk.2⟩))).2.1 (Kd.R_F (Kd.R_mono (ok' := (fun k_ => ((fun k_ => (P1_ k_ ∨ w.heap.size ≤ k_) ∧ some k_ ≠ (u8 : Value).ownBlock ∧ some k_ ≠ (u9 : Value).ownBlock ∧ some k_ ≠ (.slice Ao37 t271.length co37 : Value).ownBlock)) k_ ∧ some k_ ≠ (u14 : Value).ownBlock)) (Kd.R_apart' (Kd.R_apart' (HO282.out) (Kd.N_typed HO_8.out) (by decide)) (Kd.N_typed HO_14.out) (by decide)) (fun k_ hk => ⟨⟨(.inr (hk.1.1.1.1.1)), ⟨hk.1.2, ⟨hk.1.1.1.2, hk.1.1.2⟩⟩⟩, hk.2⟩)))))
              (case aB => exact (bw HB))
              (case aF => exact (fun k_ hk => ⟨(.inr (Nat.le_trans (bz HB) hk)), Kd.fresh' (Kd.N_lt (wN HO_8)) k_ hk, Kd.fresh' (Kd.R_lt (wR HO_9)) k_ hk, Kd.fresh' (Kd.R_lt (wR HO_13)) k_ hk⟩))
              (case aO => exact (by (with_reducible repeat (first | apply Kd.N_alloc | apply Kd.N_drewN | apply Kd.N_drew)); exact Kd.N_mono HO_14.out (fun _ hk => ⟨hk.1.1, ⟨hk.1.2.1, ⟨hk.1.2.2.1, hk.1.2.2.2⟩⟩⟩)))
              (case aS => exact (bz HB))
              (case aL => have := LMc35.out; omega)
              intro v284 w39 ho hb hg hat
              rw [← Ny283.out] at ho
              replace HO_1 := am (Kd.V_afterv (ok := (fun k_ => (P1_ k_ ∨ w.heap.size ≤ k_) ∧ some k_ ≠ (u8 : Value).ownBlock ∧ some k_ ≠ (u9 : Value).ownBlock ∧ some k_ ≠ (.slice Ao37 t271.length co37 : Value).ownBlock ∧ some k_ ≠ (.slice Ao40 t280.length co40 : Value).ownBlock)) (by (with_reducible repeat (first | apply Kd.V_alloc | apply Kd.V_drewN | apply Kd.V_drew)); exact Kd.V_mono HO_1.out (fun _ hk => ⟨⟨hk.1.1, ⟨hk.1.2.1, ⟨hk.1.2.2.1, ⟨hk.1.2.2.2.1, hk.2⟩⟩⟩⟩, hk.1.2.2.2.2⟩)) hg hat)
              replace HO_8 := am (Kd.N_afterv (ok := (fun k_ => (P1_ k_ ∨ w.heap.size ≤ k_) ∧ some k_ ≠ (u9 : Value).ownBlock ∧ some k_ ≠ (.slice Ao37 t271.length co37 : Value).ownBlock ∧ some k_ ≠ (.slice Ao40 t280.length co40 : Value).ownBlock)) (by (with_reducible repeat (first | apply Kd.N_alloc | apply Kd.N_drewN | apply Kd.N_drew)); exact Kd.N_mono HO_8.out (fun _ hk => ⟨⟨hk.1.1, ⟨hk.1.2.1, ⟨hk.1.2.2.1, hk.2⟩⟩⟩, hk.1.2.2.2⟩)) hg hat)
              replace HO_9 := am (Kd.R_over' (wR HO_9) (Kd.N_typed (wN HO_14)) (by decide) hg)
              replace HO_13 := am (Kd.R_over' (wR HO_13) (Kd.N_typed (wN HO_14)) (by decide) hg)
              replace HL277_0 := am (Kd.V_afterv (ok := (fun k_ => (P1_ k_ ∨ w.heap.size ≤ k_) ∧ some k_ ≠ (u8 : Value).ownBlock ∧ some k_ ≠ (u9 : Value).ownBlock ∧ some k_ ≠ (.slice Ao37 t271.length co37 : Value).ownBlock ∧ some k_ ≠ (.slice Ao40 t280.length co40 : Value).ownBlock)) (by (with_reducible repeat (first | apply Kd.V_alloc | apply Kd.V_drewN | apply Kd.V_drew)); exact Kd.V_mono HL277_0.out (fun _ hk => ⟨⟨hk.1.1, ⟨hk.1.2.1, ⟨hk.1.2.2.1, ⟨hk.1.2.2.2.1, hk.2⟩⟩⟩⟩, hk.1.2.2.2.2⟩)) hg hat)
              replace HL278_0 := am (Kd.V_afterv (ok := (fun k_ => (P1_ k_ ∨ w.heap.size ≤ k_) ∧ some k_ ≠ (u8 : Value).ownBlock ∧ some k_ ≠ (u9 : Value).ownBlock ∧ some k_ ≠ (.slice Ao37 t271.length co37 : Value).ownBlock ∧ some k_ ≠ (.slice Ao40 t280.length co40 : Value).ownBlock)) (by (with_reducible repeat (first | apply Kd.V_alloc | apply Kd.V_drewN | apply Kd.V_drew)); exact Kd.V_mono HL278_0.out (fun _ hk => ⟨⟨hk.1.1, ⟨hk.1.2.1, ⟨hk.1.2.2.1, ⟨hk.1.2.2.2.1, hk.2⟩⟩⟩⟩, hk.1.2.2.2.2⟩)) hg hat)
              replace HB := am (hb)
              have HO285 := am (ho)
              clear HO_14 HO282; clear ho hb hg hat
              refine hK.out _ _ (nz ?_)
              clear hK K; refine pz 17 14 HT_ ?_
              refine done_ (done_of HT_.out (by kernel_rfl)) ?_
              try go_wp2
              go_roundg k4
              case measure => have := HK1.out; have := HK2.out; have := HJ8.out; have := HK4.out; omega
              case rel => exact ⟨(y283), (wrap64 (x15_4 + 1)), fr, H', ⟨by have := HK1.out; have := HK2.out; have := HJ8.out; have := HK4.out; omega⟩, ⟨Kd.V_below (Kd.V_mono HO_1.out (fun _ hk => ⟨hk.1.1, ⟨hk.1.2.1, ⟨hk.1.2.2.1, ⟨hk.1.2.2.2.1, hk.2⟩⟩⟩⟩)) gs⟩, ⟨Kd.N_below (Kd.N_mono HO_8.out (fun _ hk => ⟨hk.1.1, ⟨hk.1.2.1, ⟨hk.1.2.2.1, hk.2⟩⟩⟩)) gs⟩, ⟨Kd.R_below (Kd.R_mono HO_9.out (fun _ hk => ⟨hk.1.1, hk.1.2⟩)) gs⟩, ⟨Kd.R_below (Kd.R_mono HO_13.out (fun _ hk => ⟨hk.1.1, hk.1.2⟩)) gs⟩, ⟨wN HO285⟩, ⟨bw HB⟩⟩
            ·rw [if_neg c29] at H
             have c29b0 := decide_eq_false c29; clear c29; have H' := am H; clear H; go_wp2
             go_loopg [16] k4 (fun kq v16 w' => ∃ (x8_5 : List (List Int)) (x16_5 : Int), v16 = .int .i64 x16_5 ∧ Aside0 (spec_l4Reduce.l3 kq a0 x14_4 a2 x8_5 x9_1 x10_1 t271 x16_5 = some (r1, r2)) ∧ Aside0 (kq ≤ k4) ∧ Aside0 (Kd.N (Kd.slice 3 (Kd.int .i64)) 22 w' w.heap.size (fun k_ => (P1_ k_ ∨ w.heap.size ≤ k_) ∧ some k_ ≠ (u8 : Value).ownBlock ∧ some k_ ≠ (u9 : Value).ownBlock ∧ some k_ ≠ (v272 : Value).ownBlock) u14 x14_4) ∧ Aside0 (Kd.N (Kd.slice 3 (Kd.int .i64)) 22 w' w.heap.size (fun k_ => (P1_ k_ ∨ w.heap.size ≤ k_) ∧ some k_ ≠ (u14 : Value).ownBlock ∧ some k_ ≠ (u9 : Value).ownBlock ∧ some k_ ≠ (v272 : Value).ownBlock) u8 x8_5) ∧ Aside0 (Kd.R (Kd.int .i64) 3 w' w.heap.size (fun k_ => (w.heap.size ≤ k_) ∧ some k_ ≠ (v272 : Value).ownBlock) u9 x9_1) ∧ Aside0 (Kd.R (Kd.int .i64) 3 w' w.heap.size (fun k_ => (w.heap.size ≤ k_) ∧ some k_ ≠ (u9 : Value).ownBlock) v272 t271) ∧ Aside0 (Below w.heap.size w w'))
             case atStart => exact ⟨(x8_1), (0), fr, H', ⟨Nat.le_refl _⟩, ⟨wN HO_14⟩, ⟨Kd.N_below (Kd.N_mono HO_8.out (fun _ hk => ⟨hk.1, ⟨hk.2.2.2, ⟨hk.2.1, hk.2.2.1⟩⟩⟩)) gs⟩, ⟨wR HO_9⟩, ⟨wR HO_13⟩, ⟨bw HB⟩⟩
             case round =>
              clear H'; try clear c1; try clear c2; try clear p2; try clear q2; try clear hx2; try clear c3; try clear c4; try clear c6; try clear p6; try clear c8; try clear c8b0; try clear c10; try clear c10b0; try clear c13; try clear c14; try clear c14b0
              try clear c15; try clear c15b0; try clear c16; try clear c16b0; try clear c17; try clear c17b0; try clear c18; try clear c18b0; try clear c18b1; try clear c21; try clear c21b0; try clear c22; try clear c22b0; try clear c23; try clear c23b0; try clear c26
              try clear p26; try clear q26; try clear hx26; try clear c27; try clear p27; try clear q27; try clear hx27; try clear c29; try clear c29b0; try clear c30; try clear c30b0; try clear c30b1; try clear c31; try clear c31b0; try clear c32; try clear c32b0
              try clear c33; try clear c33b0; try clear c35; try clear hx268_0; try clear hx269_0; try clear hx270_0; try clear hx277_0; try clear hx278_0; try clear hx279_0; try clear p2; try clear p26; try clear p268; try clear p269; try clear p27; try clear p270
              try clear p277; try clear p278; try clear p279; try clear p6; try clear q2; try clear q26; try clear q268; try clear q269; try clear q27; try clear q270; try clear q277; try clear q278; try clear q279
              obtain ⟨x8_5, x16_5, rfl, HA, HK5, HO_1, HO_8, HO_9, HO_13, HB⟩ := hrel
              cases gk with
              | zero => exact absurd HA.out (by simp [spec_l4Reduce.l3])
              | succ k5 =>
               have H := HA.out; clear HA
               simp only [spec_l4Reduce.l3] at H
               by_cases c41 : x16_5 < (x8_5.length : Int)
               ·rw [if_pos c41] at H
                have c41b0 := decide_eq_true c41; clear c41; replace H := ifn H; obtain ⟨c42, H⟩ := H; have c42b0 := decide_eq_true c42; clear c42; replace H := ifn H; obtain ⟨c43, H⟩ := H; have c43b0 := decide_eq_true c43; clear c43; replace H := ifn H; obtain ⟨c44, H⟩ := H
                have c44b0 := decide_eq_true c44; clear c44; replace H := bs H; obtain ⟨t289, A45, H⟩ := H
                generalize hy292 : (x8_5.set (x16_5 : Int).toNat t289 : List (List Int)) = y292 at H
                have Ny292 := am hy292.symm; clear hy292; have H' := am H; clear H
                obtain ⟨Ao47, co47, eo47⟩ := Kd.N_slice HO_8.out
                subst eo47
                try go_wp2
                replace HO_1 := am (Kd.N_drew HO_1.out)
                replace HO_8 := am (Kd.N_drew HO_8.out)
                replace HO_9 := am (Kd.R_drew HO_9.out)
                replace HO_13 := am (Kd.R_drew HO_13.out)
                replace HB := am (below_drew1 HB.out)
                have p286 : 0 ≤ (x16_5 : Int) := od
                have q286 : x16_5 < (x8_5.length : Int) := od
                obtain ⟨ad286, A286_0, c286_0, e286, hx286_0, hl286_0, hi286_0⟩ := at_L1 (Kd.N_reads' HO_8.out).2.2 x16_5 p286 q286
                cases e286
                obtain ⟨ce286, hce286, hMe286, hcc286⟩ := Kd.N_get HO_8.out [] x16_5 p286 (by first | exact q286 | exact od | (have e_ := (Kd.N_reads' HO_8.out).1; omega))
                obtain ⟨ua286_0, uc286_0, rfl, ul286_0, ge286_0⟩ := Kd.FK_slice_open hMe286
                have hv286_0 := hcc286 0 _ rfl
                rw [Nat.add_zero, show ((Kd.slice 3 (Kd.int .i64))).sz = 1 from rfl, Nat.mul_one] at hv286_0
                replace hv286_0 := Option.some.inj (hv286_0.symm.trans hx286_0)
                injection hv286_0 with hva_ hvn_ hvc_
                rw [hva_] at ge286_0
                rw [hvc_] at ul286_0
                have HL286_0 := am (show Kd.V (Kd.int .i64) 3 _ w.heap.size _ _ (rd_L1 x8_5 x16_5) from Kd.V_mk ul286_0 ge286_0)
                clear hva_ hvn_ hvc_ ge286_0 ul286_0; clear hcc286 hce286
                have HR286_0 := am hi286_0
                have HC286_0 := am hl286_0
                clear hi286_0 hl286_0; replace p286 := eq_true p286; replace q286 := eq_true q286
                have p287 : 0 ≤ (x16_5 : Int) := od
                have q287 : x16_5 < (x8_5.length : Int) := od
                obtain ⟨ad287, A287_0, c287_0, e287, hx287_0, hl287_0, hi287_0⟩ := at_L1 (Kd.N_reads' HO_8.out).2.2 x16_5 p287 q287
                obtain rfl : ad286 = ad287 := (by injection e287)
                obtain ⟨ce287, hce287, hMe287, hcc287⟩ := Kd.N_get HO_8.out [] x16_5 p287 (by first | exact q287 | exact od | (have e_ := (Kd.N_reads' HO_8.out).1; omega))
                obtain ⟨ua287_0, uc287_0, rfl, ul287_0, ge287_0⟩ := Kd.FK_slice_open hMe287
                have hv287_0 := hcc287 0 _ rfl
                rw [Nat.add_zero, show ((Kd.slice 3 (Kd.int .i64))).sz = 1 from rfl, Nat.mul_one] at hv287_0
                replace hv287_0 := Option.some.inj (hv287_0.symm.trans hx287_0)
                injection hv287_0 with hva_ hvn_ hvc_
                rw [hva_] at ge287_0
                rw [hvc_] at ul287_0
                have HL287_0 := am (show Kd.V (Kd.int .i64) 3 _ w.heap.size _ _ (rd_L1 x8_5 x16_5) from Kd.V_mk ul287_0 ge287_0)
                clear hva_ hvn_ hvc_ ge287_0 ul287_0; clear hcc287 hce287
                have HR287_0 := am hi287_0
                have HC287_0 := am hl287_0
                clear hi287_0 hl287_0; replace p287 := eq_true p287; replace q287 := eq_true q287
                have ea_ := Option.some.inj (hx286_0.symm.trans hx287_0)
                injection ea_ with ea_ en_ ec_
                subst ea_; subst ec_; clear en_
                have p288 : 0 ≤ (x10_1 : Int) := od
                have q288 : x10_1 < ((rd_L1 x8_5 x16_5).length : Int) := od
                obtain ⟨ad288, e288, hx288_0⟩ := Kd.at_int HR287_0.out x10_1 p288 q288
                cases e288; replace p288 := eq_true p288; replace q288 := eq_true q288
                obtain ⟨Ao49, co49, eo49⟩ := Kd.R_slice HO_13.out
                (first | subst eo49 | (injection eo49 with f1_ f2_ f3_; have f4_ := f1_.symm; have f5_ := f3_.symm; clear f1_ f2_ f3_; subst f4_; subst f5_))
                refine st 18 (fun w' => w'.cell? (ad286.add (x16_5).toNat) = some (.slice (some ad288) (rd_L1 x8_5 x16_5).length c286_0) ∧ w'.cell? (ad286.add (x16_5).toNat) = some (.slice (some ad288) (rd_L1 x8_5 x16_5).length c286_0) ∧ w'.cell? (ad288.add (x10_1).toNat) = some (.int .i64 (rd (rd_L1 x8_5 x16_5) x10_1))) [17] spec_l4Reduce.tab24 spec_l4Reduce.bits24 (⟨hx286_0, hx287_0, hx288_0⟩) fun hHeld HT_ HW_ => ?_
                generalize wr.drew = w48 at HO_1 HO_8 HO_9 HO_13 HB HL286_0 HL287_0 HR286_0 HR287_0 hx286_0 hx287_0 hx288_0 hHeld ⊢
                refine pz 0 85 HT_ ?_; refine pz 1 86 HT_ ?_; refine pz 2 87 HT_ ?_; refine pz 3 88 HT_ ?_; refine pz 4 89 HT_ ?_; refine pz 5 90 HT_ ?_; refine pz 7 92 HT_ ?_; refine pz 8 93 HT_ ?_; refine pz 9 94 HT_ ?_; refine pz 11 96 HT_ ?_; refine pz 14 99 HT_ ?_
                refine tk 6 91 HT_ HW_ hHeld ?_; refine tk 10 95 HT_ HW_ hHeld ?_; refine pz 12 97 HT_ ?_; refine tk 13 98 HT_ HW_ hHeld ?_
                refine on 15 (some 100) HT_ fun K hK => ?_
                refine gs_ Try.func87 #[.int .i64 a0, .slice (some ad288) (rd_L1 x8_5 x16_5).length c286_0, .int .i64 (rd (rd_L1 x8_5 x16_5) x10_1), .slice Ao49 t271.length co49] ?_
                with_reducible refine (spec_l4Less.calls k5 a0 _ _ (rd_L1 x8_5 x16_5) (rd (rd_L1 x8_5 x16_5) x10_1) _ _ t271 t289 _ ?side1 ?side2 ?side3 ?side4 A45.out).mono ?_
                (case side1 => exact wC HR286_0)
                (case side2 => exact HC286_0.out)
                (case side3 => exact Kd.C_below (Kd.R_reads' HO_13.out).2.2 gs)
                (case side4 => exact (Kd.R_reads' HO_13.out).2.1)
                rintro e w50 ⟨v290, rfl, ho0, hb⟩
                have HS0_ := (hb.cell (World.block_lt_of_cell? _ _ (hHeld.1))).trans (hHeld.1)
                have HS1_ := (hb.cell (World.block_lt_of_cell? _ _ (hHeld.2.1))).trans (hHeld.2.1)
                have HS2_ := (hb.cell (World.block_lt_of_cell? _ _ (hHeld.2.2))).trans (hHeld.2.2)
                refine ⟨_, rfl, ?_⟩
                replace HO_1 := eN HO_1 (Kd.R_base ho0) hb
                replace HO_8 := eN HO_8 (Kd.R_base ho0) hb
                replace HL286_0 := eV HL286_0 (Kd.R_base ho0) hb
                replace HL287_0 := eV HL287_0 (Kd.R_base ho0) hb
                have HO291 := am (Kd.R_lower (Kd.R_new' (Kd.R_new' (Kd.R_newM (M := fun k_ => (w.heap.size ≤ k_)) ho0 (bz HB) (fun k_ h_ => h_)) (Kd.R_lt (wR HO_9))) (Kd.R_lt (wR HO_13))) (bz HB))
                replace HO_9 := eR HO_9 (Kd.R_base ho0) hb
                replace HO_13 := eR HO_13 (Kd.R_base ho0) hb
                replace HR286_0 := am (Kd.C_below (wC HR286_0) hb)
                replace HR287_0 := am (Kd.C_below (wC HR287_0) hb)
                replace HB := bq HB hb
                (try clear hb)
                (try clear hb2)
                (try clear hk)
                (try clear hi)
                (try clear ho0)
                have p46 : 0 ≤ (x16_5 : Int) := od
                have q46 : (x16_5 : Int) < ((x8_5.length : Int) : Int) := od
                obtain ⟨go46, co46, eo46, gb46, gl46, cl46, HG46⟩ := Kd.N_form HO_8.out (by omega)
                (first | cases eo46 | (injection eo46 with ea_ en_ ec_; (first | subst ea_ | (injection ea_ with ea_; subst ea_)); subst ec_; clear en_))
                have GB46 := am gb46
                have GG46 := am HG46
                clear gb46 gl46 HG46
                (first | simp only [add_plain] at hx286_0 | skip)
                (first | simp only [add_plain] at hx287_0 | skip)
                obtain ⟨ce46, hcl46, hM46, hcc46, hfr46⟩ := Kd.N_elem HO_8.out [] (x16_5 : Int) p46 q46
                obtain ⟨ua46_0, uc46_0, rfl, ul46_0, ge46_0⟩ := Kd.FK_slice_open hM46
                have hx46_0 := hcc46 0 _ rfl
                have hf46_0 := hfr46 0
                (try simp only [show ((Kd.slice 3 (Kd.int .i64))).sz = 1 from rfl, Nat.mul_one, Nat.add_zero] at hx46_0)
                (try simp only [show ((Kd.slice 3 (Kd.int .i64))).sz = 1 from rfl, Nat.mul_one, Nat.add_zero] at hf46_0)
                clear hcl46 hcc46 hfr46 hM46; replace p46 := eq_true p46; replace q46 := eq_true q46
                obtain ⟨Ao51, co51, eo51⟩ := Kd.R_slice HO291.out
                (first | subst eo51 | (injection eo51 with f1_ f2_ f3_; have f4_ := f1_.symm; have f5_ := f3_.symm; clear f1_ f2_ f3_; subst f4_; subst f5_))
                have HX52 := am (show Kd.N (Kd.slice 3 (Kd.int .i64)) 22 _ w.heap.size (fun k_ => (P1_ k_ ∨ w.heap.size ≤ k_) ∧ some k_ ≠ (u14 : Value).ownBlock ∧ some k_ ≠ (u9 : Value).ownBlock ∧ some k_ ≠ (.slice Ao49 t271.length co49 : Value).ownBlock ∧ some k_ ≠ (.slice Ao51 t289.length co51 : Value).ownBlock) (.slice (some ⟨go46, 0, none⟩) x8_5.length co47) x8_5 from (Kd.N_mono (HO_8.out) (fun k_ hk => ⟨hk.1.1, ⟨hk.1.2.1, ⟨hk.1.2.2.1, ⟨hk.1.2.2.2, hk.2⟩⟩⟩⟩)))
                replace HX52 := am (show Kd.N (Kd.slice 3 (Kd.int .i64)) 22 _ w.heap.size (fun k_ => (P1_ k_ ∨ w.heap.size ≤ k_) ∧ some k_ ≠ (u14 : Value).ownBlock ∧ some k_ ≠ (u9 : Value).ownBlock ∧ some k_ ≠ (.slice Ao49 t271.length co49 : Value).ownBlock) (.slice (some ⟨go46, 0, none⟩) x8_5.length co47) x8_5 from Kd.N_mono HX52.out (fun k_ hk => ⟨hk.1, ⟨hk.2.1, ⟨hk.2.2.1, hk.2.2.2.1⟩⟩⟩))
                obtain ⟨ce52, hcl52, hM52, hcc52, hfr52⟩ := Kd.N_elem HX52.out [] (x16_5 : Int) (od) (by have h_ : (x16_5 : Int) < ((x8_5.length : Int) : Int) := od; first | exact h_ | (have e_ := (Kd.N_reads' HO_8.out).1; omega) | simpa using h_)
                obtain ⟨ua52_0, uc52_0, rfl, ul52_0, ge52_0⟩ := Kd.FK_slice_open hM52
                have HP52 := (Kd.N_seg HX52.out (x16_5 : Int) (od) (by have h_ : (x16_5 : Int) < ((x8_5.length : Int) : Int) := od; first | exact h_ | (have e_ := (Kd.N_reads' HO_8.out).1; omega) | simpa using h_) (seg := [.slice Ao51 t289.length co51]) (j := 0) hcl52 hcc52 (show 1 ≤ 1 from by decide) (x' := t289) (Kd.FK_slice_mk (Kd.R_reads' (Kd.R_mono (ok' := (fun k_ => ((fun k_ => (P1_ k_ ∨ w.heap.size ≤ k_) ∧ some k_ ≠ (u14 : Value).ownBlock ∧ some k_ ≠ (u9 : Value).ownBlock ∧ some k_ ≠ (.slice Ao49 t271.length co49 : Value).ownBlock)) k_ ∧ k_ ≠ go46)) (Kd.R_apart' (Kd.R_apart' (HO291.out) (Kd.N_typed HO_1.out) (by decide)) (Kd.N_typed HO_8.out) (by decide)) (fun k_ hk => ⟨⟨(.inr (hk.1.1.1.1.1)), ⟨hk.1.2, ⟨hk.1.1.1.2, hk.1.1.2⟩⟩⟩, fun e_ => (hk.2) (by rw [e_]; rfl)⟩))).2.1 (Kd.R_F (Kd.R_mono (ok' := (fun k_ => ((fun k_ => (P1_ k_ ∨ w.heap.size ≤ k_) ∧ some k_ ≠ (u14 : Value).ownBlock ∧ some k_ ≠ (u9 : Value).ownBlock ∧ some k_ ≠ (.slice Ao49 t271.length co49 : Value).ownBlock)) k_ ∧ k_ ≠ go46)) (Kd.R_apart' (Kd.R_apart' (HO291.out) (Kd.N_typed HO_1.out) (by decide)) (Kd.N_typed HO_8.out) (by decide)) (fun k_ hk => ⟨⟨(.inr (hk.1.1.1.1.1)), ⟨hk.1.2, ⟨hk.1.1.1.2, hk.1.1.2⟩⟩⟩, fun e_ => (hk.2) (by rw [e_]; rfl)⟩)))) (fun _ hk => hk)).1
                (try simp only [show ((Kd.slice 3 (Kd.int .i64))).sz = 1 from rfl, Nat.mul_one, Nat.add_zero] at HP52)
                rw [← Ny292.out] at HP52
                have HQ52 := am HP52
                clear hcl52 hcc52 hfr52 hM52 HP52
                refine hK.out _ _ ⟨HS0_, HS1_, HS2_⟩ fun hHeld => nz ?_
                clear hK K; refine pz 16 101 HT_ ?_
                refine la 17 none HT_ fun K hK => ?_
                refine skip_ (w1 := ?_) (by rfl) rfl ?_ ?_
                rotate_left
                ·go_simp
                 rfl
                refine hK.out _ _ ?_
                clear hK K
                refine done_ (done_of HT_.out (by kernel_rfl)) ?_
                try go_wp2
                go_roundg k5
                case measure => have := HK1.out; have := HK2.out; have := HJ8.out; have := HK4.out; have := HK5.out; omega
                case rel => exact ⟨(y292), (wrap64 (x16_5 + 1)), fr, H', ⟨by have := HK1.out; have := HK2.out; have := HJ8.out; have := HK4.out; have := HK5.out; omega⟩, ⟨by (with_reducible repeat (first | apply Kd.N_alloc | apply Kd.N_drewN | apply Kd.N_drew)); exact Kd.N_mono (Kd.N_far (p := ⟨go46, (x16_5 : Int).toNat, none⟩) (Kd.N_mono HO_1.out (fun k_ hk => (⟨hk, fun e_ => hk.1.2.1 (by rw [e_]; rfl)⟩ : _ ∧ k_ ≠ go46))) (fun _ hk => hk.2) (.slice Ao51 t289.length co51)) (fun _ hk => ⟨hk.1.1.1, ⟨hk.1.1.2.1, ⟨hk.1.1.2.2.1, hk.1.1.2.2.2⟩⟩⟩)⟩, ⟨wN HQ52⟩, ⟨by (with_reducible repeat (first | apply Kd.R_alloc | apply Kd.R_drewN | apply Kd.R_drew)); exact Kd.R_mono (Kd.R_far (p := ⟨go46, (x16_5 : Int).toNat, none⟩) (Kd.R_types HO_9.out GG46.out (by decide)) (fun _ hk => hk.2) (.slice Ao51 t289.length co51)) (fun _ hk => ⟨hk.1.1.1, hk.1.1.2⟩)⟩, ⟨by (with_reducible repeat (first | apply Kd.R_alloc | apply Kd.R_drewN | apply Kd.R_drew)); exact Kd.R_mono (Kd.R_far (p := ⟨go46, (x16_5 : Int).toNat, none⟩) (Kd.R_types HO_13.out GG46.out (by decide)) (fun _ hk => hk.2) (.slice Ao51 t289.length co51)) (fun _ hk => ⟨hk.1.1.1, hk.1.1.2⟩)⟩, ⟨by repeat (first | (with_reducible first | exact HB.out | apply below_alloc | apply pw_below_drewN | apply below_drew1 | refine below_set ?_ GB46.out) | exact HB.out)⟩⟩
               ·rw [if_neg c41] at H
                have c41b0 := decide_eq_false c41; clear c41; replace H := ifn H; obtain ⟨c53, H⟩ := H; have LMc53 := am c53; clear c53
                generalize hy293 : (x8_5 ++ [t271] : List (List Int)) = y293 at H
                have Ny293 := am hy293.symm; clear hy293; replace H := ifn H; obtain ⟨c54, H⟩ := H; have LMc54 := am c54; clear c54
                generalize hy296 : (x9_1 ++ [x10_1] : List Int) = y296 at H
                have Ny296 := am hy296.symm; clear hy296; have H' := am H; clear H
                obtain ⟨Ao55, co55, eo55⟩ := Kd.N_slice HO_8.out
                subst eo55
                obtain ⟨Ao57, co57, eo57⟩ := Kd.R_slice HO_13.out
                subst eo57
                go_wp2_with (first | ((with_reducible refine gate_builtin (b := .append) (xs := #[.tmp 102, .tmp 104]) rfl ?_); at_builtin; refine Kd.N_append (Kd.slice 3 (Kd.int .i64)) (w0 := w) w.heap.size rfl (.tmp 102) (.tmp 104) 45 22 (.slice none 0 0) 24 rfl Try.underlying45 info22 rfl (by decide) (by omega) (.slice Ao55 x8_5.length co55) x8_5 t271 [.slice Ao57 t271.length co57] (fun k_ => (P1_ k_ ∨ w.heap.size ≤ k_) ∧ some k_ ≠ (u14 : Value).ownBlock ∧ some k_ ≠ (u9 : Value).ownBlock) (fun k_ => ((fun k_ => (P1_ k_ ∨ w.heap.size ≤ k_) ∧ some k_ ≠ (u14 : Value).ownBlock ∧ some k_ ≠ (u9 : Value).ownBlock)) k_ ∧ some k_ ≠ (.slice Ao55 x8_5.length co55 : Value).ownBlock) rfl rfl ?aP (fun _ hk => hk) ?aF ?aO ?aB ?aS ?aL ?_; (case aP => exact (Kd.FK_slice_mk (Kd.R_reads' (Kd.R_mono (ok' := (fun k_ => ((fun k_ => (P1_ k_ ∨ w.heap.size ≤ k_) ∧ some k_ ≠ (u14 : Value).ownBlock ∧ some k_ ≠ (u9 : Value).ownBlock)) k_ ∧ some k_ ≠ (.slice Ao55 x8_5.length co55 : Value).ownBlock)) (Kd.R_apart' (Kd.R_apart' (HO_13.out) (Kd.N_typed HO_1.out) (by decide)) (Kd.N_typed HO_8.out) (by decide)) (fun k_ hk => ⟨⟨(.inr (hk.1.1.1)), ⟨hk.1.2, hk.1.1.2⟩⟩, hk.2⟩))).2.1 (Kd.R_F (Kd.R_mono (ok' := (fun k_ => ((fun k_ => (P1_ k_ ∨ w.heap.size ≤ k_) ∧ some k_ ≠ (u14 : Value).ownBlock ∧ some k_ ≠ (u9 : Value).ownBlock)) k_ ∧ some k_ ≠ (.slice Ao55 x8_5.length co55 : Value).ownBlock)) (Kd.R_apart' (Kd.R_apart' (HO_13.out) (Kd.N_typed HO_1.out) (by decide)) (Kd.N_typed HO_8.out) (by decide)) (fun k_ hk => ⟨⟨(.inr (hk.1.1.1)), ⟨hk.1.2, hk.1.1.2⟩⟩, hk.2⟩))))); (case aB => exact (bw HB)); (case aF => exact (fun k_ hk => ⟨(.inr (Nat.le_trans (bz HB) hk)), Kd.fresh' (Kd.N_lt (wN HO_1)) k_ hk, Kd.fresh' (Kd.R_lt (wR HO_9)) k_ hk⟩)); (case aO => exact (by (with_reducible repeat (first | apply Kd.N_alloc | apply Kd.N_drewN | apply Kd.N_drew)); exact Kd.N_mono HO_8.out (fun _ hk => ⟨hk.1, ⟨hk.2.1, hk.2.2.1⟩⟩))); (case aS => exact (bz HB)); (case aL => have := LMc53.out; omega); intro v294 w56 ho hb hg hat; rw [← Ny293.out] at ho; replace HO_1 := am (Kd.N_afterv (ok := (fun k_ => (P1_ k_ ∨ w.heap.size ≤ k_) ∧ some k_ ≠ (u9 : Value).ownBlock ∧ some k_ ≠ (.slice Ao57 t271.length co57 : Value).ownBlock)) (by (with_reducible repeat (first | apply Kd.N_alloc | apply Kd.N_drewN | apply Kd.N_drew)); exact Kd.N_mono HO_1.out (fun _ hk => ⟨⟨hk.1, ⟨hk.2.2.1, hk.2.2.2⟩⟩, hk.2.1⟩)) hg hat); replace HO_9 := am (Kd.R_over' (wR HO_9) (Kd.N_typed (wN HO_8)) (by decide) hg); replace HB := am (hb); have HO295 := am (ho); clear HO_8 HO_13; clear ho hb hg hat) | ((with_reducible refine gate_builtin (b := .append) (xs := #[.tmp 106, .tmp 108]) rfl ?_); at_builtin; refine Kd.R_append (Kd.int .i64) (w0 := w) w.heap.size rfl (.tmp 106) (.tmp 108) 22 3 (.int .i64 0) 8 rfl Try.underlying22 info3 rfl (by decide) (by omega) u9 x9_1 x10_1 [.int .i64 x10_1] (fun k_ => (w.heap.size ≤ k_)) (fun _ => False) rfl rfl ?aP (fun _ hk => hk.elim) ?aF ?aO ?aB ?aS ?aL ?_; (case aP => exact rfl); (case aB => exact (bw HB)); (case aF => exact (fun k_ hk => (Nat.le_trans (bz HB) hk))); (case aO => exact (by (with_reducible repeat (first | apply Kd.R_alloc | apply Kd.R_drewN | apply Kd.R_drew)); exact Kd.R_mono HO_9.out (fun _ hk => hk.1))); (case aS => exact (bz HB)); (case aL => have := LMc54.out; omega); intro v297 w58 ho hb hg hat; rw [← Ny296.out] at ho; replace HO_1 := am (Kd.N_afterv (ok := (fun k_ => (P1_ k_ ∨ w.heap.size ≤ k_) ∧ some k_ ≠ (v294 : Value).ownBlock)) (by (with_reducible repeat (first | apply Kd.N_alloc | apply Kd.N_drewN | apply Kd.N_drew)); exact Kd.N_mono HO_1.out (fun _ hk => ⟨⟨hk.1.1, hk.2⟩, hk.1.2.1⟩)) hg hat); replace HO295 := am (Kd.N_afterv (ok := (fun k_ => (P1_ k_ ∨ w.heap.size ≤ k_) ∧ some k_ ≠ (u14 : Value).ownBlock)) (by (with_reducible repeat (first | apply Kd.N_alloc | apply Kd.N_drewN | apply Kd.N_drew)); exact Kd.N_mono HO295.out (fun _ hk => ⟨⟨hk.1, hk.2.1⟩, hk.2.2⟩)) hg hat); replace HB := am (hb); have HO298 := am (ho); clear HO_9; clear ho hb hg hat))
                go_roundg k5
                case measure => have := HK1.out; have := HK2.out; have := HJ8.out; have := HK4.out; have := HK5.out; omega
                case rel => exact ⟨(x14_4), (y293), (y296), (wrap64 (x10_1 + 1)), fr, H', ⟨by have := HK1.out; have := HK2.out; have := HJ8.out; have := HK4.out; have := HK5.out; omega⟩, ⟨Kd.N_V (by (with_reducible repeat (first | apply Kd.N_alloc | apply Kd.N_drewN | apply Kd.N_drew)); exact Kd.N_mono HO_1.out (fun _ hk => ⟨hk.1.1, ⟨hk.1.2, hk.2⟩⟩))⟩, ⟨Kd.N_below (Kd.N_mono HO295.out (fun _ hk => ⟨hk.1.1, hk.2⟩)) gs⟩, ⟨wR HO298⟩, ⟨bw HB⟩⟩
   ·rw [if_neg c8] at H
    have c8b0 := decide_eq_false c8; clear c8
    simp only [Option.some.injEq, Prod.mk.injEq] at H
    obtain ⟨rfl, rfl⟩ := H; go_wp2
    go_ret2
    exact ⟨_, _, fq, wN HO_8, wR HO_9, bw HB⟩
end Go.Proofs.Ytmenehnfgenlpaa.PA

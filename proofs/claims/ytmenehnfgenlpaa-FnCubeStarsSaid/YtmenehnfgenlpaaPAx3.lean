-- Written by xprint.py, a program of this claim's own (over the kit's print.py)
import Derived.Test.YtmenehnfgenlpaaPAx0
import Derived.Test.YtmenehnfgenlpaaPAx2
import Derived.Deep.Cut
namespace Go.Proofs.Ytmenehnfgenlpaa.PA
open Go.RowKit Go.Proofs.YtmenehnfgenlpaaW.PrintWords Go.Proofs.YtmenehnfgenlpaaW.PrintLast Go.Proofs.YtmenehnfgenlpaaW.PrintMore
attribute [local go_sem] max2_int min2_int max_two min_two max_three min_three max_four min_four   -- for this text's walks alone
set_option linter.unusedVariables false
set_option linter.unusedSimpArgs false

/-! ### spec_l4Reduce: function 60 -/
mutual
def spec_l4Reduce.l0 : Nat → Int → List (List Int) → Int → List (List Int) → List Int → Int → Option ((List (List Int)) × List Int)
 | 0, _, _, _, _, _, _ => none
 | k + 1, x0, x1, x2, x8, x9, x10 => if x10 < x2 then (spec_l4Reduce.l1 k x0 x1 x2 x8 x9 x10 (-1) 0) else (some (x8, x9))
def spec_l4Reduce.l1 : Nat → Int → List (List Int) → Int → List (List Int) → List Int → Int → Int → Int → Option ((List (List Int)) × List Int)
 | 0, _, _, _, _, _, _, _, _ => none
 | k + 1, x0, x1, x2, x8, x9, x10, x11, x12 => if x12 < (x1.length : Int) then (spec_l4Reduce.j2 k x0 x1 x2 x8 x9 x10 x11 x12 (decide (x11 < 0))) else (spec_l4Reduce.j2 k x0 x1 x2 x8 x9 x10 x11 x12 false)
def spec_l4Reduce.j2 : Nat → Int → List (List Int) → Int → List (List Int) → List Int → Int → Int → Int → Bool → Option ((List (List Int)) × List Int)
 | 0, _, _, _, _, _, _, _, _, _ => none
 | k + 1, x0, x1, x2, x8, x9, x10, x11, x12, x31 => if x31 = true then (if 0 ≤ x12 then (if x12 < (x1.length : Int) then (if 0 ≤ x10 then (if x10 < ((rd_L1 x1 x12).length : Int) then (if (rd (rd_L1 x1 x12) x10) = 0 then (spec_l4Reduce.l1 k x0 x1 x2 x8 x9 x10 x11 (wrap64 (x12 + 1))) else (spec_l4Reduce.l1 k x0 x1 x2 x8 x9 x10 x12 (wrap64 (x12 + 1)))) else (none)) else (none)) else (none)) else (none)) else (if x11 < 0 then (spec_l4Reduce.l0 k x0 x1 x2 x8 x9 (wrap64 (x10 + 1))) else (if 0 ≤ x11 then (if x11 < (x1.length : Int) then ((spec_l4Row.f k x0 (rd_L1 x1 x11)).bind fun t152 => (spec_l4Reduce.l2 k x0 x1 x2 x8 x9 x10 x11 t152 (([] : List (List Int))) 0)) else (none)) else (none)))
def spec_l4Reduce.l2 : Nat → Int → List (List Int) → Int → List (List Int) → List Int → Int → Int → List Int → List (List Int) → Int → Option ((List (List Int)) × List Int)
 | 0, _, _, _, _, _, _, _, _, _, _ => none
 | k + 1, x0, x1, x2, x8, x9, x10, x11, x13, x14, x15 => if x15 < (x1.length : Int) then (if x15 = x11 then (spec_l4Reduce.l2 k x0 x1 x2 x8 x9 x10 x11 x13 x14 (wrap64 (x15 + 1))) else (if 0 ≤ x15 then (if 0 ≤ x10 then (if x10 < ((rd_L1 x1 x15).length : Int) then ((spec_l4Less.f k x0 (rd_L1 x1 x15) (rd (rd_L1 x1 x15) x10) x13).bind fun t161 => (if x14.length < 5864062014805 then (spec_l4Reduce.l2 k x0 x1 x2 x8 x9 x10 x11 x13 (x14 ++ [t161]) (wrap64 (x15 + 1))) else (none))) else (none)) else (none)) else (none))) else (spec_l4Reduce.l3 k x0 x14 x2 x8 x9 x10 x13 0)
def spec_l4Reduce.l3 : Nat → Int → List (List Int) → Int → List (List Int) → List Int → Int → List Int → Int → Option ((List (List Int)) × List Int)
 | 0, _, _, _, _, _, _, _, _ => none
 | k + 1, x0, x1, x2, x8, x9, x10, x13, x16 => if x16 < (x8.length : Int) then (if 0 ≤ x16 then (if 0 ≤ x10 then (if x10 < ((rd_L1 x8 x16).length : Int) then ((spec_l4Less.f k x0 (rd_L1 x8 x16) (rd (rd_L1 x8 x16) x10) x13).bind fun t170 => (spec_l4Reduce.l3 k x0 x1 x2 (x8.set (x16 : Int).toNat t170) x9 x10 x13 (wrap64 (x16 + 1)))) else (none)) else (none)) else (none)) else (if x8.length < 5864062014805 then (if x9.length < 17592186044416 then (spec_l4Reduce.l0 k x0 x1 x2 (x8 ++ [x13]) (x9 ++ [x10]) (wrap64 (x10 + 1))) else (none)) else (none))
end
def spec_l4Reduce.f (k : Nat) (a0 : Int) (l1 : List (List Int)) (a2 : Int) : Option ((List (List Int)) × List Int) := spec_l4Reduce.l0 k a0 l1 a2 (([] : List (List Int))) (([] : List Int)) 0
theorem spec_l4Reduce.mono_l : ∀ k, (∀ y0 y1 y2 y3 y4 y5, LeO (spec_l4Reduce.l0 k y0 y1 y2 y3 y4 y5) (spec_l4Reduce.l0 (k + 1) y0 y1 y2 y3 y4 y5)) ∧ (∀ y0 y1 y2 y3 y4 y5 y6 y7, LeO (spec_l4Reduce.l1 k y0 y1 y2 y3 y4 y5 y6 y7) (spec_l4Reduce.l1 (k + 1) y0 y1 y2 y3 y4 y5 y6 y7)) ∧ (∀ y0 y1 y2 y3 y4 y5 y6 y7 y8, LeO (spec_l4Reduce.j2 k y0 y1 y2 y3 y4 y5 y6 y7 y8) (spec_l4Reduce.j2 (k + 1) y0 y1 y2 y3 y4 y5 y6 y7 y8)) ∧ (∀ y0 y1 y2 y3 y4 y5 y6 y7 y8 y9, LeO (spec_l4Reduce.l2 k y0 y1 y2 y3 y4 y5 y6 y7 y8 y9) (spec_l4Reduce.l2 (k + 1) y0 y1 y2 y3 y4 y5 y6 y7 y8 y9)) ∧ (∀ y0 y1 y2 y3 y4 y5 y6 y7, LeO (spec_l4Reduce.l3 k y0 y1 y2 y3 y4 y5 y6 y7) (spec_l4Reduce.l3 (k + 1) y0 y1 y2 y3 y4 y5 y6 y7))
 | 0 => ⟨fun _ _ _ _ _ _ r h => by simp [spec_l4Reduce.l0] at h, fun _ _ _ _ _ _ _ _ r h => by simp [spec_l4Reduce.l1] at h, fun _ _ _ _ _ _ _ _ _ r h => by simp [spec_l4Reduce.j2] at h, fun _ _ _ _ _ _ _ _ _ _ r h => by simp [spec_l4Reduce.l2] at h, fun _ _ _ _ _ _ _ _ r h => by simp [spec_l4Reduce.l3] at h⟩
 | k + 1 => by
  obtain ⟨ih0, ih1, ih2, ih3, ih4⟩ := spec_l4Reduce.mono_l k
  refine ⟨?_, ?_, ?_, ?_, ?_⟩
  ·intro y0 y1 y2 y3 y4 y5
   unfold spec_l4Reduce.l0
   repeat' first | (with_reducible first | apply ih0 | apply ih1 | apply ih2 | apply ih3 | apply ih4 | apply spec_l4Less.mono | apply spec_l4Row.mono | exact LeO.refl _ | exact LeO.none _ | refine LeO.ite ?_ ?_ | refine LeO.bind ?_ (fun _ => ?_)) | (first | apply ih0 | apply ih1 | apply ih2 | apply ih3 | apply ih4 | apply spec_l4Less.mono | apply spec_l4Row.mono | exact LeO.none _ | refine LeO.ite ?_ ?_ | refine LeO.bind ?_ (fun _ => ?_))
  ·intro y0 y1 y2 y3 y4 y5 y6 y7
   unfold spec_l4Reduce.l1
   repeat' first | (with_reducible first | apply ih0 | apply ih1 | apply ih2 | apply ih3 | apply ih4 | apply spec_l4Less.mono | apply spec_l4Row.mono | exact LeO.refl _ | exact LeO.none _ | refine LeO.ite ?_ ?_ | refine LeO.bind ?_ (fun _ => ?_)) | (first | apply ih0 | apply ih1 | apply ih2 | apply ih3 | apply ih4 | apply spec_l4Less.mono | apply spec_l4Row.mono | exact LeO.none _ | refine LeO.ite ?_ ?_ | refine LeO.bind ?_ (fun _ => ?_))
  ·intro y0 y1 y2 y3 y4 y5 y6 y7 y8
   unfold spec_l4Reduce.j2
   repeat' first | (with_reducible first | apply ih0 | apply ih1 | apply ih2 | apply ih3 | apply ih4 | apply spec_l4Less.mono | apply spec_l4Row.mono | exact LeO.refl _ | exact LeO.none _ | refine LeO.ite ?_ ?_ | refine LeO.bind ?_ (fun _ => ?_)) | (first | apply ih0 | apply ih1 | apply ih2 | apply ih3 | apply ih4 | apply spec_l4Less.mono | apply spec_l4Row.mono | exact LeO.none _ | refine LeO.ite ?_ ?_ | refine LeO.bind ?_ (fun _ => ?_))
  ·intro y0 y1 y2 y3 y4 y5 y6 y7 y8 y9
   unfold spec_l4Reduce.l2
   repeat' first | (with_reducible first | apply ih0 | apply ih1 | apply ih2 | apply ih3 | apply ih4 | apply spec_l4Less.mono | apply spec_l4Row.mono | exact LeO.refl _ | exact LeO.none _ | refine LeO.ite ?_ ?_ | refine LeO.bind ?_ (fun _ => ?_)) | (first | apply ih0 | apply ih1 | apply ih2 | apply ih3 | apply ih4 | apply spec_l4Less.mono | apply spec_l4Row.mono | exact LeO.none _ | refine LeO.ite ?_ ?_ | refine LeO.bind ?_ (fun _ => ?_))
  ·intro y0 y1 y2 y3 y4 y5 y6 y7
   unfold spec_l4Reduce.l3
   repeat' first | (with_reducible first | apply ih0 | apply ih1 | apply ih2 | apply ih3 | apply ih4 | apply spec_l4Less.mono | apply spec_l4Row.mono | exact LeO.refl _ | exact LeO.none _ | refine LeO.ite ?_ ?_ | refine LeO.bind ?_ (fun _ => ?_)) | (first | apply ih0 | apply ih1 | apply ih2 | apply ih3 | apply ih4 | apply spec_l4Less.mono | apply spec_l4Row.mono | exact LeO.none _ | refine LeO.ite ?_ ?_ | refine LeO.bind ?_ (fun _ => ?_))
theorem spec_l4Reduce.mono : ∀ a0 a1 a2 k, LeO (spec_l4Reduce.f k a0 a1 a2) (spec_l4Reduce.f (k + 1) a0 a1 a2) := by
 intro a0 a1 a2 k
 obtain ⟨ih0, ih1, ih2, ih3, ih4⟩ := spec_l4Reduce.mono_l k
 unfold spec_l4Reduce.f
 repeat' first | (with_reducible first | apply ih0 | apply ih1 | apply ih2 | apply ih3 | apply ih4 | apply spec_l4Less.mono | apply spec_l4Row.mono | exact LeO.refl _ | exact LeO.none _ | refine LeO.ite ?_ ?_ | refine LeO.bind ?_ (fun _ => ?_)) | (first | apply ih0 | apply ih1 | apply ih2 | apply ih3 | apply ih4 | apply spec_l4Less.mono | apply spec_l4Row.mono | exact LeO.none _ | refine LeO.ite ?_ ?_ | refine LeO.bind ?_ (fun _ => ?_))
def spec_l4Reduce.T19 : Bool × List (List Nat × List Nat) := (true, [([], []), ([], []), ([], []), ([], []), ([2, 3], [2, 3]), ([4], [4]), ([], []), ([], []), ([6, 7], [6, 7]), ([8], [8]), ([], []), ([9, 10], [9, 10]), ([11], [11]), ([], []), ([1, 5, 12, 13], [1, 5, 12, 13]), ([14], [14]), ([0, 15, 14], [0, 15]), ([16, 16, 0, 1, 2, 3, 4, 5, 6, 7, 8, 9, 10, 11, 12, 13, 14, 15, 16], [0, 16])])
def spec_l4Reduce.B19 : List Nat := [0, 0, 0, 0, 12, 28, 0, 0, 192, 448, 0, 1984, 4032, 0, 16382, 32766, 65535, 131071]
theorem spec_l4Reduce.tab19 : rtab .any (opsOf Try.f60 19) = spec_l4Reduce.T19 := by kernel_rfl
theorem spec_l4Reduce.bits19 : waitsOk spec_l4Reduce.T19.2 spec_l4Reduce.B19 = true := by kernel_rfl
def spec_l4Reduce.T24 : Bool × List (List Nat × List Nat) := (true, [([], []), ([], []), ([], []), ([], []), ([], []), ([3, 4], [3, 4]), ([5], [5]), ([], []), ([], []), ([7, 8], [7, 8]), ([9], [9]), ([], []), ([10, 11], [10, 11]), ([12], [12]), ([], []), ([2, 6, 13, 14], [2, 6, 13, 14]), ([0, 1, 0, 1, 2, 3, 4, 5, 6, 7, 8, 9, 10, 11, 12, 13, 14, 15], [0, 1]), ([16, 15, 15, 0, 1, 2, 3, 4, 5, 6, 7, 8, 9, 10, 11, 12, 13, 14, 15], [15, 16])])
def spec_l4Reduce.B24 : List Nat := [0, 0, 0, 0, 0, 24, 56, 0, 0, 384, 896, 0, 3968, 8064, 0, 32764, 65535, 131071]
theorem spec_l4Reduce.tab24 : rtab .any (opsOf Try.f60 24) = spec_l4Reduce.T24 := by kernel_rfl
theorem spec_l4Reduce.bits24 : waitsOk spec_l4Reduce.T24.2 spec_l4Reduce.B24 = true := by kernel_rfl
set_option maxHeartbeats 8000000 in
set_option maxRecDepth 100000 in
theorem spec_l4Reduce.calls (k : Nat) (a0 : Int) (P1_ : Nat → Prop) (A1 : Option Addr) (c1 : Nat) (l1 : List (List Int)) (a2 : Int) (r1 : List (List Int)) (r2 : List Int) (w : World) (hs1 : Kd.V (Kd.slice 3 (Kd.int .i64)) 22 w w.heap.size (fun k_ => P1_ k_) (.slice A1 l1.length c1) l1) (h : spec_l4Reduce.f k a0 l1 a2 = some (r1, r2)) :
  Calls Try.prog 60 #[.int .i64 a0, .slice A1 l1.length c1, .int .i64 a2] w fun e w' => ∃ v0_ v1_ : Value, e = .returned (.tuple #[v0_, v1_]) ∧ Kd.N (Kd.slice 3 (Kd.int .i64)) 22 w' w.heap.size (fun k_ => (P1_ k_ ∨ w.heap.size ≤ k_) ∧ some k_ ≠ (v1_ : Value).ownBlock) v0_ r1 ∧ Kd.R (Kd.int .i64) 3 w' w.heap.size (fun k_ => (w.heap.size ≤ k_)) v1_ r2 ∧ Below w.heap.size w w' := by
 have HO1 := am (show Kd.V (Kd.slice 3 (Kd.int .i64)) 22 w w.heap.size (fun k_ => (P1_ k_ ∨ w.heap.size ≤ k_)) (.slice A1 l1.length c1) l1 from Kd.V_mono hs1 (fun k_ hk => .inl hk))
 have HB := am (Below.refl w.heap.size w)
 have H : (spec_l4Reduce.l0 k a0 l1 a2 (([] : List (List Int))) (([] : List Int)) 0) = some (r1, r2) := h
 clear h
 obtain ⟨y143, hy143⟩ : ∃ y_ : List (List Int), y_ = (([] : List (List Int))) := ⟨_, rfl⟩
 replace H : (spec_l4Reduce.l0 k a0 l1 a2 y143 (([] : List Int)) 0) = some (r1, r2) := by first | (rw [hy143]; with_reducible exact H) | (have H2_ := (Option.bind_some _ _).symm.trans H; rw [hy143]; with_reducible exact H2_) | (have H2_ := (Option.bind_some _ _).symm.trans H; with_reducible exact H2_) | with_reducible exact H | (rw [hy143]; exact H) | exact H
 have Ny143 := am hy143; clear hy143
 generalize hy146 : (([] : List Int)) = y146 at H
 have Ny146 := am hy146.symm; clear hy146; have H' := am H; clear H
 go_enter Try.func60, Try.ntmps60
 go_wp2_with (first | ((with_reducible refine gate_dst (N := 17) rfl ?_); refine Kd.N_lit (Kd.slice 3 (Kd.int .i64)) _ 22 ?hg (N' := 17) ?hd (xs := ([] : List (List Int))) (inner := []) (ok := (fun k_ => (P1_ k_ ∨ w.heap.size ≤ k_))) (okp := (fun k_ => (P1_ k_ ∨ w.heap.size ≤ k_))) ?hr ?hp (fun _ hk => hk) ((show ∀ k_, w.heap.size ≤ k_ → (fun k_ => (P1_ k_ ∨ w.heap.size ≤ k_)) k_ from fun k_ hk => (.inr (Nat.le_trans (bz HB) hk))) _ (Nat.le_refl _)) (Below.refl _ _) (Nat.le_refl _) (by simp) ?_; (case hd => rfl); (case hg => rfl); (case hr => first | (go_simp; done) | (go_simp; rfl)); (case hp => exact (Reps.none _ _)); intro v144 w4 ho5 hb hg_ hnew_; clear hg_ hnew_; (first | rw [← Ny143.out] at ho5 | (simp only [Int.reduceToNat] at ho5; rw [← Ny143.out] at ho5)); replace HO1 := eV HO1 (Kd.N_base ho5) hb; have HO145 := am (Kd.N_lower ho5 (bz HB)); replace HB := bq HB hb; clear hb ho5) | ((with_reducible refine gate_dst (N := 18) rfl ?_); refine li 3 ([] : List Int) ?_; intro v147 w6 ho7 hb; (first | rw [← Ny146.out] at ho7 | (simp only [Int.reduceToNat] at ho7; rw [← Ny146.out] at ho7)); replace HO1 := eV HO1 (Kd.R_base ho7) hb; replace HO145 := eN HO145 (Kd.R_base ho7) hb; have HO148 := am (mR ho7 HB); replace HB := bq HB hb; clear hb ho7))
 go_loopg [1, 8, 9, 10] k (fun kq v1 v8 v9 v10 w' => ∃ (x1_1 : List (List Int)) (x8_1 : List (List Int)) (x9_1 : List Int) (x10_1 : Int), v10 = .int .i64 x10_1 ∧ Aside0 (spec_l4Reduce.l0 kq a0 x1_1 a2 x8_1 x9_1 x10_1 = some (r1, r2)) ∧ Aside0 (kq ≤ k) ∧ Aside0 (Kd.V (Kd.slice 3 (Kd.int .i64)) 22 w' w.heap.size (fun k_ => (P1_ k_ ∨ w.heap.size ≤ k_) ∧ some k_ ≠ (v8 : Value).ownBlock ∧ some k_ ≠ (v9 : Value).ownBlock) v1 x1_1) ∧ Aside0 (Kd.N (Kd.slice 3 (Kd.int .i64)) 22 w' w.heap.size (fun k_ => (P1_ k_ ∨ w.heap.size ≤ k_) ∧ some k_ ≠ (v9 : Value).ownBlock) v8 x8_1) ∧ Aside0 (Kd.R (Kd.int .i64) 3 w' w.heap.size (fun k_ => (w.heap.size ≤ k_)) v9 x9_1) ∧ Aside0 (Below w.heap.size w w'))
 case atStart => exact ⟨(l1), (y143), (y146), (0), fr, H', ⟨Nat.le_refl _⟩, ⟨Kd.V_below (Kd.V_mono HO1.out (fun _ hk => ⟨hk.1.1, ⟨hk.1.2, hk.2⟩⟩)) gs⟩, ⟨wN HO145⟩, ⟨Kd.R_below (Kd.R_mono HO148.out (fun _ hk => hk.1)) gs⟩, ⟨bw HB⟩⟩
 case round =>
  clear H'; try clear c1; try clear p2; try clear c6
  obtain ⟨x1_1, x8_1, x9_1, x10_1, rfl, HA, HK1, HO_1, HO_8, HO_9, HB⟩ := hrel
  cases gk with
  | zero => exact absurd HA.out (by simp [spec_l4Reduce.l0])
  | succ k1 =>
   have H := HA.out; clear HA
   simp only [spec_l4Reduce.l0] at H
   by_cases c8 : x10_1 < a2
   ·rw [if_pos c8] at H
    have c8b0 := decide_eq_true c8; clear c8; have H' := am H; clear H; go_wp2
    go_loopg [11, 12] k1 (fun kq v11 v12 w' => ∃ (x11_2 : Int) (x12_2 : Int), v11 = .int .i64 x11_2 ∧ v12 = .int .i64 x12_2 ∧ Aside0 (spec_l4Reduce.l1 kq a0 x1_1 a2 x8_1 x9_1 x10_1 x11_2 x12_2 = some (r1, r2)) ∧ Aside0 (kq ≤ k1) ∧ Aside0 (Kd.V (Kd.slice 3 (Kd.int .i64)) 22 w' w.heap.size (fun k_ => (P1_ k_ ∨ w.heap.size ≤ k_) ∧ some k_ ≠ (u8 : Value).ownBlock ∧ some k_ ≠ (u9 : Value).ownBlock) u1 x1_1) ∧ Aside0 (Kd.N (Kd.slice 3 (Kd.int .i64)) 22 w' w.heap.size (fun k_ => (P1_ k_ ∨ w.heap.size ≤ k_) ∧ some k_ ≠ (u9 : Value).ownBlock) u8 x8_1) ∧ Aside0 (Kd.R (Kd.int .i64) 3 w' w.heap.size (fun k_ => (w.heap.size ≤ k_)) u9 x9_1) ∧ Aside0 (Below w.heap.size w w'))
    case atStart => exact ⟨((-1)), (0), fr, fr, H', ⟨Nat.le_refl _⟩, ⟨wV HO_1⟩, ⟨wN HO_8⟩, ⟨wR HO_9⟩, ⟨bw HB⟩⟩
    case round =>
     clear H'; try clear c1; try clear p2; try clear c6; try clear c8; try clear c8b0; try clear p2
     obtain ⟨x11_2, x12_2, rfl, rfl, HA, HK2, HO_1, HO_8, HO_9, HB⟩ := hrel
     cases gk with
     | zero => exact absurd HA.out (by simp [spec_l4Reduce.l1])
     | succ k2 =>
      have H := HA.out; clear HA
      simp only [spec_l4Reduce.l1] at H
      have HC9 := am H
      clear H
      go_upto_region 8 with (fail)
      go_cut [31] (fun v31 wc => ∃ (kq : Nat) (x31_8 : Bool), v31 = .bool x31_8 ∧ Aside0 (spec_l4Reduce.j2 kq a0 x1_1 a2 x8_1 x9_1 x10_1 x11_2 x12_2 x31_8 = some (r1, r2)) ∧ Aside0 (kq ≤ k2) ∧ Aside0 (Kd.V (Kd.slice 3 (Kd.int .i64)) 22 wc w.heap.size (fun k_ => (P1_ k_ ∨ w.heap.size ≤ k_) ∧ some k_ ≠ (u8 : Value).ownBlock ∧ some k_ ≠ (u9 : Value).ownBlock) u1 x1_1) ∧ Aside0 (Kd.N (Kd.slice 3 (Kd.int .i64)) 22 wc w.heap.size (fun k_ => (P1_ k_ ∨ w.heap.size ≤ k_) ∧ some k_ ≠ (u9 : Value).ownBlock) u8 x8_1) ∧ Aside0 (Kd.R (Kd.int .i64) 3 wc w.heap.size (fun k_ => (w.heap.size ≤ k_)) u9 x9_1) ∧ Aside0 (Below w.heap.size w wc))
      case first =>
       have H := HC9.out
       clear HC9
       by_cases c10 : x12_2 < (x1_1.length : Int)
       ·rw [if_pos c10] at H
        have c10b0 := decide_eq_true c10; clear c10
        (first | rw [c10b0] | (simp only [i64_w, i32_w]; rw [c10b0]) | skip)
        have H' := am H; clear H
        obtain ⟨Ao11, co11, eo11⟩ := Kd.V_slice HO_1.out
        subst eo11; go_wp2
        go_meet
        case rel => exact ⟨_, (decide (x11_2 < 0)), fr, H', ⟨by have := HK1.out; have := HK2.out; first | omega | exact Nat.le_refl _⟩, ⟨wV HO_1⟩, ⟨wN HO_8⟩, ⟨wR HO_9⟩, ⟨bw HB⟩⟩
       ·rw [if_neg c10] at H
        have c10b0 := decide_eq_false c10; clear c10
        (first | rw [c10b0] | (simp only [i64_w, i32_w]; rw [c10b0]) | skip)
        have H' := am H; clear H
        obtain ⟨Ao12, co12, eo12⟩ := Kd.V_slice HO_1.out
        subst eo12; go_wp2
        go_meet
        case rel => exact ⟨_, (false), fr, H', ⟨by have := HK1.out; have := HK2.out; first | omega | exact Nat.le_refl _⟩, ⟨wV HO_1⟩, ⟨wN HO_8⟩, ⟨wR HO_9⟩, ⟨bw HB⟩⟩
      case rest =>
       clear HC9; try clear c1; try clear p2; try clear c6; try clear c8; try clear c8b0; try clear c10; try clear c10b0; try clear p2
       obtain ⟨kq, x31_8, rfl, HA, HJ8, HO_1, HO_8, HO_9, HB⟩ := hcut
       cases kq with
       | zero => exact absurd HA.out (by simp [spec_l4Reduce.j2])
       | succ kj8 =>
        have H := HA.out; clear HA
        simp only [spec_l4Reduce.j2] at H
        by_cases c13 : x31_8 = true
        ·subst c13
         rw [if_pos rfl] at H
         replace H := ifn H; obtain ⟨c14, H⟩ := H; have c14b0 := decide_eq_true c14; clear c14; replace H := ifn H; obtain ⟨c15, H⟩ := H; have c15b0 := decide_eq_true c15; clear c15; replace H := ifn H; obtain ⟨c16, H⟩ := H; have c16b0 := decide_eq_true c16
         clear c16; replace H := ifn H; obtain ⟨c17, H⟩ := H; have c17b0 := decide_eq_true c17; clear c17
         by_cases c18 : (rd (rd_L1 x1_1 x12_2) x10_1) = 0
         ·rw [if_pos c18] at H
          have c18b0 := beq_iff_eq.mpr c18; have c18b1 := bne_eq_false_iff_eq.mpr c18; clear c18; have H' := am H; clear H
          obtain ⟨Ao19, co19, eo19⟩ := Kd.V_slice HO_1.out
          subst eo19
          have p149 : 0 ≤ (x12_2 : Int) := od
          have q149 : x12_2 < (x1_1.length : Int) := od
          obtain ⟨ad149, A149_0, c149_0, e149, hx149_0, hl149_0, hi149_0⟩ := at_L1 (Kd.V_reads' HO_1.out).2.2 x12_2 p149 q149
          cases e149
          obtain ⟨ce149, hce149, hMe149, hcc149⟩ := Kd.V_get HO_1.out [] x12_2 p149 (by first | exact q149 | exact od | (have e_ := (Kd.V_reads' HO_1.out).1; omega))
          obtain ⟨ua149_0, uc149_0, rfl, ul149_0, ge149_0⟩ := Kd.FK_slice_open hMe149
          have hv149_0 := hcc149 0 _ rfl
          rw [Nat.add_zero, show ((Kd.slice 3 (Kd.int .i64))).sz = 1 from rfl, Nat.mul_one] at hv149_0
          replace hv149_0 := Option.some.inj (hv149_0.symm.trans hx149_0)
          injection hv149_0 with hva_ hvn_ hvc_
          rw [hva_] at ge149_0
          rw [hvc_] at ul149_0
          have HL149_0 := am (show Kd.V (Kd.int .i64) 3 _ w.heap.size _ _ (rd_L1 x1_1 x12_2) from Kd.V_mk ul149_0 ge149_0)
          clear hva_ hvn_ hvc_ ge149_0 ul149_0; clear hcc149 hce149
          have HR149_0 := am hi149_0
          have HC149_0 := am hl149_0
          clear hi149_0 hl149_0; replace p149 := eq_true p149; replace q149 := eq_true q149
          have p150 : 0 ≤ (x10_1 : Int) := od
          have q150 : x10_1 < ((rd_L1 x1_1 x12_2).length : Int) := od
          obtain ⟨ad150, e150, hx150_0⟩ := Kd.at_int HR149_0.out x10_1 p150 q150
          cases e150; replace p150 := eq_true p150; replace q150 := eq_true q150; go_wp2
          go_roundg kj8
          case measure => have := HK1.out; have := HK2.out; have := HJ8.out; omega
          case rel => exact ⟨(x11_2), (wrap64 (x12_2 + 1)), fr, fr, H', ⟨by have := HK1.out; have := HK2.out; have := HJ8.out; omega⟩, ⟨wV HO_1⟩, ⟨wN HO_8⟩, ⟨wR HO_9⟩, ⟨bw HB⟩⟩
         ·rw [if_neg c18] at H
          have c18b0 := beq_eq_false_iff_ne.mpr c18; have c18b1 := bne_iff_ne.mpr c18; have H' := am H; clear H
          obtain ⟨Ao20, co20, eo20⟩ := Kd.V_slice HO_1.out
          subst eo20
          have p149 : 0 ≤ (x12_2 : Int) := od
          have q149 : x12_2 < (x1_1.length : Int) := od
          obtain ⟨ad149, A149_0, c149_0, e149, hx149_0, hl149_0, hi149_0⟩ := at_L1 (Kd.V_reads' HO_1.out).2.2 x12_2 p149 q149
          cases e149
          obtain ⟨ce149, hce149, hMe149, hcc149⟩ := Kd.V_get HO_1.out [] x12_2 p149 (by first | exact q149 | exact od | (have e_ := (Kd.V_reads' HO_1.out).1; omega))
          obtain ⟨ua149_0, uc149_0, rfl, ul149_0, ge149_0⟩ := Kd.FK_slice_open hMe149
          have hv149_0 := hcc149 0 _ rfl
          rw [Nat.add_zero, show ((Kd.slice 3 (Kd.int .i64))).sz = 1 from rfl, Nat.mul_one] at hv149_0
          replace hv149_0 := Option.some.inj (hv149_0.symm.trans hx149_0)
          injection hv149_0 with hva_ hvn_ hvc_
          rw [hva_] at ge149_0
          rw [hvc_] at ul149_0
          have HL149_0 := am (show Kd.V (Kd.int .i64) 3 _ w.heap.size _ _ (rd_L1 x1_1 x12_2) from Kd.V_mk ul149_0 ge149_0)
          clear hva_ hvn_ hvc_ ge149_0 ul149_0; clear hcc149 hce149
          have HR149_0 := am hi149_0
          have HC149_0 := am hl149_0
          clear hi149_0 hl149_0; replace p149 := eq_true p149; replace q149 := eq_true q149
          have p150 : 0 ≤ (x10_1 : Int) := od
          have q150 : x10_1 < ((rd_L1 x1_1 x12_2).length : Int) := od
          obtain ⟨ad150, e150, hx150_0⟩ := Kd.at_int HR149_0.out x10_1 p150 q150
          cases e150; replace p150 := eq_true p150; replace q150 := eq_true q150; go_wp2
          go_roundg kj8
          case measure => have := HK1.out; have := HK2.out; have := HJ8.out; omega
          case rel => exact ⟨(x12_2), (wrap64 (x12_2 + 1)), fr, fr, H', ⟨by have := HK1.out; have := HK2.out; have := HJ8.out; omega⟩, ⟨wV HO_1⟩, ⟨wN HO_8⟩, ⟨wR HO_9⟩, ⟨bw HB⟩⟩
        ·replace c13 := Bool.eq_false_iff.mpr c13
         subst c13
         rw [if_neg (show ¬ (false = true) by decide)] at H
         by_cases c21 : x11_2 < 0
         ·rw [if_pos c21] at H
          have c21b0 := decide_eq_true c21; clear c21; have H' := am H; clear H; go_wp2
          go_roundg kj8
          case measure => have := HK1.out; have := HK2.out; have := HJ8.out; omega
          case rel => exact ⟨(x1_1), (x8_1), (x9_1), (wrap64 (x10_1 + 1)), fr, H', ⟨by have := HK1.out; have := HK2.out; have := HJ8.out; omega⟩, ⟨wV HO_1⟩, ⟨wN HO_8⟩, ⟨wR HO_9⟩, ⟨bw HB⟩⟩
         ·rw [if_neg c21] at H
          have c21b0 := decide_eq_false c21; clear c21; replace H := ifn H; obtain ⟨c22, H⟩ := H; have c22b0 := decide_eq_true c22; clear c22; replace H := ifn H; obtain ⟨c23, H⟩ := H; have c23b0 := decide_eq_true c23; clear c23; replace H := bs H; obtain ⟨t152, A24, H⟩ := H
          generalize hy155 : (([] : List (List Int))) = y155 at H
          have Ny155 := am hy155.symm; clear hy155; have H' := am H; clear H
          obtain ⟨Ao25, co25, eo25⟩ := Kd.V_slice HO_1.out
          subst eo25
          have p151 : 0 ≤ (x11_2 : Int) := od
          have q151 : x11_2 < (x1_1.length : Int) := od
          obtain ⟨ad151, A151_0, c151_0, e151, hx151_0, hl151_0, hi151_0⟩ := at_L1 (Kd.V_reads' HO_1.out).2.2 x11_2 p151 q151
          cases e151
          obtain ⟨ce151, hce151, hMe151, hcc151⟩ := Kd.V_get HO_1.out [] x11_2 p151 (by first | exact q151 | exact od | (have e_ := (Kd.V_reads' HO_1.out).1; omega))
          obtain ⟨ua151_0, uc151_0, rfl, ul151_0, ge151_0⟩ := Kd.FK_slice_open hMe151
          have hv151_0 := hcc151 0 _ rfl
          rw [Nat.add_zero, show ((Kd.slice 3 (Kd.int .i64))).sz = 1 from rfl, Nat.mul_one] at hv151_0
          replace hv151_0 := Option.some.inj (hv151_0.symm.trans hx151_0)
          injection hv151_0 with hva_ hvn_ hvc_
          rw [hva_] at ge151_0
          rw [hvc_] at ul151_0
          have HL151_0 := am (show Kd.V (Kd.int .i64) 3 _ w.heap.size _ _ (rd_L1 x1_1 x11_2) from Kd.V_mk ul151_0 ge151_0)
          clear hva_ hvn_ hvc_ ge151_0 ul151_0; clear hcc151 hce151
          have HR151_0 := am hi151_0
          have HC151_0 := am hl151_0
          clear hi151_0 hl151_0; replace p151 := eq_true p151; replace q151 := eq_true q151
          go_wp2_with (first | ((with_reducible refine gate_callee (f := 44) rfl ?_); refine gl 50 Try.func44 #[.int .i64 a0, .slice A151_0 (rd_L1 x1_1 x11_2).length c151_0] ?_; (with_reducible refine (spec_l4Row.calls kj8 a0 _ _ (rd_L1 x1_1 x11_2) t152 _ ?_ ?_ A24.out).mono ?_); exact wC HR151_0; exact HC151_0.out; rintro e w26 ⟨v153, rfl, ho0, hb⟩; refine ⟨_, rfl, ?_⟩; replace HO_1 := eV HO_1 (Kd.R_base ho0) hb; replace HO_8 := eN HO_8 (Kd.R_base ho0) hb; replace HL151_0 := eV HL151_0 (Kd.R_base ho0) hb; have HO154 := am (Kd.R_lower (Kd.R_new' (Kd.R_newM (M := fun k_ => (w.heap.size ≤ k_)) ho0 (bz HB) (fun k_ h_ => h_)) (Kd.R_lt (wR HO_9))) (bz HB)); replace HO_9 := eR HO_9 (Kd.R_base ho0) hb; replace HR151_0 := am (Kd.C_below (wC HR151_0) hb); replace HB := bq HB hb; (try clear hb); (try clear ho0)) | ((with_reducible refine gate_dst (N := 51) rfl ?_); refine Kd.N_lit (Kd.slice 3 (Kd.int .i64)) _ 22 ?hg (N' := 51) ?hd (xs := ([] : List (List Int))) (inner := []) (ok := (fun k_ => (P1_ k_ ∨ w.heap.size ≤ k_) ∧ some k_ ≠ (u8 : Value).ownBlock ∧ some k_ ≠ (u9 : Value).ownBlock ∧ some k_ ≠ (v153 : Value).ownBlock)) (okp := (fun k_ => (P1_ k_ ∨ w.heap.size ≤ k_) ∧ some k_ ≠ (u8 : Value).ownBlock ∧ some k_ ≠ (u9 : Value).ownBlock ∧ some k_ ≠ (v153 : Value).ownBlock)) ?hr ?hp (fun _ hk => hk) ((show ∀ k_, w26.heap.size ≤ k_ → (fun k_ => (P1_ k_ ∨ w.heap.size ≤ k_) ∧ some k_ ≠ (u8 : Value).ownBlock ∧ some k_ ≠ (u9 : Value).ownBlock ∧ some k_ ≠ (v153 : Value).ownBlock) k_ from fun k_ hk => ⟨(.inr (Nat.le_trans (bz HB) hk)), Kd.fresh' (Kd.N_lt (wN HO_8)) k_ hk, Kd.fresh' (Kd.R_lt (wR HO_9)) k_ hk, Kd.fresh' (Kd.R_lt (wR HO154)) k_ hk⟩) _ (Nat.le_refl _)) (Below.refl _ _) (Nat.le_refl _) (by simp) ?_; (case hd => rfl); (case hg => rfl); (case hr => first | (go_simp; done) | (go_simp; rfl)); (case hp => exact (Reps.none _ _)); intro v156 w27 ho28 hb hg_ hnew_; clear hg_ hnew_; (first | rw [← Ny155.out] at ho28 | (simp only [Int.reduceToNat] at ho28; rw [← Ny155.out] at ho28)); replace HO_1 := eV HO_1 (Kd.N_base ho28) hb; replace HO_8 := eN HO_8 (Kd.N_base ho28) hb; replace HO_9 := am (Kd.R_below (wR HO_9) hb); replace HL151_0 := eV HL151_0 (Kd.N_base ho28) hb; replace HO154 := am (Kd.R_below (wR HO154) hb); have HO157 := am (Kd.N_lower ho28 (bz HB)); replace HR151_0 := am (Kd.C_below (wC HR151_0) hb); replace HB := bq HB hb; clear hb ho28))
          go_loopg [14, 15] kj8 (fun kq v14 v15 w' => ∃ (x14_4 : List (List Int)) (x15_4 : Int), v15 = .int .i64 x15_4 ∧ Aside0 (spec_l4Reduce.l2 kq a0 x1_1 a2 x8_1 x9_1 x10_1 x11_2 t152 x14_4 x15_4 = some (r1, r2)) ∧ Aside0 (kq ≤ kj8) ∧ Aside0 (Kd.V (Kd.slice 3 (Kd.int .i64)) 22 w' w.heap.size (fun k_ => (P1_ k_ ∨ w.heap.size ≤ k_) ∧ some k_ ≠ (u8 : Value).ownBlock ∧ some k_ ≠ (u9 : Value).ownBlock ∧ some k_ ≠ (v153 : Value).ownBlock ∧ some k_ ≠ (v14 : Value).ownBlock) (.slice (some ad151) x1_1.length co25) x1_1) ∧ Aside0 (Kd.N (Kd.slice 3 (Kd.int .i64)) 22 w' w.heap.size (fun k_ => (P1_ k_ ∨ w.heap.size ≤ k_) ∧ some k_ ≠ (u9 : Value).ownBlock ∧ some k_ ≠ (v153 : Value).ownBlock ∧ some k_ ≠ (v14 : Value).ownBlock) u8 x8_1) ∧ Aside0 (Kd.R (Kd.int .i64) 3 w' w.heap.size (fun k_ => (w.heap.size ≤ k_) ∧ some k_ ≠ (v153 : Value).ownBlock) u9 x9_1) ∧ Aside0 (Kd.R (Kd.int .i64) 3 w' w.heap.size (fun k_ => (w.heap.size ≤ k_) ∧ some k_ ≠ (u9 : Value).ownBlock) v153 t152) ∧ Aside0 (Kd.N (Kd.slice 3 (Kd.int .i64)) 22 w' w.heap.size (fun k_ => (P1_ k_ ∨ w.heap.size ≤ k_) ∧ some k_ ≠ (u8 : Value).ownBlock ∧ some k_ ≠ (u9 : Value).ownBlock ∧ some k_ ≠ (v153 : Value).ownBlock) v14 x14_4) ∧ Aside0 (Below w.heap.size w w'))
          case atStart => exact ⟨(y155), (0), fr, H', ⟨Nat.le_refl _⟩, ⟨Kd.V_below (Kd.V_mono HO_1.out (fun _ hk => ⟨hk.1.1.1, ⟨hk.1.1.2.1, ⟨hk.1.1.2.2, ⟨hk.1.2, hk.2⟩⟩⟩⟩)) gs⟩, ⟨Kd.N_below (Kd.N_mono HO_8.out (fun _ hk => ⟨hk.1.1.1, ⟨hk.1.1.2, ⟨hk.1.2, hk.2⟩⟩⟩)) gs⟩, ⟨wR HO_9⟩, ⟨Kd.R_below (Kd.R_mono HO154.out (fun _ hk => ⟨hk.1.1, hk.2⟩)) gs⟩, ⟨wN HO157⟩, ⟨bw HB⟩⟩
          case round =>
           clear H'; try clear c1; try clear p1; try clear q1; try clear hx1; try clear c2; try clear p2; try clear c4; try clear c6; try clear p6; try clear c8; try clear c8b0; try clear c10; try clear c10b0; try clear c13; try clear c14; try clear c14b0
           try clear p14; try clear q14; try clear hx14; try clear c15; try clear c15b0; try clear p15; try clear q15; try clear hx15; try clear c16; try clear c16b0; try clear c17; try clear c17b0; try clear c18; try clear c18b0; try clear c18b1; try clear c21
           try clear c21b0; try clear c22; try clear c22b0; try clear c23; try clear c23b0; try clear hx149_0; try clear hx150_0; try clear hx151_0; try clear p149; try clear p150; try clear p151; try clear p2; try clear q149; try clear q150; try clear q151
           obtain ⟨x14_4, x15_4, rfl, HA, HK4, HO_1, HO_8, HO_9, HO_13, HO_14, HB⟩ := hrel
           cases gk with
           | zero => exact absurd HA.out (by simp [spec_l4Reduce.l2])
           | succ k4 =>
            have H := HA.out; clear HA
            simp only [spec_l4Reduce.l2] at H
            by_cases c29 : x15_4 < (x1_1.length : Int)
            ·rw [if_pos c29] at H
             have c29b0 := decide_eq_true c29; clear c29
             by_cases c30 : x15_4 = x11_2
             ·rw [if_pos c30] at H
              have c30b0 := beq_iff_eq.mpr c30; have c30b1 := bne_eq_false_iff_eq.mpr c30; clear c30; have H' := am H; clear H; go_wp2
              go_roundg k4
              case measure => have := HK1.out; have := HK2.out; have := HJ8.out; have := HK4.out; omega
              case rel => exact ⟨(x14_4), (wrap64 (x15_4 + 1)), fr, H', ⟨by have := HK1.out; have := HK2.out; have := HJ8.out; have := HK4.out; omega⟩, ⟨wV HO_1⟩, ⟨wN HO_8⟩, ⟨wR HO_9⟩, ⟨wR HO_13⟩, ⟨wN HO_14⟩, ⟨bw HB⟩⟩
             ·rw [if_neg c30] at H
              have c30b0 := beq_eq_false_iff_ne.mpr c30; have c30b1 := bne_iff_ne.mpr c30; replace H := ifn H; obtain ⟨c31, H⟩ := H; have c31b0 := decide_eq_true c31; clear c31; replace H := ifn H; obtain ⟨c32, H⟩ := H; have c32b0 := decide_eq_true c32; clear c32
              replace H := ifn H; obtain ⟨c33, H⟩ := H; have c33b0 := decide_eq_true c33; clear c33; replace H := bs H; obtain ⟨t161, A34, H⟩ := H; replace H := ifn H; obtain ⟨c35, H⟩ := H; have LMc35 := am c35; clear c35
              generalize hy164 : (x14_4 ++ [t161] : List (List Int)) = y164 at H
              have Ny164 := am hy164.symm; clear hy164; have H' := am H; clear H
              try go_wp2
              replace HO_1 := am (Kd.V_drew HO_1.out)
              replace HO_8 := am (Kd.N_drew HO_8.out)
              replace HO_9 := am (Kd.R_drew HO_9.out)
              replace HO_13 := am (Kd.R_drew HO_13.out)
              replace HO_14 := am (Kd.N_drew HO_14.out)
              replace HB := am (below_drew1 HB.out)
              have p158 : 0 ≤ (x15_4 : Int) := od
              have q158 : x15_4 < (x1_1.length : Int) := od
              obtain ⟨ad158, A158_0, c158_0, e158, hx158_0, hl158_0, hi158_0⟩ := at_L1 (Kd.V_reads' HO_1.out).2.2 x15_4 p158 q158
              obtain rfl : ad151 = ad158 := (by injection e158)
              obtain ⟨ce158, hce158, hMe158, hcc158⟩ := Kd.V_get HO_1.out [] x15_4 p158 (by first | exact q158 | exact od | (have e_ := (Kd.V_reads' HO_1.out).1; omega))
              obtain ⟨ua158_0, uc158_0, rfl, ul158_0, ge158_0⟩ := Kd.FK_slice_open hMe158
              have hv158_0 := hcc158 0 _ rfl
              rw [Nat.add_zero, show ((Kd.slice 3 (Kd.int .i64))).sz = 1 from rfl, Nat.mul_one] at hv158_0
              replace hv158_0 := Option.some.inj (hv158_0.symm.trans hx158_0)
              injection hv158_0 with hva_ hvn_ hvc_
              rw [hva_] at ge158_0
              rw [hvc_] at ul158_0
              have HL158_0 := am (show Kd.V (Kd.int .i64) 3 _ w.heap.size _ _ (rd_L1 x1_1 x15_4) from Kd.V_mk ul158_0 ge158_0)
              clear hva_ hvn_ hvc_ ge158_0 ul158_0; clear hcc158 hce158
              have HR158_0 := am hi158_0
              have HC158_0 := am hl158_0
              clear hi158_0 hl158_0; replace p158 := eq_true p158; replace q158 := eq_true q158
              have p159 : 0 ≤ (x15_4 : Int) := od
              have q159 : x15_4 < (x1_1.length : Int) := od
              obtain ⟨ad159, A159_0, c159_0, e159, hx159_0, hl159_0, hi159_0⟩ := at_L1 (Kd.V_reads' HO_1.out).2.2 x15_4 p159 q159
              obtain rfl : ad151 = ad159 := (by injection e159)
              obtain ⟨ce159, hce159, hMe159, hcc159⟩ := Kd.V_get HO_1.out [] x15_4 p159 (by first | exact q159 | exact od | (have e_ := (Kd.V_reads' HO_1.out).1; omega))
              obtain ⟨ua159_0, uc159_0, rfl, ul159_0, ge159_0⟩ := Kd.FK_slice_open hMe159
              have hv159_0 := hcc159 0 _ rfl
              rw [Nat.add_zero, show ((Kd.slice 3 (Kd.int .i64))).sz = 1 from rfl, Nat.mul_one] at hv159_0
              replace hv159_0 := Option.some.inj (hv159_0.symm.trans hx159_0)
              injection hv159_0 with hva_ hvn_ hvc_
              rw [hva_] at ge159_0
              rw [hvc_] at ul159_0
              have HL159_0 := am (show Kd.V (Kd.int .i64) 3 _ w.heap.size _ _ (rd_L1 x1_1 x15_4) from Kd.V_mk ul159_0 ge159_0)
              clear hva_ hvn_ hvc_ ge159_0 ul159_0; clear hcc159 hce159
              have HR159_0 := am hi159_0
              have HC159_0 := am hl159_0
              clear hi159_0 hl159_0; replace p159 := eq_true p159; replace q159 := eq_true q159
              have ea_ := Option.some.inj (hx158_0.symm.trans hx159_0)
              injection ea_ with ea_ en_ ec_
              subst ea_; subst ec_; clear en_
              have p160 : 0 ≤ (x10_1 : Int) := od
              have q160 : x10_1 < ((rd_L1 x1_1 x15_4).length : Int) := od
              obtain ⟨ad160, e160, hx160_0⟩ := Kd.at_int HR159_0.out x10_1 p160 q160
              cases e160; replace p160 := eq_true p160; replace q160 := eq_true q160
              obtain ⟨Ao37, co37, eo37⟩ := Kd.R_slice HO_13.out
              (first | subst eo37 | (injection eo37 with f1_ f2_ f3_; have f4_ := f1_.symm; have f5_ := f3_.symm; clear f1_ f2_ f3_; subst f4_; subst f5_))
              refine st 18 (fun w' => w'.cell? (ad151.add (x15_4).toNat) = some (.slice (some ad160) (rd_L1 x1_1 x15_4).length c158_0) ∧ w'.cell? (ad151.add (x15_4).toNat) = some (.slice (some ad160) (rd_L1 x1_1 x15_4).length c158_0) ∧ w'.cell? (ad160.add (x10_1).toNat) = some (.int .i64 (rd (rd_L1 x1_1 x15_4) x10_1))) [15, 16] spec_l4Reduce.tab19 spec_l4Reduce.bits19 (⟨hx158_0, hx159_0, hx160_0⟩) fun hHeld HT_ HW_ => ?_
              generalize wr.drew = w36 at HO_1 HO_8 HO_9 HO_13 HO_14 HB HL158_0 HL159_0 HR158_0 HR159_0 hx158_0 hx159_0 hx160_0 hHeld ⊢
              refine pz 0 61 HT_ ?_; refine pz 1 62 HT_ ?_; refine pz 2 63 HT_ ?_; refine pz 3 64 HT_ ?_; refine pz 4 65 HT_ ?_; refine pz 6 67 HT_ ?_; refine pz 7 68 HT_ ?_; refine pz 8 69 HT_ ?_; refine pz 10 71 HT_ ?_; refine pz 13 74 HT_ ?_; refine tk 5 66 HT_ HW_ hHeld ?_
              refine tk 9 70 HT_ HW_ hHeld ?_; refine pz 11 72 HT_ ?_; refine tk 12 73 HT_ HW_ hHeld ?_
              refine on 14 (some 75) HT_ fun K hK => ?_
              refine gs_ Try.func87 #[.int .i64 a0, .slice (some ad160) (rd_L1 x1_1 x15_4).length c158_0, .int .i64 (rd (rd_L1 x1_1 x15_4) x10_1), .slice Ao37 t152.length co37] ?_
              with_reducible refine (spec_l4Less.calls k4 a0 _ _ (rd_L1 x1_1 x15_4) (rd (rd_L1 x1_1 x15_4) x10_1) _ _ t152 t161 _ ?side1 ?side2 ?side3 ?side4 A34.out).mono ?_
              (case side1 => exact wC HR158_0)
              (case side2 => exact HC158_0.out)
              (case side3 => exact Kd.C_below (Kd.R_reads' HO_13.out).2.2 gs)
              (case side4 => exact (Kd.R_reads' HO_13.out).2.1)
              rintro e w38 ⟨v162, rfl, ho0, hb⟩
              have HS0_ := (hb.cell (World.block_lt_of_cell? _ _ (hHeld.1))).trans (hHeld.1)
              have HS1_ := (hb.cell (World.block_lt_of_cell? _ _ (hHeld.2.1))).trans (hHeld.2.1)
              have HS2_ := (hb.cell (World.block_lt_of_cell? _ _ (hHeld.2.2))).trans (hHeld.2.2)
              refine ⟨_, rfl, ?_⟩
              replace HO_1 := eV HO_1 (Kd.R_base ho0) hb
              replace HO_8 := eN HO_8 (Kd.R_base ho0) hb
              replace HO_14 := eN HO_14 (Kd.R_base ho0) hb
              replace HL158_0 := eV HL158_0 (Kd.R_base ho0) hb
              replace HL159_0 := eV HL159_0 (Kd.R_base ho0) hb
              have HO163 := am (Kd.R_lower (Kd.R_new' (Kd.R_new' (Kd.R_newM (M := fun k_ => (w.heap.size ≤ k_)) ho0 (bz HB) (fun k_ h_ => h_)) (Kd.R_lt (wR HO_9))) (Kd.R_lt (wR HO_13))) (bz HB))
              replace HO_9 := eR HO_9 (Kd.R_base ho0) hb
              replace HO_13 := eR HO_13 (Kd.R_base ho0) hb
              replace HR158_0 := am (Kd.C_below (wC HR158_0) hb)
              replace HR159_0 := am (Kd.C_below (wC HR159_0) hb)
              replace HB := bq HB hb
              (try clear hb)
              (try clear hb2)
              (try clear hk)
              (try clear hi)
              (try clear ho0)
              obtain ⟨Ao40, co40, eo40⟩ := Kd.R_slice HO163.out
              (first | subst eo40 | (injection eo40 with f1_ f2_ f3_; have f4_ := f1_.symm; have f5_ := f3_.symm; clear f1_ f2_ f3_; subst f4_; subst f5_))
              refine hK.out _ _ ⟨HS0_, HS1_, HS2_⟩ fun hHeld => nz ?_
              clear hK K
              refine la 15 (some 76) HT_ fun K hK => ?_
              refine value_ (w1 := ?_) (v := ?_) (by rfl) rfl ?_ ?_
              rotate_left 2
              ·go_simp
               constructor
               ·rfl
               ·rfl
              refine hK.out _ _ (nz ?_)
              clear hK K
              refine la 16 (some 77) HT_ fun K hK => ?_
              refine Kd.N_append_step (Kd.slice 3 (Kd.int .i64)) (w0 := w) w.heap.size (by rfl) (.tmp 61) (.tmp 76) 45 22 (.slice none 0 0) 24 rfl Try.underlying45 info22 rfl (by decide) (by omega) u14 x14_4 t161 [.slice Ao40 t161.length co40] (fun k_ => (P1_ k_ ∨ w.heap.size ≤ k_) ∧ some k_ ≠ (u8 : Value).ownBlock ∧ some k_ ≠ (u9 : Value).ownBlock ∧ some k_ ≠ (.slice Ao37 t152.length co37 : Value).ownBlock) (fun k_ => ((fun k_ => (P1_ k_ ∨ w.heap.size ≤ k_) ∧ some k_ ≠ (u8 : Value).ownBlock ∧ some k_ ≠ (u9 : Value).ownBlock ∧ some k_ ≠ (.slice Ao37 t152.length co37 : Value).ownBlock)) k_ ∧ some k_ ≠ (u14 : Value).ownBlock) rfl rfl ?aP (fun _ hk => hk) ?aF ?aO ?aB ?aS ?aL ?_
              (case aP => exact (Kd.FK_slice_mk (Kd.R_reads' (Kd.R_mono (ok' := (fun k_ => ((fun k_ => (P1_ k_ ∨ w.heap.size ≤ k_) ∧ some k_ ≠ (u8 : Value).ownBlock ∧ some k_ ≠ (u9 : Value).ownBlock ∧ some k_ ≠ (.slice Ao37 t152.length co37 : Value).ownBlock)) k_ ∧ some k_ ≠ (u14 : Value).ownBlock)) (Kd.R_apart' (Kd.R_apart' (HO163.out) (Kd.N_typed HO_8.out) (by decide)) (Kd.N_typed HO_14.out) (by decide)) (fun k_ hk => ⟨⟨(.inr (hk.1.1.1.1.1)), ⟨hk.1.2, ⟨hk.1.1.1.2, hk.1.1.2⟩⟩⟩, hk.2⟩))).2.1 (Kd.R_F (Kd.R_mono (ok' := (fun k_ => ((fun k_ => (P1_ k_ ∨ w.heap.size ≤ k_) ∧ some k_ ≠ (u8 : Value).ownBlock ∧ some k_ ≠ (u9 : Value).ownBlock ∧ some k_ ≠ (.slice Ao37 t152.length co37 : Value).ownBlock)) k_ ∧ some k_ ≠ (u14 : Value).ownBlock)) (Kd.R_apart' (Kd.R_apart' (HO163.out) (Kd.N_typed HO_8.out) (by decide)) (Kd.N_typed HO_14.out) (by decide)) (fun k_ hk => ⟨⟨(.inr (hk.1.1.1.1.1)), ⟨hk.1.2, ⟨hk.1.1.1.2, hk.1.1.2⟩⟩⟩, hk.2⟩)))))
              (case aB => exact (bw HB))
              (case aF => exact (fun k_ hk => ⟨(.inr (Nat.le_trans (bz HB) hk)), Kd.fresh' (Kd.N_lt (wN HO_8)) k_ hk, Kd.fresh' (Kd.R_lt (wR HO_9)) k_ hk, Kd.fresh' (Kd.R_lt (wR HO_13)) k_ hk⟩))
              (case aO => exact (by (with_reducible repeat (first | apply Kd.N_alloc | apply Kd.N_drewN | apply Kd.N_drew)); exact Kd.N_mono HO_14.out (fun _ hk => ⟨hk.1.1, ⟨hk.1.2.1, ⟨hk.1.2.2.1, hk.1.2.2.2⟩⟩⟩)))
              (case aS => exact (bz HB))
              (case aL => have := LMc35.out; omega)
              intro v165 w39 ho hb hg hat
              rw [← Ny164.out] at ho
              replace HO_1 := am (Kd.V_afterv (ok := (fun k_ => (P1_ k_ ∨ w.heap.size ≤ k_) ∧ some k_ ≠ (u8 : Value).ownBlock ∧ some k_ ≠ (u9 : Value).ownBlock ∧ some k_ ≠ (.slice Ao37 t152.length co37 : Value).ownBlock ∧ some k_ ≠ (.slice Ao40 t161.length co40 : Value).ownBlock)) (by (with_reducible repeat (first | apply Kd.V_alloc | apply Kd.V_drewN | apply Kd.V_drew)); exact Kd.V_mono HO_1.out (fun _ hk => ⟨⟨hk.1.1, ⟨hk.1.2.1, ⟨hk.1.2.2.1, ⟨hk.1.2.2.2.1, hk.2⟩⟩⟩⟩, hk.1.2.2.2.2⟩)) hg hat)
              replace HO_8 := am (Kd.N_afterv (ok := (fun k_ => (P1_ k_ ∨ w.heap.size ≤ k_) ∧ some k_ ≠ (u9 : Value).ownBlock ∧ some k_ ≠ (.slice Ao37 t152.length co37 : Value).ownBlock ∧ some k_ ≠ (.slice Ao40 t161.length co40 : Value).ownBlock)) (by (with_reducible repeat (first | apply Kd.N_alloc | apply Kd.N_drewN | apply Kd.N_drew)); exact Kd.N_mono HO_8.out (fun _ hk => ⟨⟨hk.1.1, ⟨hk.1.2.1, ⟨hk.1.2.2.1, hk.2⟩⟩⟩, hk.1.2.2.2⟩)) hg hat)
              replace HO_9 := am (Kd.R_over' (wR HO_9) (Kd.N_typed (wN HO_14)) (by decide) hg)
              replace HO_13 := am (Kd.R_over' (wR HO_13) (Kd.N_typed (wN HO_14)) (by decide) hg)
              replace HL158_0 := am (Kd.V_afterv (ok := (fun k_ => (P1_ k_ ∨ w.heap.size ≤ k_) ∧ some k_ ≠ (u8 : Value).ownBlock ∧ some k_ ≠ (u9 : Value).ownBlock ∧ some k_ ≠ (.slice Ao37 t152.length co37 : Value).ownBlock ∧ some k_ ≠ (.slice Ao40 t161.length co40 : Value).ownBlock)) (by (with_reducible repeat (first | apply Kd.V_alloc | apply Kd.V_drewN | apply Kd.V_drew)); exact Kd.V_mono HL158_0.out (fun _ hk => ⟨⟨hk.1.1, ⟨hk.1.2.1, ⟨hk.1.2.2.1, ⟨hk.1.2.2.2.1, hk.2⟩⟩⟩⟩, hk.1.2.2.2.2⟩)) hg hat)
              replace HL159_0 := am (Kd.V_afterv (ok := (fun k_ => (P1_ k_ ∨ w.heap.size ≤ k_) ∧ some k_ ≠ (u8 : Value).ownBlock ∧ some k_ ≠ (u9 : Value).ownBlock ∧ some k_ ≠ (.slice Ao37 t152.length co37 : Value).ownBlock ∧ some k_ ≠ (.slice Ao40 t161.length co40 : Value).ownBlock)) (by (with_reducible repeat (first | apply Kd.V_alloc | apply Kd.V_drewN | apply Kd.V_drew)); exact Kd.V_mono HL159_0.out (fun _ hk => ⟨⟨hk.1.1, ⟨hk.1.2.1, ⟨hk.1.2.2.1, ⟨hk.1.2.2.2.1, hk.2⟩⟩⟩⟩, hk.1.2.2.2.2⟩)) hg hat)
              replace HB := am (hb)
              have HO166 := am (ho)
              clear HO_14 HO163; clear ho hb hg hat
              refine hK.out _ _ (nz ?_)
              clear hK K; refine pz 17 14 HT_ ?_
              refine done_ (done_of HT_.out (by kernel_rfl)) ?_
              try go_wp2
              go_roundg k4
              case measure => have := HK1.out; have := HK2.out; have := HJ8.out; have := HK4.out; omega
              case rel => exact ⟨(y164), (wrap64 (x15_4 + 1)), fr, H', ⟨by have := HK1.out; have := HK2.out; have := HJ8.out; have := HK4.out; omega⟩, ⟨Kd.V_below (Kd.V_mono HO_1.out (fun _ hk => ⟨hk.1.1, ⟨hk.1.2.1, ⟨hk.1.2.2.1, ⟨hk.1.2.2.2.1, hk.2⟩⟩⟩⟩)) gs⟩, ⟨Kd.N_below (Kd.N_mono HO_8.out (fun _ hk => ⟨hk.1.1, ⟨hk.1.2.1, ⟨hk.1.2.2.1, hk.2⟩⟩⟩)) gs⟩, ⟨Kd.R_below (Kd.R_mono HO_9.out (fun _ hk => ⟨hk.1.1, hk.1.2⟩)) gs⟩, ⟨Kd.R_below (Kd.R_mono HO_13.out (fun _ hk => ⟨hk.1.1, hk.1.2⟩)) gs⟩, ⟨wN HO166⟩, ⟨bw HB⟩⟩
            ·rw [if_neg c29] at H
             have c29b0 := decide_eq_false c29; clear c29; have H' := am H; clear H; go_wp2
             go_loopg [16] k4 (fun kq v16 w' => ∃ (x8_5 : List (List Int)) (x16_5 : Int), v16 = .int .i64 x16_5 ∧ Aside0 (spec_l4Reduce.l3 kq a0 x14_4 a2 x8_5 x9_1 x10_1 t152 x16_5 = some (r1, r2)) ∧ Aside0 (kq ≤ k4) ∧ Aside0 (Kd.N (Kd.slice 3 (Kd.int .i64)) 22 w' w.heap.size (fun k_ => (P1_ k_ ∨ w.heap.size ≤ k_) ∧ some k_ ≠ (u8 : Value).ownBlock ∧ some k_ ≠ (u9 : Value).ownBlock ∧ some k_ ≠ (v153 : Value).ownBlock) u14 x14_4) ∧ Aside0 (Kd.N (Kd.slice 3 (Kd.int .i64)) 22 w' w.heap.size (fun k_ => (P1_ k_ ∨ w.heap.size ≤ k_) ∧ some k_ ≠ (u14 : Value).ownBlock ∧ some k_ ≠ (u9 : Value).ownBlock ∧ some k_ ≠ (v153 : Value).ownBlock) u8 x8_5) ∧ Aside0 (Kd.R (Kd.int .i64) 3 w' w.heap.size (fun k_ => (w.heap.size ≤ k_) ∧ some k_ ≠ (v153 : Value).ownBlock) u9 x9_1) ∧ Aside0 (Kd.R (Kd.int .i64) 3 w' w.heap.size (fun k_ => (w.heap.size ≤ k_) ∧ some k_ ≠ (u9 : Value).ownBlock) v153 t152) ∧ Aside0 (Below w.heap.size w w'))
             case atStart => exact ⟨(x8_1), (0), fr, H', ⟨Nat.le_refl _⟩, ⟨wN HO_14⟩, ⟨Kd.N_below (Kd.N_mono HO_8.out (fun _ hk => ⟨hk.1, ⟨hk.2.2.2, ⟨hk.2.1, hk.2.2.1⟩⟩⟩)) gs⟩, ⟨wR HO_9⟩, ⟨wR HO_13⟩, ⟨bw HB⟩⟩
             case round =>
              clear H'; try clear c1; try clear p1; try clear q1; try clear hx1; try clear c2; try clear p2; try clear c3; try clear c4; try clear c6; try clear p6; try clear c8; try clear c8b0; try clear c10; try clear c10b0; try clear c13; try clear c14
              try clear c14b0; try clear p14; try clear q14; try clear hx14; try clear c15; try clear c15b0; try clear p15; try clear q15; try clear hx15; try clear c16; try clear c16b0; try clear p16; try clear q16; try clear hx16; try clear c17; try clear c17b0
              try clear c18; try clear c18b0; try clear c18b1; try clear c21; try clear c21b0; try clear c22; try clear c22b0; try clear c23; try clear c23b0; try clear c29; try clear c29b0; try clear c30; try clear c30b0; try clear c30b1; try clear c31; try clear c31b0
              try clear c32; try clear c32b0; try clear c33; try clear c33b0; try clear c35; try clear hx149_0; try clear hx150_0; try clear hx151_0; try clear hx158_0; try clear hx159_0; try clear hx160_0; try clear p1; try clear p14; try clear p149; try clear p15
              try clear p150; try clear p151; try clear p158; try clear p159; try clear p160; try clear p2; try clear p6; try clear q1; try clear q14; try clear q149; try clear q15; try clear q150; try clear q151; try clear q158; try clear q159; try clear q160
              obtain ⟨x8_5, x16_5, rfl, HA, HK5, HO_1, HO_8, HO_9, HO_13, HB⟩ := hrel
              cases gk with
              | zero => exact absurd HA.out (by simp [spec_l4Reduce.l3])
              | succ k5 =>
               have H := HA.out; clear HA
               simp only [spec_l4Reduce.l3] at H
               by_cases c41 : x16_5 < (x8_5.length : Int)
               ·rw [if_pos c41] at H
                have c41b0 := decide_eq_true c41; clear c41; replace H := ifn H; obtain ⟨c42, H⟩ := H; have c42b0 := decide_eq_true c42; clear c42; replace H := ifn H; obtain ⟨c43, H⟩ := H; have c43b0 := decide_eq_true c43; clear c43; replace H := ifn H; obtain ⟨c44, H⟩ := H
                have c44b0 := decide_eq_true c44; clear c44; replace H := bs H; obtain ⟨t170, A45, H⟩ := H
                generalize hy173 : (x8_5.set (x16_5 : Int).toNat t170 : List (List Int)) = y173 at H
                have Ny173 := am hy173.symm; clear hy173; have H' := am H; clear H
                obtain ⟨Ao47, co47, eo47⟩ := Kd.N_slice HO_8.out
                subst eo47
                try go_wp2
                replace HO_1 := am (Kd.N_drew HO_1.out)
                replace HO_8 := am (Kd.N_drew HO_8.out)
                replace HO_9 := am (Kd.R_drew HO_9.out)
                replace HO_13 := am (Kd.R_drew HO_13.out)
                replace HB := am (below_drew1 HB.out)
                have p167 : 0 ≤ (x16_5 : Int) := od
                have q167 : x16_5 < (x8_5.length : Int) := od
                obtain ⟨ad167, A167_0, c167_0, e167, hx167_0, hl167_0, hi167_0⟩ := at_L1 (Kd.N_reads' HO_8.out).2.2 x16_5 p167 q167
                cases e167
                obtain ⟨ce167, hce167, hMe167, hcc167⟩ := Kd.N_get HO_8.out [] x16_5 p167 (by first | exact q167 | exact od | (have e_ := (Kd.N_reads' HO_8.out).1; omega))
                obtain ⟨ua167_0, uc167_0, rfl, ul167_0, ge167_0⟩ := Kd.FK_slice_open hMe167
                have hv167_0 := hcc167 0 _ rfl
                rw [Nat.add_zero, show ((Kd.slice 3 (Kd.int .i64))).sz = 1 from rfl, Nat.mul_one] at hv167_0
                replace hv167_0 := Option.some.inj (hv167_0.symm.trans hx167_0)
                injection hv167_0 with hva_ hvn_ hvc_
                rw [hva_] at ge167_0
                rw [hvc_] at ul167_0
                have HL167_0 := am (show Kd.V (Kd.int .i64) 3 _ w.heap.size _ _ (rd_L1 x8_5 x16_5) from Kd.V_mk ul167_0 ge167_0)
                clear hva_ hvn_ hvc_ ge167_0 ul167_0; clear hcc167 hce167
                have HR167_0 := am hi167_0
                have HC167_0 := am hl167_0
                clear hi167_0 hl167_0; replace p167 := eq_true p167; replace q167 := eq_true q167
                have p168 : 0 ≤ (x16_5 : Int) := od
                have q168 : x16_5 < (x8_5.length : Int) := od
                obtain ⟨ad168, A168_0, c168_0, e168, hx168_0, hl168_0, hi168_0⟩ := at_L1 (Kd.N_reads' HO_8.out).2.2 x16_5 p168 q168
                obtain rfl : ad167 = ad168 := (by injection e168)
                obtain ⟨ce168, hce168, hMe168, hcc168⟩ := Kd.N_get HO_8.out [] x16_5 p168 (by first | exact q168 | exact od | (have e_ := (Kd.N_reads' HO_8.out).1; omega))
                obtain ⟨ua168_0, uc168_0, rfl, ul168_0, ge168_0⟩ := Kd.FK_slice_open hMe168
                have hv168_0 := hcc168 0 _ rfl
                rw [Nat.add_zero, show ((Kd.slice 3 (Kd.int .i64))).sz = 1 from rfl, Nat.mul_one] at hv168_0
                replace hv168_0 := Option.some.inj (hv168_0.symm.trans hx168_0)
                injection hv168_0 with hva_ hvn_ hvc_
                rw [hva_] at ge168_0
                rw [hvc_] at ul168_0
                have HL168_0 := am (show Kd.V (Kd.int .i64) 3 _ w.heap.size _ _ (rd_L1 x8_5 x16_5) from Kd.V_mk ul168_0 ge168_0)
                clear hva_ hvn_ hvc_ ge168_0 ul168_0; clear hcc168 hce168
                have HR168_0 := am hi168_0
                have HC168_0 := am hl168_0
                clear hi168_0 hl168_0; replace p168 := eq_true p168; replace q168 := eq_true q168
                have ea_ := Option.some.inj (hx167_0.symm.trans hx168_0)
                injection ea_ with ea_ en_ ec_
                subst ea_; subst ec_; clear en_
                have p169 : 0 ≤ (x10_1 : Int) := od
                have q169 : x10_1 < ((rd_L1 x8_5 x16_5).length : Int) := od
                obtain ⟨ad169, e169, hx169_0⟩ := Kd.at_int HR168_0.out x10_1 p169 q169
                cases e169; replace p169 := eq_true p169; replace q169 := eq_true q169
                obtain ⟨Ao49, co49, eo49⟩ := Kd.R_slice HO_13.out
                (first | subst eo49 | (injection eo49 with f1_ f2_ f3_; have f4_ := f1_.symm; have f5_ := f3_.symm; clear f1_ f2_ f3_; subst f4_; subst f5_))
                refine st 18 (fun w' => w'.cell? (ad167.add (x16_5).toNat) = some (.slice (some ad169) (rd_L1 x8_5 x16_5).length c167_0) ∧ w'.cell? (ad167.add (x16_5).toNat) = some (.slice (some ad169) (rd_L1 x8_5 x16_5).length c167_0) ∧ w'.cell? (ad169.add (x10_1).toNat) = some (.int .i64 (rd (rd_L1 x8_5 x16_5) x10_1))) [17] spec_l4Reduce.tab24 spec_l4Reduce.bits24 (⟨hx167_0, hx168_0, hx169_0⟩) fun hHeld HT_ HW_ => ?_
                generalize wr.drew = w48 at HO_1 HO_8 HO_9 HO_13 HB HL167_0 HL168_0 HR167_0 HR168_0 hx167_0 hx168_0 hx169_0 hHeld ⊢
                refine pz 0 85 HT_ ?_; refine pz 1 86 HT_ ?_; refine pz 2 87 HT_ ?_; refine pz 3 88 HT_ ?_; refine pz 4 89 HT_ ?_; refine pz 5 90 HT_ ?_; refine pz 7 92 HT_ ?_; refine pz 8 93 HT_ ?_; refine pz 9 94 HT_ ?_; refine pz 11 96 HT_ ?_; refine pz 14 99 HT_ ?_
                refine tk 6 91 HT_ HW_ hHeld ?_; refine tk 10 95 HT_ HW_ hHeld ?_; refine pz 12 97 HT_ ?_; refine tk 13 98 HT_ HW_ hHeld ?_
                refine on 15 (some 100) HT_ fun K hK => ?_
                refine gs_ Try.func87 #[.int .i64 a0, .slice (some ad169) (rd_L1 x8_5 x16_5).length c167_0, .int .i64 (rd (rd_L1 x8_5 x16_5) x10_1), .slice Ao49 t152.length co49] ?_
                with_reducible refine (spec_l4Less.calls k5 a0 _ _ (rd_L1 x8_5 x16_5) (rd (rd_L1 x8_5 x16_5) x10_1) _ _ t152 t170 _ ?side1 ?side2 ?side3 ?side4 A45.out).mono ?_
                (case side1 => exact wC HR167_0)
                (case side2 => exact HC167_0.out)
                (case side3 => exact Kd.C_below (Kd.R_reads' HO_13.out).2.2 gs)
                (case side4 => exact (Kd.R_reads' HO_13.out).2.1)
                rintro e w50 ⟨v171, rfl, ho0, hb⟩
                have HS0_ := (hb.cell (World.block_lt_of_cell? _ _ (hHeld.1))).trans (hHeld.1)
                have HS1_ := (hb.cell (World.block_lt_of_cell? _ _ (hHeld.2.1))).trans (hHeld.2.1)
                have HS2_ := (hb.cell (World.block_lt_of_cell? _ _ (hHeld.2.2))).trans (hHeld.2.2)
                refine ⟨_, rfl, ?_⟩
                replace HO_1 := eN HO_1 (Kd.R_base ho0) hb
                replace HO_8 := eN HO_8 (Kd.R_base ho0) hb
                replace HL167_0 := eV HL167_0 (Kd.R_base ho0) hb
                replace HL168_0 := eV HL168_0 (Kd.R_base ho0) hb
                have HO172 := am (Kd.R_lower (Kd.R_new' (Kd.R_new' (Kd.R_newM (M := fun k_ => (w.heap.size ≤ k_)) ho0 (bz HB) (fun k_ h_ => h_)) (Kd.R_lt (wR HO_9))) (Kd.R_lt (wR HO_13))) (bz HB))
                replace HO_9 := eR HO_9 (Kd.R_base ho0) hb
                replace HO_13 := eR HO_13 (Kd.R_base ho0) hb
                replace HR167_0 := am (Kd.C_below (wC HR167_0) hb)
                replace HR168_0 := am (Kd.C_below (wC HR168_0) hb)
                replace HB := bq HB hb
                (try clear hb)
                (try clear hb2)
                (try clear hk)
                (try clear hi)
                (try clear ho0)
                have p46 : 0 ≤ (x16_5 : Int) := od
                have q46 : (x16_5 : Int) < ((x8_5.length : Int) : Int) := od
                obtain ⟨go46, co46, eo46, gb46, gl46, cl46, HG46⟩ := Kd.N_form HO_8.out (by omega)
                (first | cases eo46 | (injection eo46 with ea_ en_ ec_; (first | subst ea_ | (injection ea_ with ea_; subst ea_)); subst ec_; clear en_))
                have GB46 := am gb46
                have GG46 := am HG46
                clear gb46 gl46 HG46
                (first | simp only [add_plain] at hx167_0 | skip)
                (first | simp only [add_plain] at hx168_0 | skip)
                obtain ⟨ce46, hcl46, hM46, hcc46, hfr46⟩ := Kd.N_elem HO_8.out [] (x16_5 : Int) p46 q46
                obtain ⟨ua46_0, uc46_0, rfl, ul46_0, ge46_0⟩ := Kd.FK_slice_open hM46
                have hx46_0 := hcc46 0 _ rfl
                have hf46_0 := hfr46 0
                (try simp only [show ((Kd.slice 3 (Kd.int .i64))).sz = 1 from rfl, Nat.mul_one, Nat.add_zero] at hx46_0)
                (try simp only [show ((Kd.slice 3 (Kd.int .i64))).sz = 1 from rfl, Nat.mul_one, Nat.add_zero] at hf46_0)
                clear hcl46 hcc46 hfr46 hM46; replace p46 := eq_true p46; replace q46 := eq_true q46
                obtain ⟨Ao51, co51, eo51⟩ := Kd.R_slice HO172.out
                (first | subst eo51 | (injection eo51 with f1_ f2_ f3_; have f4_ := f1_.symm; have f5_ := f3_.symm; clear f1_ f2_ f3_; subst f4_; subst f5_))
                have HX52 := am (show Kd.N (Kd.slice 3 (Kd.int .i64)) 22 _ w.heap.size (fun k_ => (P1_ k_ ∨ w.heap.size ≤ k_) ∧ some k_ ≠ (u14 : Value).ownBlock ∧ some k_ ≠ (u9 : Value).ownBlock ∧ some k_ ≠ (.slice Ao49 t152.length co49 : Value).ownBlock ∧ some k_ ≠ (.slice Ao51 t170.length co51 : Value).ownBlock) (.slice (some ⟨go46, 0, none⟩) x8_5.length co47) x8_5 from (Kd.N_mono (HO_8.out) (fun k_ hk => ⟨hk.1.1, ⟨hk.1.2.1, ⟨hk.1.2.2.1, ⟨hk.1.2.2.2, hk.2⟩⟩⟩⟩)))
                replace HX52 := am (show Kd.N (Kd.slice 3 (Kd.int .i64)) 22 _ w.heap.size (fun k_ => (P1_ k_ ∨ w.heap.size ≤ k_) ∧ some k_ ≠ (u14 : Value).ownBlock ∧ some k_ ≠ (u9 : Value).ownBlock ∧ some k_ ≠ (.slice Ao49 t152.length co49 : Value).ownBlock) (.slice (some ⟨go46, 0, none⟩) x8_5.length co47) x8_5 from Kd.N_mono HX52.out (fun k_ hk => ⟨hk.1, ⟨hk.2.1, ⟨hk.2.2.1, hk.2.2.2.1⟩⟩⟩))
                obtain ⟨ce52, hcl52, hM52, hcc52, hfr52⟩ := Kd.N_elem HX52.out [] (x16_5 : Int) (od) (by have h_ : (x16_5 : Int) < ((x8_5.length : Int) : Int) := od; first | exact h_ | (have e_ := (Kd.N_reads' HO_8.out).1; omega) | simpa using h_)
                obtain ⟨ua52_0, uc52_0, rfl, ul52_0, ge52_0⟩ := Kd.FK_slice_open hM52
                have HP52 := (Kd.N_seg HX52.out (x16_5 : Int) (od) (by have h_ : (x16_5 : Int) < ((x8_5.length : Int) : Int) := od; first | exact h_ | (have e_ := (Kd.N_reads' HO_8.out).1; omega) | simpa using h_) (seg := [.slice Ao51 t170.length co51]) (j := 0) hcl52 hcc52 (show 1 ≤ 1 from by decide) (x' := t170) (Kd.FK_slice_mk (Kd.R_reads' (Kd.R_mono (ok' := (fun k_ => ((fun k_ => (P1_ k_ ∨ w.heap.size ≤ k_) ∧ some k_ ≠ (u14 : Value).ownBlock ∧ some k_ ≠ (u9 : Value).ownBlock ∧ some k_ ≠ (.slice Ao49 t152.length co49 : Value).ownBlock)) k_ ∧ k_ ≠ go46)) (Kd.R_apart' (Kd.R_apart' (HO172.out) (Kd.N_typed HO_1.out) (by decide)) (Kd.N_typed HO_8.out) (by decide)) (fun k_ hk => ⟨⟨(.inr (hk.1.1.1.1.1)), ⟨hk.1.2, ⟨hk.1.1.1.2, hk.1.1.2⟩⟩⟩, fun e_ => (hk.2) (by rw [e_]; rfl)⟩))).2.1 (Kd.R_F (Kd.R_mono (ok' := (fun k_ => ((fun k_ => (P1_ k_ ∨ w.heap.size ≤ k_) ∧ some k_ ≠ (u14 : Value).ownBlock ∧ some k_ ≠ (u9 : Value).ownBlock ∧ some k_ ≠ (.slice Ao49 t152.length co49 : Value).ownBlock)) k_ ∧ k_ ≠ go46)) (Kd.R_apart' (Kd.R_apart' (HO172.out) (Kd.N_typed HO_1.out) (by decide)) (Kd.N_typed HO_8.out) (by decide)) (fun k_ hk => ⟨⟨(.inr (hk.1.1.1.1.1)), ⟨hk.1.2, ⟨hk.1.1.1.2, hk.1.1.2⟩⟩⟩, fun e_ => (hk.2) (by rw [e_]; rfl)⟩)))) (fun _ hk => hk)).1
                (try simp only [show ((Kd.slice 3 (Kd.int .i64))).sz = 1 from rfl, Nat.mul_one, Nat.add_zero] at HP52)
                rw [← Ny173.out] at HP52
                have HQ52 := am HP52
                clear hcl52 hcc52 hfr52 hM52 HP52
                refine hK.out _ _ ⟨HS0_, HS1_, HS2_⟩ fun hHeld => nz ?_
                clear hK K; refine pz 16 101 HT_ ?_
                refine la 17 none HT_ fun K hK => ?_
                refine skip_ (w1 := ?_) (by rfl) rfl ?_ ?_
                rotate_left
                ·go_simp
                 rfl
                refine hK.out _ _ ?_
                clear hK K
                refine done_ (done_of HT_.out (by kernel_rfl)) ?_
                try go_wp2
                go_roundg k5
                case measure => have := HK1.out; have := HK2.out; have := HJ8.out; have := HK4.out; have := HK5.out; omega
                case rel => exact ⟨(y173), (wrap64 (x16_5 + 1)), fr, H', ⟨by have := HK1.out; have := HK2.out; have := HJ8.out; have := HK4.out; have := HK5.out; omega⟩, ⟨by (with_reducible repeat (first | apply Kd.N_alloc | apply Kd.N_drewN | apply Kd.N_drew)); exact Kd.N_mono (Kd.N_far (p := ⟨go46, (x16_5 : Int).toNat, none⟩) (Kd.N_mono HO_1.out (fun k_ hk => (⟨hk, fun e_ => hk.1.2.1 (by rw [e_]; rfl)⟩ : _ ∧ k_ ≠ go46))) (fun _ hk => hk.2) (.slice Ao51 t170.length co51)) (fun _ hk => ⟨hk.1.1.1, ⟨hk.1.1.2.1, ⟨hk.1.1.2.2.1, hk.1.1.2.2.2⟩⟩⟩)⟩, ⟨wN HQ52⟩, ⟨by (with_reducible repeat (first | apply Kd.R_alloc | apply Kd.R_drewN | apply Kd.R_drew)); exact Kd.R_mono (Kd.R_far (p := ⟨go46, (x16_5 : Int).toNat, none⟩) (Kd.R_types HO_9.out GG46.out (by decide)) (fun _ hk => hk.2) (.slice Ao51 t170.length co51)) (fun _ hk => ⟨hk.1.1.1, hk.1.1.2⟩)⟩, ⟨by (with_reducible repeat (first | apply Kd.R_alloc | apply Kd.R_drewN | apply Kd.R_drew)); exact Kd.R_mono (Kd.R_far (p := ⟨go46, (x16_5 : Int).toNat, none⟩) (Kd.R_types HO_13.out GG46.out (by decide)) (fun _ hk => hk.2) (.slice Ao51 t170.length co51)) (fun _ hk => ⟨hk.1.1.1, hk.1.1.2⟩)⟩, ⟨by repeat (first | (with_reducible first | exact HB.out | apply below_alloc | apply pw_below_drewN | apply below_drew1 | refine below_set ?_ GB46.out) | exact HB.out)⟩⟩
               ·rw [if_neg c41] at H
                have c41b0 := decide_eq_false c41; clear c41; replace H := ifn H; obtain ⟨c53, H⟩ := H; have LMc53 := am c53; clear c53
                generalize hy174 : (x8_5 ++ [t152] : List (List Int)) = y174 at H
                have Ny174 := am hy174.symm; clear hy174; replace H := ifn H; obtain ⟨c54, H⟩ := H; have LMc54 := am c54; clear c54
                generalize hy177 : (x9_1 ++ [x10_1] : List Int) = y177 at H
                have Ny177 := am hy177.symm; clear hy177; have H' := am H; clear H
                obtain ⟨Ao55, co55, eo55⟩ := Kd.N_slice HO_8.out
                subst eo55
                obtain ⟨Ao57, co57, eo57⟩ := Kd.R_slice HO_13.out
                subst eo57
                go_wp2_with (first | ((with_reducible refine gate_builtin (b := .append) (xs := #[.tmp 102, .tmp 104]) rfl ?_); at_builtin; refine Kd.N_append (Kd.slice 3 (Kd.int .i64)) (w0 := w) w.heap.size rfl (.tmp 102) (.tmp 104) 45 22 (.slice none 0 0) 24 rfl Try.underlying45 info22 rfl (by decide) (by omega) (.slice Ao55 x8_5.length co55) x8_5 t152 [.slice Ao57 t152.length co57] (fun k_ => (P1_ k_ ∨ w.heap.size ≤ k_) ∧ some k_ ≠ (u14 : Value).ownBlock ∧ some k_ ≠ (u9 : Value).ownBlock) (fun k_ => ((fun k_ => (P1_ k_ ∨ w.heap.size ≤ k_) ∧ some k_ ≠ (u14 : Value).ownBlock ∧ some k_ ≠ (u9 : Value).ownBlock)) k_ ∧ some k_ ≠ (.slice Ao55 x8_5.length co55 : Value).ownBlock) rfl rfl ?aP (fun _ hk => hk) ?aF ?aO ?aB ?aS ?aL ?_; (case aP => exact (Kd.FK_slice_mk (Kd.R_reads' (Kd.R_mono (ok' := (fun k_ => ((fun k_ => (P1_ k_ ∨ w.heap.size ≤ k_) ∧ some k_ ≠ (u14 : Value).ownBlock ∧ some k_ ≠ (u9 : Value).ownBlock)) k_ ∧ some k_ ≠ (.slice Ao55 x8_5.length co55 : Value).ownBlock)) (Kd.R_apart' (Kd.R_apart' (HO_13.out) (Kd.N_typed HO_1.out) (by decide)) (Kd.N_typed HO_8.out) (by decide)) (fun k_ hk => ⟨⟨(.inr (hk.1.1.1)), ⟨hk.1.2, hk.1.1.2⟩⟩, hk.2⟩))).2.1 (Kd.R_F (Kd.R_mono (ok' := (fun k_ => ((fun k_ => (P1_ k_ ∨ w.heap.size ≤ k_) ∧ some k_ ≠ (u14 : Value).ownBlock ∧ some k_ ≠ (u9 : Value).ownBlock)) k_ ∧ some k_ ≠ (.slice Ao55 x8_5.length co55 : Value).ownBlock)) (Kd.R_apart' (Kd.R_apart' (HO_13.out) (Kd.N_typed HO_1.out) (by decide)) (Kd.N_typed HO_8.out) (by decide)) (fun k_ hk => ⟨⟨(.inr (hk.1.1.1)), ⟨hk.1.2, hk.1.1.2⟩⟩, hk.2⟩))))); (case aB => exact (bw HB)); (case aF => exact (fun k_ hk => ⟨(.inr (Nat.le_trans (bz HB) hk)), Kd.fresh' (Kd.N_lt (wN HO_1)) k_ hk, Kd.fresh' (Kd.R_lt (wR HO_9)) k_ hk⟩)); (case aO => exact (by (with_reducible repeat (first | apply Kd.N_alloc | apply Kd.N_drewN | apply Kd.N_drew)); exact Kd.N_mono HO_8.out (fun _ hk => ⟨hk.1, ⟨hk.2.1, hk.2.2.1⟩⟩))); (case aS => exact (bz HB)); (case aL => have := LMc53.out; omega); intro v175 w56 ho hb hg hat; rw [← Ny174.out] at ho; replace HO_1 := am (Kd.N_afterv (ok := (fun k_ => (P1_ k_ ∨ w.heap.size ≤ k_) ∧ some k_ ≠ (u9 : Value).ownBlock ∧ some k_ ≠ (.slice Ao57 t152.length co57 : Value).ownBlock)) (by (with_reducible repeat (first | apply Kd.N_alloc | apply Kd.N_drewN | apply Kd.N_drew)); exact Kd.N_mono HO_1.out (fun _ hk => ⟨⟨hk.1, ⟨hk.2.2.1, hk.2.2.2⟩⟩, hk.2.1⟩)) hg hat); replace HO_9 := am (Kd.R_over' (wR HO_9) (Kd.N_typed (wN HO_8)) (by decide) hg); replace HB := am (hb); have HO176 := am (ho); clear HO_8 HO_13; clear ho hb hg hat) | ((with_reducible refine gate_builtin (b := .append) (xs := #[.tmp 106, .tmp 108]) rfl ?_); at_builtin; refine Kd.R_append (Kd.int .i64) (w0 := w) w.heap.size rfl (.tmp 106) (.tmp 108) 22 3 (.int .i64 0) 8 rfl Try.underlying22 info3 rfl (by decide) (by omega) u9 x9_1 x10_1 [.int .i64 x10_1] (fun k_ => (w.heap.size ≤ k_)) (fun _ => False) rfl rfl ?aP (fun _ hk => hk.elim) ?aF ?aO ?aB ?aS ?aL ?_; (case aP => exact rfl); (case aB => exact (bw HB)); (case aF => exact (fun k_ hk => (Nat.le_trans (bz HB) hk))); (case aO => exact (by (with_reducible repeat (first | apply Kd.R_alloc | apply Kd.R_drewN | apply Kd.R_drew)); exact Kd.R_mono HO_9.out (fun _ hk => hk.1))); (case aS => exact (bz HB)); (case aL => have := LMc54.out; omega); intro v178 w58 ho hb hg hat; rw [← Ny177.out] at ho; replace HO_1 := am (Kd.N_afterv (ok := (fun k_ => (P1_ k_ ∨ w.heap.size ≤ k_) ∧ some k_ ≠ (v175 : Value).ownBlock)) (by (with_reducible repeat (first | apply Kd.N_alloc | apply Kd.N_drewN | apply Kd.N_drew)); exact Kd.N_mono HO_1.out (fun _ hk => ⟨⟨hk.1.1, hk.2⟩, hk.1.2.1⟩)) hg hat); replace HO176 := am (Kd.N_afterv (ok := (fun k_ => (P1_ k_ ∨ w.heap.size ≤ k_) ∧ some k_ ≠ (u14 : Value).ownBlock)) (by (with_reducible repeat (first | apply Kd.N_alloc | apply Kd.N_drewN | apply Kd.N_drew)); exact Kd.N_mono HO176.out (fun _ hk => ⟨⟨hk.1, hk.2.1⟩, hk.2.2⟩)) hg hat); replace HB := am (hb); have HO179 := am (ho); clear HO_9; clear ho hb hg hat))
                go_roundg k5
                case measure => have := HK1.out; have := HK2.out; have := HJ8.out; have := HK4.out; have := HK5.out; omega
                case rel => exact ⟨(x14_4), (y174), (y177), (wrap64 (x10_1 + 1)), fr, H', ⟨by have := HK1.out; have := HK2.out; have := HJ8.out; have := HK4.out; have := HK5.out; omega⟩, ⟨Kd.N_V (by (with_reducible repeat (first | apply Kd.N_alloc | apply Kd.N_drewN | apply Kd.N_drew)); exact Kd.N_mono HO_1.out (fun _ hk => ⟨hk.1.1, ⟨hk.1.2, hk.2⟩⟩))⟩, ⟨Kd.N_below (Kd.N_mono HO176.out (fun _ hk => ⟨hk.1.1, hk.2⟩)) gs⟩, ⟨wR HO179⟩, ⟨bw HB⟩⟩
   ·rw [if_neg c8] at H
    have c8b0 := decide_eq_false c8; clear c8
    simp only [Option.some.injEq, Prod.mk.injEq] at H
    obtain ⟨rfl, rfl⟩ := H; go_wp2
    go_ret2
    exact ⟨_, _, fq, wN HO_8, wR HO_9, bw HB⟩
end Go.Proofs.Ytmenehnfgenlpaa.PA

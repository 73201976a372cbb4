-- Written by xprint.py, a program of this claim's own (over the kit's print.py)
import Derived.Test.YtmgbpmihbljngaaPAx14
namespace Go.Proofs.Ytmgbpmihbljngaa.PA
open Go.RowKit Go.Proofs.YtmgbpmihbljngaaW.PrintWords Go.Proofs.YtmgbpmihbljngaaW.PrintLast Go.Proofs.YtmgbpmihbljngaaW.PrintMore
attribute [local go_sem] j9 j8 Qf Qg js jr j6 j7
set_option linter.unusedVariables false
set_option linter.unusedSimpArgs false
mutual
def qc.l0 : Nat → Int → List (List Int) → Int → List (List Int) → List Int → Int → Option ((List (List Int)) × List Int)
 | 0, _, _, _, _, _, _ => none
 | k + 1, x0, x1, x2, x8, x9, x10 => if x10 < x2 then (qc.l1 k x0 x1 x2 x8 x9 x10 (-1) 0) else (some (x8, x9))
def qc.l1 : Nat → Int → List (List Int) → Int → List (List Int) → List Int → Int → Int → Int → Option ((List (List Int)) × List Int)
 | 0, _, _, _, _, _, _, _, _ => none
 | k + 1, x0, x1, x2, x8, x9, x10, x11, x12 => if x12 < (x1.length : Int) then (qc.j2 k x0 x1 x2 x8 x9 x10 x11 x12 (decide (x11 < 0))) else (qc.j2 k x0 x1 x2 x8 x9 x10 x11 x12 false)
def qc.j2 : Nat → Int → List (List Int) → Int → List (List Int) → List Int → Int → Int → Int → Bool → Option ((List (List Int)) × List Int)
 | 0, _, _, _, _, _, _, _, _, _ => none
 | k + 1, x0, x1, x2, x8, x9, x10, x11, x12, x31 => if x31 = true then (if 0 ≤ x12 then (if x12 < (x1.length : Int) then (if 0 ≤ x10 then (if x10 < ((zz x1 x12).length : Int) then (if (rd (zz x1 x12) x10) = 0 then (qc.l1 k x0 x1 x2 x8 x9 x10 x11 (wrap64 (x12 + 1))) else (qc.l1 k x0 x1 x2 x8 x9 x10 x12 (wrap64 (x12 + 1)))) else (none)) else (none)) else (none)) else (none)) else (if x11 < 0 then (qc.l0 k x0 x1 x2 x8 x9 (wrap64 (x10 + 1))) else (if 0 ≤ x11 then (if x11 < (x1.length : Int) then ((qu.f k x0 (zz x1 x11)).bind fun t288 => (qc.l2 k x0 x1 x2 x8 x9 x10 x11 t288 (([] : List (List Int))) 0)) else (none)) else (none)))
def qc.l2 : Nat → Int → List (List Int) → Int → List (List Int) → List Int → Int → Int → List Int → List (List Int) → Int → Option ((List (List Int)) × List Int)
 | 0, _, _, _, _, _, _, _, _, _, _ => none
 | k + 1, x0, x1, x2, x8, x9, x10, x11, x13, x14, x15 => if x15 < (x1.length : Int) then (if x15 = x11 then (qc.l2 k x0 x1 x2 x8 x9 x10 x11 x13 x14 (wrap64 (x15 + 1))) else (if 0 ≤ x15 then (if 0 ≤ x10 then (if x10 < ((zz x1 x15).length : Int) then ((zb.f k x0 (zz x1 x15) (rd (zz x1 x15) x10) x13).bind fun t297 => (if x14.length < 5864062014805 then (qc.l2 k x0 x1 x2 x8 x9 x10 x11 x13 (x14 ++ [t297]) (wrap64 (x15 + 1))) else (none))) else (none)) else (none)) else (none))) else (qc.l3 k x0 x14 x2 x8 x9 x10 x13 0)
def qc.l3 : Nat → Int → List (List Int) → Int → List (List Int) → List Int → Int → List Int → Int → Option ((List (List Int)) × List Int)
 | 0, _, _, _, _, _, _, _, _ => none
 | k + 1, x0, x1, x2, x8, x9, x10, x13, x16 => if x16 < (x8.length : Int) then (if 0 ≤ x16 then (if 0 ≤ x10 then (if x10 < ((zz x8 x16).length : Int) then ((zb.f k x0 (zz x8 x16) (rd (zz x8 x16) x10) x13).bind fun t306 => (qc.l3 k x0 x1 x2 (x8.set (x16 : Int).toNat t306) x9 x10 x13 (wrap64 (x16 + 1)))) else (none)) else (none)) else (none)) else (if x8.length < 5864062014805 then (if x9.length < 17592186044416 then (qc.l0 k x0 x1 x2 (x8 ++ [x13]) (x9 ++ [x10]) (wrap64 (x10 + 1))) else (none)) else (none))
end
def qc.f (k : Nat) (a0 : Int) (l1 : List (List Int)) (a2 : Int) : Option ((List (List Int)) × List Int) := qc.l0 k a0 l1 a2 (([] : List (List Int))) (([] : List Int)) 0
theorem qc.mono_l : ∀ k, (∀ y0 y1 y2 y3 y4 y5, LeO (qc.l0 k y0 y1 y2 y3 y4 y5) (qc.l0 (k + 1) y0 y1 y2 y3 y4 y5)) ∧ (∀ y0 y1 y2 y3 y4 y5 y6 y7, LeO (qc.l1 k y0 y1 y2 y3 y4 y5 y6 y7) (qc.l1 (k + 1) y0 y1 y2 y3 y4 y5 y6 y7)) ∧ (∀ y0 y1 y2 y3 y4 y5 y6 y7 y8, LeO (qc.j2 k y0 y1 y2 y3 y4 y5 y6 y7 y8) (qc.j2 (k + 1) y0 y1 y2 y3 y4 y5 y6 y7 y8)) ∧ (∀ y0 y1 y2 y3 y4 y5 y6 y7 y8 y9, LeO (qc.l2 k y0 y1 y2 y3 y4 y5 y6 y7 y8 y9) (qc.l2 (k + 1) y0 y1 y2 y3 y4 y5 y6 y7 y8 y9)) ∧ (∀ y0 y1 y2 y3 y4 y5 y6 y7, LeO (qc.l3 k y0 y1 y2 y3 y4 y5 y6 y7) (qc.l3 (k + 1) y0 y1 y2 y3 y4 y5 y6 y7))
 | 0 => ⟨fun _ _ _ _ _ _ r h => by simp [qc.l0] at h, fun _ _ _ _ _ _ _ _ r h => by simp [qc.l1] at h, fun _ _ _ _ _ _ _ _ _ r h => by simp [qc.j2] at h, fun _ _ _ _ _ _ _ _ _ _ r h => by simp [qc.l2] at h, fun _ _ _ _ _ _ _ _ r h => by simp [qc.l3] at h⟩
 | k + 1 => by
  obtain ⟨ih0, ih1, ih2, ih3, ih4⟩ := qc.mono_l k
  refine ⟨?_, ?_, ?_, ?_, ?_⟩
  ·intro y0 y1 y2 y3 y4 y5
   unfold qc.l0
   repeat' first | (with_reducible first | apply ih0 | apply ih1 | apply ih2 | apply ih3 | apply ih4 | apply zb.mono | apply qu.mono | exact LeO.refl _ | exact LeO.none _ | refine LeO.ite ?_ ?_ | refine LeO.bind ?_ (fun _ => ?_)) | (first | apply ih0 | apply ih1 | apply ih2 | apply ih3 | apply ih4 | apply zb.mono | apply qu.mono | exact LeO.none _ | refine LeO.ite ?_ ?_ | refine LeO.bind ?_ (fun _ => ?_))
  ·intro y0 y1 y2 y3 y4 y5 y6 y7
   unfold qc.l1
   repeat' first | (with_reducible first | apply ih0 | apply ih1 | apply ih2 | apply ih3 | apply ih4 | apply zb.mono | apply qu.mono | exact LeO.refl _ | exact LeO.none _ | refine LeO.ite ?_ ?_ | refine LeO.bind ?_ (fun _ => ?_)) | (first | apply ih0 | apply ih1 | apply ih2 | apply ih3 | apply ih4 | apply zb.mono | apply qu.mono | exact LeO.none _ | refine LeO.ite ?_ ?_ | refine LeO.bind ?_ (fun _ => ?_))
  ·intro y0 y1 y2 y3 y4 y5 y6 y7 y8
   unfold qc.j2
   repeat' first | (with_reducible first | apply ih0 | apply ih1 | apply ih2 | apply ih3 | apply ih4 | apply zb.mono | apply qu.mono | exact LeO.refl _ | exact LeO.none _ | refine LeO.ite ?_ ?_ | refine LeO.bind ?_ (fun _ => ?_)) | (first | apply ih0 | apply ih1 | apply ih2 | apply ih3 | apply ih4 | apply zb.mono | apply qu.mono | exact LeO.none _ | refine LeO.ite ?_ ?_ | refine LeO.bind ?_ (fun _ => ?_))
  ·intro y0 y1 y2 y3 y4 y5 y6 y7 y8 y9
   unfold qc.l2
   repeat' first | (with_reducible first | apply ih0 | apply ih1 | apply ih2 | apply ih3 | apply ih4 | apply zb.mono | apply qu.mono | exact LeO.refl _ | exact LeO.none _ | refine LeO.ite ?_ ?_ | refine LeO.bind ?_ (fun _ => ?_)) | (first | apply ih0 | apply ih1 | apply ih2 | apply ih3 | apply ih4 | apply zb.mono | apply qu.mono | exact LeO.none _ | refine LeO.ite ?_ ?_ | refine LeO.bind ?_ (fun _ => ?_))
  ·intro y0 y1 y2 y3 y4 y5 y6 y7
   unfold qc.l3
   repeat' first | (with_reducible first | apply ih0 | apply ih1 | apply ih2 | apply ih3 | apply ih4 | apply zb.mono | apply qu.mono | exact LeO.refl _ | exact LeO.none _ | refine LeO.ite ?_ ?_ | refine LeO.bind ?_ (fun _ => ?_)) | (first | apply ih0 | apply ih1 | apply ih2 | apply ih3 | apply ih4 | apply zb.mono | apply qu.mono | exact LeO.none _ | refine LeO.ite ?_ ?_ | refine LeO.bind ?_ (fun _ => ?_))
theorem qc.mono : ∀ a0 a1 a2 k, LeO (qc.f k a0 a1 a2) (qc.f (k + 1) a0 a1 a2) := by
 intro a0 a1 a2 k
 obtain ⟨ih0, ih1, ih2, ih3, ih4⟩ := qc.mono_l k
 unfold qc.f
 repeat' first | (with_reducible first | apply ih0 | apply ih1 | apply ih2 | apply ih3 | apply ih4 | apply zb.mono | apply qu.mono | exact LeO.refl _ | exact LeO.none _ | refine LeO.ite ?_ ?_ | refine LeO.bind ?_ (fun _ => ?_)) | (first | apply ih0 | apply ih1 | apply ih2 | apply ih3 | apply ih4 | apply zb.mono | apply qu.mono | exact LeO.none _ | refine LeO.ite ?_ ?_ | refine LeO.bind ?_ (fun _ => ?_))
def qc.T19 : Bool × List (List Nat × List Nat) := (true, [([], []), ([], []), ([], []), ([], []), ([2, 3], [2, 3]), ([4], [4]), ([], []), ([], []), ([6, 7], [6, 7]), ([8], [8]), ([], []), ([9, 10], [9, 10]), ([11], [11]), ([], []), ([1, 5, 12, 13], [1, 5, 12, 13]), ([14], [14]), ([0, 15, 14], [0, 15]), ([16, 16, 0, 1, 2, 3, 4, 5, 6, 7, 8, 9, 10, 11, 12, 13, 14, 15, 16], [0, 16])])
def qc.B19 : List Nat := [0, 0, 0, 0, 12, 28, 0, 0, 192, 448, 0, 1984, 4032, 0, 16382, 32766, 65535, 131071]
theorem qc.tab19 : rtab .any (Zu Try.f150 19) = qc.T19 := by kernel_rfl
theorem qc.bits19 : Qe qc.T19.2 qc.B19 = true := by kernel_rfl
def qc.T24 : Bool × List (List Nat × List Nat) := (true, [([], []), ([], []), ([], []), ([], []), ([], []), ([3, 4], [3, 4]), ([5], [5]), ([], []), ([], []), ([7, 8], [7, 8]), ([9], [9]), ([], []), ([10, 11], [10, 11]), ([12], [12]), ([], []), ([2, 6, 13, 14], [2, 6, 13, 14]), ([0, 1, 0, 1, 2, 3, 4, 5, 6, 7, 8, 9, 10, 11, 12, 13, 14, 15], [0, 1]), ([16, 15, 15, 0, 1, 2, 3, 4, 5, 6, 7, 8, 9, 10, 11, 12, 13, 14, 15], [15, 16])])
def qc.B24 : List Nat := [0, 0, 0, 0, 0, 24, 56, 0, 0, 384, 896, 0, 3968, 8064, 0, 32764, 65535, 131071]
theorem qc.tab24 : rtab .any (Zu Try.f150 24) = qc.T24 := by kernel_rfl
theorem qc.bits24 : Qe qc.T24.2 qc.B24 = true := by kernel_rfl
set_option maxHeartbeats 8000000 in
set_option maxRecDepth 100000 in
theorem qc.calls (k : Nat) (a0 : Int) (P1_ : Nat → Prop) (A1 : Option Addr) (c1 : Nat) (l1 : List (List Int)) (a2 : Int) (r1 : List (List Int)) (r2 : List Int) (w : World) (hs1 : Kd.V (Kd.slice 3 (Kd.int .i64)) 23 w w.heap.size (fun k_ => P1_ k_) (.slice A1 l1.length c1) l1) (h : qc.f k a0 l1 a2 = some (r1, r2)) :
  Calls Try.prog 150 #[.int .i64 a0, .slice A1 l1.length c1, .int .i64 a2] w fun e w' => ∃ v0_ v1_ : Value, e = .returned (.tuple #[v0_, v1_]) ∧ Kd.N (Kd.slice 3 (Kd.int .i64)) 23 w' w.heap.size (fun k_ => (P1_ k_ ∨ w.heap.size ≤ k_) ∧ some k_ ≠ (v1_ : Value).ownBlock) v0_ r1 ∧ Kd.R (Kd.int .i64) 3 w' w.heap.size (fun k_ => (w.heap.size ≤ k_)) v1_ r2 ∧ Below w.heap.size w w' := by
 have HO1 := am (show Kd.V (Kd.slice 3 (Kd.int .i64)) 23 w w.heap.size (fun k_ => (P1_ k_ ∨ w.heap.size ≤ k_)) (.slice A1 l1.length c1) l1 from Kd.V_mono hs1 (fun k_ hk => .inl hk))
 have HB := am (Below.refl w.heap.size w)
 have H : (qc.l0 k a0 l1 a2 (([] : List (List Int))) (([] : List Int)) 0) = some (r1, r2) := h
 clear h
 obtain ⟨y279, hy279⟩ : ∃ y_ : List (List Int), y_ = (([] : List (List Int))) := ⟨_, rfl⟩
 replace H : (qc.l0 k a0 l1 a2 y279 (([] : List Int)) 0) = some (r1, r2) := by first | (rw [hy279]; with_reducible exact H) | (have H2_ := (Option.bind_some _ _).symm.trans H; rw [hy279]; with_reducible exact H2_) | (have H2_ := (Option.bind_some _ _).symm.trans H; with_reducible exact H2_) | with_reducible exact H | (rw [hy279]; exact H) | exact H
 have Ny279 := am hy279; clear hy279
 generalize hy282 : (([] : List Int)) = y282 at H
 have Ny282 := am hy282.symm; clear hy282; have H' := am H; clear H
 go_enter Try.func150, Try.ntmps150
 go_wp2_with (first | ((with_reducible refine za (N := 17) rfl ?_); refine Kd.N_lit (Kd.slice 3 (Kd.int .i64)) _ 23 ?hg (N' := 17) ?hd (xs := ([] : List (List Int))) (inner := []) (ok := (fun k_ => (P1_ k_ ∨ w.heap.size ≤ k_))) (okp := (fun k_ => (P1_ k_ ∨ w.heap.size ≤ k_))) ?hr ?hp (fun _ hk => hk) ((show ∀ k_, w.heap.size ≤ k_ → (fun k_ => (P1_ k_ ∨ w.heap.size ≤ k_)) k_ from fun k_ hk => (.inr (Nat.le_trans (bz HB) hk))) _ (Nat.le_refl _)) (Below.refl _ _) (Nat.le_refl _) (by simp) ?_; (case hd => rfl); (case hg => rfl); (case hr => first | (go_simp; done) | (go_simp; rfl)); (case hp => exact (Reps.none _ _)); intro v280 w4 ho5 hb hg_ hnew_; clear hg_ hnew_; (first | rw [← Ny279.out] at ho5 | (simp only [Int.reduceToNat] at ho5; rw [← Ny279.out] at ho5)); replace HO1 := eV HO1 (Kd.N_base ho5) hb; have HO281 := am (Kd.N_lower ho5 (bz HB)); replace HB := bq HB hb; clear hb ho5) | ((with_reducible refine za (N := 18) rfl ?_); refine li 3 ([] : List Int) ?_; intro v283 w6 ho7 hb; (first | rw [← Ny282.out] at ho7 | (simp only [Int.reduceToNat] at ho7; rw [← Ny282.out] at ho7)); replace HO1 := eV HO1 (Kd.R_base ho7) hb; replace HO281 := eN HO281 (Kd.R_base ho7) hb; have HO284 := am (mR ho7 HB); replace HB := bq HB hb; clear hb ho7))
 go_loopg [1, 8, 9, 10] k (fun kq v1 v8 v9 v10 w' => ∃ (x1_1 : List (List Int)) (x8_1 : List (List Int)) (x9_1 : List Int) (x10_1 : Int), v10 = .int .i64 x10_1 ∧ qb (qc.l0 kq a0 x1_1 a2 x8_1 x9_1 x10_1 = some (r1, r2)) ∧ qb (kq ≤ k) ∧ qb (Kd.V (Kd.slice 3 (Kd.int .i64)) 23 w' w.heap.size (fun k_ => (P1_ k_ ∨ w.heap.size ≤ k_) ∧ some k_ ≠ (v8 : Value).ownBlock ∧ some k_ ≠ (v9 : Value).ownBlock) v1 x1_1) ∧ qb (Kd.N (Kd.slice 3 (Kd.int .i64)) 23 w' w.heap.size (fun k_ => (P1_ k_ ∨ w.heap.size ≤ k_) ∧ some k_ ≠ (v9 : Value).ownBlock) v8 x8_1) ∧ qb (Kd.R (Kd.int .i64) 3 w' w.heap.size (fun k_ => (w.heap.size ≤ k_)) v9 x9_1) ∧ qb (Below w.heap.size w w'))
 case atStart => exact ⟨(l1), (y279), (y282), (0), fr, H', ⟨Nat.le_refl _⟩, ⟨Kd.V_below (Kd.V_mono HO1.out (fun _ hk => ⟨hk.1.1, ⟨hk.1.2, hk.2⟩⟩)) gs⟩, ⟨wN HO281⟩, ⟨Kd.R_below (Kd.R_mono HO284.out (fun _ hk => hk.1)) gs⟩, ⟨bw HB⟩⟩
 case round =>
  clear H'; try clear c1; try clear p2
  obtain ⟨x1_1, x8_1, x9_1, x10_1, rfl, HA, HK1, HO_1, HO_8, HO_9, HB⟩ := hrel
  cases gk with
  | zero => exact absurd HA.out (by simp [qc.l0])
  | succ k1 =>
   have H := HA.out; clear HA
   simp only [qc.l0] at H
   by_cases c8 : x10_1 < a2
   ·rw [if_pos c8] at H
    have c8b0 := decide_eq_true c8; clear c8; have H' := am H; clear H; go_wp2
    go_loopg [11, 12] k1 (fun kq v11 v12 w' => ∃ (x11_2 : Int) (x12_2 : Int), v11 = .int .i64 x11_2 ∧ v12 = .int .i64 x12_2 ∧ qb (qc.l1 kq a0 x1_1 a2 x8_1 x9_1 x10_1 x11_2 x12_2 = some (r1, r2)) ∧ qb (kq ≤ k1) ∧ qb (Kd.V (Kd.slice 3 (Kd.int .i64)) 23 w' w.heap.size (fun k_ => (P1_ k_ ∨ w.heap.size ≤ k_) ∧ some k_ ≠ (u8 : Value).ownBlock ∧ some k_ ≠ (u9 : Value).ownBlock) u1 x1_1) ∧ qb (Kd.N (Kd.slice 3 (Kd.int .i64)) 23 w' w.heap.size (fun k_ => (P1_ k_ ∨ w.heap.size ≤ k_) ∧ some k_ ≠ (u9 : Value).ownBlock) u8 x8_1) ∧ qb (Kd.R (Kd.int .i64) 3 w' w.heap.size (fun k_ => (w.heap.size ≤ k_)) u9 x9_1) ∧ qb (Below w.heap.size w w'))
    case atStart => exact ⟨((-1)), (0), fr, fr, H', ⟨Nat.le_refl _⟩, ⟨wV HO_1⟩, ⟨wN HO_8⟩, ⟨wR HO_9⟩, ⟨bw HB⟩⟩
    case round =>
     clear H'; try clear c1; try clear p2; try clear c8; try clear c8b0; try clear p2
     obtain ⟨x11_2, x12_2, rfl, rfl, HA, HK2, HO_1, HO_8, HO_9, HB⟩ := hrel
     cases gk with
     | zero => exact absurd HA.out (by simp [qc.l1])
     | succ k2 =>
      have H := HA.out; clear HA
      simp only [qc.l1] at H
      have HC9 := am H
      clear H
      go_upto_region 8 with (fail)
      go_cut [31] (fun v31 wc => ∃ (kq : Nat) (x31_8 : Bool), v31 = .bool x31_8 ∧ qb (qc.j2 kq a0 x1_1 a2 x8_1 x9_1 x10_1 x11_2 x12_2 x31_8 = some (r1, r2)) ∧ qb (kq ≤ k2) ∧ qb (Kd.V (Kd.slice 3 (Kd.int .i64)) 23 wc w.heap.size (fun k_ => (P1_ k_ ∨ w.heap.size ≤ k_) ∧ some k_ ≠ (u8 : Value).ownBlock ∧ some k_ ≠ (u9 : Value).ownBlock) u1 x1_1) ∧ qb (Kd.N (Kd.slice 3 (Kd.int .i64)) 23 wc w.heap.size (fun k_ => (P1_ k_ ∨ w.heap.size ≤ k_) ∧ some k_ ≠ (u9 : Value).ownBlock) u8 x8_1) ∧ qb (Kd.R (Kd.int .i64) 3 wc w.heap.size (fun k_ => (w.heap.size ≤ k_)) u9 x9_1) ∧ qb (Below w.heap.size w wc))
      case first =>
       have H := HC9.out
       clear HC9
       by_cases c10 : x12_2 < (x1_1.length : Int)
       ·rw [if_pos c10] at H
        have c10b0 := decide_eq_true c10; clear c10
        (first | rw [c10b0] | (simp only [Q9, Zj]; rw [c10b0]) | skip)
        have H' := am H; clear H
        obtain ⟨Ao11, co11, eo11⟩ := Kd.V_slice HO_1.out
        subst eo11; go_wp2
        go_meet
        case rel => exact ⟨_, (decide (x11_2 < 0)), fr, H', ⟨by have := HK1.out; have := HK2.out; first | omega | exact Nat.le_refl _⟩, ⟨wV HO_1⟩, ⟨wN HO_8⟩, ⟨wR HO_9⟩, ⟨bw HB⟩⟩
       ·rw [if_neg c10] at H
        have c10b0 := decide_eq_false c10; clear c10
        (first | rw [c10b0] | (simp only [Q9, Zj]; rw [c10b0]) | skip)
        have H' := am H; clear H
        obtain ⟨Ao12, co12, eo12⟩ := Kd.V_slice HO_1.out
        subst eo12; go_wp2
        go_meet
        case rel => exact ⟨_, (false), fr, H', ⟨by have := HK1.out; have := HK2.out; first | omega | exact Nat.le_refl _⟩, ⟨wV HO_1⟩, ⟨wN HO_8⟩, ⟨wR HO_9⟩, ⟨bw HB⟩⟩
      case rest =>
       clear HC9; try clear c1; try clear p2; try clear c8; try clear c8b0; try clear c10; try clear c10b0; try clear p2
       obtain ⟨kq, x31_8, rfl, HA, HJ8, HO_1, HO_8, HO_9, HB⟩ := hcut
       cases kq with
       | zero => exact absurd HA.out (by simp [qc.j2])
       | succ kj8 =>
        have H := HA.out; clear HA
        simp only [qc.j2] at H
        by_cases c13 : x31_8 = true
        ·subst c13
         rw [if_pos rfl] at H
         replace H := ifn H; obtain ⟨c14, H⟩ := H; have c14b0 := decide_eq_true c14; clear c14; replace H := ifn H; obtain ⟨c15, H⟩ := H; have c15b0 := decide_eq_true c15; clear c15; replace H := ifn H; obtain ⟨c16, H⟩ := H; have c16b0 := decide_eq_true c16
         clear c16; replace H := ifn H; obtain ⟨c17, H⟩ := H; have c17b0 := decide_eq_true c17; clear c17
         by_cases c18 : (rd (zz x1_1 x12_2) x10_1) = 0
         ·rw [if_pos c18] at H
          have c18b0 := beq_iff_eq.mpr c18; have c18b1 := bne_eq_false_iff_eq.mpr c18; clear c18; have H' := am H; clear H
          obtain ⟨Ao19, co19, eo19⟩ := Kd.V_slice HO_1.out
          subst eo19
          have p285 : 0 ≤ (x12_2 : Int) := od
          have q285 : x12_2 < (x1_1.length : Int) := od
          obtain ⟨ad285, A285_0, c285_0, e285, hx285_0, hl285_0, hi285_0⟩ := Jr (Kd.V_reads' HO_1.out).2.2 x12_2 p285 q285
          cases e285
          obtain ⟨ce285, hce285, hMe285, hcc285⟩ := Kd.V_get HO_1.out [] x12_2 p285 (by first | exact q285 | exact od | (have e_ := (Kd.V_reads' HO_1.out).1; omega))
          obtain ⟨ua285_0, uc285_0, rfl, ul285_0, ge285_0⟩ := Kd.FK_slice_open hMe285
          have hv285_0 := hcc285 0 _ rfl
          rw [Nat.add_zero, show ((Kd.slice 3 (Kd.int .i64))).sz = 1 from rfl, Nat.mul_one] at hv285_0
          replace hv285_0 := Option.some.inj (hv285_0.symm.trans hx285_0)
          injection hv285_0 with hva_ hvn_ hvc_
          rw [hva_] at ge285_0
          rw [hvc_] at ul285_0
          have HL285_0 := am (show Kd.V (Kd.int .i64) 3 _ w.heap.size _ _ (zz x1_1 x12_2) from Kd.V_mk ul285_0 ge285_0)
          clear hva_ hvn_ hvc_ ge285_0 ul285_0; clear hcc285 hce285
          have HR285_0 := am hi285_0
          have HC285_0 := am hl285_0
          clear hi285_0 hl285_0; replace p285 := eq_true p285; replace q285 := eq_true q285
          have p286 : 0 ≤ (x10_1 : Int) := od
          have q286 : x10_1 < ((zz x1_1 x12_2).length : Int) := od
          obtain ⟨ad286, e286, hx286_0⟩ := Kd.at_int HR285_0.out x10_1 p286 q286
          cases e286; replace p286 := eq_true p286; replace q286 := eq_true q286; go_wp2
          go_roundg kj8
          case measure => have := HK1.out; have := HK2.out; have := HJ8.out; omega
          case rel => exact ⟨(x11_2), (wrap64 (x12_2 + 1)), fr, fr, H', ⟨by have := HK1.out; have := HK2.out; have := HJ8.out; omega⟩, ⟨wV HO_1⟩, ⟨wN HO_8⟩, ⟨wR HO_9⟩, ⟨bw HB⟩⟩
         ·rw [if_neg c18] at H
          have c18b0 := beq_eq_false_iff_ne.mpr c18; have c18b1 := bne_iff_ne.mpr c18; have H' := am H; clear H
          obtain ⟨Ao20, co20, eo20⟩ := Kd.V_slice HO_1.out
          subst eo20
          have p285 : 0 ≤ (x12_2 : Int) := od
          have q285 : x12_2 < (x1_1.length : Int) := od
          obtain ⟨ad285, A285_0, c285_0, e285, hx285_0, hl285_0, hi285_0⟩ := Jr (Kd.V_reads' HO_1.out).2.2 x12_2 p285 q285
          cases e285
          obtain ⟨ce285, hce285, hMe285, hcc285⟩ := Kd.V_get HO_1.out [] x12_2 p285 (by first | exact q285 | exact od | (have e_ := (Kd.V_reads' HO_1.out).1; omega))
          obtain ⟨ua285_0, uc285_0, rfl, ul285_0, ge285_0⟩ := Kd.FK_slice_open hMe285
          have hv285_0 := hcc285 0 _ rfl
          rw [Nat.add_zero, show ((Kd.slice 3 (Kd.int .i64))).sz = 1 from rfl, Nat.mul_one] at hv285_0
          replace hv285_0 := Option.some.inj (hv285_0.symm.trans hx285_0)
          injection hv285_0 with hva_ hvn_ hvc_
          rw [hva_] at ge285_0
          rw [hvc_] at ul285_0
          have HL285_0 := am (show Kd.V (Kd.int .i64) 3 _ w.heap.size _ _ (zz x1_1 x12_2) from Kd.V_mk ul285_0 ge285_0)
          clear hva_ hvn_ hvc_ ge285_0 ul285_0; clear hcc285 hce285
          have HR285_0 := am hi285_0
          have HC285_0 := am hl285_0
          clear hi285_0 hl285_0; replace p285 := eq_true p285; replace q285 := eq_true q285
          have p286 : 0 ≤ (x10_1 : Int) := od
          have q286 : x10_1 < ((zz x1_1 x12_2).length : Int) := od
          obtain ⟨ad286, e286, hx286_0⟩ := Kd.at_int HR285_0.out x10_1 p286 q286
          cases e286; replace p286 := eq_true p286; replace q286 := eq_true q286; go_wp2
          go_roundg kj8
          case measure => have := HK1.out; have := HK2.out; have := HJ8.out; omega
          case rel => exact ⟨(x12_2), (wrap64 (x12_2 + 1)), fr, fr, H', ⟨by have := HK1.out; have := HK2.out; have := HJ8.out; omega⟩, ⟨wV HO_1⟩, ⟨wN HO_8⟩, ⟨wR HO_9⟩, ⟨bw HB⟩⟩
        ·replace c13 := Bool.eq_false_iff.mpr c13
         subst c13
         rw [if_neg (show ¬ (false = true) by decide)] at H
         by_cases c21 : x11_2 < 0
         ·rw [if_pos c21] at H
          have c21b0 := decide_eq_true c21; clear c21; have H' := am H; clear H; go_wp2
          go_roundg kj8
          case measure => have := HK1.out; have := HK2.out; have := HJ8.out; omega
          case rel => exact ⟨(x1_1), (x8_1), (x9_1), (wrap64 (x10_1 + 1)), fr, H', ⟨by have := HK1.out; have := HK2.out; have := HJ8.out; omega⟩, ⟨wV HO_1⟩, ⟨wN HO_8⟩, ⟨wR HO_9⟩, ⟨bw HB⟩⟩
         ·rw [if_neg c21] at H
          have c21b0 := decide_eq_false c21; clear c21; replace H := ifn H; obtain ⟨c22, H⟩ := H; have c22b0 := decide_eq_true c22; clear c22; replace H := ifn H; obtain ⟨c23, H⟩ := H; have c23b0 := decide_eq_true c23; clear c23; replace H := bs H; obtain ⟨t288, A24, H⟩ := H
          generalize hy291 : (([] : List (List Int))) = y291 at H
          have Ny291 := am hy291.symm; clear hy291; have H' := am H; clear H
          obtain ⟨Ao25, co25, eo25⟩ := Kd.V_slice HO_1.out
          subst eo25
          have p287 : 0 ≤ (x11_2 : Int) := od
          have q287 : x11_2 < (x1_1.length : Int) := od
          obtain ⟨ad287, A287_0, c287_0, e287, hx287_0, hl287_0, hi287_0⟩ := Jr (Kd.V_reads' HO_1.out).2.2 x11_2 p287 q287
          cases e287
          obtain ⟨ce287, hce287, hMe287, hcc287⟩ := Kd.V_get HO_1.out [] x11_2 p287 (by first | exact q287 | exact od | (have e_ := (Kd.V_reads' HO_1.out).1; omega))
          obtain ⟨ua287_0, uc287_0, rfl, ul287_0, ge287_0⟩ := Kd.FK_slice_open hMe287
          have hv287_0 := hcc287 0 _ rfl
          rw [Nat.add_zero, show ((Kd.slice 3 (Kd.int .i64))).sz = 1 from rfl, Nat.mul_one] at hv287_0
          replace hv287_0 := Option.some.inj (hv287_0.symm.trans hx287_0)
          injection hv287_0 with hva_ hvn_ hvc_
          rw [hva_] at ge287_0
          rw [hvc_] at ul287_0
          have HL287_0 := am (show Kd.V (Kd.int .i64) 3 _ w.heap.size _ _ (zz x1_1 x11_2) from Kd.V_mk ul287_0 ge287_0)
          clear hva_ hvn_ hvc_ ge287_0 ul287_0; clear hcc287 hce287
          have HR287_0 := am hi287_0
          have HC287_0 := am hl287_0
          clear hi287_0 hl287_0; replace p287 := eq_true p287; replace q287 := eq_true q287
          go_wp2_with (first | ((with_reducible refine qf (f := 80) rfl ?_); refine gl 50 Try.func80 #[.int .i64 a0, .slice A287_0 (zz x1_1 x11_2).length c287_0] ?_; (with_reducible refine (qu.calls kj8 a0 _ _ (zz x1_1 x11_2) t288 _ ?_ ?_ A24.out).mono ?_); exact wC HR287_0; exact HC287_0.out; rintro e w26 ⟨v289, rfl, ho0, hb⟩; refine ⟨_, rfl, ?_⟩; replace HO_1 := eV HO_1 (Kd.R_base ho0) hb; replace HO_8 := eN HO_8 (Kd.R_base ho0) hb; replace HL287_0 := eV HL287_0 (Kd.R_base ho0) hb; have HO290 := am (Kd.R_lower (Kd.R_new' (Kd.R_newM (M := fun k_ => (w.heap.size ≤ k_)) ho0 (bz HB) (fun k_ h_ => h_)) (Kd.R_lt (wR HO_9))) (bz HB)); replace HO_9 := eR HO_9 (Kd.R_base ho0) hb; replace HR287_0 := am (Kd.C_below (wC HR287_0) hb); replace HB := bq HB hb; (try clear hb); (try clear ho0)) | ((with_reducible refine za (N := 51) rfl ?_); refine Kd.N_lit (Kd.slice 3 (Kd.int .i64)) _ 23 ?hg (N' := 51) ?hd (xs := ([] : List (List Int))) (inner := []) (ok := (fun k_ => (P1_ k_ ∨ w.heap.size ≤ k_) ∧ some k_ ≠ (u8 : Value).ownBlock ∧ some k_ ≠ (u9 : Value).ownBlock ∧ some k_ ≠ (v289 : Value).ownBlock)) (okp := (fun k_ => (P1_ k_ ∨ w.heap.size ≤ k_) ∧ some k_ ≠ (u8 : Value).ownBlock ∧ some k_ ≠ (u9 : Value).ownBlock ∧ some k_ ≠ (v289 : Value).ownBlock)) ?hr ?hp (fun _ hk => hk) ((show ∀ k_, w26.heap.size ≤ k_ → (fun k_ => (P1_ k_ ∨ w.heap.size ≤ k_) ∧ some k_ ≠ (u8 : Value).ownBlock ∧ some k_ ≠ (u9 : Value).ownBlock ∧ some k_ ≠ (v289 : Value).ownBlock) k_ from fun k_ hk => ⟨(.inr (Nat.le_trans (bz HB) hk)), Kd.fresh' (Kd.N_lt (wN HO_8)) k_ hk, Kd.fresh' (Kd.R_lt (wR HO_9)) k_ hk, Kd.fresh' (Kd.R_lt (wR HO290)) k_ hk⟩) _ (Nat.le_refl _)) (Below.refl _ _) (Nat.le_refl _) (by simp) ?_; (case hd => rfl); (case hg => rfl); (case hr => first | (go_simp; done) | (go_simp; rfl)); (case hp => exact (Reps.none _ _)); intro v292 w27 ho28 hb hg_ hnew_; clear hg_ hnew_; (first | rw [← Ny291.out] at ho28 | (simp only [Int.reduceToNat] at ho28; rw [← Ny291.out] at ho28)); replace HO_1 := eV HO_1 (Kd.N_base ho28) hb; replace HO_8 := eN HO_8 (Kd.N_base ho28) hb; replace HO_9 := am (Kd.R_below (wR HO_9) hb); replace HL287_0 := eV HL287_0 (Kd.N_base ho28) hb; replace HO290 := am (Kd.R_below (wR HO290) hb); have HO293 := am (Kd.N_lower ho28 (bz HB)); replace HR287_0 := am (Kd.C_below (wC HR287_0) hb); replace HB := bq HB hb; clear hb ho28))
          go_loopg [14, 15] kj8 (fun kq v14 v15 w' => ∃ (x14_4 : List (List Int)) (x15_4 : Int), v15 = .int .i64 x15_4 ∧ qb (qc.l2 kq a0 x1_1 a2 x8_1 x9_1 x10_1 x11_2 t288 x14_4 x15_4 = some (r1, r2)) ∧ qb (kq ≤ kj8) ∧ qb (Kd.V (Kd.slice 3 (Kd.int .i64)) 23 w' w.heap.size (fun k_ => (P1_ k_ ∨ w.heap.size ≤ k_) ∧ some k_ ≠ (u8 : Value).ownBlock ∧ some k_ ≠ (u9 : Value).ownBlock ∧ some k_ ≠ (v289 : Value).ownBlock ∧ some k_ ≠ (v14 : Value).ownBlock) (.slice (some ad287) x1_1.length co25) x1_1) ∧ qb (Kd.N (Kd.slice 3 (Kd.int .i64)) 23 w' w.heap.size (fun k_ => (P1_ k_ ∨ w.heap.size ≤ k_) ∧ some k_ ≠ (u9 : Value).ownBlock ∧ some k_ ≠ (v289 : Value).ownBlock ∧ some k_ ≠ (v14 : Value).ownBlock) u8 x8_1) ∧ qb (Kd.R (Kd.int .i64) 3 w' w.heap.size (fun k_ => (w.heap.size ≤ k_) ∧ some k_ ≠ (v289 : Value).ownBlock) u9 x9_1) ∧ qb (Kd.R (Kd.int .i64) 3 w' w.heap.size (fun k_ => (w.heap.size ≤ k_) ∧ some k_ ≠ (u9 : Value).ownBlock) v289 t288) ∧ qb (Kd.N (Kd.slice 3 (Kd.int .i64)) 23 w' w.heap.size (fun k_ => (P1_ k_ ∨ w.heap.size ≤ k_) ∧ some k_ ≠ (u8 : Value).ownBlock ∧ some k_ ≠ (u9 : Value).ownBlock ∧ some k_ ≠ (v289 : Value).ownBlock) v14 x14_4) ∧ qb (Below w.heap.size w w'))
          case atStart => exact ⟨(y291), (0), fr, H', ⟨Nat.le_refl _⟩, ⟨Kd.V_below (Kd.V_mono HO_1.out (fun _ hk => ⟨hk.1.1.1, ⟨hk.1.1.2.1, ⟨hk.1.1.2.2, ⟨hk.1.2, hk.2⟩⟩⟩⟩)) gs⟩, ⟨Kd.N_below (Kd.N_mono HO_8.out (fun _ hk => ⟨hk.1.1.1, ⟨hk.1.1.2, ⟨hk.1.2, hk.2⟩⟩⟩)) gs⟩, ⟨wR HO_9⟩, ⟨Kd.R_below (Kd.R_mono HO290.out (fun _ hk => ⟨hk.1.1, hk.2⟩)) gs⟩, ⟨wN HO293⟩, ⟨bw HB⟩⟩
          case round =>
           clear H'; try clear c1; try clear c2; try clear p2; try clear q2; try clear hx2; try clear p6; try clear c8; try clear c8b0; try clear c10; try clear c10b0; try clear c13; try clear c14; try clear c14b0; try clear c15; try clear c15b0; try clear c16
           try clear c16b0; try clear c17; try clear c17b0; try clear c18; try clear c18b0; try clear c18b1; try clear c21; try clear c21b0; try clear c22; try clear c22b0; try clear c23; try clear c23b0; try clear c28; try clear p28; try clear q28; try clear hx28
           try clear hx285_0; try clear hx286_0; try clear hx287_0; try clear p2; try clear p285; try clear p286; try clear p287; try clear q285; try clear q286; try clear q287
           obtain ⟨x14_4, x15_4, rfl, HA, HK4, HO_1, HO_8, HO_9, HO_13, HO_14, HB⟩ := hrel
           cases gk with
           | zero => exact absurd HA.out (by simp [qc.l2])
           | succ k4 =>
            have H := HA.out; clear HA
            simp only [qc.l2] at H
            by_cases c29 : x15_4 < (x1_1.length : Int)
            ·rw [if_pos c29] at H
             have c29b0 := decide_eq_true c29; clear c29
             by_cases c30 : x15_4 = x11_2
             ·rw [if_pos c30] at H
              have c30b0 := beq_iff_eq.mpr c30; have c30b1 := bne_eq_false_iff_eq.mpr c30; clear c30; have H' := am H; clear H; go_wp2
              go_roundg k4
              case measure => have := HK1.out; have := HK2.out; have := HJ8.out; have := HK4.out; omega
              case rel => exact ⟨(x14_4), (wrap64 (x15_4 + 1)), fr, H', ⟨by have := HK1.out; have := HK2.out; have := HJ8.out; have := HK4.out; omega⟩, ⟨wV HO_1⟩, ⟨wN HO_8⟩, ⟨wR HO_9⟩, ⟨wR HO_13⟩, ⟨wN HO_14⟩, ⟨bw HB⟩⟩
             ·rw [if_neg c30] at H
              have c30b0 := beq_eq_false_iff_ne.mpr c30; have c30b1 := bne_iff_ne.mpr c30; replace H := ifn H; obtain ⟨c31, H⟩ := H; have c31b0 := decide_eq_true c31; clear c31; replace H := ifn H; obtain ⟨c32, H⟩ := H; have c32b0 := decide_eq_true c32; clear c32
              replace H := ifn H; obtain ⟨c33, H⟩ := H; have c33b0 := decide_eq_true c33; clear c33; replace H := bs H; obtain ⟨t297, A34, H⟩ := H; replace H := ifn H; obtain ⟨c35, H⟩ := H; have LMc35 := am c35; clear c35
              generalize hy300 : (x14_4 ++ [t297] : List (List Int)) = y300 at H
              have Ny300 := am hy300.symm; clear hy300; have H' := am H; clear H
              try go_wp2
              replace HO_1 := am (Kd.V_drew HO_1.out)
              replace HO_8 := am (Kd.N_drew HO_8.out)
              replace HO_9 := am (Kd.R_drew HO_9.out)
              replace HO_13 := am (Kd.R_drew HO_13.out)
              replace HO_14 := am (Kd.N_drew HO_14.out)
              replace HB := am (qx HB.out)
              have p294 : 0 ≤ (x15_4 : Int) := od
              have q294 : x15_4 < (x1_1.length : Int) := od
              obtain ⟨ad294, A294_0, c294_0, e294, hx294_0, hl294_0, hi294_0⟩ := Jr (Kd.V_reads' HO_1.out).2.2 x15_4 p294 q294
              obtain rfl : ad287 = ad294 := (by injection e294)
              obtain ⟨ce294, hce294, hMe294, hcc294⟩ := Kd.V_get HO_1.out [] x15_4 p294 (by first | exact q294 | exact od | (have e_ := (Kd.V_reads' HO_1.out).1; omega))
              obtain ⟨ua294_0, uc294_0, rfl, ul294_0, ge294_0⟩ := Kd.FK_slice_open hMe294
              have hv294_0 := hcc294 0 _ rfl
              rw [Nat.add_zero, show ((Kd.slice 3 (Kd.int .i64))).sz = 1 from rfl, Nat.mul_one] at hv294_0
              replace hv294_0 := Option.some.inj (hv294_0.symm.trans hx294_0)
              injection hv294_0 with hva_ hvn_ hvc_
              rw [hva_] at ge294_0
              rw [hvc_] at ul294_0
              have HL294_0 := am (show Kd.V (Kd.int .i64) 3 _ w.heap.size _ _ (zz x1_1 x15_4) from Kd.V_mk ul294_0 ge294_0)
              clear hva_ hvn_ hvc_ ge294_0 ul294_0; clear hcc294 hce294
              have HR294_0 := am hi294_0
              have HC294_0 := am hl294_0
              clear hi294_0 hl294_0; replace p294 := eq_true p294; replace q294 := eq_true q294
              have p295 : 0 ≤ (x15_4 : Int) := od
              have q295 : x15_4 < (x1_1.length : Int) := od
              obtain ⟨ad295, A295_0, c295_0, e295, hx295_0, hl295_0, hi295_0⟩ := Jr (Kd.V_reads' HO_1.out).2.2 x15_4 p295 q295
              obtain rfl : ad287 = ad295 := (by injection e295)
              obtain ⟨ce295, hce295, hMe295, hcc295⟩ := Kd.V_get HO_1.out [] x15_4 p295 (by first | exact q295 | exact od | (have e_ := (Kd.V_reads' HO_1.out).1; omega))
              obtain ⟨ua295_0, uc295_0, rfl, ul295_0, ge295_0⟩ := Kd.FK_slice_open hMe295
              have hv295_0 := hcc295 0 _ rfl
              rw [Nat.add_zero, show ((Kd.slice 3 (Kd.int .i64))).sz = 1 from rfl, Nat.mul_one] at hv295_0
              replace hv295_0 := Option.some.inj (hv295_0.symm.trans hx295_0)
              injection hv295_0 with hva_ hvn_ hvc_
              rw [hva_] at ge295_0
              rw [hvc_] at ul295_0
              have HL295_0 := am (show Kd.V (Kd.int .i64) 3 _ w.heap.size _ _ (zz x1_1 x15_4) from Kd.V_mk ul295_0 ge295_0)
              clear hva_ hvn_ hvc_ ge295_0 ul295_0; clear hcc295 hce295
              have HR295_0 := am hi295_0
              have HC295_0 := am hl295_0
              clear hi295_0 hl295_0; replace p295 := eq_true p295; replace q295 := eq_true q295
              have ea_ := Option.some.inj (hx294_0.symm.trans hx295_0)
              injection ea_ with ea_ en_ ec_
              subst ea_; subst ec_; clear en_
              have p296 : 0 ≤ (x10_1 : Int) := od
              have q296 : x10_1 < ((zz x1_1 x15_4).length : Int) := od
              obtain ⟨ad296, e296, hx296_0⟩ := Kd.at_int HR295_0.out x10_1 p296 q296
              cases e296; replace p296 := eq_true p296; replace q296 := eq_true q296
              obtain ⟨Ao37, co37, eo37⟩ := Kd.R_slice HO_13.out
              (first | subst eo37 | (injection eo37 with f1_ f2_ f3_; have f4_ := f1_.symm; have f5_ := f3_.symm; clear f1_ f2_ f3_; subst f4_; subst f5_))
              refine st 18 (fun w' => w'.cell? (ad287.add (x15_4).toNat) = some (.slice (some ad296) (zz x1_1 x15_4).length c294_0) ∧ w'.cell? (ad287.add (x15_4).toNat) = some (.slice (some ad296) (zz x1_1 x15_4).length c294_0) ∧ w'.cell? (ad296.add (x10_1).toNat) = some (.int .i64 (rd (zz x1_1 x15_4) x10_1))) [15, 16] qc.tab19 qc.bits19 (⟨hx294_0, hx295_0, hx296_0⟩) fun hHeld HT_ HW_ => ?_
              generalize wr.drew = w36 at HO_1 HO_8 HO_9 HO_13 HO_14 HB HL294_0 HL295_0 HR294_0 HR295_0 hx294_0 hx295_0 hx296_0 hHeld ⊢
              refine pz 0 61 HT_ ?_; refine pz 1 62 HT_ ?_; refine pz 2 63 HT_ ?_; refine pz 3 64 HT_ ?_; refine pz 4 65 HT_ ?_; refine pz 6 67 HT_ ?_; refine pz 7 68 HT_ ?_; refine pz 8 69 HT_ ?_; refine pz 10 71 HT_ ?_; refine pz 13 74 HT_ ?_; refine tk 5 66 HT_ HW_ hHeld ?_
              refine tk 9 70 HT_ HW_ hHeld ?_; refine pz 11 72 HT_ ?_; refine tk 12 73 HT_ HW_ hHeld ?_
              refine on 14 (some 75) HT_ fun K hK => ?_
              refine gs_ Try.func165 #[.int .i64 a0, .slice (some ad296) (zz x1_1 x15_4).length c294_0, .int .i64 (rd (zz x1_1 x15_4) x10_1), .slice Ao37 t288.length co37] ?_
              with_reducible refine (zb.calls k4 a0 _ _ (zz x1_1 x15_4) (rd (zz x1_1 x15_4) x10_1) _ _ t288 t297 _ ?side1 ?side2 ?side3 ?side4 A34.out).mono ?_
              (case side1 => exact wC HR294_0)
              (case side2 => exact HC294_0.out)
              (case side3 => exact Kd.C_below (Kd.R_reads' HO_13.out).2.2 gs)
              (case side4 => exact (Kd.R_reads' HO_13.out).2.1)
              rintro e w38 ⟨v298, rfl, ho0, hb⟩
              have HS0_ := (hb.cell (World.block_lt_of_cell? _ _ (hHeld.1))).trans (hHeld.1)
              have HS1_ := (hb.cell (World.block_lt_of_cell? _ _ (hHeld.2.1))).trans (hHeld.2.1)
              have HS2_ := (hb.cell (World.block_lt_of_cell? _ _ (hHeld.2.2))).trans (hHeld.2.2)
              refine ⟨_, rfl, ?_⟩
              replace HO_1 := eV HO_1 (Kd.R_base ho0) hb
              replace HO_8 := eN HO_8 (Kd.R_base ho0) hb
              replace HO_14 := eN HO_14 (Kd.R_base ho0) hb
              replace HL294_0 := eV HL294_0 (Kd.R_base ho0) hb
              replace HL295_0 := eV HL295_0 (Kd.R_base ho0) hb
              have HO299 := am (Kd.R_lower (Kd.R_new' (Kd.R_new' (Kd.R_newM (M := fun k_ => (w.heap.size ≤ k_)) ho0 (bz HB) (fun k_ h_ => h_)) (Kd.R_lt (wR HO_9))) (Kd.R_lt (wR HO_13))) (bz HB))
              replace HO_9 := eR HO_9 (Kd.R_base ho0) hb
              replace HO_13 := eR HO_13 (Kd.R_base ho0) hb
              replace HR294_0 := am (Kd.C_below (wC HR294_0) hb)
              replace HR295_0 := am (Kd.C_below (wC HR295_0) hb)
              replace HB := bq HB hb
              (try clear hb)
              (try clear hb2)
              (try clear hk)
              (try clear hi)
              (try clear ho0)
              obtain ⟨Ao40, co40, eo40⟩ := Kd.R_slice HO299.out
              (first | subst eo40 | (injection eo40 with f1_ f2_ f3_; have f4_ := f1_.symm; have f5_ := f3_.symm; clear f1_ f2_ f3_; subst f4_; subst f5_))
              refine hK.out _ _ ⟨HS0_, HS1_, HS2_⟩ fun hHeld => nz ?_
              clear hK K
              refine la 15 (some 76) HT_ fun K hK => ?_
              refine qfo (w1 := ?_) (v := ?_) (by rfl) rfl ?_ ?_
              rotate_left 2
              ·go_simp
               constructor
               ·rfl
               ·rfl
              refine hK.out _ _ (nz ?_)
              clear hK K
              refine la 16 (some 77) HT_ fun K hK => ?_
              refine Kd.N_append_step (Kd.slice 3 (Kd.int .i64)) (w0 := w) w.heap.size (by rfl) (.tmp 61) (.tmp 76) 47 23 (.slice none 0 0) 24 rfl Try.underlying47 Zb rfl (by decide) (by omega) u14 x14_4 t297 [.slice Ao40 t297.length co40] (fun k_ => (P1_ k_ ∨ w.heap.size ≤ k_) ∧ some k_ ≠ (u8 : Value).ownBlock ∧ some k_ ≠ (u9 : Value).ownBlock ∧ some k_ ≠ (.slice Ao37 t288.length co37 : Value).ownBlock) (fun k_ => ((fun k_ => (P1_ k_ ∨ w.heap.size ≤ k_) ∧ some k_ ≠ (u8 : Value).ownBlock ∧ some k_ ≠ (u9 : Value).ownBlock ∧ some k_ ≠ (.slice Ao37 t288.length co37 : Value).ownBlock)) k_ ∧ some k_ ≠ (u14 : Value).ownBlock) rfl rfl ?aP (fun _ hk => hk) ?aF ?aO ?aB ?aS ?aL ?_
              (case aP => exact (Kd.FK_slice_mk (Kd.R_reads' (Kd.R_mono (ok' := (fun k_ => ((fun k_ => (P1_ k_ ∨ w.heap.size ≤ k_) ∧ some k_ ≠ (u8 : Value).ownBlock ∧ some k_ ≠ (u9 : Value).ownBlock ∧ some k_ ≠ (.slice Ao37 t288.length co37 : Value).ownBlock)) k_ ∧ some k_ ≠ (u14 : Value).ownBlock)) (Kd.R_apart' (Kd.R_apart' (HO299.out) (Kd.N_typed HO_8.out) (by decide)) (Kd.N_typed HO_14.out) (by decide)) (fun k_ hk => ⟨⟨(.inr (hk.1.1.1.1.1)), ⟨hk.1.2, ⟨hk.1.1.1.2, hk.1.1.2⟩⟩⟩, hk.2⟩))).2.1 (Kd.R_F (Kd.R_mono (ok' := (fun k_ => ((fun k_ => (P1_ k_ ∨ w.heap.size ≤ k_) ∧ some k_ ≠ (u8 : Value).ownBlock ∧ some k_ ≠ (u9 : Value).ownBlock ∧ some k_ ≠ (.slice Ao37 t288.length co37 : Value).ownBlock)) k_ ∧ some k_ ≠ (u14 : Value).ownBlock)) (Kd.R_apart' (Kd.R_apart' (HO299.out) (Kd.N_typed HO_8.out) (by decide)) (Kd.N_typed HO_14.out) (by decide)) (fun k_ hk => ⟨⟨(.inr (hk.1.1.1.1.1)), ⟨hk.1.2, ⟨hk.1.1.1.2, hk.1.1.2⟩⟩⟩, hk.2⟩)))))
              (case aB => exact (bw HB))
              (case aF => exact (fun k_ hk => ⟨(.inr (Nat.le_trans (bz HB) hk)), Kd.fresh' (Kd.N_lt (wN HO_8)) k_ hk, Kd.fresh' (Kd.R_lt (wR HO_9)) k_ hk, Kd.fresh' (Kd.R_lt (wR HO_13)) k_ hk⟩))
              (case aO => exact (oN_ HO_14 (fun _ hk => ⟨hk.1.1, ⟨hk.1.2.1, ⟨hk.1.2.2.1, hk.1.2.2.2⟩⟩⟩)))
              (case aS => exact (bz HB))
              (case aL => have := LMc35.out; omega)
              intro v301 w39 ho hb hg hat
              rw [← Ny300.out] at ho
              replace HO_1 := am (Kd.V_afterv (ok := (fun k_ => (P1_ k_ ∨ w.heap.size ≤ k_) ∧ some k_ ≠ (u8 : Value).ownBlock ∧ some k_ ≠ (u9 : Value).ownBlock ∧ some k_ ≠ (.slice Ao37 t288.length co37 : Value).ownBlock ∧ some k_ ≠ (.slice Ao40 t297.length co40 : Value).ownBlock)) (oV_ HO_1 (fun _ hk => ⟨⟨hk.1.1, ⟨hk.1.2.1, ⟨hk.1.2.2.1, ⟨hk.1.2.2.2.1, hk.2⟩⟩⟩⟩, hk.1.2.2.2.2⟩)) hg hat)
              replace HO_8 := am (Kd.N_afterv (ok := (fun k_ => (P1_ k_ ∨ w.heap.size ≤ k_) ∧ some k_ ≠ (u9 : Value).ownBlock ∧ some k_ ≠ (.slice Ao37 t288.length co37 : Value).ownBlock ∧ some k_ ≠ (.slice Ao40 t297.length co40 : Value).ownBlock)) (oN_ HO_8 (fun _ hk => ⟨⟨hk.1.1, ⟨hk.1.2.1, ⟨hk.1.2.2.1, hk.2⟩⟩⟩, hk.1.2.2.2⟩)) hg hat)
              replace HO_9 := am (Kd.R_over' (wR HO_9) (Kd.N_typed (wN HO_14)) (by decide) hg)
              replace HO_13 := am (Kd.R_over' (wR HO_13) (Kd.N_typed (wN HO_14)) (by decide) hg)
              replace HL294_0 := am (Kd.V_afterv (ok := (fun k_ => (P1_ k_ ∨ w.heap.size ≤ k_) ∧ some k_ ≠ (u8 : Value).ownBlock ∧ some k_ ≠ (u9 : Value).ownBlock ∧ some k_ ≠ (.slice Ao37 t288.length co37 : Value).ownBlock ∧ some k_ ≠ (.slice Ao40 t297.length co40 : Value).ownBlock)) (oV_ HL294_0 (fun _ hk => ⟨⟨hk.1.1, ⟨hk.1.2.1, ⟨hk.1.2.2.1, ⟨hk.1.2.2.2.1, hk.2⟩⟩⟩⟩, hk.1.2.2.2.2⟩)) hg hat)
              replace HL295_0 := am (Kd.V_afterv (ok := (fun k_ => (P1_ k_ ∨ w.heap.size ≤ k_) ∧ some k_ ≠ (u8 : Value).ownBlock ∧ some k_ ≠ (u9 : Value).ownBlock ∧ some k_ ≠ (.slice Ao37 t288.length co37 : Value).ownBlock ∧ some k_ ≠ (.slice Ao40 t297.length co40 : Value).ownBlock)) (oV_ HL295_0 (fun _ hk => ⟨⟨hk.1.1, ⟨hk.1.2.1, ⟨hk.1.2.2.1, ⟨hk.1.2.2.2.1, hk.2⟩⟩⟩⟩, hk.1.2.2.2.2⟩)) hg hat)
              replace HB := am (hb)
              have HO302 := am (ho)
              clear HO_14 HO299; clear ho hb hg hat
              refine hK.out _ _ (nz ?_)
              clear hK K; refine pz 17 14 HT_ ?_
              refine Q8 (Qj HT_.out (by kernel_rfl)) ?_
              try go_wp2
              go_roundg k4
              case measure => have := HK1.out; have := HK2.out; have := HJ8.out; have := HK4.out; omega
              case rel => exact ⟨(y300), (wrap64 (x15_4 + 1)), fr, H', ⟨by have := HK1.out; have := HK2.out; have := HJ8.out; have := HK4.out; omega⟩, ⟨Kd.V_below (Kd.V_mono HO_1.out (fun _ hk => ⟨hk.1.1, ⟨hk.1.2.1, ⟨hk.1.2.2.1, ⟨hk.1.2.2.2.1, hk.2⟩⟩⟩⟩)) gs⟩, ⟨Kd.N_below (Kd.N_mono HO_8.out (fun _ hk => ⟨hk.1.1, ⟨hk.1.2.1, ⟨hk.1.2.2.1, hk.2⟩⟩⟩)) gs⟩, ⟨Kd.R_below (Kd.R_mono HO_9.out (fun _ hk => ⟨hk.1.1, hk.1.2⟩)) gs⟩, ⟨Kd.R_below (Kd.R_mono HO_13.out (fun _ hk => ⟨hk.1.1, hk.1.2⟩)) gs⟩, ⟨wN HO302⟩, ⟨bw HB⟩⟩
            ·rw [if_neg c29] at H
             have c29b0 := decide_eq_false c29; clear c29; have H' := am H; clear H; go_wp2
             go_loopg [16] k4 (fun kq v16 w' => ∃ (x8_5 : List (List Int)) (x16_5 : Int), v16 = .int .i64 x16_5 ∧ qb (qc.l3 kq a0 x14_4 a2 x8_5 x9_1 x10_1 t288 x16_5 = some (r1, r2)) ∧ qb (kq ≤ k4) ∧ qb (Kd.N (Kd.slice 3 (Kd.int .i64)) 23 w' w.heap.size (fun k_ => (P1_ k_ ∨ w.heap.size ≤ k_) ∧ some k_ ≠ (u8 : Value).ownBlock ∧ some k_ ≠ (u9 : Value).ownBlock ∧ some k_ ≠ (v289 : Value).ownBlock) u14 x14_4) ∧ qb (Kd.N (Kd.slice 3 (Kd.int .i64)) 23 w' w.heap.size (fun k_ => (P1_ k_ ∨ w.heap.size ≤ k_) ∧ some k_ ≠ (u14 : Value).ownBlock ∧ some k_ ≠ (u9 : Value).ownBlock ∧ some k_ ≠ (v289 : Value).ownBlock) u8 x8_5) ∧ qb (Kd.R (Kd.int .i64) 3 w' w.heap.size (fun k_ => (w.heap.size ≤ k_) ∧ some k_ ≠ (v289 : Value).ownBlock) u9 x9_1) ∧ qb (Kd.R (Kd.int .i64) 3 w' w.heap.size (fun k_ => (w.heap.size ≤ k_) ∧ some k_ ≠ (u9 : Value).ownBlock) v289 t288) ∧ qb (Below w.heap.size w w'))
             case atStart => exact ⟨(x8_1), (0), fr, H', ⟨Nat.le_refl _⟩, ⟨wN HO_14⟩, ⟨Kd.N_below (Kd.N_mono HO_8.out (fun _ hk => ⟨hk.1, ⟨hk.2.2.2, ⟨hk.2.1, hk.2.2.1⟩⟩⟩)) gs⟩, ⟨wR HO_9⟩, ⟨wR HO_13⟩, ⟨bw HB⟩⟩
             case round =>
              clear H'; try clear c1; try clear c2; try clear p2; try clear q2; try clear hx2; try clear c3; try clear p6; try clear c8; try clear c8b0; try clear c10; try clear c10b0; try clear c13; try clear c14; try clear c14b0; try clear c15; try clear c15b0
              try clear c16; try clear c16b0; try clear c17; try clear c17b0; try clear c18; try clear c18b0; try clear c18b1; try clear c21; try clear c21b0; try clear c22; try clear c22b0; try clear c23; try clear c23b0; try clear c28; try clear p28; try clear q28
              try clear hx28; try clear c29; try clear c29b0; try clear p29; try clear q29; try clear hx29; try clear c30; try clear c30b0; try clear c30b1; try clear c31; try clear c31b0; try clear c32; try clear c32b0; try clear c33; try clear c33b0; try clear c35
              try clear hx285_0; try clear hx286_0; try clear hx287_0; try clear hx294_0; try clear hx295_0; try clear hx296_0; try clear p2; try clear p28; try clear p285; try clear p286; try clear p287; try clear p294; try clear p295; try clear p296; try clear p6
              try clear q2; try clear q28; try clear q285; try clear q286; try clear q287; try clear q294; try clear q295; try clear q296
              obtain ⟨x8_5, x16_5, rfl, HA, HK5, HO_1, HO_8, HO_9, HO_13, HB⟩ := hrel
              cases gk with
              | zero => exact absurd HA.out (by simp [qc.l3])
              | succ k5 =>
               have H := HA.out; clear HA
               simp only [qc.l3] at H
               by_cases c41 : x16_5 < (x8_5.length : Int)
               ·rw [if_pos c41] at H
                have c41b0 := decide_eq_true c41; clear c41; replace H := ifn H; obtain ⟨c42, H⟩ := H; have c42b0 := decide_eq_true c42; clear c42; replace H := ifn H; obtain ⟨c43, H⟩ := H; have c43b0 := decide_eq_true c43; clear c43; replace H := ifn H; obtain ⟨c44, H⟩ := H
                have c44b0 := decide_eq_true c44; clear c44; replace H := bs H; obtain ⟨t306, A45, H⟩ := H
                generalize hy309 : (x8_5.set (x16_5 : Int).toNat t306 : List (List Int)) = y309 at H
                have Ny309 := am hy309.symm; clear hy309; have H' := am H; clear H
                obtain ⟨Ao47, co47, eo47⟩ := Kd.N_slice HO_8.out
                subst eo47
                try go_wp2
                replace HO_1 := am (Kd.N_drew HO_1.out)
                replace HO_8 := am (Kd.N_drew HO_8.out)
                replace HO_9 := am (Kd.R_drew HO_9.out)
                replace HO_13 := am (Kd.R_drew HO_13.out)
                replace HB := am (qx HB.out)
                have p303 : 0 ≤ (x16_5 : Int) := od
                have q303 : x16_5 < (x8_5.length : Int) := od
                obtain ⟨ad303, A303_0, c303_0, e303, hx303_0, hl303_0, hi303_0⟩ := Jr (Kd.N_reads' HO_8.out).2.2 x16_5 p303 q303
                cases e303
                obtain ⟨ce303, hce303, hMe303, hcc303⟩ := Kd.N_get HO_8.out [] x16_5 p303 (by first | exact q303 | exact od | (have e_ := (Kd.N_reads' HO_8.out).1; omega))
                obtain ⟨ua303_0, uc303_0, rfl, ul303_0, ge303_0⟩ := Kd.FK_slice_open hMe303
                have hv303_0 := hcc303 0 _ rfl
                rw [Nat.add_zero, show ((Kd.slice 3 (Kd.int .i64))).sz = 1 from rfl, Nat.mul_one] at hv303_0
                replace hv303_0 := Option.some.inj (hv303_0.symm.trans hx303_0)
                injection hv303_0 with hva_ hvn_ hvc_
                rw [hva_] at ge303_0
                rw [hvc_] at ul303_0
                have HL303_0 := am (show Kd.V (Kd.int .i64) 3 _ w.heap.size _ _ (zz x8_5 x16_5) from Kd.V_mk ul303_0 ge303_0)
                clear hva_ hvn_ hvc_ ge303_0 ul303_0; clear hcc303 hce303
                have HR303_0 := am hi303_0
                have HC303_0 := am hl303_0
                clear hi303_0 hl303_0; replace p303 := eq_true p303; replace q303 := eq_true q303
                have p304 : 0 ≤ (x16_5 : Int) := od
                have q304 : x16_5 < (x8_5.length : Int) := od
                obtain ⟨ad304, A304_0, c304_0, e304, hx304_0, hl304_0, hi304_0⟩ := Jr (Kd.N_reads' HO_8.out).2.2 x16_5 p304 q304
                obtain rfl : ad303 = ad304 := (by injection e304)
                obtain ⟨ce304, hce304, hMe304, hcc304⟩ := Kd.N_get HO_8.out [] x16_5 p304 (by first | exact q304 | exact od | (have e_ := (Kd.N_reads' HO_8.out).1; omega))
                obtain ⟨ua304_0, uc304_0, rfl, ul304_0, ge304_0⟩ := Kd.FK_slice_open hMe304
                have hv304_0 := hcc304 0 _ rfl
                rw [Nat.add_zero, show ((Kd.slice 3 (Kd.int .i64))).sz = 1 from rfl, Nat.mul_one] at hv304_0
                replace hv304_0 := Option.some.inj (hv304_0.symm.trans hx304_0)
                injection hv304_0 with hva_ hvn_ hvc_
                rw [hva_] at ge304_0
                rw [hvc_] at ul304_0
                have HL304_0 := am (show Kd.V (Kd.int .i64) 3 _ w.heap.size _ _ (zz x8_5 x16_5) from Kd.V_mk ul304_0 ge304_0)
                clear hva_ hvn_ hvc_ ge304_0 ul304_0; clear hcc304 hce304
                have HR304_0 := am hi304_0
                have HC304_0 := am hl304_0
                clear hi304_0 hl304_0; replace p304 := eq_true p304; replace q304 := eq_true q304
                have ea_ := Option.some.inj (hx303_0.symm.trans hx304_0)
                injection ea_ with ea_ en_ ec_
                subst ea_; subst ec_; clear en_
                have p305 : 0 ≤ (x10_1 : Int) := od
                have q305 : x10_1 < ((zz x8_5 x16_5).length : Int) := od
                obtain ⟨ad305, e305, hx305_0⟩ := Kd.at_int HR304_0.out x10_1 p305 q305
                cases e305; replace p305 := eq_true p305; replace q305 := eq_true q305
                obtain ⟨Ao49, co49, eo49⟩ := Kd.R_slice HO_13.out
                (first | subst eo49 | (injection eo49 with f1_ f2_ f3_; have f4_ := f1_.symm; have f5_ := f3_.symm; clear f1_ f2_ f3_; subst f4_; subst f5_))
                refine st 18 (fun w' => w'.cell? (ad303.add (x16_5).toNat) = some (.slice (some ad305) (zz x8_5 x16_5).length c303_0) ∧ w'.cell? (ad303.add (x16_5).toNat) = some (.slice (some ad305) (zz x8_5 x16_5).length c303_0) ∧ w'.cell? (ad305.add (x10_1).toNat) = some (.int .i64 (rd (zz x8_5 x16_5) x10_1))) [17] qc.tab24 qc.bits24 (⟨hx303_0, hx304_0, hx305_0⟩) fun hHeld HT_ HW_ => ?_
                generalize wr.drew = w48 at HO_1 HO_8 HO_9 HO_13 HB HL303_0 HL304_0 HR303_0 HR304_0 hx303_0 hx304_0 hx305_0 hHeld ⊢
                refine pz 0 85 HT_ ?_; refine pz 1 86 HT_ ?_; refine pz 2 87 HT_ ?_; refine pz 3 88 HT_ ?_; refine pz 4 89 HT_ ?_; refine pz 5 90 HT_ ?_; refine pz 7 92 HT_ ?_; refine pz 8 93 HT_ ?_; refine pz 9 94 HT_ ?_; refine pz 11 96 HT_ ?_; refine pz 14 99 HT_ ?_
                refine tk 6 91 HT_ HW_ hHeld ?_; refine tk 10 95 HT_ HW_ hHeld ?_; refine pz 12 97 HT_ ?_; refine tk 13 98 HT_ HW_ hHeld ?_
                refine on 15 (some 100) HT_ fun K hK => ?_
                refine gs_ Try.func165 #[.int .i64 a0, .slice (some ad305) (zz x8_5 x16_5).length c303_0, .int .i64 (rd (zz x8_5 x16_5) x10_1), .slice Ao49 t288.length co49] ?_
                with_reducible refine (zb.calls k5 a0 _ _ (zz x8_5 x16_5) (rd (zz x8_5 x16_5) x10_1) _ _ t288 t306 _ ?side1 ?side2 ?side3 ?side4 A45.out).mono ?_
                (case side1 => exact wC HR303_0)
                (case side2 => exact HC303_0.out)
                (case side3 => exact Kd.C_below (Kd.R_reads' HO_13.out).2.2 gs)
                (case side4 => exact (Kd.R_reads' HO_13.out).2.1)
                rintro e w50 ⟨v307, rfl, ho0, hb⟩
                have HS0_ := (hb.cell (World.block_lt_of_cell? _ _ (hHeld.1))).trans (hHeld.1)
                have HS1_ := (hb.cell (World.block_lt_of_cell? _ _ (hHeld.2.1))).trans (hHeld.2.1)
                have HS2_ := (hb.cell (World.block_lt_of_cell? _ _ (hHeld.2.2))).trans (hHeld.2.2)
                refine ⟨_, rfl, ?_⟩
                replace HO_1 := eN HO_1 (Kd.R_base ho0) hb
                replace HO_8 := eN HO_8 (Kd.R_base ho0) hb
                replace HL303_0 := eV HL303_0 (Kd.R_base ho0) hb
                replace HL304_0 := eV HL304_0 (Kd.R_base ho0) hb
                have HO308 := am (Kd.R_lower (Kd.R_new' (Kd.R_new' (Kd.R_newM (M := fun k_ => (w.heap.size ≤ k_)) ho0 (bz HB) (fun k_ h_ => h_)) (Kd.R_lt (wR HO_9))) (Kd.R_lt (wR HO_13))) (bz HB))
                replace HO_9 := eR HO_9 (Kd.R_base ho0) hb
                replace HO_13 := eR HO_13 (Kd.R_base ho0) hb
                replace HR303_0 := am (Kd.C_below (wC HR303_0) hb)
                replace HR304_0 := am (Kd.C_below (wC HR304_0) hb)
                replace HB := bq HB hb
                (try clear hb)
                (try clear hb2)
                (try clear hk)
                (try clear hi)
                (try clear ho0)
                have p46 : 0 ≤ (x16_5 : Int) := od
                have q46 : (x16_5 : Int) < ((x8_5.length : Int) : Int) := od
                obtain ⟨go46, co46, eo46, gb46, gl46, cl46, HG46⟩ := Kd.N_form HO_8.out (by omega)
                (first | cases eo46 | (injection eo46 with ea_ en_ ec_; (first | subst ea_ | (injection ea_ with ea_; subst ea_)); subst ec_; clear en_))
                have GB46 := am gb46
                have GG46 := am HG46
                clear gb46 gl46 HG46
                (first | simp only [qas] at hx303_0 | skip)
                (first | simp only [qas] at hx304_0 | skip)
                obtain ⟨ce46, hcl46, hM46, hcc46, hfr46⟩ := Kd.N_elem HO_8.out [] (x16_5 : Int) p46 q46
                obtain ⟨ua46_0, uc46_0, rfl, ul46_0, ge46_0⟩ := Kd.FK_slice_open hM46
                have hx46_0 := hcc46 0 _ rfl
                have hf46_0 := hfr46 0
                (try simp only [show ((Kd.slice 3 (Kd.int .i64))).sz = 1 from rfl, Nat.mul_one, Nat.add_zero] at hx46_0)
                (try simp only [show ((Kd.slice 3 (Kd.int .i64))).sz = 1 from rfl, Nat.mul_one, Nat.add_zero] at hf46_0)
                clear hcl46 hcc46 hfr46 hM46; replace p46 := eq_true p46; replace q46 := eq_true q46
                obtain ⟨Ao51, co51, eo51⟩ := Kd.R_slice HO308.out
                (first | subst eo51 | (injection eo51 with f1_ f2_ f3_; have f4_ := f1_.symm; have f5_ := f3_.symm; clear f1_ f2_ f3_; subst f4_; subst f5_))
                have HX52 := am (show Kd.N (Kd.slice 3 (Kd.int .i64)) 23 _ w.heap.size (fun k_ => (P1_ k_ ∨ w.heap.size ≤ k_) ∧ some k_ ≠ (u14 : Value).ownBlock ∧ some k_ ≠ (u9 : Value).ownBlock ∧ some k_ ≠ (.slice Ao49 t288.length co49 : Value).ownBlock ∧ some k_ ≠ (.slice Ao51 t306.length co51 : Value).ownBlock) (.slice (some ⟨go46, 0, none⟩) x8_5.length co47) x8_5 from (Kd.N_mono (HO_8.out) (fun k_ hk => ⟨hk.1.1, ⟨hk.1.2.1, ⟨hk.1.2.2.1, ⟨hk.1.2.2.2, hk.2⟩⟩⟩⟩)))
                replace HX52 := am (show Kd.N (Kd.slice 3 (Kd.int .i64)) 23 _ w.heap.size (fun k_ => (P1_ k_ ∨ w.heap.size ≤ k_) ∧ some k_ ≠ (u14 : Value).ownBlock ∧ some k_ ≠ (u9 : Value).ownBlock ∧ some k_ ≠ (.slice Ao49 t288.length co49 : Value).ownBlock) (.slice (some ⟨go46, 0, none⟩) x8_5.length co47) x8_5 from Kd.N_mono HX52.out (fun k_ hk => ⟨hk.1, ⟨hk.2.1, ⟨hk.2.2.1, hk.2.2.2.1⟩⟩⟩))
                obtain ⟨ce52, hcl52, hM52, hcc52, hfr52⟩ := Kd.N_elem HX52.out [] (x16_5 : Int) (od) (by have h_ : (x16_5 : Int) < ((x8_5.length : Int) : Int) := od; first | exact h_ | (have e_ := (Kd.N_reads' HO_8.out).1; omega) | simpa using h_)
                obtain ⟨ua52_0, uc52_0, rfl, ul52_0, ge52_0⟩ := Kd.FK_slice_open hM52
                have HP52 := (Kd.N_seg HX52.out (x16_5 : Int) (od) (by have h_ : (x16_5 : Int) < ((x8_5.length : Int) : Int) := od; first | exact h_ | (have e_ := (Kd.N_reads' HO_8.out).1; omega) | simpa using h_) (seg := [.slice Ao51 t306.length co51]) (j := 0) hcl52 hcc52 (show 1 ≤ 1 from by decide) (x' := t306) (Kd.FK_slice_mk (Kd.R_reads' (Kd.R_mono (ok' := (fun k_ => ((fun k_ => (P1_ k_ ∨ w.heap.size ≤ k_) ∧ some k_ ≠ (u14 : Value).ownBlock ∧ some k_ ≠ (u9 : Value).ownBlock ∧ some k_ ≠ (.slice Ao49 t288.length co49 : Value).ownBlock)) k_ ∧ k_ ≠ go46)) (Kd.R_apart' (Kd.R_apart' (HO308.out) (Kd.N_typed HO_1.out) (by decide)) (Kd.N_typed HO_8.out) (by decide)) (fun k_ hk => ⟨⟨(.inr (hk.1.1.1.1.1)), ⟨hk.1.2, ⟨hk.1.1.1.2, hk.1.1.2⟩⟩⟩, fun e_ => (hk.2) (by rw [e_]; rfl)⟩))).2.1 (Kd.R_F (Kd.R_mono (ok' := (fun k_ => ((fun k_ => (P1_ k_ ∨ w.heap.size ≤ k_) ∧ some k_ ≠ (u14 : Value).ownBlock ∧ some k_ ≠ (u9 : Value).ownBlock ∧ some k_ ≠ (.slice Ao49 t288.length co49 : Value).ownBlock)) k_ ∧ k_ ≠ go46)) (Kd.R_apart' (Kd.R_apart' (HO308.out) (Kd.N_typed HO_1.out) (by decide)) (Kd.N_typed HO_8.out) (by decide)) (fun k_ hk => ⟨⟨(.inr (hk.1.1.1.1.1)), ⟨hk.1.2, ⟨hk.1.1.1.2, hk.1.1.2⟩⟩⟩, fun e_ => (hk.2) (by rw [e_]; rfl)⟩)))) (fun _ hk => hk)).1
                (try simp only [show ((Kd.slice 3 (Kd.int .i64))).sz = 1 from rfl, Nat.mul_one, Nat.add_zero] at HP52)
                rw [← Ny309.out] at HP52
                have HQ52 := am HP52
                clear hcl52 hcc52 hfr52 hM52 HP52
                refine hK.out _ _ ⟨HS0_, HS1_, HS2_⟩ fun hHeld => nz ?_
                clear hK K; refine pz 16 101 HT_ ?_
                refine la 17 none HT_ fun K hK => ?_
                refine qb6 (w1 := ?_) (by rfl) rfl ?_ ?_
                rotate_left
                ·go_simp
                 rfl
                refine hK.out _ _ ?_
                clear hK K
                refine Q8 (Qj HT_.out (by kernel_rfl)) ?_
                try go_wp2
                go_roundg k5
                case measure => have := HK1.out; have := HK2.out; have := HJ8.out; have := HK4.out; have := HK5.out; omega
                case rel => exact ⟨(y309), (wrap64 (x16_5 + 1)), fr, H', ⟨by have := HK1.out; have := HK2.out; have := HJ8.out; have := HK4.out; have := HK5.out; omega⟩, ⟨by (with_reducible repeat (first | apply Kd.N_alloc | apply Kd.N_drewN | apply Kd.N_drew)); exact Kd.N_mono (Kd.N_far (p := ⟨go46, (x16_5 : Int).toNat, none⟩) (Kd.N_mono HO_1.out (fun k_ hk => (⟨hk, fun e_ => hk.1.2.1 (by rw [e_]; rfl)⟩ : _ ∧ k_ ≠ go46))) (fun _ hk => hk.2) (.slice Ao51 t306.length co51)) (fun _ hk => ⟨hk.1.1.1, ⟨hk.1.1.2.1, ⟨hk.1.1.2.2.1, hk.1.1.2.2.2⟩⟩⟩)⟩, ⟨wN HQ52⟩, ⟨by (with_reducible repeat (first | apply Kd.R_alloc | apply Kd.R_drewN | apply Kd.R_drew)); exact Kd.R_mono (Kd.R_far (p := ⟨go46, (x16_5 : Int).toNat, none⟩) (Kd.R_types HO_9.out GG46.out (by decide)) (fun _ hk => hk.2) (.slice Ao51 t306.length co51)) (fun _ hk => ⟨hk.1.1.1, hk.1.1.2⟩)⟩, ⟨by (with_reducible repeat (first | apply Kd.R_alloc | apply Kd.R_drewN | apply Kd.R_drew)); exact Kd.R_mono (Kd.R_far (p := ⟨go46, (x16_5 : Int).toNat, none⟩) (Kd.R_types HO_13.out GG46.out (by decide)) (fun _ hk => hk.2) (.slice Ao51 t306.length co51)) (fun _ hk => ⟨hk.1.1.1, hk.1.1.2⟩)⟩, ⟨bx_ HB⟩⟩
               ·rw [if_neg c41] at H
                have c41b0 := decide_eq_false c41; clear c41; replace H := ifn H; obtain ⟨c53, H⟩ := H; have LMc53 := am c53; clear c53
                generalize hy310 : (x8_5 ++ [t288] : List (List Int)) = y310 at H
                have Ny310 := am hy310.symm; clear hy310; replace H := ifn H; obtain ⟨c54, H⟩ := H; have LMc54 := am c54; clear c54
                generalize hy313 : (x9_1 ++ [x10_1] : List Int) = y313 at H
                have Ny313 := am hy313.symm; clear hy313; have H' := am H; clear H
                obtain ⟨Ao55, co55, eo55⟩ := Kd.N_slice HO_8.out
                subst eo55
                obtain ⟨Ao57, co57, eo57⟩ := Kd.R_slice HO_13.out
                subst eo57
                go_wp2_with (first | ((with_reducible refine jh (b := .append) (xs := #[.tmp 102, .tmp 104]) rfl ?_); at_builtin; refine Kd.N_append (Kd.slice 3 (Kd.int .i64)) (w0 := w) w.heap.size rfl (.tmp 102) (.tmp 104) 47 23 (.slice none 0 0) 24 rfl Try.underlying47 Zb rfl (by decide) (by omega) (.slice Ao55 x8_5.length co55) x8_5 t288 [.slice Ao57 t288.length co57] (fun k_ => (P1_ k_ ∨ w.heap.size ≤ k_) ∧ some k_ ≠ (u14 : Value).ownBlock ∧ some k_ ≠ (u9 : Value).ownBlock) (fun k_ => ((fun k_ => (P1_ k_ ∨ w.heap.size ≤ k_) ∧ some k_ ≠ (u14 : Value).ownBlock ∧ some k_ ≠ (u9 : Value).ownBlock)) k_ ∧ some k_ ≠ (.slice Ao55 x8_5.length co55 : Value).ownBlock) rfl rfl ?aP (fun _ hk => hk) ?aF ?aO ?aB ?aS ?aL ?_; (case aP => exact (Kd.FK_slice_mk (Kd.R_reads' (Kd.R_mono (ok' := (fun k_ => ((fun k_ => (P1_ k_ ∨ w.heap.size ≤ k_) ∧ some k_ ≠ (u14 : Value).ownBlock ∧ some k_ ≠ (u9 : Value).ownBlock)) k_ ∧ some k_ ≠ (.slice Ao55 x8_5.length co55 : Value).ownBlock)) (Kd.R_apart' (Kd.R_apart' (HO_13.out) (Kd.N_typed HO_1.out) (by decide)) (Kd.N_typed HO_8.out) (by decide)) (fun k_ hk => ⟨⟨(.inr (hk.1.1.1)), ⟨hk.1.2, hk.1.1.2⟩⟩, hk.2⟩))).2.1 (Kd.R_F (Kd.R_mono (ok' := (fun k_ => ((fun k_ => (P1_ k_ ∨ w.heap.size ≤ k_) ∧ some k_ ≠ (u14 : Value).ownBlock ∧ some k_ ≠ (u9 : Value).ownBlock)) k_ ∧ some k_ ≠ (.slice Ao55 x8_5.length co55 : Value).ownBlock)) (Kd.R_apart' (Kd.R_apart' (HO_13.out) (Kd.N_typed HO_1.out) (by decide)) (Kd.N_typed HO_8.out) (by decide)) (fun k_ hk => ⟨⟨(.inr (hk.1.1.1)), ⟨hk.1.2, hk.1.1.2⟩⟩, hk.2⟩))))); (case aB => exact (bw HB)); (case aF => exact (fun k_ hk => ⟨(.inr (Nat.le_trans (bz HB) hk)), Kd.fresh' (Kd.N_lt (wN HO_1)) k_ hk, Kd.fresh' (Kd.R_lt (wR HO_9)) k_ hk⟩)); (case aO => exact (oN_ HO_8 (fun _ hk => ⟨hk.1, ⟨hk.2.1, hk.2.2.1⟩⟩))); (case aS => exact (bz HB)); (case aL => have := LMc53.out; omega); intro v311 w56 ho hb hg hat; rw [← Ny310.out] at ho; replace HO_1 := am (Kd.N_afterv (ok := (fun k_ => (P1_ k_ ∨ w.heap.size ≤ k_) ∧ some k_ ≠ (u9 : Value).ownBlock ∧ some k_ ≠ (.slice Ao57 t288.length co57 : Value).ownBlock)) (oN_ HO_1 (fun _ hk => ⟨⟨hk.1, ⟨hk.2.2.1, hk.2.2.2⟩⟩, hk.2.1⟩)) hg hat); replace HO_9 := am (Kd.R_over' (wR HO_9) (Kd.N_typed (wN HO_8)) (by decide) hg); replace HB := am (hb); have HO312 := am (ho); clear HO_8 HO_13; clear ho hb hg hat) | ((with_reducible refine jh (b := .append) (xs := #[.tmp 106, .tmp 108]) rfl ?_); at_builtin; refine Kd.R_append (Kd.int .i64) (w0 := w) w.heap.size rfl (.tmp 106) (.tmp 108) 23 3 (.int .i64 0) 8 rfl Try.underlying23 Ju rfl (by decide) (by omega) u9 x9_1 x10_1 [.int .i64 x10_1] (fun k_ => (w.heap.size ≤ k_)) (fun _ => False) rfl rfl ?aP (fun _ hk => hk.elim) ?aF ?aO ?aB ?aS ?aL ?_; (case aP => exact rfl); (case aB => exact (bw HB)); (case aF => exact (fun k_ hk => (Nat.le_trans (bz HB) hk))); (case aO => exact (oR_ HO_9 (fun _ hk => hk.1))); (case aS => exact (bz HB)); (case aL => have := LMc54.out; omega); intro v314 w58 ho hb hg hat; rw [← Ny313.out] at ho; replace HO_1 := am (Kd.N_afterv (ok := (fun k_ => (P1_ k_ ∨ w.heap.size ≤ k_) ∧ some k_ ≠ (v311 : Value).ownBlock)) (oN_ HO_1 (fun _ hk => ⟨⟨hk.1.1, hk.2⟩, hk.1.2.1⟩)) hg hat); replace HO312 := am (Kd.N_afterv (ok := (fun k_ => (P1_ k_ ∨ w.heap.size ≤ k_) ∧ some k_ ≠ (u14 : Value).ownBlock)) (oN_ HO312 (fun _ hk => ⟨⟨hk.1, hk.2.1⟩, hk.2.2⟩)) hg hat); replace HB := am (hb); have HO315 := am (ho); clear HO_9; clear ho hb hg hat))
                go_roundg k5
                case measure => have := HK1.out; have := HK2.out; have := HJ8.out; have := HK4.out; have := HK5.out; omega
                case rel => exact ⟨(x14_4), (y310), (y313), (wrap64 (x10_1 + 1)), fr, H', ⟨by have := HK1.out; have := HK2.out; have := HJ8.out; have := HK4.out; have := HK5.out; omega⟩, ⟨Kd.N_V (oN_ HO_1 (fun _ hk => ⟨hk.1.1, ⟨hk.1.2, hk.2⟩⟩))⟩, ⟨Kd.N_below (Kd.N_mono HO312.out (fun _ hk => ⟨hk.1.1, hk.2⟩)) gs⟩, ⟨wR HO315⟩, ⟨bw HB⟩⟩
   ·rw [if_neg c8] at H
    have c8b0 := decide_eq_false c8; clear c8
    simp only [Option.some.injEq, Prod.mk.injEq] at H
    obtain ⟨rfl, rfl⟩ := H; go_wp2
    go_ret2
    exact ⟨_, _, fq, wN HO_8, wR HO_9, bw HB⟩
end Go.Proofs.Ytmgbpmihbljngaa.PA

-- Written by xprint.py, a program of this claim's own (over the kit's print.py)
import Derived.Test.YtmgbpmihbljngaaPAx15
namespace Go.Proofs.Ytmgbpmihbljngaa.PA
open Go.RowKit Go.Proofs.YtmgbpmihbljngaaW.PrintWords Go.Proofs.YtmgbpmihbljngaaW.PrintLast Go.Proofs.YtmgbpmihbljngaaW.PrintMore
attribute [local go_sem] j9 j8 Qf Qg js jr j6 j7
set_option linter.unusedVariables false
set_option linter.unusedSimpArgs false
mutual
def qm.l0 : Nat → Int → Int → List (List Int) → List Int → List (List Int) → Int → Int → Option ((List (List Int)))
 | 0, _, _, _, _, _, _, _ => none
 | k + 1, x0, x2, x7, x8, x9, x10, x11 => if x11 < x2 then (if x10 < (x8.length : Int) then (if 0 ≤ x10 then (qm.j1 k x0 x2 x7 x8 x9 x10 x11 ((rd x8 x10) == x11)) else (none)) else (qm.j1 k x0 x2 x7 x8 x9 x10 x11 false)) else ((qc.f k x0 x9 x2).bind fun bt325 => (some bt325.1))
def qm.j1 : Nat → Int → Int → List (List Int) → List Int → List (List Int) → Int → Int → Bool → Option ((List (List Int)))
 | 0, _, _, _, _, _, _, _, _ => none
 | k + 1, x0, x2, x7, x8, x9, x10, x11, x40 => if x40 = true then (qm.l0 k x0 x2 x7 x8 x9 (wrap64 (x10 + 1)) (wrap64 (x11 + 1))) else (if 0 ≤ x2 then (if (x2 : Int).toNat ≤ 35184372088832 then ((some (List.replicate (x2 : Int).toNat 0 : List Int)).bind fun y332 => (if 0 ≤ x11 then (if x11 < (y332.length : Int) then (qm.l1 k x0 x2 x7 x8 x9 x10 x11 (y332.set (x11 : Int).toNat 1) 0) else (none)) else (none))) else (none)) else (none))
def qm.l1 : Nat → Int → Int → List (List Int) → List Int → List (List Int) → Int → Int → List Int → Int → Option ((List (List Int)))
 | 0, _, _, _, _, _, _, _, _, _ => none
 | k + 1, x0, x2, x7, x8, x9, x10, x11, x12, x13 => if x13 < (x8.length : Int) then (if 0 ≤ x13 then (if x13 < (x7.length : Int) then (if 0 ≤ x11 then (if x11 < ((zz x7 x13).length : Int) then ((jl.f x0 (wrap64 (-(rd (zz x7 x13) x11)))).bind fun t339 => (if 0 ≤ (rd x8 x13) then (if (rd x8 x13) < (x12.length : Int) then (qm.l1 k x0 x2 x7 x8 x9 x10 x11 (x12.set ((rd x8 x13) : Int).toNat t339) (wrap64 (x13 + 1))) else (none)) else (none))) else (none)) else (none)) else (none)) else (none)) else (if x9.length < 5864062014805 then (qm.l0 k x0 x2 x7 x8 (x9 ++ [x12]) x10 (wrap64 (x11 + 1))) else (none))
end
def qm.f (k : Nat) (a0 : Int) (l1 : List (List Int)) (a2 : Int) : Option ((List (List Int))) := (qc.f k a0 l1 a2).bind fun bt316 => (qm.l0 k a0 a2 bt316.1 bt316.2 (([] : List (List Int))) 0 0)
theorem qm.mono_l : ∀ k, (∀ y0 y1 y2 y3 y4 y5 y6, LeO (qm.l0 k y0 y1 y2 y3 y4 y5 y6) (qm.l0 (k + 1) y0 y1 y2 y3 y4 y5 y6)) ∧ (∀ y0 y1 y2 y3 y4 y5 y6 y7, LeO (qm.j1 k y0 y1 y2 y3 y4 y5 y6 y7) (qm.j1 (k + 1) y0 y1 y2 y3 y4 y5 y6 y7)) ∧ (∀ y0 y1 y2 y3 y4 y5 y6 y7 y8, LeO (qm.l1 k y0 y1 y2 y3 y4 y5 y6 y7 y8) (qm.l1 (k + 1) y0 y1 y2 y3 y4 y5 y6 y7 y8))
 | 0 => ⟨fun _ _ _ _ _ _ _ r h => by simp [qm.l0] at h, fun _ _ _ _ _ _ _ _ r h => by simp [qm.j1] at h, fun _ _ _ _ _ _ _ _ _ r h => by simp [qm.l1] at h⟩
 | k + 1 => by
  obtain ⟨ih0, ih1, ih2⟩ := qm.mono_l k
  refine ⟨?_, ?_, ?_⟩
  ·intro y0 y1 y2 y3 y4 y5 y6
   unfold qm.l0
   repeat' first | (with_reducible first | apply ih0 | apply ih1 | apply ih2 | apply qc.mono | exact LeO.refl _ | exact LeO.none _ | refine LeO.ite ?_ ?_ | refine LeO.bind ?_ (fun _ => ?_)) | (first | apply ih0 | apply ih1 | apply ih2 | apply qc.mono | exact LeO.none _ | refine LeO.ite ?_ ?_ | refine LeO.bind ?_ (fun _ => ?_))
  ·intro y0 y1 y2 y3 y4 y5 y6 y7
   unfold qm.j1
   repeat' first | (with_reducible first | apply ih0 | apply ih1 | apply ih2 | apply qc.mono | exact LeO.refl _ | exact LeO.none _ | refine LeO.ite ?_ ?_ | refine LeO.bind ?_ (fun _ => ?_)) | (first | apply ih0 | apply ih1 | apply ih2 | apply qc.mono | exact LeO.none _ | refine LeO.ite ?_ ?_ | refine LeO.bind ?_ (fun _ => ?_))
  ·intro y0 y1 y2 y3 y4 y5 y6 y7 y8
   unfold qm.l1
   repeat' first | (with_reducible first | apply ih0 | apply ih1 | apply ih2 | apply qc.mono | exact LeO.refl _ | exact LeO.none _ | refine LeO.ite ?_ ?_ | refine LeO.bind ?_ (fun _ => ?_)) | (first | apply ih0 | apply ih1 | apply ih2 | apply qc.mono | exact LeO.none _ | refine LeO.ite ?_ ?_ | refine LeO.bind ?_ (fun _ => ?_))
theorem qm.mono : ∀ a0 a1 a2 k, LeO (qm.f k a0 a1 a2) (qm.f (k + 1) a0 a1 a2) := by
 intro a0 a1 a2 k
 obtain ⟨ih0, ih1, ih2⟩ := qm.mono_l k
 unfold qm.f
 repeat' first | (with_reducible first | apply ih0 | apply ih1 | apply ih2 | apply qc.mono | exact LeO.refl _ | exact LeO.none _ | refine LeO.ite ?_ ?_ | refine LeO.bind ?_ (fun _ => ?_)) | (first | apply ih0 | apply ih1 | apply ih2 | apply qc.mono | exact LeO.none _ | refine LeO.ite ?_ ?_ | refine LeO.bind ?_ (fun _ => ?_))
def qm.T14 : Bool × List (List Nat × List Nat) := (true, [([], []), ([], []), ([], []), ([1, 2], [1, 2]), ([3], [3]), ([], []), ([], []), ([], []), ([6, 7], [6, 7]), ([8], [8]), ([], []), ([9, 10], [9, 10]), ([11], [11]), ([12], [12]), ([5, 13], [5, 13]), ([0, 4, 0, 1, 2, 3, 4, 5, 6, 7, 8, 9, 10, 11, 12, 13, 14], [0, 4]), ([15, 14, 14, 0, 1, 2, 3, 4, 5, 6, 7, 8, 9, 10, 11, 12, 13, 14], [14, 15])])
def qm.B14 : List Nat := [0, 0, 0, 6, 14, 0, 0, 0, 192, 448, 0, 1984, 4032, 8128, 16352, 32767, 65535]
theorem qm.tab14 : rtab .any (Zu Try.f109 14) = qm.T14 := by kernel_rfl
theorem qm.bits14 : Qe qm.T14.2 qm.B14 = true := by kernel_rfl
set_option maxHeartbeats 8000000 in
set_option maxRecDepth 100000 in
theorem qm.calls (k : Nat) (a0 : Int) (P1_ : Nat → Prop) (A1 : Option Addr) (c1 : Nat) (l1 : List (List Int)) (a2 : Int) (r : List (List Int)) (w : World) (hs1 : Kd.V (Kd.slice 3 (Kd.int .i64)) 23 w w.heap.size (fun k_ => P1_ k_) (.slice A1 l1.length c1) l1) (h : qm.f k a0 l1 a2 = some r) :
  Calls Try.prog 109 #[.int .i64 a0, .slice A1 l1.length c1, .int .i64 a2] w fun e w' => ∃ v0_ : Value, e = .returned (v0_) ∧ Kd.N (Kd.slice 3 (Kd.int .i64)) 23 w' w.heap.size (fun k_ => (P1_ k_ ∨ w.heap.size ≤ k_)) v0_ r ∧ Below w.heap.size w w' := by
 have HO1 := am (show Kd.V (Kd.slice 3 (Kd.int .i64)) 23 w w.heap.size (fun k_ => (P1_ k_ ∨ w.heap.size ≤ k_)) (.slice A1 l1.length c1) l1 from Kd.V_mono hs1 (fun k_ hk => .inl hk))
 have HB := am (Below.refl w.heap.size w)
 have H : ((qc.f k a0 l1 a2).bind fun bt316 => (qm.l0 k a0 a2 bt316.1 bt316.2 (([] : List (List Int))) 0 0)) = some r := h
 clear h; replace H := bs H
 obtain ⟨⟨t316, t319⟩, A4, H⟩ := H
 dsimp only at H
 generalize hy322 : (([] : List (List Int))) = y322 at H
 have Ny322 := am hy322.symm; clear hy322; have H' := am H; clear H
 go_enter Try.func109, Try.ntmps109
 go_wp2_with (first | ((with_reducible refine qf (f := 150) rfl ?_); refine gl 20 Try.func150 #[.int .i64 a0, .slice A1 l1.length c1, .int .i64 a2] ?_; (with_reducible refine (qc.calls k a0 (fun k_ => (P1_ k_ ∨ w.heap.size ≤ k_)) _ _ l1 a2 t316 t319 _ ?_ A4.out).mono ?_); exact HO1.out; rintro e w5 ⟨v317, v320, rfl, ho0, ho1, hb⟩; refine ⟨_, rfl, ?_⟩; replace HO1 := am (Kd.V_mono (Kd.V_told (Kd.V_told (Kd.V_old (wV HO1) hb) (Kd.N_base ho0)) (Kd.R_base ho1)) (fun _ h_ => h_.1)); have HO318 := am (Kd.N_lower (Kd.N_mono (ok' := fun k_ => (P1_ k_ ∨ w.heap.size ≤ k_) ∧ some k_ ≠ (v320 : Value).ownBlock) ho0 (fun k_ hk_ => ⟨Or.elim hk_.1 (fun hs_ => hs_) (fun hn_ => (.inr (Nat.le_trans (bz HB) hn_))), hk_.2⟩)) (bz HB)); have HO321 := am (Kd.R_lower (Kd.R_newM (M := fun k_ => (w.heap.size ≤ k_)) (Kd.R_mono (ok' := fun k_ => True) ho1 (fun _ hk_ => trivial)) (bz HB) (fun k_ h_ => h_)) (bz HB)); replace HB := bq HB hb; (try clear hb); (try clear ho0); (try clear ho1)) | ((with_reducible refine za (N := 23) rfl ?_); refine Kd.N_lit (Kd.slice 3 (Kd.int .i64)) _ 23 ?hg (N' := 23) ?hd (xs := ([] : List (List Int))) (inner := []) (ok := (fun k_ => (P1_ k_ ∨ w.heap.size ≤ k_) ∧ some k_ ≠ (v317 : Value).ownBlock ∧ some k_ ≠ (v320 : Value).ownBlock)) (okp := (fun k_ => (P1_ k_ ∨ w.heap.size ≤ k_) ∧ some k_ ≠ (v317 : Value).ownBlock ∧ some k_ ≠ (v320 : Value).ownBlock)) ?hr ?hp (fun _ hk => hk) ((show ∀ k_, w5.heap.size ≤ k_ → (fun k_ => (P1_ k_ ∨ w.heap.size ≤ k_) ∧ some k_ ≠ (v317 : Value).ownBlock ∧ some k_ ≠ (v320 : Value).ownBlock) k_ from fun k_ hk => ⟨(.inr (Nat.le_trans (bz HB) hk)), Kd.fresh' (Kd.N_lt (wN HO318)) k_ hk, Kd.fresh' (Kd.R_lt (wR HO321)) k_ hk⟩) _ (Nat.le_refl _)) (Below.refl _ _) (Nat.le_refl _) (by simp) ?_; (case hd => rfl); (case hg => rfl); (case hr => first | (go_simp; done) | (go_simp; rfl)); (case hp => exact (Reps.none _ _)); intro v323 w6 ho7 hb hg_ hnew_; clear hg_ hnew_; (first | rw [← Ny322.out] at ho7 | (simp only [Int.reduceToNat] at ho7; rw [← Ny322.out] at ho7)); replace HO1 := eV HO1 (Kd.N_base ho7) hb; replace HO318 := eN HO318 (Kd.N_base ho7) hb; replace HO321 := am (Kd.R_below (wR HO321) hb); have HO324 := am (Kd.N_lower ho7 (bz HB)); replace HB := bq HB hb; clear hb ho7))
 go_loopg [9, 10, 11] k (fun kq v9 v10 v11 w' => ∃ (x8_1 : List Int) (x9_1 : List (List Int)) (x10_1 : Int) (x11_1 : Int), v10 = .int .i64 x10_1 ∧ v11 = .int .i64 x11_1 ∧ qb (qm.l0 kq a0 a2 t316 x8_1 x9_1 x10_1 x11_1 = some r) ∧ qb (kq ≤ k) ∧ qb (Kd.N (Kd.slice 3 (Kd.int .i64)) 23 w' w.heap.size (fun k_ => (P1_ k_ ∨ w.heap.size ≤ k_) ∧ some k_ ≠ (v320 : Value).ownBlock ∧ some k_ ≠ (v9 : Value).ownBlock) v317 t316) ∧ qb (Kd.R (Kd.int .i64) 3 w' w.heap.size (fun k_ => (w.heap.size ≤ k_)) v320 x8_1) ∧ qb (Kd.N (Kd.slice 3 (Kd.int .i64)) 23 w' w.heap.size (fun k_ => (P1_ k_ ∨ w.heap.size ≤ k_) ∧ some k_ ≠ (v317 : Value).ownBlock ∧ some k_ ≠ (v320 : Value).ownBlock) v9 x9_1) ∧ qb (Below w.heap.size w w'))
 case atStart => exact ⟨(t319), (y322), (0), (0), fr, fr, H', ⟨Nat.le_refl _⟩, ⟨Kd.N_below (Kd.N_mono HO318.out (fun _ hk => ⟨hk.1.1, ⟨hk.1.2, hk.2⟩⟩)) gs⟩, ⟨Kd.R_below (Kd.R_mono HO321.out (fun _ hk => hk.1)) gs⟩, ⟨wN HO324⟩, ⟨bw HB⟩⟩
 case round =>
  clear H'; try clear c1; try clear p2
  obtain ⟨x8_1, x9_1, x10_1, x11_1, rfl, rfl, HA, HK1, HO_7, HO_8, HO_9, HB⟩ := hrel
  cases gk with
  | zero => exact absurd HA.out (by simp [qm.l0])
  | succ k1 =>
   have H := HA.out; clear HA
   simp only [qm.l0] at H
   by_cases c8 : x11_1 < a2
   ·rw [if_pos c8] at H
    have c8b0 := decide_eq_true c8; clear c8
    have HC9 := am H
    clear H
    go_upto_region 7 with (fail)
    go_cut [40] (fun v40 wc => ∃ (kq : Nat) (x40_8 : Bool), v40 = .bool x40_8 ∧ qb (qm.j1 kq a0 a2 t316 x8_1 x9_1 x10_1 x11_1 x40_8 = some r) ∧ qb (kq ≤ k1) ∧ qb (Kd.N (Kd.slice 3 (Kd.int .i64)) 23 wc w.heap.size (fun k_ => (P1_ k_ ∨ w.heap.size ≤ k_) ∧ some k_ ≠ (v320 : Value).ownBlock ∧ some k_ ≠ (u9 : Value).ownBlock) v317 t316) ∧ qb (Kd.R (Kd.int .i64) 3 wc w.heap.size (fun k_ => (w.heap.size ≤ k_)) v320 x8_1) ∧ qb (Kd.N (Kd.slice 3 (Kd.int .i64)) 23 wc w.heap.size (fun k_ => (P1_ k_ ∨ w.heap.size ≤ k_) ∧ some k_ ≠ (v317 : Value).ownBlock ∧ some k_ ≠ (v320 : Value).ownBlock) u9 x9_1) ∧ qb (Below w.heap.size w wc))
    case first =>
     have H := HC9.out
     clear HC9
     by_cases c10 : x10_1 < (x8_1.length : Int)
     ·rw [if_pos c10] at H
      have c10b0 := decide_eq_true c10; clear c10
      (first | rw [c10b0] | (simp only [Q9, Zj]; rw [c10b0]) | skip)
      replace H := ifn H; obtain ⟨c11, H⟩ := H; have c11b0 := decide_eq_true c11; clear c11; have H' := am H; clear H
      obtain ⟨Ao12, co12, eo12⟩ := Kd.R_slice HO_8.out
      subst eo12
      have p331 : 0 ≤ (x10_1 : Int) := od
      have q331 : x10_1 < (x8_1.length : Int) := od
      obtain ⟨ad331, e331, hx331_0⟩ := Kd.at_int (Kd.R_reads' HO_8.out).2.2 x10_1 p331 q331
      cases e331; replace p331 := eq_true p331; replace q331 := eq_true q331; go_wp2
      go_meet
      case rel => exact ⟨_, (((rd x8_1 x10_1) == x11_1)), fr, H', ⟨by have := HK1.out; first | omega | exact Nat.le_refl _⟩, ⟨wN HO_7⟩, ⟨wR HO_8⟩, ⟨wN HO_9⟩, ⟨bw HB⟩⟩
     ·rw [if_neg c10] at H
      have c10b0 := decide_eq_false c10; clear c10
      (first | rw [c10b0] | (simp only [Q9, Zj]; rw [c10b0]) | skip)
      have H' := am H; clear H
      obtain ⟨Ao13, co13, eo13⟩ := Kd.R_slice HO_8.out
      subst eo13; go_wp2
      go_meet
      case rel => exact ⟨_, (false), fr, H', ⟨by have := HK1.out; first | omega | exact Nat.le_refl _⟩, ⟨wN HO_7⟩, ⟨wR HO_8⟩, ⟨wN HO_9⟩, ⟨bw HB⟩⟩
    case rest =>
     clear HC9; try clear c1; try clear p2; try clear p3; try clear q3; try clear hx3; try clear c8; try clear c8b0; try clear c10; try clear c10b0; try clear c11; try clear c11b0; try clear hx331_0; try clear p2; try clear p331; try clear q331
     obtain ⟨kq, x40_8, rfl, HA, HJ8, HO_7, HO_8, HO_9, HB⟩ := hcut
     cases kq with
     | zero => exact absurd HA.out (by simp [qm.j1])
     | succ kj8 =>
      have H := HA.out; clear HA
      simp only [qm.j1] at H
      by_cases c14 : x40_8 = true
      ·subst c14
       rw [if_pos rfl] at H
       have H' := am H; clear H; go_wp2
       go_roundg kj8
       case measure => have := HK1.out; have := HJ8.out; omega
       case rel => exact ⟨(x8_1), (x9_1), (wrap64 (x10_1 + 1)), (wrap64 (x11_1 + 1)), fr, fr, H', ⟨by have := HK1.out; have := HJ8.out; omega⟩, ⟨wN HO_7⟩, ⟨wR HO_8⟩, ⟨wN HO_9⟩, ⟨bw HB⟩⟩
      ·replace c14 := Bool.eq_false_iff.mpr c14
       subst c14
       rw [if_neg (show ¬ (false = true) by decide)] at H
       replace H := ifn H; obtain ⟨c15, H⟩ := H; have c15b0 := eq_true c15; have c15b1 := decide_eq_true c15; clear c15; replace H := ifn H; obtain ⟨c16, H⟩ := H; have c16b0 := eq_true c16; have c16b1 := decide_eq_true c16; clear c16; replace H := bsy H
       obtain ⟨y332, Ny332, H⟩ := H; replace H := ifn H; obtain ⟨c17, H⟩ := H; have c17b0 := decide_eq_true c17; clear c17; replace H := ifn H; obtain ⟨c18, H⟩ := H; have c18b0 := decide_eq_true c18; clear c18
       generalize hy335 : (y332.set (x11_1 : Int).toNat 1 : List Int) = y335 at H
       have Ny335 := am hy335.symm; clear hy335; have H' := am H; clear H
       go_wp2_with (first | ((with_reducible refine za (N := 44) rfl ?_); refine Kd.R_make (Kd.int .i64) _ 3 rfl (N := 44) rfl 23 _ _ rfl a2 rfl rfl Try.underlying23 (.int .i64 0) 8 Ju rfl (by decide) (by omega) 0 (ok := fun _ => True) (okp := fun _ => True) rfl (fun _ hk => hk) trivial (od) (Nat.le_trans (Nat.mul_le_mul_right _ (od : a2.toNat ≤ 35184372088832)) (by omega)) (Below.refl _ _) (Nat.le_refl _) ?_; intro v333 w20 ho21 hb hg_ hnew_; clear hg_ hnew_; (first | rw [← Ny332.out] at ho21 | (simp only [Int.reduceToNat] at ho21; rw [← Ny332.out] at ho21)); replace HO_7 := eN HO_7 (Kd.R_base ho21) hb; replace HO_9 := eN HO_9 (Kd.R_base ho21) hb; have HO334 := am (Kd.R_lower (Kd.R_new' (Kd.R_newM (M := fun k_ => (w.heap.size ≤ k_)) ho21 (bz HB) (fun k_ h_ => h_)) (Kd.R_lt (wR HO_8))) (bz HB)); replace HO_8 := eR HO_8 (Kd.R_base ho21) hb; replace HB := bq HB hb; clear hb ho21; have p19 : 0 ≤ (x11_1 : Int) := od; have q19 : (x11_1 : Int) < ((y332.length : Int) : Int) := od; obtain ⟨go19, co19, eo19, gb19, gl19, cl19, HG19⟩ := Kd.R_form HO334.out (by omega); (first | cases eo19 | (injection eo19 with ea_ en_ ec_; (first | subst ea_ | (injection ea_ with ea_; subst ea_)); subst ec_; clear en_)); have GB19 := am gb19; have GG19 := am HG19; clear gb19 gl19 HG19; obtain ⟨hx19_0, hf19_0⟩ := Kd.R_celln 0 HO334.out (x11_1 : Int) p19 q19; replace p19 := eq_true p19; replace q19 := eq_true q19; have n_ := am (Kd.R_mono (ok' := (fun k_ => (w.heap.size ≤ k_) ∧ some k_ ≠ (v320 : Value).ownBlock)) HO334.out (fun k_ hk => ⟨hk.1.1, hk.2⟩)); clear HO334; have HO334 := n_; clear n_; obtain ⟨hy22_, hz22_⟩ := Kd.R_celln 0 HO334.out (x11_1 : Int) (od) (od); have HP22 := Kd.R_putg HO334.out (x11_1 : Int) 1))
       obtain ⟨w23, hw⟩ : ∃ w_, w_ = (w20.setCell ⟨go19, (x11_1 : Int).toNat, none⟩ (.int .i64 1)) := ⟨_, rfl⟩
       rw [← hw]
       (have hg : w20.grownBy w23 (some go19) := (by rw [hw]; exact HP22.2); have hp_ : Kd.R (Kd.int .i64) 3 w23 w.heap.size (fun k_ => (w.heap.size ≤ k_) ∧ some k_ ≠ (v320 : Value).ownBlock) (.slice (some ⟨go19, 0, none⟩) y332.length co19) y335 := (by rw [hw, Ny335.out]; exact HP22.1); clear HP22; have n0_ := am (Kd.N_afterv (v := (.slice (some ⟨go19, 0, none⟩) y332.length co19)) (v1 := (.slice (some ⟨go19, 0, none⟩) y332.length co19)) (ok := (fun k_ => (P1_ k_ ∨ w.heap.size ≤ k_) ∧ some k_ ≠ (v320 : Value).ownBlock ∧ some k_ ≠ (u9 : Value).ownBlock)) (by (with_reducible repeat (first | apply Kd.N_alloc | apply Kd.N_drewN | apply Kd.N_drew)); first | exact HO_7.out | exact Kd.S_mono HO_7.out (fun _ h => ⟨⟨h.1.2, h.1.1⟩, h.2⟩)) hg (.inl rfl)); have n1_ := am (Kd.R_after (v := (.slice (some ⟨go19, 0, none⟩) y332.length co19)) (v1 := (.slice (some ⟨go19, 0, none⟩) y332.length co19)) (ok := (fun k_ => (w.heap.size ≤ k_))) (by (with_reducible repeat (first | apply Kd.R_alloc | apply Kd.R_drewN | apply Kd.R_drew)); first | exact HO_8.out | exact Kd.S_mono HO_8.out (fun _ h => ⟨⟨h.1.2, h.1.1⟩, h.2⟩)) hg (.inl rfl)); have n2_ := am (Kd.N_afterv (v := (.slice (some ⟨go19, 0, none⟩) y332.length co19)) (v1 := (.slice (some ⟨go19, 0, none⟩) y332.length co19)) (ok := (fun k_ => (P1_ k_ ∨ w.heap.size ≤ k_) ∧ some k_ ≠ (v317 : Value).ownBlock ∧ some k_ ≠ (v320 : Value).ownBlock)) (by (with_reducible repeat (first | apply Kd.N_alloc | apply Kd.N_drewN | apply Kd.N_drew)); first | exact HO_9.out | exact Kd.S_mono HO_9.out (fun _ h => ⟨⟨h.1.2, h.1.1⟩, h.2⟩)) hg (.inl rfl)); have n3_ := am (hp_); have n4_ := am ((by rw [hw]; exact zl (HB.out) GB19.out : Below w.heap.size w w23)); clear HO_7; clear HO_8; clear HO_9; clear HO334; clear HB; have HO_7 := n0_; have HO_8 := n1_; have HO_9 := n2_; have HO334 := n3_; have HB := n4_; clear n0_ n1_ n2_ n3_ n4_; clear hg hw hp_)
       go_loopg [13] kj8 (fun kq v13 w' => ∃ (x12_3 : List Int) (x13_3 : Int), v13 = .int .i64 x13_3 ∧ qb (qm.l1 kq a0 a2 t316 x8_1 x9_1 x10_1 x11_1 x12_3 x13_3 = some r) ∧ qb (kq ≤ kj8) ∧ qb (Kd.N (Kd.slice 3 (Kd.int .i64)) 23 w' w.heap.size (fun k_ => (P1_ k_ ∨ w.heap.size ≤ k_) ∧ some k_ ≠ (v320 : Value).ownBlock ∧ some k_ ≠ (u9 : Value).ownBlock ∧ some k_ ≠ ((.slice (some ⟨go19, 0, none⟩) y332.length co19) : Value).ownBlock) v317 t316) ∧ qb (Kd.R (Kd.int .i64) 3 w' w.heap.size (fun k_ => (w.heap.size ≤ k_) ∧ some k_ ≠ ((.slice (some ⟨go19, 0, none⟩) y332.length co19) : Value).ownBlock) v320 x8_1) ∧ qb (Kd.N (Kd.slice 3 (Kd.int .i64)) 23 w' w.heap.size (fun k_ => (P1_ k_ ∨ w.heap.size ≤ k_) ∧ some k_ ≠ (v317 : Value).ownBlock ∧ some k_ ≠ (v320 : Value).ownBlock ∧ some k_ ≠ ((.slice (some ⟨go19, 0, none⟩) y332.length co19) : Value).ownBlock) u9 x9_1) ∧ qb (Kd.R (Kd.int .i64) 3 w' w.heap.size (fun k_ => (w.heap.size ≤ k_) ∧ some k_ ≠ (v320 : Value).ownBlock) (.slice (some ⟨go19, 0, none⟩) y332.length co19) x12_3) ∧ qb (Below w.heap.size w w'))
       case atStart => exact ⟨(y335), (0), fr, H', ⟨Nat.le_refl _⟩, ⟨Kd.N_below (Kd.N_mono HO_7.out (fun _ hk => ⟨hk.1.1, ⟨hk.1.2.1, ⟨hk.1.2.2, hk.2⟩⟩⟩)) gs⟩, ⟨wR HO_8⟩, ⟨Kd.N_below (Kd.N_mono HO_9.out (fun _ hk => ⟨hk.1.1, ⟨hk.1.2.1, ⟨hk.1.2.2, hk.2⟩⟩⟩)) gs⟩, ⟨wR HO334⟩, ⟨bw HB⟩⟩
       case round =>
        clear H'; try clear c1; try clear p1; try clear q1; try clear hx1; try clear p2; try clear p3; try clear q3; try clear hx3; try clear p6; try clear c8; try clear c8b0; try clear c10; try clear c10b0; try clear c11; try clear c11b0; try clear c14
        try clear c15; try clear c15b0; try clear c15b1; try clear c16; try clear c16b0; try clear c16b1; try clear c17; try clear c17b0; try clear c18; try clear c18b0; try clear p19; try clear q19; try clear hx19; try clear hf19; try clear hx19_0
        try clear hx331_0; try clear p19; try clear p2; try clear p3; try clear p331; try clear q19; try clear q3; try clear q331
        obtain ⟨x12_3, x13_3, rfl, HA, HK3, HO_7, HO_8, HO_9, HO_12, HB⟩ := hrel
        have hl12_3 := (Kd.R_reads' HO_12.out).1
        rw [hl12_3] at HO_12
        (try simp only [hl12_3])
        (try simp only [hl12_3] at HO_7)
        (try simp only [hl12_3] at HO_8)
        (try simp only [hl12_3] at HO_9)
        cases gk with
        | zero => exact absurd HA.out (by simp [qm.l1])
        | succ k3 =>
         have H := HA.out; clear HA
         simp only [qm.l1] at H
         by_cases c24 : x13_3 < (x8_1.length : Int)
         ·rw [if_pos c24] at H
          have c24b0 := decide_eq_true c24; clear c24; replace H := ifn H; obtain ⟨c25, H⟩ := H; have c25b0 := decide_eq_true c25; clear c25; replace H := ifn H; obtain ⟨c26, H⟩ := H; have c26b0 := decide_eq_true c26; clear c26; replace H := ifn H; obtain ⟨c27, H⟩ := H
          have c27b0 := decide_eq_true c27; clear c27; replace H := ifn H; obtain ⟨c28, H⟩ := H; have c28b0 := decide_eq_true c28; clear c28; replace H := bs H; obtain ⟨t339, A29, H⟩ := H; replace H := ifn H; obtain ⟨c30, H⟩ := H; have c30b0 := decide_eq_true c30
          clear c30; replace H := ifn H; obtain ⟨c31, H⟩ := H; have c31b0 := decide_eq_true c31; clear c31
          generalize hy340 : (x12_3.set ((rd x8_1 x13_3) : Int).toNat t339 : List Int) = y340 at H
          have Ny340 := am hy340.symm; clear hy340; have H' := am H; clear H
          obtain ⟨Ao33, co33, eo33⟩ := Kd.R_slice HO_8.out
          subst eo33
          try go_wp2
          replace HO_7 := am (Kd.N_drew HO_7.out)
          replace HO_8 := am (Kd.R_drew HO_8.out)
          replace HO_9 := am (Kd.N_drew HO_9.out)
          replace HO_12 := am (Kd.R_drew HO_12.out)
          replace HB := am (qx HB.out)
          have p336 : 0 ≤ (x13_3 : Int) := od
          have q336 : x13_3 < (x8_1.length : Int) := od
          obtain ⟨ad336, e336, hx336_0⟩ := Kd.at_int (Kd.R_reads' HO_8.out).2.2 x13_3 p336 q336
          cases e336; replace p336 := eq_true p336; replace q336 := eq_true q336
          obtain ⟨Ao35, co35, eo35⟩ := Kd.N_slice HO_7.out
          (first | subst eo35 | (injection eo35 with f1_ f2_ f3_; have f4_ := f1_.symm; have f5_ := f3_.symm; clear f1_ f2_ f3_; subst f4_; subst f5_))
          have p337 : 0 ≤ (x13_3 : Int) := od
          have q337 : x13_3 < (t316.length : Int) := od
          obtain ⟨ad337, A337_0, c337_0, e337, hx337_0, hl337_0, hi337_0⟩ := Jr (Kd.N_reads' HO_7.out).2.2 x13_3 p337 q337
          cases e337
          obtain ⟨ce337, hce337, hMe337, hcc337⟩ := Kd.N_get HO_7.out [] x13_3 p337 (by first | exact q337 | exact od | (have e_ := (Kd.N_reads' HO_7.out).1; omega))
          obtain ⟨ua337_0, uc337_0, rfl, ul337_0, ge337_0⟩ := Kd.FK_slice_open hMe337
          have hv337_0 := hcc337 0 _ rfl
          rw [Nat.add_zero, show ((Kd.slice 3 (Kd.int .i64))).sz = 1 from rfl, Nat.mul_one] at hv337_0
          replace hv337_0 := Option.some.inj (hv337_0.symm.trans hx337_0)
          injection hv337_0 with hva_ hvn_ hvc_
          rw [hva_] at ge337_0
          rw [hvc_] at ul337_0
          have HL337_0 := am (show Kd.V (Kd.int .i64) 3 _ w.heap.size _ _ (zz t316 x13_3) from Kd.V_mk ul337_0 ge337_0)
          clear hva_ hvn_ hvc_ ge337_0 ul337_0; clear hcc337 hce337
          have HR337_0 := am hi337_0
          have HC337_0 := am hl337_0
          clear hi337_0 hl337_0; replace p337 := eq_true p337; replace q337 := eq_true q337
          have p338 : 0 ≤ (x11_1 : Int) := od
          have q338 : x11_1 < ((zz t316 x13_3).length : Int) := od
          obtain ⟨ad338, e338, hx338_0⟩ := Kd.at_int HR337_0.out x11_1 p338 q338
          cases e338; replace p338 := eq_true p338; replace q338 := eq_true q338
          refine st 17 (fun w' => w'.cell? (ad336.add (x13_3).toNat) = some (.int .i64 (rd x8_1 x13_3)) ∧ w'.cell? (ad337.add (x13_3).toNat) = some (.slice (some ad338) (zz t316 x13_3).length c337_0) ∧ w'.cell? (ad338.add (x11_1).toNat) = some (.int .i64 (rd (zz t316 x13_3) x11_1))) [16] qm.tab14 qm.bits14 (⟨hx336_0, hx337_0, hx338_0⟩) fun hHeld HT_ HW_ => ?_
          generalize wr.drew = w34 at HO_7 HO_8 HO_9 HO_12 HB HL337_0 HR337_0 hx336_0 hx337_0 hx338_0 hHeld ⊢
          refine pz 0 54 HT_ ?_; refine pz 1 55 HT_ ?_; refine pz 2 56 HT_ ?_; refine pz 3 57 HT_ ?_; refine pz 5 59 HT_ ?_; refine pz 6 60 HT_ ?_; refine pz 7 61 HT_ ?_; refine pz 8 62 HT_ ?_; refine pz 10 64 HT_ ?_; refine tk 4 58 HT_ HW_ hHeld ?_; refine tk 9 63 HT_ HW_ hHeld ?_
          refine pz 11 65 HT_ ?_; refine tk 12 66 HT_ HW_ hHeld ?_; refine pz 13 67 HT_ ?_
          refine on 14 (some 68) HT_ fun K hK => ?_
          refine gs_ Try.func158 #[.int .i64 a0, .int .i64 (wrap64 (-(rd (zz t316 x13_3) x11_1)))] ?_
          with_reducible refine (jl.calls a0 (wrap64 (-(rd (zz t316 x13_3) x11_1))) t339 _ A29.out).mono ?_
          rintro e w' ⟨rfl, ⟨nd, rfl⟩⟩
          refine ⟨_, rfl, ?_⟩
          have p32 : 0 ≤ ((rd x8_1 x13_3) : Int) := od
          have q32 : ((rd x8_1 x13_3) : Int) < ((x12_3.length : Int) : Int) := od
          obtain ⟨hx32_0, hf32_0⟩ := Kd.R_celln 0 HO_12.out ((rd x8_1 x13_3) : Int) p32 q32
          replace p32 := eq_true p32; replace q32 := eq_true q32
          have HP36 := Kd.R_putn HO_12.out ((rd x8_1 x13_3) : Int) t339
          rw [← Ny340.out] at HP36
          have HQ36 := am HP36
          clear HP36
          refine hK.out _ _ ⟨hHeld.1, hHeld.2.1, hHeld.2.2⟩ fun hHeld => nz ?_
          clear hK K; refine pz 15 69 HT_ ?_
          refine la 16 none HT_ fun K hK => ?_
          refine qb6 (w1 := ?_) (by rfl) rfl ?_ ?_
          rotate_left
          ·go_simp
           rfl
          refine hK.out _ _ ?_
          clear hK K
          refine Q8 (Qj HT_.out (by kernel_rfl)) ?_
          try go_wp2
          (try simp only [← hl12_3])
          go_roundg k3
          case measure => have := HK1.out; have := HJ8.out; have := HK3.out; omega
          case rel => exact ⟨(y340), (wrap64 (x13_3 + 1)), fr, H', ⟨by have := HK1.out; have := HJ8.out; have := HK3.out; omega⟩, ⟨by (try simp only [hl12_3]); (with_reducible repeat (first | apply Kd.N_alloc | apply Kd.N_drewN | apply Kd.N_drew)); exact Kd.N_mono (Kd.N_far (p := ⟨go19, ((rd x8_1 x13_3) : Int).toNat, none⟩) (Kd.N_mono HO_7.out (fun k_ hk => (⟨hk, fun e_ => hk.2.2.2 (by rw [e_]; rfl)⟩ : _ ∧ k_ ≠ go19))) (fun _ hk => hk.2) (.int .i64 t339)) (fun _ hk => ⟨hk.1.1, ⟨hk.1.2.1, ⟨hk.1.2.2.1, hk.1.2.2.2⟩⟩⟩)⟩, ⟨by (try simp only [hl12_3]); (with_reducible repeat (first | apply Kd.R_alloc | apply Kd.R_drewN | apply Kd.R_drew)); exact Kd.R_mono (Kd.R_far (p := ⟨go19, ((rd x8_1 x13_3) : Int).toNat, none⟩) (Kd.R_mono HO_8.out (fun k_ hk => (⟨hk, fun e_ => hk.2 (by rw [e_]; rfl)⟩ : _ ∧ k_ ≠ go19))) (fun _ hk => hk.2) (.int .i64 t339)) (fun _ hk => ⟨hk.1.1, hk.1.2⟩)⟩, ⟨by (try simp only [hl12_3]); (with_reducible repeat (first | apply Kd.N_alloc | apply Kd.N_drewN | apply Kd.N_drew)); exact Kd.N_mono (Kd.N_far (p := ⟨go19, ((rd x8_1 x13_3) : Int).toNat, none⟩) (Kd.N_mono HO_9.out (fun k_ hk => (⟨hk, fun e_ => hk.2.2.2 (by rw [e_]; rfl)⟩ : _ ∧ k_ ≠ go19))) (fun _ hk => hk.2) (.int .i64 t339)) (fun _ hk => ⟨hk.1.1, ⟨hk.1.2.1, ⟨hk.1.2.2.1, hk.1.2.2.2⟩⟩⟩)⟩, ⟨by (try simp only [hl12_3]); (with_reducible repeat (first | apply Kd.R_alloc | apply Kd.R_drewN | apply Kd.R_drew)); exact HQ36.out⟩, ⟨bx_ HB⟩⟩
         ·rw [if_neg c24] at H
          have c24b0 := decide_eq_false c24; clear c24; replace H := ifn H; obtain ⟨c37, H⟩ := H; have LMc37 := am c37; clear c37
          generalize hy341 : (x9_1 ++ [x12_3] : List (List Int)) = y341 at H
          have Ny341 := am hy341.symm; clear hy341; have H' := am H; clear H
          obtain ⟨Ao38, co38, eo38⟩ := Kd.R_slice HO_8.out
          subst eo38
          go_wp2_with (first | ((with_reducible refine jh (b := .append) (xs := #[.tmp 70, .tmp 72]) rfl ?_); at_builtin; refine Kd.N_append (Kd.slice 3 (Kd.int .i64)) (w0 := w) w.heap.size rfl (.tmp 70) (.tmp 72) 47 23 (.slice none 0 0) 24 rfl Try.underlying47 Zb rfl (by decide) (by omega) u9 x9_1 x12_3 [.slice (some ⟨go19, 0, none⟩) x12_3.length co19] (fun k_ => (P1_ k_ ∨ w.heap.size ≤ k_) ∧ some k_ ≠ (v317 : Value).ownBlock ∧ some k_ ≠ (.slice Ao38 x8_1.length co38 : Value).ownBlock) (fun k_ => ((fun k_ => (P1_ k_ ∨ w.heap.size ≤ k_) ∧ some k_ ≠ (v317 : Value).ownBlock ∧ some k_ ≠ (.slice Ao38 x8_1.length co38 : Value).ownBlock)) k_ ∧ some k_ ≠ (u9 : Value).ownBlock) rfl rfl ?aP (fun _ hk => hk) ?aF ?aO ?aB ?aS ?aL ?_; (case aP => exact (Kd.FK_slice_mk (Kd.R_reads' (Kd.R_mono (ok' := (fun k_ => ((fun k_ => (P1_ k_ ∨ w.heap.size ≤ k_) ∧ some k_ ≠ (v317 : Value).ownBlock ∧ some k_ ≠ (.slice Ao38 x8_1.length co38 : Value).ownBlock)) k_ ∧ some k_ ≠ (u9 : Value).ownBlock)) (Kd.R_apart' (Kd.R_apart' (HO_12.out) (Kd.N_typed HO_7.out) (by decide)) (Kd.N_typed HO_9.out) (by decide)) (fun k_ hk => ⟨⟨(.inr (hk.1.1.1)), ⟨hk.1.2, hk.1.1.2⟩⟩, hk.2⟩))).2.1 (Kd.R_F (Kd.R_mono (ok' := (fun k_ => ((fun k_ => (P1_ k_ ∨ w.heap.size ≤ k_) ∧ some k_ ≠ (v317 : Value).ownBlock ∧ some k_ ≠ (.slice Ao38 x8_1.length co38 : Value).ownBlock)) k_ ∧ some k_ ≠ (u9 : Value).ownBlock)) (Kd.R_apart' (Kd.R_apart' (HO_12.out) (Kd.N_typed HO_7.out) (by decide)) (Kd.N_typed HO_9.out) (by decide)) (fun k_ hk => ⟨⟨(.inr (hk.1.1.1)), ⟨hk.1.2, hk.1.1.2⟩⟩, hk.2⟩))))); (case aB => exact (bw HB)); (case aF => exact (fun k_ hk => ⟨(.inr (Nat.le_trans (bz HB) hk)), Kd.fresh' (Kd.N_lt (wN HO_7)) k_ hk, Kd.fresh' (Kd.R_lt (wR HO_8)) k_ hk⟩)); (case aO => exact (oN_ HO_9 (fun _ hk => ⟨hk.1, ⟨hk.2.1, hk.2.2.1⟩⟩))); (case aS => exact (bz HB)); (case aL => have := LMc37.out; omega); intro v342 w39 ho hb hg hat; rw [← Ny341.out] at ho; replace HO_7 := am (Kd.N_afterv (ok := (fun k_ => (P1_ k_ ∨ w.heap.size ≤ k_) ∧ some k_ ≠ (.slice Ao38 x8_1.length co38 : Value).ownBlock ∧ some k_ ≠ (.slice (some ⟨go19, 0, none⟩) x12_3.length co19 : Value).ownBlock)) (oN_ HO_7 (fun _ hk => ⟨⟨hk.1, ⟨hk.2.1, hk.2.2.2⟩⟩, hk.2.2.1⟩)) hg hat); replace HO_8 := am (Kd.R_over' (wR HO_8) (Kd.N_typed (wN HO_9)) (by decide) hg); replace HB := am (hb); have HO343 := am (ho); clear HO_9 HO_12; clear ho hb hg hat))
          (try simp only [← hl12_3])
          go_roundg k3
          case measure => have := HK1.out; have := HJ8.out; have := HK3.out; omega
          case rel => exact ⟨(x8_1), (y341), (x10_1), (wrap64 (x11_1 + 1)), fr, fr, H', ⟨by have := HK1.out; have := HJ8.out; have := HK3.out; omega⟩, ⟨by (try simp only [hl12_3]); (with_reducible repeat (first | apply Kd.N_alloc | apply Kd.N_drewN | apply Kd.N_drew)); exact Kd.N_mono HO_7.out (fun _ hk => ⟨hk.1.1, ⟨hk.1.2.1, hk.2⟩⟩)⟩, ⟨by (try simp only [hl12_3]); (with_reducible repeat (first | apply Kd.R_alloc | apply Kd.R_drewN | apply Kd.R_drew)); exact Kd.R_mono HO_8.out (fun _ hk => hk.1)⟩, ⟨by (try simp only [hl12_3]); (with_reducible repeat (first | apply Kd.N_alloc | apply Kd.N_drewN | apply Kd.N_drew)); exact HO343.out⟩, ⟨bw HB⟩⟩
   ·rw [if_neg c8] at H
    have c8b0 := decide_eq_false c8; clear c8; replace H := bs H
    obtain ⟨⟨t325, t328⟩, A40, H⟩ := H
    dsimp only at H
    obtain rfl := Option.some.inj H
    obtain ⟨Ao41, co41, eo41⟩ := Kd.N_slice HO_9.out
    subst eo41
    go_wp2_with (first | ((with_reducible refine qf (f := 150) rfl ?_); refine gl 78 Try.func150 #[.int .i64 a0, .slice Ao41 x9_1.length co41, .int .i64 a2] ?_; (with_reducible refine (qc.calls k1 a0 (fun k_ => ((P1_ k_ ∨ w.heap.size ≤ k_) ∧ (some k_ ≠ (v317 : Value).ownBlock ∧ some k_ ≠ (v320 : Value).ownBlock))) _ _ x9_1 a2 t325 t328 _ ?_ A40.out).mono ?_); exact Kd.N_V (HO_9.out); rintro e w42 ⟨v326, v329, rfl, ho0, ho1, hb⟩; refine ⟨_, rfl, ?_⟩; replace HO_9 := am (Kd.N_mono (Kd.N_told (Kd.N_told (Kd.N_old (wN HO_9) hb) (Kd.N_base ho0)) (Kd.R_base ho1)) (fun _ h_ => h_.1)); have HO327 := am (Kd.N_lower (Kd.N_mono (ok' := fun k_ => (P1_ k_ ∨ w.heap.size ≤ k_) ∧ some k_ ≠ (v329 : Value).ownBlock ∧ some k_ ≠ (v317 : Value).ownBlock ∧ some k_ ≠ (v320 : Value).ownBlock) ho0 (fun k_ hk_ => ⟨Or.elim hk_.1 (fun hs_ => hs_.1) (fun hn_ => (.inr (Nat.le_trans (bz HB) hn_))), hk_.2, Or.elim hk_.1 (fun hs_ => hs_.2.1) (fun hn_ => (Kd.fresh' (Kd.N_lt (wN HO_7)) k_ hn_)), Or.elim hk_.1 (fun hs_ => hs_.2.2) (fun hn_ => (Kd.fresh' (Kd.R_lt (wR HO_8)) k_ hn_))⟩)) (bz HB)); replace HO_7 := am (Kd.N_mono (Kd.N_told (Kd.N_told (Kd.N_old (wN HO_7) hb) (Kd.N_base ho0)) (Kd.R_base ho1)) (fun _ h_ => h_.1)); have HO330 := am (Kd.R_lower (Kd.R_new' (Kd.R_newM (M := fun k_ => (w.heap.size ≤ k_)) (Kd.R_mono (ok' := fun k_ => True) ho1 (fun _ hk_ => trivial)) (bz HB) (fun k_ h_ => h_)) (Kd.R_lt (wR HO_8))) (bz HB)); replace HO_8 := eR HO_8 (Kd.R_base ho1) hb; replace HB := bq HB hb; (try clear hb); (try clear ho0); (try clear ho1)))
    go_ret
    exact ⟨_, fq, Kd.N_below (Kd.N_mono HO327.out (fun _ hk => hk.1)) gs, bw HB⟩
end Go.Proofs.Ytmgbpmihbljngaa.PA

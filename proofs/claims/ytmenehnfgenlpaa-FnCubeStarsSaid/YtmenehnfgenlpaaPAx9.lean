-- Written by xprint.py, a program of this claim's own (over the kit's print.py)
import Derived.Test.YtmenehnfgenlpaaPAx0
import Derived.Test.YtmenehnfgenlpaaPAx7
import Derived.Test.YtmenehnfgenlpaaPAx8
namespace Go.Proofs.Ytmenehnfgenlpaa.PA
open Go.RowKit Go.Proofs.YtmenehnfgenlpaaW.PrintWords Go.Proofs.YtmenehnfgenlpaaW.PrintLast Go.Proofs.YtmenehnfgenlpaaW.PrintMore
attribute [local go_sem] max2_int min2_int max_two min_two max_three min_three max_four min_four   -- for this text's walks alone
set_option linter.unusedVariables false
set_option linter.unusedSimpArgs false

/-! ### impl_crosses: function 46 -/
def impl_crosses.f (k : Nat) (a0 : Int) (l1 : List Int) (l2 : List Int) : Option (Bool) := (impl_rowsOf.f l1).bind fun t298 => ((impl_rowsOf.f l2).bind fun t301 => (if t298.length + t301.length < 5864062014805 then ((impl_reduced.f k a0 (t298 ++ t301)).bind fun t307 => (some ((t307.length : Int) == 3))) else (none)))
theorem impl_crosses.mono : ∀ a0 a1 a2 k, LeO (impl_crosses.f k a0 a1 a2) (impl_crosses.f (k + 1) a0 a1 a2) := by
 intro a0 a1 a2 k
 unfold impl_crosses.f
 repeat' first | (with_reducible first | apply impl_reduced.mono | exact LeO.refl _ | exact LeO.none _ | refine LeO.ite ?_ ?_ | refine LeO.bind ?_ (fun _ => ?_)) | (first | apply impl_reduced.mono | exact LeO.none _ | refine LeO.ite ?_ ?_ | refine LeO.bind ?_ (fun _ => ?_))
set_option maxHeartbeats 8000000 in
set_option maxRecDepth 100000 in
theorem impl_crosses.calls (k : Nat) (a0 : Int) (A1 : Option Addr) (c1 : Nat) (l1 : List Int) (A2 : Option Addr) (c2 : Nat) (l2 : List Int) (r : Bool) (w : World) (hr1 : Kd.C (Kd.int .i64) w A1 l1.length l1) (hc1 : l1.length ≤ c1) (hr2 : Kd.C (Kd.int .i64) w A2 l2.length l2) (hc2 : l2.length ≤ c2) (h : impl_crosses.f k a0 l1 l2 = some r) :
  Calls Try.prog 46 #[.int .i64 a0, .slice A1 l1.length c1, .slice A2 l2.length c2] w fun e w' => e = .returned (.bool r) ∧ Below w.heap.size w w' := by
 have HR1 := am hr1
 have HC1 := am hc1
 clear hr1 hc1
 have HR2 := am hr2
 have HC2 := am hc2
 clear hr2 hc2
 have HB := am (Below.refl w.heap.size w)
 have H : ((impl_rowsOf.f l1).bind fun t298 => ((impl_rowsOf.f l2).bind fun t301 => (if t298.length + t301.length < 5864062014805 then ((impl_reduced.f k a0 (t298 ++ t301)).bind fun t307 => (some ((t307.length : Int) == 3))) else (none)))) = some r := h
 clear h; replace H := bs H; obtain ⟨t298, A4, H⟩ := H; replace H := bs H; obtain ⟨t301, A5, H⟩ := H
 by_cases c6 : t298.length + t301.length < 5864062014805
 ·rw [if_pos c6] at H
  have LMc6 := am c6; clear c6
  generalize hy304 : (t298 ++ t301 : List (List Int)) = y304 at H
  have Ny304 := am hy304.symm; clear hy304; replace H := bs H; obtain ⟨t307, A7, H⟩ := H; obtain rfl := Option.some.inj H
  go_enter Try.func46, Try.ntmps46
  go_wp2_with (first | ((with_reducible refine gate_callee (f := 81) rfl ?_); refine gl 9 Try.func81 #[.slice A1 l1.length c1] ?_; (with_reducible refine (impl_rowsOf.calls (fun k_ => k_ < w.heap.size) _ _ l1 t298 _ ?_ A4.out).mono ?_); exact Kd.V_mk HC1.out (Kd.F_below (Kd.C_F (Kd.heap_int .i64) HR1.out) (bw HB)); rintro e w8 ⟨v299, rfl, ho0, hb⟩; refine ⟨_, rfl, ?_⟩; have HO300 := am (Kd.N_lower (Kd.N_mono (ok' := fun k_ => True) ho0 (fun k_ hk_ => trivial)) (bz HB)); replace HB := bq HB hb; (try clear hb); (try clear ho0)) | ((with_reducible refine gate_callee (f := 81) rfl ?_); refine gl 11 Try.func81 #[.slice A2 l2.length c2] ?_; (with_reducible refine (impl_rowsOf.calls (fun k_ => k_ < w.heap.size) _ _ l2 t301 _ ?_ A5.out).mono ?_); exact Kd.V_mk HC2.out (Kd.F_below (Kd.C_F (Kd.heap_int .i64) HR2.out) (bw HB)); rintro e w9 ⟨v302, rfl, ho0, hb⟩; refine ⟨_, rfl, ?_⟩; have HO303 := am (Kd.N_lower (Kd.N_mono (ok' := fun k_ => some k_ ≠ (v299 : Value).ownBlock) ho0 (fun k_ hk_ => Or.elim hk_ (fun hs_ => fun e_ => Nat.not_le.2 hs_ (Kd.N_base HO300.out k_ e_.symm)) (fun hn_ => (Kd.fresh' (Kd.N_lt (wN HO300)) k_ hn_)))) (bz HB)); replace HO300 := eN HO300 (Kd.N_base ho0) hb; replace HB := bq HB hb; (try clear hb); (try clear ho0); obtain ⟨Ao11, co11, eo11⟩ := Kd.N_slice HO303.out; subst eo11) | ((with_reducible refine gate_builtin (b := .append) (xs := #[.tmp 9, .tmp 11]) rfl ?_); at_builtin; refine Kd.N_append_rows (Kd.slice 3 (Kd.int .i64)) (w0 := w) w.heap.size rfl (.tmp 9) (.tmp 11) 45 22 (.slice none 0 0) 24 rfl Try.underlying45 info22 rfl (by decide) (by omega) v299 t298 t301 _ _ _ (fun _ => True) (fun k_ => ((fun _ => True)) k_ ∧ some k_ ≠ (v299 : Value).ownBlock) rfl rfl ?aO ?aR (fun _ hk => hk) ?aF ?aB ?aS ?aL ?_; (case aR => exact (by skip; exact Kd.N_F (Kd.N_mono (ok' := (fun k_ => ((fun _ => True)) k_ ∧ some k_ ≠ (v299 : Value).ownBlock)) (HO303.out) (fun k_ hk => ⟨trivial, hk⟩)))); (case aB => exact (bw HB)); (case aF => exact (fun _ _ => trivial)); (case aO => exact (by (with_reducible repeat (first | apply Kd.N_alloc | apply Kd.N_drewN | apply Kd.N_drew)); exact Kd.N_mono HO300.out (fun _ hk => trivial))); (case aS => exact (bz HB)); (case aL => have := LMc6.out; omega); intro v305 w10 ho hb hg hat; rw [← Ny304.out] at ho; replace HO303 := am (Kd.N_afterv (ok := (fun _ => True)) (by (with_reducible repeat (first | apply Kd.N_alloc | apply Kd.N_drewN | apply Kd.N_drew)); exact Kd.N_mono HO303.out (fun _ hk => ⟨trivial, hk⟩)) hg hat); replace HB := am (hb); have HO306 := am (ho); clear HO300; clear ho hb hg hat; obtain ⟨Ao12, co12, eo12⟩ := Kd.N_slice HO306.out; subst eo12) | ((with_reducible refine gate_callee (f := 82) rfl ?_); refine gl 13 Try.func82 #[.int .i64 a0, .slice Ao12 y304.length co12] ?_; (with_reducible refine (impl_reduced.calls k a0 _ _ y304 t307 _ ?_ ?_ A7.out).mono ?_); exact Kd.C_below (Kd.N_reads' HO306.out).2.2 gs; exact (Kd.N_reads' HO306.out).2.1; rintro e w13 ⟨v308, rfl, ho0, hb⟩; refine ⟨_, rfl, ?_⟩; have HO309 := am (Kd.N_lower (Kd.N_mono (ok' := fun k_ => some k_ ≠ (.slice Ao11 t301.length co11 : Value).ownBlock ∧ some k_ ≠ (.slice Ao12 y304.length co12 : Value).ownBlock) (Kd.S_N (Kd.S_bound ho0)) (fun k_ hk_ => ⟨(Kd.fresh' (Kd.N_lt (wN HO303)) k_ hk_.2.1), (Kd.fresh' (Kd.N_lt (wN HO306)) k_ hk_.2.1)⟩)) (bz HB)); replace HO303 := eN HO303 (Kd.S_base ho0) hb; replace HO306 := eN HO306 (Kd.S_base ho0) hb; replace HB := bq HB hb; (try clear hb); (try clear ho0); obtain ⟨Ao14, co14, eo14⟩ := Kd.N_slice HO309.out; subst eo14))
  go_ret
  exact ⟨fq, bw HB⟩
 ·rw [if_neg c6] at H
  exact absurd H (by simp)/-! ### impl_spanOf: function 69 -/
def impl_spanOf.l0 : Nat → List Int → List (List Int) → Int → Int → Option (List Int)
 | 0, _, _, _, _ => none
 | k + 1, x5, x11, x12, x13 => if x13 < x12 then (if 0 ≤ x13 then (if x13 < (x11.length : Int) then (if x5.length + (rd_L1 x11 x13).length < 17592186044416 then (impl_spanOf.l0 k (x5 ++ (rd_L1 x11 x13)) x11 x12 (wrap64 (x13 + 1))) else (none)) else (none)) else (none)) else (some x5)
def impl_spanOf.f (k : Nat) (a0 : Int) (l1 : List (List Int)) : Option (List Int) := (impl_reduced.f k a0 l1).bind fun t313 => (impl_spanOf.l0 k (([] : List Int)) t313 (t313.length : Int) 0)
theorem impl_spanOf.mono_l : ∀ k, (∀ y0 y1 y2 y3, LeO (impl_spanOf.l0 k y0 y1 y2 y3) (impl_spanOf.l0 (k + 1) y0 y1 y2 y3))
 | 0 => fun _ _ _ _ r h => by simp [impl_spanOf.l0] at h
 | k + 1 => by
  have ih0 := impl_spanOf.mono_l k
  ·intro y0 y1 y2 y3
   unfold impl_spanOf.l0
   repeat' first | (with_reducible first | apply ih0 | apply impl_reduced.mono | exact LeO.refl _ | exact LeO.none _ | refine LeO.ite ?_ ?_ | refine LeO.bind ?_ (fun _ => ?_)) | (first | apply ih0 | apply impl_reduced.mono | exact LeO.none _ | refine LeO.ite ?_ ?_ | refine LeO.bind ?_ (fun _ => ?_))
theorem impl_spanOf.mono : ∀ a0 a1 k, LeO (impl_spanOf.f k a0 a1) (impl_spanOf.f (k + 1) a0 a1) := by
 intro a0 a1 k
 have ih0 := impl_spanOf.mono_l k
 unfold impl_spanOf.f
 repeat' first | (with_reducible first | apply ih0 | apply impl_reduced.mono | exact LeO.refl _ | exact LeO.none _ | refine LeO.ite ?_ ?_ | refine LeO.bind ?_ (fun _ => ?_)) | (first | apply ih0 | apply impl_reduced.mono | exact LeO.none _ | refine LeO.ite ?_ ?_ | refine LeO.bind ?_ (fun _ => ?_))
set_option maxHeartbeats 8000000 in
set_option maxRecDepth 100000 in
theorem impl_spanOf.calls (k : Nat) (a0 : Int) (A1 : Option Addr) (c1 : Nat) (l1 : List (List Int)) (r : List Int) (w : World) (hr1 : Kd.C (Kd.slice 3 (Kd.int .i64)) w A1 l1.length l1) (hc1 : l1.length ≤ c1) (h : impl_spanOf.f k a0 l1 = some r) :
  Calls Try.prog 69 #[.int .i64 a0, .slice A1 l1.length c1] w fun e w' => ∃ v0_ : Value, e = .returned (v0_) ∧ Kd.R (Kd.int .i64) 3 w' w.heap.size (fun _ => True) v0_ r ∧ Below w.heap.size w w' := by
 have HR1 := am hr1
 have HC1 := am hc1
 clear hr1 hc1
 have HB := am (Below.refl w.heap.size w)
 have H : ((impl_reduced.f k a0 l1).bind fun t313 => (impl_spanOf.l0 k (([] : List Int)) t313 (t313.length : Int) 0)) = some r := h
 clear h
 generalize hy310 : (([] : List Int)) = y310 at H
 have Ny310 := am hy310.symm; clear hy310; replace H := bs H; obtain ⟨t313, A3, H⟩ := H; have H' := am H; clear H
 go_enter Try.func69, Try.ntmps69
 go_wp2_with (first | ((with_reducible refine gate_dst (N := 8) rfl ?_); refine li 3 ([] : List Int) ?_; intro v311 w4 ho5 hb; (first | rw [← Ny310.out] at ho5 | (simp only [Int.reduceToNat] at ho5; rw [← Ny310.out] at ho5)); have HO312 := am (Kd.R_lower ho5 (bz HB)); replace HB := bq HB hb; clear hb ho5) | ((with_reducible refine gate_callee (f := 82) rfl ?_); refine gl 11 Try.func82 #[.int .i64 a0, .slice A1 l1.length c1] ?_; (with_reducible refine (impl_reduced.calls k a0 _ _ l1 t313 _ ?_ ?_ A3.out).mono ?_); exact Kd.C_below HR1.out (bw HB); exact HC1.out; rintro e w6 ⟨v314, rfl, ho0, hb⟩; refine ⟨_, rfl, ?_⟩; have HO315 := am (Kd.S_lower (Kd.S_new' ho0 (Kd.R_lt (wR HO312))) (bz HB)); replace HO312 := am (Kd.R_below (wR HO312) hb); replace HB := bq HB hb; (try clear hb); (try clear ho0); obtain ⟨Ao7, co7, eo7⟩ := Kd.S_slice HO315.out; subst eo7))
 go_loopg [5, 13] k (fun kq v5 v13 w' => ∃ (x5_1 : List Int) (x13_1 : Int), v13 = .int .i64 x13_1 ∧ Aside0 (impl_spanOf.l0 kq x5_1 t313 (t313.length : Int) x13_1 = some r) ∧ Aside0 (kq ≤ k) ∧ Aside0 (Kd.R (Kd.int .i64) 3 w' w.heap.size (fun _ => True) v5 x5_1) ∧ Aside0 (Kd.S (Kd.slice 3 (Kd.int .i64)) 22 w' w.heap.size (fun k_ => some k_ ≠ (v5 : Value).ownBlock) (.slice Ao7 t313.length co7) t313) ∧ Aside0 (Below w.heap.size w w'))
 case atStart => exact ⟨(y310), (0), fr, H', ⟨Nat.le_refl _⟩, ⟨wR HO312⟩, ⟨Kd.S_below (Kd.S_mono HO315.out (fun _ hk => hk.2)) gs⟩, ⟨bw HB⟩⟩
 case round =>
  clear H'; try clear c1; try clear p2; try clear c6
  obtain ⟨x5_1, x13_1, rfl, HA, HK1, HO_5, HO_11, HB⟩ := hrel
  cases gk with
  | zero => exact absurd HA.out (by simp [impl_spanOf.l0])
  | succ k1 =>
   have H := HA.out; clear HA
   simp only [impl_spanOf.l0] at H
   by_cases c8 : x13_1 < (t313.length : Int)
   ·rw [if_pos c8] at H
    have c8b0 := decide_eq_true c8; clear c8; replace H := ifn H; obtain ⟨c9, H⟩ := H; have c9b0 := decide_eq_true c9; clear c9; replace H := ifn H; obtain ⟨c10, H⟩ := H; have c10b0 := decide_eq_true c10; clear c10; replace H := ifn H; obtain ⟨c11, H⟩ := H
    have LMc11 := am c11; clear c11
    generalize hy317 : (x5_1 ++ (rd_L1 t313 x13_1) : List Int) = y317 at H
    have Ny317 := am hy317.symm; clear hy317; have H' := am H; clear H
    have p316 : 0 ≤ (x13_1 : Int) := od
    have q316 : x13_1 < (t313.length : Int) := od
    obtain ⟨ad316, A316_0, c316_0, e316, hx316_0, hl316_0, hi316_0⟩ := at_L1 (Kd.S_reads' HO_11.out).2.2 x13_1 p316 q316
    cases e316
    obtain ⟨ce316, hce316, hMe316, hcc316⟩ := Kd.S_get HO_11.out [] x13_1 p316 (by first | exact q316 | exact od | (have e_ := (Kd.S_reads' HO_11.out).1; omega))
    obtain ⟨ve316_0, rfl, ge316_0⟩ := hMe316
    have hv316_0 := hcc316 0 _ rfl
    rw [Nat.add_zero, show ((Kd.slice 3 (Kd.int .i64))).sz = 1 from rfl, Nat.mul_one] at hv316_0
    replace hv316_0 := Option.some.inj (hv316_0.symm.trans hx316_0)
    rw [hv316_0] at ge316_0
    have HL316_0 := am (show Kd.R (Kd.int .i64) 3 _ _ _ _ (rd_L1 t313 x13_1) from ge316_0)
    clear hv316_0 ge316_0; clear hcc316 hce316
    have HR316_0 := am hi316_0
    have HC316_0 := am hl316_0
    clear hi316_0 hl316_0; replace p316 := eq_true p316; replace q316 := eq_true q316
    go_wp2_with (first | ((with_reducible refine gate_builtin (b := .append) (xs := #[.tmp 17, .tmp 18]) rfl ?_); at_builtin; refine Kd.R_append_rows (Kd.int .i64) (w0 := w) w.heap.size rfl (.tmp 17) (.tmp 18) 22 3 (.int .i64 0) 8 rfl Try.underlying22 info3 rfl (by decide) (by omega) u5 x5_1 (rd_L1 t313 x13_1) _ _ _ (fun _ => True) (fun _ => False) rfl rfl ?aO ?aR (fun _ _ h => h) (fun _ h => h.elim) ?aF ?aB ?aS ?aL ?_; (case aR => exact wC HR316_0); (case aB => exact (bw HB)); (case aF => exact (fun _ _ => trivial)); (case aO => exact (wR HO_5)); (case aS => exact (bz HB)); (case aL => have := LMc11.out; omega); intro v318 w12 ho hb hg hat; rw [← Ny317.out] at ho; replace HO_11 := am (Kd.S_after (ok := (fun _ => True)) (by (with_reducible repeat (first | apply Kd.S_alloc | apply Kd.S_drewN | apply Kd.S_drew)); exact Kd.S_mono HO_11.out (fun _ hk => ⟨trivial, hk⟩)) hg hat); replace HL316_0 := am (Kd.R_after (ok := (fun k_ => some k_ ≠ (.slice (some ad316) t313.length co7 : Value).ownBlock)) (by (with_reducible repeat (first | apply Kd.R_alloc | apply Kd.R_drewN | apply Kd.R_drew)); exact Kd.R_mono HL316_0.out (fun _ hk => ⟨hk.2, hk.1⟩)) hg hat); replace HB := am (hb); have HO319 := am (ho); clear HO_5; clear ho hb hg hat))
    go_roundg k1
    case measure => have := HK1.out; omega
    case rel => exact ⟨(y317), (wrap64 (x13_1 + 1)), fr, H', ⟨by have := HK1.out; omega⟩, ⟨wR HO319⟩, ⟨Kd.S_below (Kd.S_mono HO_11.out (fun _ hk => hk.2)) gs⟩, ⟨bw HB⟩⟩
   ·rw [if_neg c8] at H
    have c8b0 := decide_eq_false c8; clear c8; obtain rfl := Option.some.inj H; go_wp2; go_ret
    exact ⟨_, fq, wR HO_5, bw HB⟩
end Go.Proofs.Ytmenehnfgenlpaa.PA

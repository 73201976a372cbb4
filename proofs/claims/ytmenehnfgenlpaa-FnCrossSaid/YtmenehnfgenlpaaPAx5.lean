-- Written by xprint.py, a program of this claim's own (over the kit's print.py)
import Derived.Test.YtmenehnfgenlpaaPAx0
import Derived.Test.YtmenehnfgenlpaaPAx2
namespace Go.Proofs.Ytmenehnfgenlpaa.PA
open Go.RowKit Go.Proofs.YtmenehnfgenlpaaW.PrintWords Go.Proofs.YtmenehnfgenlpaaW.PrintLast Go.Proofs.YtmenehnfgenlpaaW.PrintMore
attribute [local go_sem] max2_int min2_int max_two min_two max_three min_three max_four min_four   -- for this text's walks alone
set_option linter.unusedVariables false
set_option linter.unusedSimpArgs false

/-! ### impl_monic: function 84 -/
def impl_monic.f (k : Nat) (a0 : Int) (l1 : List Int) : Option (List Int) := (impl_reduced.f k a0 (([l1] : List (List Int)))).bind fun t185 => (if (t185.length : Int) = 0 then (some ([] : List Int)) else (if 0 < (t185.length : Int) then (some (rd_L1 t185 0)) else (none)))
theorem impl_monic.mono : ∀ a0 a1 k, LeO (impl_monic.f k a0 a1) (impl_monic.f (k + 1) a0 a1) := by
 intro a0 a1 k
 unfold impl_monic.f
 repeat' first | (with_reducible first | apply impl_reduced.mono | exact LeO.refl _ | exact LeO.none _ | refine LeO.ite ?_ ?_ | refine LeO.bind ?_ (fun _ => ?_)) | (first | apply impl_reduced.mono | exact LeO.none _ | refine LeO.ite ?_ ?_ | refine LeO.bind ?_ (fun _ => ?_))
set_option maxHeartbeats 8000000 in
set_option maxRecDepth 100000 in
theorem impl_monic.calls (k : Nat) (a0 : Int) (P1_ : Nat → Prop) (A1 : Option Addr) (c1 : Nat) (l1 : List Int) (r : List Int) (w : World) (hs1 : Kd.V (Kd.int .i64) 3 w w.heap.size (fun k_ => P1_ k_) (.slice A1 l1.length c1) l1) (h : impl_monic.f k a0 l1 = some r) :
  Calls Try.prog 84 #[.int .i64 a0, .slice A1 l1.length c1] w fun e w' => ∃ v0_ : Value, e = .returned (v0_) ∧ Kd.V (Kd.int .i64) 3 w' w.heap.size (fun k_ => (P1_ k_ ∨ w.heap.size ≤ k_)) v0_ r ∧ Below w.heap.size w w' := by
 have HO1 := am (show Kd.V (Kd.int .i64) 3 w w.heap.size (fun k_ => (P1_ k_ ∨ w.heap.size ≤ k_)) (.slice A1 l1.length c1) l1 from Kd.V_mono hs1 (fun k_ hk => .inl hk))
 have HB := am (Below.refl w.heap.size w)
 have H : ((impl_reduced.f k a0 (([l1] : List (List Int)))).bind fun t185 => (if (t185.length : Int) = 0 then (some ([] : List Int)) else (if 0 < (t185.length : Int) then (some (rd_L1 t185 0)) else (none)))) = some r := h
 clear h
 generalize hy182 : (([l1] : List (List Int))) = y182 at H
 have Ny182 := am hy182.symm; clear hy182; replace H := bs H; obtain ⟨t185, A3, H⟩ := H
 by_cases c4 : (t185.length : Int) = 0
 ·rw [if_pos c4] at H
  have c4b0 := beq_iff_eq.mpr c4; have c4b1 := bne_eq_false_iff_eq.mpr c4; clear c4; obtain rfl := Option.some.inj H
  go_enter Try.func84, Try.ntmps84
  go_wp2_with (first | ((with_reducible refine gate_dst (N := 8) rfl ?_); refine Kd.N_lit (Kd.slice 3 (Kd.int .i64)) _ 22 ?hg (N' := 8) ?hd (xs := ([l1] : List (List Int))) (inner := [.slice A1 l1.length c1]) (ok := (fun k_ => (P1_ k_ ∨ w.heap.size ≤ k_))) (okp := (fun k_ => (P1_ k_ ∨ w.heap.size ≤ k_))) ?hr ?hp (fun _ hk => hk) ((show ∀ k_, w.heap.size ≤ k_ → (fun k_ => (P1_ k_ ∨ w.heap.size ≤ k_)) k_ from fun k_ hk => (.inr (Nat.le_trans (bz HB) hk))) _ (Nat.le_refl _)) (Below.refl _ _) (Nat.le_refl _) (by simp) ?_; (case hd => rfl); (case hg => rfl); (case hr => first | (go_simp; done) | (go_simp; rfl)); (case hp => exact (Reps.one (show Kd.FK (Kd.slice 3 (Kd.int .i64)) _ _ l1 [.slice A1 l1.length c1] from (Kd.FK_slice_mk (Kd.V_reads' (HO1.out)).2.1 (Kd.V_F (wV HO1)))) (Reps.none _ _))); intro v183 w5 ho6 hb hg_ hnew_; clear hg_ hnew_; (first | rw [← Ny182.out] at ho6 | (simp only [Int.reduceToNat] at ho6; rw [← Ny182.out] at ho6)); replace HO1 := eV HO1 (Kd.N_base ho6) hb; have HO184 := am (Kd.N_lower ho6 (bz HB)); replace HB := bq HB hb; clear hb ho6; obtain ⟨Ao7, co7, eo7⟩ := Kd.N_slice HO184.out; subst eo7) | ((with_reducible refine gate_callee (f := 82) rfl ?_); refine gl 9 Try.func82 #[.int .i64 a0, .slice Ao7 y182.length co7] ?_; (with_reducible refine (impl_reduced.calls k a0 _ _ y182 t185 _ ?_ ?_ A3.out).mono ?_); exact Kd.C_below (Kd.N_reads' HO184.out).2.2 gs; exact (Kd.N_reads' HO184.out).2.1; rintro e w8 ⟨v186, rfl, ho0, hb⟩; refine ⟨_, rfl, ?_⟩; replace HO1 := eV HO1 (Kd.S_base ho0) hb; have HO187 := am (Kd.N_lower (Kd.N_mono (ok' := fun k_ => (P1_ k_ ∨ w.heap.size ≤ k_) ∧ some k_ ≠ (.slice Ao7 y182.length co7 : Value).ownBlock) (Kd.S_N (Kd.S_bound ho0)) (fun k_ hk_ => ⟨(.inr (Nat.le_trans (bz HB) hk_.2.1)), (Kd.fresh' (Kd.N_lt (wN HO184)) k_ hk_.2.1)⟩)) (bz HB)); replace HO184 := eN HO184 (Kd.S_base ho0) hb; replace HB := bq HB hb; (try clear hb); (try clear ho0); obtain ⟨Ao9, co9, eo9⟩ := Kd.N_slice HO187.out; subst eo9))
  go_ret
  exact ⟨_, fq, Kd.V_nil _ _ _ _ _, bw HB⟩
 ·rw [if_neg c4] at H
  have c4b0 := beq_eq_false_iff_ne.mpr c4; have c4b1 := bne_iff_ne.mpr c4
  have c4b2 : ¬ (t185 = []) := fun h_ => c4 (by rw [h_]; rfl)
  by_cases c10 : 0 < (t185.length : Int)
  ·rw [if_pos c10] at H
   have c10b0 := decide_eq_true c10
   have c10b1 : decide (0 < t185.length) = true := decide_eq_true (by omega)
   clear c10; obtain rfl := Option.some.inj H
   go_enter Try.func84, Try.ntmps84
   go_wp2_with (first | ((with_reducible refine gate_dst (N := 8) rfl ?_); refine Kd.N_lit (Kd.slice 3 (Kd.int .i64)) _ 22 ?hg (N' := 8) ?hd (xs := ([l1] : List (List Int))) (inner := [.slice A1 l1.length c1]) (ok := (fun k_ => (P1_ k_ ∨ w.heap.size ≤ k_))) (okp := (fun k_ => (P1_ k_ ∨ w.heap.size ≤ k_))) ?hr ?hp (fun _ hk => hk) ((show ∀ k_, w.heap.size ≤ k_ → (fun k_ => (P1_ k_ ∨ w.heap.size ≤ k_)) k_ from fun k_ hk => (.inr (Nat.le_trans (bz HB) hk))) _ (Nat.le_refl _)) (Below.refl _ _) (Nat.le_refl _) (by simp) ?_; (case hd => rfl); (case hg => rfl); (case hr => first | (go_simp; done) | (go_simp; rfl)); (case hp => exact (Reps.one (show Kd.FK (Kd.slice 3 (Kd.int .i64)) _ _ l1 [.slice A1 l1.length c1] from (Kd.FK_slice_mk (Kd.V_reads' (HO1.out)).2.1 (Kd.V_F (wV HO1)))) (Reps.none _ _))); intro v183 w11 ho12 hb hg_ hnew_; clear hg_ hnew_; (first | rw [← Ny182.out] at ho12 | (simp only [Int.reduceToNat] at ho12; rw [← Ny182.out] at ho12)); replace HO1 := eV HO1 (Kd.N_base ho12) hb; have HO184 := am (Kd.N_lower ho12 (bz HB)); replace HB := bq HB hb; clear hb ho12; obtain ⟨Ao13, co13, eo13⟩ := Kd.N_slice HO184.out; subst eo13) | ((with_reducible refine gate_callee (f := 82) rfl ?_); refine gl 9 Try.func82 #[.int .i64 a0, .slice Ao13 y182.length co13] ?_; (with_reducible refine (impl_reduced.calls k a0 _ _ y182 t185 _ ?_ ?_ A3.out).mono ?_); exact Kd.C_below (Kd.N_reads' HO184.out).2.2 gs; exact (Kd.N_reads' HO184.out).2.1; rintro e w14 ⟨v186, rfl, ho0, hb⟩; refine ⟨_, rfl, ?_⟩; replace HO1 := eV HO1 (Kd.S_base ho0) hb; have HO187 := am (Kd.N_lower (Kd.N_mono (ok' := fun k_ => (P1_ k_ ∨ w.heap.size ≤ k_) ∧ some k_ ≠ (.slice Ao13 y182.length co13 : Value).ownBlock) (Kd.S_N (Kd.S_bound ho0)) (fun k_ hk_ => ⟨(.inr (Nat.le_trans (bz HB) hk_.2.1)), (Kd.fresh' (Kd.N_lt (wN HO184)) k_ hk_.2.1)⟩)) (bz HB)); replace HO184 := eN HO184 (Kd.S_base ho0) hb; replace HB := bq HB hb; (try clear hb); (try clear ho0); obtain ⟨Ao15, co15, eo15⟩ := Kd.N_slice HO187.out; subst eo15; have p188 : 0 ≤ (0 : Int) := (by omega); have q188 : 0 < (t185.length : Int) := od; obtain ⟨ad188, A188_0, c188_0, e188, hx188_0, hl188_0, hi188_0⟩ := at_L1 (Kd.N_reads' HO187.out).2.2 0 p188 q188; cases e188; obtain ⟨ce188, hce188, hMe188, hcc188⟩ := Kd.N_get HO187.out [] 0 p188 (by first | exact q188 | exact od | (have e_ := (Kd.N_reads' HO187.out).1; omega)); obtain ⟨ua188_0, uc188_0, rfl, ul188_0, ge188_0⟩ := Kd.FK_slice_open hMe188; have hv188_0 := hcc188 0 _ rfl; rw [Nat.add_zero, show ((Kd.slice 3 (Kd.int .i64))).sz = 1 from rfl, Nat.mul_one] at hv188_0; replace hv188_0 := Option.some.inj (hv188_0.symm.trans hx188_0); injection hv188_0 with hva_ hvn_ hvc_; rw [hva_] at ge188_0; rw [hvc_] at ul188_0; have HL188_0 := am (show Kd.V (Kd.int .i64) 3 _ w.heap.size _ _ (rd_L1 t185 0) from Kd.V_mk ul188_0 ge188_0); clear hva_ hvn_ hvc_ ge188_0 ul188_0; clear hcc188 hce188; have qi188 : (0 < t185.length) = True := eq_true (by omega); (try rw [show ((0 : Int)).toNat = 0 from rfl] at hx188_0); (try rw [Addr.add_zero'] at hx188_0); have HR188_0 := am hi188_0; have HC188_0 := am hl188_0; clear hi188_0 hl188_0; replace p188 := eq_true p188; replace q188 := eq_true q188))
   go_ret
   exact ⟨_, fq, Kd.V_below (Kd.V_mono HL188_0.out (fun _ hk => hk.1.1)) gs, bw HB⟩
  ·rw [if_neg c10] at H
   exact absurd H (by simp)
end Go.Proofs.Ytmenehnfgenlpaa.PA

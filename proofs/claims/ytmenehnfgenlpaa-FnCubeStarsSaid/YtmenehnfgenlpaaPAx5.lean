-- Written by xprint.py, a program of this claim's own (over the kit's print.py)
import Derived.Test.YtmenehnfgenlpaaPAx0
import Derived.Test.YtmenehnfgenlpaaPAx4
namespace Go.Proofs.Ytmenehnfgenlpaa.PA
open Go.RowKit Go.Proofs.YtmenehnfgenlpaaW.PrintWords Go.Proofs.YtmenehnfgenlpaaW.PrintLast Go.Proofs.YtmenehnfgenlpaaW.PrintMore
attribute [local go_sem] max2_int min2_int max_two min_two max_three min_three max_four min_four   -- for this text's walks alone
set_option linter.unusedVariables false
set_option linter.unusedSimpArgs false

/-! ### spec_l8Line: function 72 -/
def spec_l8Line.f (k : Nat) (a0 : Int) (l1 : List Int) (a2 : Int) : Option (List Int) := if 0 ≤ (Int.tmod (wrap64 (Int.tdiv a2 3)) 3) then (if (Int.tmod (wrap64 (Int.tdiv a2 3)) 3) < (l1.length : Int) then (if 0 ≤ (Int.tmod a2 3) then (if (Int.tmod a2 3) < (l1.length : Int) then (if (wrap64 (Int.tdiv a2 9)) = 1 then ((spec_l7Of.f k a0 (([(([rd l1 (Int.tmod (wrap64 (Int.tdiv a2 3)) 3), 0, 1, 0] : List Int)), (([0, rd l1 (Int.tmod a2 3), 0, 1] : List Int))] : List (List Int)))).bind fun bt208 => (some bt208.1)) else (if (wrap64 (Int.tdiv a2 9)) = 2 then ((spec_l7Of.f k a0 (([(([rd l1 (Int.tmod (wrap64 (Int.tdiv a2 3)) 3), 0, 0, 1] : List Int)), (([0, rd l1 (Int.tmod a2 3), 1, 0] : List Int))] : List (List Int)))).bind fun bt221 => (some bt221.1)) else ((spec_l7Of.f k a0 (([(([rd l1 (Int.tmod (wrap64 (Int.tdiv a2 3)) 3), 1, 0, 0] : List Int)), (([0, 0, rd l1 (Int.tmod a2 3), 1] : List Int))] : List (List Int)))).bind fun bt225 => (some bt225.1)))) else (none)) else (none)) else (none)) else (none)
theorem spec_l8Line.mono : ∀ a0 a1 a2 k, LeO (spec_l8Line.f k a0 a1 a2) (spec_l8Line.f (k + 1) a0 a1 a2) := by
 intro a0 a1 a2 k
 unfold spec_l8Line.f
 repeat' first | (with_reducible first | apply spec_l7Of.mono | exact LeO.refl _ | exact LeO.none _ | refine LeO.ite ?_ ?_ | refine LeO.bind ?_ (fun _ => ?_)) | (first | apply spec_l7Of.mono | exact LeO.none _ | refine LeO.ite ?_ ?_ | refine LeO.bind ?_ (fun _ => ?_))
set_option maxHeartbeats 8000000 in
set_option maxRecDepth 100000 in
theorem spec_l8Line.calls (k : Nat) (a0 : Int) (A1 : Option Addr) (c1 : Nat) (l1 : List Int) (a2 : Int) (r : List Int) (w : World) (hr1 : Kd.C (Kd.int .i64) w A1 l1.length l1) (hc1 : l1.length ≤ c1) (h : spec_l8Line.f k a0 l1 a2 = some r) :
  Calls Try.prog 72 #[.int .i64 a0, .slice A1 l1.length c1, .int .i64 a2] w fun e w' => ∃ v0_ : Value, e = .returned (v0_) ∧ Kd.R (Kd.int .i64) 3 w' w.heap.size (fun _ => True) v0_ r ∧ Below w.heap.size w w' := by
 have HR1 := am hr1
 have HC1 := am hc1
 clear hr1 hc1
 have HB := am (Below.refl w.heap.size w)
 have H : (if 0 ≤ (Int.tmod (wrap64 (Int.tdiv a2 3)) 3) then (if (Int.tmod (wrap64 (Int.tdiv a2 3)) 3) < (l1.length : Int) then (if 0 ≤ (Int.tmod a2 3) then (if (Int.tmod a2 3) < (l1.length : Int) then (if (wrap64 (Int.tdiv a2 9)) = 1 then ((spec_l7Of.f k a0 (([(([rd l1 (Int.tmod (wrap64 (Int.tdiv a2 3)) 3), 0, 1, 0] : List Int)), (([0, rd l1 (Int.tmod a2 3), 0, 1] : List Int))] : List (List Int)))).bind fun bt208 => (some bt208.1)) else (if (wrap64 (Int.tdiv a2 9)) = 2 then ((spec_l7Of.f k a0 (([(([rd l1 (Int.tmod (wrap64 (Int.tdiv a2 3)) 3), 0, 0, 1] : List Int)), (([0, rd l1 (Int.tmod a2 3), 1, 0] : List Int))] : List (List Int)))).bind fun bt221 => (some bt221.1)) else ((spec_l7Of.f k a0 (([(([rd l1 (Int.tmod (wrap64 (Int.tdiv a2 3)) 3), 1, 0, 0] : List Int)), (([0, 0, rd l1 (Int.tmod a2 3), 1] : List Int))] : List (List Int)))).bind fun bt225 => (some bt225.1)))) else (none)) else (none)) else (none)) else (none)) = some r := h
 clear h
 obtain ⟨ji4, hji4⟩ : ∃ j_ : Int, (Int.tmod (wrap64 (Int.tdiv a2 3)) 3) = j_ := ⟨_, rfl⟩
 (first | rw [hji4] at H | simp only [hji4] at H)
 by_cases c5 : 0 ≤ (ji4)
 ·rw [if_pos c5] at H
  have c5b0 := decide_eq_true c5; clear c5; replace H := ifn H; obtain ⟨c6, H⟩ := H; have c6b0 := decide_eq_true c6; clear c6
  obtain ⟨ji7, hji7⟩ : ∃ j_ : Int, (Int.tmod a2 3) = j_ := ⟨_, rfl⟩
  (first | rw [hji7] at H | simp only [hji7] at H)
  replace H := ifn H; obtain ⟨c8, H⟩ := H; have c8b0 := decide_eq_true c8; clear c8; replace H := ifn H; obtain ⟨c9, H⟩ := H; have c9b0 := decide_eq_true c9; clear c9
  generalize hy190 : (([rd l1 (ji4), 1, 0, 0] : List Int)) = y190 at H
  have Ny190 := am hy190.symm; clear hy190
  generalize hy193 : (([0, 0, rd l1 (ji7), 1] : List Int)) = y193 at H
  have Ny193 := am hy193.symm; clear hy193
  generalize hy196 : (([y190, y193] : List (List Int))) = y196 at H
  have Ny196 := am hy196.symm; clear hy196
  by_cases c10 : (wrap64 (Int.tdiv a2 9)) = 1
  ·rw [if_pos c10] at H
   have c10b0 := beq_iff_eq.mpr c10; have c10b1 := bne_eq_false_iff_eq.mpr c10; clear c10
   generalize hy199 : (([rd l1 (ji4), 0, 1, 0] : List Int)) = y199 at H
   have Ny199 := am hy199.symm; clear hy199
   generalize hy202 : (([0, rd l1 (ji7), 0, 1] : List Int)) = y202 at H
   have Ny202 := am hy202.symm; clear hy202
   generalize hy205 : (([y199, y202] : List (List Int))) = y205 at H
   have Ny205 := am hy205.symm; clear hy205; replace H := bs H
   obtain ⟨⟨t208, t209⟩, A11, H⟩ := H
   dsimp only at H
   obtain rfl := Option.some.inj H
   have p188 : 0 ≤ ((ji4) : Int) := od
   have q188 : (ji4) < (l1.length : Int) := od
   obtain ⟨ad188, e188, hx188_0⟩ := Kd.at_int HR1.out (ji4) p188 q188
   cases e188; replace p188 := eq_true p188; replace q188 := eq_true q188
   have p189 : 0 ≤ ((ji7) : Int) := od
   have q189 : (ji7) < (l1.length : Int) := od
   obtain ⟨ad189, e189, hx189_0⟩ := Kd.at_int HR1.out (ji7) p189 q189
   obtain rfl : ad188 = ad189 := (by injection e189)
   replace p189 := eq_true p189; replace q189 := eq_true q189
   go_enter Try.func72, Try.ntmps72
   go_wp2_with (first | ((with_reducible refine gate_dst (N := 24) rfl ?_); refine li 3 [rd l1 (ji4), 1, 0, 0] ?_; intro v191 w12 ho13 hb; (first | rw [← Ny190.out] at ho13 | (simp only [Int.reduceToNat] at ho13; rw [← Ny190.out] at ho13)); have HO192 := am (Kd.R_lower ho13 (bz HB)); replace HB := bq HB hb; clear hb ho13) | ((with_reducible refine gate_dst (N := 26) rfl ?_); refine li 3 [0, 0, rd l1 (ji7), 1] ?_; intro v194 w14 ho15 hb; (first | rw [← Ny193.out] at ho15 | (simp only [Int.reduceToNat] at ho15; rw [← Ny193.out] at ho15)); have HO195 := am (Kd.R_lower (Kd.R_new' ho15 (Kd.R_lt (wR HO192))) (bz HB)); replace HO192 := eR HO192 (Kd.R_base ho15) hb; replace HB := bq HB hb; clear hb ho15; obtain ⟨Ao16, co16, eo16⟩ := Kd.R_slice HO192.out; subst eo16; obtain ⟨Ao17, co17, eo17⟩ := Kd.R_slice HO195.out; subst eo17) | ((with_reducible refine gate_dst (N := 27) rfl ?_); refine Kd.N_lit (Kd.slice 3 (Kd.int .i64)) _ 22 ?hg (N' := 27) ?hd (xs := ([y190, y193] : List (List Int))) (inner := [.slice Ao16 y190.length co16, .slice Ao17 y193.length co17]) (ok := (fun _ => True)) (okp := (fun _ => True)) ?hr ?hp (fun _ hk => hk) ((show ∀ k_, w14.heap.size ≤ k_ → (fun _ => True) k_ from fun k_ hk => trivial) _ (Nat.le_refl _)) (Below.refl _ _) (Nat.le_refl _) (by simp) ?_; (case hd => rfl); (case hg => rfl); (case hr => first | (go_simp; done) | (go_simp; rfl)); (case hp => exact (Reps.one (show Kd.FK (Kd.slice 3 (Kd.int .i64)) _ _ y190 [.slice Ao16 y190.length co16] from (Kd.FK_slice_mk (Kd.R_reads' (Kd.R_mono (ok' := (fun _ => True)) (HO192.out) (fun k_ hk => trivial))).2.1 (Kd.R_F (Kd.R_mono (ok' := (fun _ => True)) (HO192.out) (fun k_ hk => trivial))))) (Reps.one (show Kd.FK (Kd.slice 3 (Kd.int .i64)) _ _ y193 [.slice Ao17 y193.length co17] from (Kd.FK_slice_mk (Kd.R_reads' (Kd.R_mono (ok' := (fun _ => True)) (HO195.out) (fun k_ hk => trivial))).2.1 (Kd.R_F (Kd.R_mono (ok' := (fun _ => True)) (HO195.out) (fun k_ hk => trivial))))) (Reps.none _ _)))); intro v197 w18 ho19 hb hg_ hnew_; clear hg_ hnew_; (first | rw [← Ny196.out] at ho19 | (simp only [Int.reduceToNat] at ho19; rw [← Ny196.out] at ho19)); have HO198 := am (Kd.N_lower ho19 (bz HB)); replace HB := bq HB hb; clear HO192 HO195; clear hb ho19) | ((with_reducible refine gate_dst (N := 33) rfl ?_); refine li 3 [rd l1 (ji4), 0, 1, 0] ?_; intro v200 w20 ho21 hb; (first | rw [← Ny199.out] at ho21 | (simp only [Int.reduceToNat] at ho21; rw [← Ny199.out] at ho21)); replace HO198 := eN HO198 (Kd.R_base ho21) hb; have HO201 := am (Kd.R_lower ho21 (bz HB)); replace HB := bq HB hb; clear hb ho21) | ((with_reducible refine gate_dst (N := 35) rfl ?_); refine li 3 [0, rd l1 (ji7), 0, 1] ?_; intro v203 w22 ho23 hb; (first | rw [← Ny202.out] at ho23 | (simp only [Int.reduceToNat] at ho23; rw [← Ny202.out] at ho23)); replace HO198 := eN HO198 (Kd.R_base ho23) hb; have HO204 := am (Kd.R_lower (Kd.R_new' ho23 (Kd.R_lt (wR HO201))) (bz HB)); replace HO201 := eR HO201 (Kd.R_base ho23) hb; replace HB := bq HB hb; clear hb ho23; obtain ⟨Ao24, co24, eo24⟩ := Kd.R_slice HO201.out; subst eo24; obtain ⟨Ao25, co25, eo25⟩ := Kd.R_slice HO204.out; subst eo25) | ((with_reducible refine gate_dst (N := 36) rfl ?_); refine Kd.N_lit (Kd.slice 3 (Kd.int .i64)) _ 22 ?hg (N' := 36) ?hd (xs := ([y199, y202] : List (List Int))) (inner := [.slice Ao24 y199.length co24, .slice Ao25 y202.length co25]) (ok := (fun k_ => some k_ ≠ (v197 : Value).ownBlock)) (okp := (fun k_ => some k_ ≠ (v197 : Value).ownBlock)) ?hr ?hp (fun _ hk => hk) ((show ∀ k_, w22.heap.size ≤ k_ → (fun k_ => some k_ ≠ (v197 : Value).ownBlock) k_ from fun k_ hk => Kd.fresh' (Kd.N_lt (wN HO198)) k_ hk) _ (Nat.le_refl _)) (Below.refl _ _) (Nat.le_refl _) (by simp) ?_; (case hd => rfl); (case hg => rfl); (case hr => first | (go_simp; done) | (go_simp; rfl)); (case hp => exact (Reps.one (show Kd.FK (Kd.slice 3 (Kd.int .i64)) _ _ y199 [.slice Ao24 y199.length co24] from (Kd.FK_slice_mk (Kd.R_reads' (Kd.R_mono (ok' := (fun k_ => some k_ ≠ (v197 : Value).ownBlock)) (Kd.R_apart' (HO201.out) (Kd.N_typed HO198.out) (by decide)) (fun k_ hk => hk.2))).2.1 (Kd.R_F (Kd.R_mono (ok' := (fun k_ => some k_ ≠ (v197 : Value).ownBlock)) (Kd.R_apart' (HO201.out) (Kd.N_typed HO198.out) (by decide)) (fun k_ hk => hk.2))))) (Reps.one (show Kd.FK (Kd.slice 3 (Kd.int .i64)) _ _ y202 [.slice Ao25 y202.length co25] from (Kd.FK_slice_mk (Kd.R_reads' (Kd.R_mono (ok' := (fun k_ => some k_ ≠ (v197 : Value).ownBlock)) (Kd.R_apart' (HO204.out) (Kd.N_typed HO198.out) (by decide)) (fun k_ hk => hk.2))).2.1 (Kd.R_F (Kd.R_mono (ok' := (fun k_ => some k_ ≠ (v197 : Value).ownBlock)) (Kd.R_apart' (HO204.out) (Kd.N_typed HO198.out) (by decide)) (fun k_ hk => hk.2))))) (Reps.none _ _)))); intro v206 w26 ho27 hb hg_ hnew_; clear hg_ hnew_; (first | rw [← Ny205.out] at ho27 | (simp only [Int.reduceToNat] at ho27; rw [← Ny205.out] at ho27)); replace HO198 := eN HO198 (Kd.N_base ho27) hb; have HO207 := am (Kd.N_lower ho27 (bz HB)); replace HB := bq HB hb; clear HO201 HO204; clear hb ho27; obtain ⟨Ao28, co28, eo28⟩ := Kd.N_slice HO207.out; subst eo28) | ((with_reducible refine gate_callee (f := 91) rfl ?_); refine gl 47 Try.func91 #[.int .i64 a0, .slice Ao28 y205.length co28] ?_; (with_reducible refine (spec_l7Of.calls k a0 _ _ y205 t208 t209 _ ?_ ?_ A11.out).mono ?_); exact Kd.C_below (Kd.N_reads' HO207.out).2.2 gs; exact (Kd.N_reads' HO207.out).2.1; rintro e w29 ⟨v210, rfl, ho0, hb⟩; refine ⟨_, rfl, ?_⟩; replace HO198 := eN HO198 (Kd.R_base ho0) hb; replace HO207 := eN HO207 (Kd.R_base ho0) hb; have HO211 := am (Kd.R_lower ho0 (bz HB)); replace HB := bq HB hb; (try clear hb); (try clear ho0)))
   go_ret
   exact ⟨_, by first | rfl | (simp [errW_none, errW_some] <;> rfl) | (simp only [← hji4, ← hji7]; first | rfl | (simp [errW_none, errW_some] <;> rfl)) | (simp [*, errW_none, errW_some] <;> rfl), wR HO211, bw HB⟩
  ·rw [if_neg c10] at H
   have c10b0 := beq_eq_false_iff_ne.mpr c10; have c10b1 := bne_iff_ne.mpr c10
   by_cases c30 : (wrap64 (Int.tdiv a2 9)) = 2
   ·rw [if_pos c30] at H
    have c30b0 := beq_iff_eq.mpr c30; have c30b1 := bne_eq_false_iff_eq.mpr c30; clear c30
    generalize hy212 : (([rd l1 (ji4), 0, 0, 1] : List Int)) = y212 at H
    have Ny212 := am hy212.symm; clear hy212
    generalize hy215 : (([0, rd l1 (ji7), 1, 0] : List Int)) = y215 at H
    have Ny215 := am hy215.symm; clear hy215
    generalize hy218 : (([y212, y215] : List (List Int))) = y218 at H
    have Ny218 := am hy218.symm; clear hy218; replace H := bs H
    obtain ⟨⟨t221, t222⟩, A31, H⟩ := H
    dsimp only at H
    obtain rfl := Option.some.inj H
    have p188 : 0 ≤ ((ji4) : Int) := od
    have q188 : (ji4) < (l1.length : Int) := od
    obtain ⟨ad188, e188, hx188_0⟩ := Kd.at_int HR1.out (ji4) p188 q188
    cases e188; replace p188 := eq_true p188; replace q188 := eq_true q188
    have p189 : 0 ≤ ((ji7) : Int) := od
    have q189 : (ji7) < (l1.length : Int) := od
    obtain ⟨ad189, e189, hx189_0⟩ := Kd.at_int HR1.out (ji7) p189 q189
    obtain rfl : ad188 = ad189 := (by injection e189)
    replace p189 := eq_true p189; replace q189 := eq_true q189
    go_enter Try.func72, Try.ntmps72
    go_wp2_with (first | ((with_reducible refine gate_dst (N := 24) rfl ?_); refine li 3 [rd l1 (ji4), 1, 0, 0] ?_; intro v191 w32 ho33 hb; (first | rw [← Ny190.out] at ho33 | (simp only [Int.reduceToNat] at ho33; rw [← Ny190.out] at ho33)); have HO192 := am (Kd.R_lower ho33 (bz HB)); replace HB := bq HB hb; clear hb ho33) | ((with_reducible refine gate_dst (N := 26) rfl ?_); refine li 3 [0, 0, rd l1 (ji7), 1] ?_; intro v194 w34 ho35 hb; (first | rw [← Ny193.out] at ho35 | (simp only [Int.reduceToNat] at ho35; rw [← Ny193.out] at ho35)); have HO195 := am (Kd.R_lower (Kd.R_new' ho35 (Kd.R_lt (wR HO192))) (bz HB)); replace HO192 := eR HO192 (Kd.R_base ho35) hb; replace HB := bq HB hb; clear hb ho35; obtain ⟨Ao36, co36, eo36⟩ := Kd.R_slice HO192.out; subst eo36; obtain ⟨Ao37, co37, eo37⟩ := Kd.R_slice HO195.out; subst eo37) | ((with_reducible refine gate_dst (N := 27) rfl ?_); refine Kd.N_lit (Kd.slice 3 (Kd.int .i64)) _ 22 ?hg (N' := 27) ?hd (xs := ([y190, y193] : List (List Int))) (inner := [.slice Ao36 y190.length co36, .slice Ao37 y193.length co37]) (ok := (fun _ => True)) (okp := (fun _ => True)) ?hr ?hp (fun _ hk => hk) ((show ∀ k_, w34.heap.size ≤ k_ → (fun _ => True) k_ from fun k_ hk => trivial) _ (Nat.le_refl _)) (Below.refl _ _) (Nat.le_refl _) (by simp) ?_; (case hd => rfl); (case hg => rfl); (case hr => first | (go_simp; done) | (go_simp; rfl)); (case hp => exact (Reps.one (show Kd.FK (Kd.slice 3 (Kd.int .i64)) _ _ y190 [.slice Ao36 y190.length co36] from (Kd.FK_slice_mk (Kd.R_reads' (Kd.R_mono (ok' := (fun _ => True)) (HO192.out) (fun k_ hk => trivial))).2.1 (Kd.R_F (Kd.R_mono (ok' := (fun _ => True)) (HO192.out) (fun k_ hk => trivial))))) (Reps.one (show Kd.FK (Kd.slice 3 (Kd.int .i64)) _ _ y193 [.slice Ao37 y193.length co37] from (Kd.FK_slice_mk (Kd.R_reads' (Kd.R_mono (ok' := (fun _ => True)) (HO195.out) (fun k_ hk => trivial))).2.1 (Kd.R_F (Kd.R_mono (ok' := (fun _ => True)) (HO195.out) (fun k_ hk => trivial))))) (Reps.none _ _)))); intro v197 w38 ho39 hb hg_ hnew_; clear hg_ hnew_; (first | rw [← Ny196.out] at ho39 | (simp only [Int.reduceToNat] at ho39; rw [← Ny196.out] at ho39)); have HO198 := am (Kd.N_lower ho39 (bz HB)); replace HB := bq HB hb; clear HO192 HO195; clear hb ho39) | ((with_reducible refine gate_dst (N := 40) rfl ?_); refine li 3 [rd l1 (ji4), 0, 0, 1] ?_; intro v213 w40 ho41 hb; (first | rw [← Ny212.out] at ho41 | (simp only [Int.reduceToNat] at ho41; rw [← Ny212.out] at ho41)); replace HO198 := eN HO198 (Kd.R_base ho41) hb; have HO214 := am (Kd.R_lower ho41 (bz HB)); replace HB := bq HB hb; clear hb ho41) | ((with_reducible refine gate_dst (N := 42) rfl ?_); refine li 3 [0, rd l1 (ji7), 1, 0] ?_; intro v216 w42 ho43 hb; (first | rw [← Ny215.out] at ho43 | (simp only [Int.reduceToNat] at ho43; rw [← Ny215.out] at ho43)); replace HO198 := eN HO198 (Kd.R_base ho43) hb; have HO217 := am (Kd.R_lower (Kd.R_new' ho43 (Kd.R_lt (wR HO214))) (bz HB)); replace HO214 := eR HO214 (Kd.R_base ho43) hb; replace HB := bq HB hb; clear hb ho43; obtain ⟨Ao44, co44, eo44⟩ := Kd.R_slice HO214.out; subst eo44; obtain ⟨Ao45, co45, eo45⟩ := Kd.R_slice HO217.out; subst eo45) | ((with_reducible refine gate_dst (N := 43) rfl ?_); refine Kd.N_lit (Kd.slice 3 (Kd.int .i64)) _ 22 ?hg (N' := 43) ?hd (xs := ([y212, y215] : List (List Int))) (inner := [.slice Ao44 y212.length co44, .slice Ao45 y215.length co45]) (ok := (fun k_ => some k_ ≠ (v197 : Value).ownBlock)) (okp := (fun k_ => some k_ ≠ (v197 : Value).ownBlock)) ?hr ?hp (fun _ hk => hk) ((show ∀ k_, w42.heap.size ≤ k_ → (fun k_ => some k_ ≠ (v197 : Value).ownBlock) k_ from fun k_ hk => Kd.fresh' (Kd.N_lt (wN HO198)) k_ hk) _ (Nat.le_refl _)) (Below.refl _ _) (Nat.le_refl _) (by simp) ?_; (case hd => rfl); (case hg => rfl); (case hr => first | (go_simp; done) | (go_simp; rfl)); (case hp => exact (Reps.one (show Kd.FK (Kd.slice 3 (Kd.int .i64)) _ _ y212 [.slice Ao44 y212.length co44] from (Kd.FK_slice_mk (Kd.R_reads' (Kd.R_mono (ok' := (fun k_ => some k_ ≠ (v197 : Value).ownBlock)) (Kd.R_apart' (HO214.out) (Kd.N_typed HO198.out) (by decide)) (fun k_ hk => hk.2))).2.1 (Kd.R_F (Kd.R_mono (ok' := (fun k_ => some k_ ≠ (v197 : Value).ownBlock)) (Kd.R_apart' (HO214.out) (Kd.N_typed HO198.out) (by decide)) (fun k_ hk => hk.2))))) (Reps.one (show Kd.FK (Kd.slice 3 (Kd.int .i64)) _ _ y215 [.slice Ao45 y215.length co45] from (Kd.FK_slice_mk (Kd.R_reads' (Kd.R_mono (ok' := (fun k_ => some k_ ≠ (v197 : Value).ownBlock)) (Kd.R_apart' (HO217.out) (Kd.N_typed HO198.out) (by decide)) (fun k_ hk => hk.2))).2.1 (Kd.R_F (Kd.R_mono (ok' := (fun k_ => some k_ ≠ (v197 : Value).ownBlock)) (Kd.R_apart' (HO217.out) (Kd.N_typed HO198.out) (by decide)) (fun k_ hk => hk.2))))) (Reps.none _ _)))); intro v219 w46 ho47 hb hg_ hnew_; clear hg_ hnew_; (first | rw [← Ny218.out] at ho47 | (simp only [Int.reduceToNat] at ho47; rw [← Ny218.out] at ho47)); replace HO198 := eN HO198 (Kd.N_base ho47) hb; have HO220 := am (Kd.N_lower ho47 (bz HB)); replace HB := bq HB hb; clear HO214 HO217; clear hb ho47; obtain ⟨Ao48, co48, eo48⟩ := Kd.N_slice HO220.out; subst eo48) | ((with_reducible refine gate_callee (f := 91) rfl ?_); refine gl 47 Try.func91 #[.int .i64 a0, .slice Ao48 y218.length co48] ?_; (with_reducible refine (spec_l7Of.calls k a0 _ _ y218 t221 t222 _ ?_ ?_ A31.out).mono ?_); exact Kd.C_below (Kd.N_reads' HO220.out).2.2 gs; exact (Kd.N_reads' HO220.out).2.1; rintro e w49 ⟨v223, rfl, ho0, hb⟩; refine ⟨_, rfl, ?_⟩; replace HO198 := eN HO198 (Kd.R_base ho0) hb; replace HO220 := eN HO220 (Kd.R_base ho0) hb; have HO224 := am (Kd.R_lower ho0 (bz HB)); replace HB := bq HB hb; (try clear hb); (try clear ho0)))
    go_ret
    exact ⟨_, by first | rfl | (simp [errW_none, errW_some] <;> rfl) | (simp only [← hji4, ← hji7]; first | rfl | (simp [errW_none, errW_some] <;> rfl)) | (simp [*, errW_none, errW_some] <;> rfl), wR HO224, bw HB⟩
   ·rw [if_neg c30] at H
    have c30b0 := beq_eq_false_iff_ne.mpr c30; have c30b1 := bne_iff_ne.mpr c30; replace H := bs H
    obtain ⟨⟨t225, t226⟩, A50, H⟩ := H
    dsimp only at H
    obtain rfl := Option.some.inj H
    have p188 : 0 ≤ ((ji4) : Int) := od
    have q188 : (ji4) < (l1.length : Int) := od
    obtain ⟨ad188, e188, hx188_0⟩ := Kd.at_int HR1.out (ji4) p188 q188
    cases e188; replace p188 := eq_true p188; replace q188 := eq_true q188
    have p189 : 0 ≤ ((ji7) : Int) := od
    have q189 : (ji7) < (l1.length : Int) := od
    obtain ⟨ad189, e189, hx189_0⟩ := Kd.at_int HR1.out (ji7) p189 q189
    obtain rfl : ad188 = ad189 := (by injection e189)
    replace p189 := eq_true p189; replace q189 := eq_true q189
    go_enter Try.func72, Try.ntmps72
    go_wp2_with (first | ((with_reducible refine gate_dst (N := 24) rfl ?_); refine li 3 [rd l1 (ji4), 1, 0, 0] ?_; intro v191 w51 ho52 hb; (first | rw [← Ny190.out] at ho52 | (simp only [Int.reduceToNat] at ho52; rw [← Ny190.out] at ho52)); have HO192 := am (Kd.R_lower ho52 (bz HB)); replace HB := bq HB hb; clear hb ho52) | ((with_reducible refine gate_dst (N := 26) rfl ?_); refine li 3 [0, 0, rd l1 (ji7), 1] ?_; intro v194 w53 ho54 hb; (first | rw [← Ny193.out] at ho54 | (simp only [Int.reduceToNat] at ho54; rw [← Ny193.out] at ho54)); have HO195 := am (Kd.R_lower (Kd.R_new' ho54 (Kd.R_lt (wR HO192))) (bz HB)); replace HO192 := eR HO192 (Kd.R_base ho54) hb; replace HB := bq HB hb; clear hb ho54; obtain ⟨Ao55, co55, eo55⟩ := Kd.R_slice HO192.out; subst eo55; obtain ⟨Ao56, co56, eo56⟩ := Kd.R_slice HO195.out; subst eo56) | ((with_reducible refine gate_dst (N := 27) rfl ?_); refine Kd.N_lit (Kd.slice 3 (Kd.int .i64)) _ 22 ?hg (N' := 27) ?hd (xs := ([y190, y193] : List (List Int))) (inner := [.slice Ao55 y190.length co55, .slice Ao56 y193.length co56]) (ok := (fun _ => True)) (okp := (fun _ => True)) ?hr ?hp (fun _ hk => hk) ((show ∀ k_, w53.heap.size ≤ k_ → (fun _ => True) k_ from fun k_ hk => trivial) _ (Nat.le_refl _)) (Below.refl _ _) (Nat.le_refl _) (by simp) ?_; (case hd => rfl); (case hg => rfl); (case hr => first | (go_simp; done) | (go_simp; rfl)); (case hp => exact (Reps.one (show Kd.FK (Kd.slice 3 (Kd.int .i64)) _ _ y190 [.slice Ao55 y190.length co55] from (Kd.FK_slice_mk (Kd.R_reads' (Kd.R_mono (ok' := (fun _ => True)) (HO192.out) (fun k_ hk => trivial))).2.1 (Kd.R_F (Kd.R_mono (ok' := (fun _ => True)) (HO192.out) (fun k_ hk => trivial))))) (Reps.one (show Kd.FK (Kd.slice 3 (Kd.int .i64)) _ _ y193 [.slice Ao56 y193.length co56] from (Kd.FK_slice_mk (Kd.R_reads' (Kd.R_mono (ok' := (fun _ => True)) (HO195.out) (fun k_ hk => trivial))).2.1 (Kd.R_F (Kd.R_mono (ok' := (fun _ => True)) (HO195.out) (fun k_ hk => trivial))))) (Reps.none _ _)))); intro v197 w57 ho58 hb hg_ hnew_; clear hg_ hnew_; (first | rw [← Ny196.out] at ho58 | (simp only [Int.reduceToNat] at ho58; rw [← Ny196.out] at ho58)); have HO198 := am (Kd.N_lower ho58 (bz HB)); replace HB := bq HB hb; clear HO192 HO195; clear hb ho58; obtain ⟨Ao59, co59, eo59⟩ := Kd.N_slice HO198.out; subst eo59) | ((with_reducible refine gate_callee (f := 91) rfl ?_); refine gl 47 Try.func91 #[.int .i64 a0, .slice Ao59 y196.length co59] ?_; (with_reducible refine (spec_l7Of.calls k a0 _ _ y196 t225 t226 _ ?_ ?_ A50.out).mono ?_); exact Kd.C_below (Kd.N_reads' HO198.out).2.2 gs; exact (Kd.N_reads' HO198.out).2.1; rintro e w60 ⟨v227, rfl, ho0, hb⟩; refine ⟨_, rfl, ?_⟩; replace HO198 := eN HO198 (Kd.R_base ho0) hb; have HO228 := am (Kd.R_lower ho0 (bz HB)); replace HB := bq HB hb; (try clear hb); (try clear ho0)))
    go_ret
    exact ⟨_, by first | rfl | (simp [errW_none, errW_some] <;> rfl) | (simp only [← hji4, ← hji7]; first | rfl | (simp [errW_none, errW_some] <;> rfl)) | (simp [*, errW_none, errW_some] <;> rfl), wR HO228, bw HB⟩
 ·rw [if_neg c5] at H
  exact absurd H (by simp)/-! ### spec_l8Lines: function 79 -/
def spec_l8Lines.l0 : Nat → Int → List Int → List (List Int) → Int → Option ((List (List Int)))
 | 0, _, _, _, _ => none
 | k + 1, x0, x1, x5, x6 => if x6 < 27 then ((spec_l8Line.f k x0 x1 x6).bind fun t232 => (if x5.length < 5864062014805 then (spec_l8Lines.l0 k x0 x1 (x5 ++ [t232]) (wrap64 (x6 + 1))) else (none))) else (some x5)
def spec_l8Lines.f (k : Nat) (a0 : Int) (l1 : List Int) : Option ((List (List Int))) := spec_l8Lines.l0 k a0 l1 (([] : List (List Int))) 0
theorem spec_l8Lines.mono_l : ∀ k, (∀ y0 y1 y2 y3, LeO (spec_l8Lines.l0 k y0 y1 y2 y3) (spec_l8Lines.l0 (k + 1) y0 y1 y2 y3))
 | 0 => fun _ _ _ _ r h => by simp [spec_l8Lines.l0] at h
 | k + 1 => by
  have ih0 := spec_l8Lines.mono_l k
  ·intro y0 y1 y2 y3
   unfold spec_l8Lines.l0
   repeat' first | (with_reducible first | apply ih0 | apply spec_l8Line.mono | exact LeO.refl _ | exact LeO.none _ | refine LeO.ite ?_ ?_ | refine LeO.bind ?_ (fun _ => ?_)) | (first | apply ih0 | apply spec_l8Line.mono | exact LeO.none _ | refine LeO.ite ?_ ?_ | refine LeO.bind ?_ (fun _ => ?_))
theorem spec_l8Lines.mono : ∀ a0 a1 k, LeO (spec_l8Lines.f k a0 a1) (spec_l8Lines.f (k + 1) a0 a1) := by
 intro a0 a1 k
 have ih0 := spec_l8Lines.mono_l k
 unfold spec_l8Lines.f
 repeat' first | (with_reducible first | apply ih0 | apply spec_l8Line.mono | exact LeO.refl _ | exact LeO.none _ | refine LeO.ite ?_ ?_ | refine LeO.bind ?_ (fun _ => ?_)) | (first | apply ih0 | apply spec_l8Line.mono | exact LeO.none _ | refine LeO.ite ?_ ?_ | refine LeO.bind ?_ (fun _ => ?_))
set_option maxHeartbeats 8000000 in
set_option maxRecDepth 100000 in
theorem spec_l8Lines.calls (k : Nat) (a0 : Int) (A1 : Option Addr) (c1 : Nat) (l1 : List Int) (r : List (List Int)) (w : World) (hr1 : Kd.C (Kd.int .i64) w A1 l1.length l1) (hc1 : l1.length ≤ c1) (h : spec_l8Lines.f k a0 l1 = some r) :
  Calls Try.prog 79 #[.int .i64 a0, .slice A1 l1.length c1] w fun e w' => ∃ v0_ : Value, e = .returned (v0_) ∧ Kd.S (Kd.slice 3 (Kd.int .i64)) 22 w' w.heap.size (fun _ => True) v0_ r ∧ Below w.heap.size w w' := by
 have HR1 := am hr1
 have HC1 := am hc1
 clear hr1 hc1
 have HB := am (Below.refl w.heap.size w)
 have H : (spec_l8Lines.l0 k a0 l1 (([] : List (List Int))) 0) = some r := h
 clear h
 generalize hy229 : (([] : List (List Int))) = y229 at H
 have Ny229 := am hy229.symm; clear hy229; have H' := am H; clear H
 go_enter Try.func79, Try.ntmps79
 go_wp2_with (first | ((with_reducible refine gate_dst (N := 7) rfl ?_); refine Kd.S_lit (Kd.slice 3 (Kd.int .i64)) _ 22 ?hg (N := 7) ?hd (xs := ([] : List (List Int))) (inner := []) (ok := fun _ => True) (okp := fun _ => True) ?hr ?hp (fun _ hk => hk) trivial (Below.refl _ _) (Nat.le_refl _) (by simp) ?_; (case hd => rfl); (case hg => rfl); (case hr => first | (go_simp; done) | (go_simp; rfl)); (case hp => exact (Reps.none _ _)); intro v230 w3 ho4 hb hg_ hnew_; clear hg_ hnew_; (first | rw [← Ny229.out] at ho4 | (simp only [Int.reduceToNat] at ho4; rw [← Ny229.out] at ho4)); have HO231 := am (Kd.S_lower ho4 (bz HB)); replace HB := bq HB hb; clear hb ho4))
 go_loopg [5, 6] k (fun kq v5 v6 w' => ∃ (x5_1 : List (List Int)) (x6_1 : Int), v6 = .int .i64 x6_1 ∧ Aside0 (spec_l8Lines.l0 kq a0 l1 x5_1 x6_1 = some r) ∧ Aside0 (kq ≤ k) ∧ Aside0 (Kd.S (Kd.slice 3 (Kd.int .i64)) 22 w' w.heap.size (fun _ => True) v5 x5_1) ∧ Aside0 (Below w.heap.size w w'))
 case atStart => exact ⟨(y229), (0), fr, H', ⟨Nat.le_refl _⟩, ⟨wS HO231⟩, ⟨bw HB⟩⟩
 case round =>
  clear H'; try clear c1; try clear p2
  obtain ⟨x5_1, x6_1, rfl, HA, HK1, HO_5, HB⟩ := hrel
  cases gk with
  | zero => exact absurd HA.out (by simp [spec_l8Lines.l0])
  | succ k1 =>
   have H := HA.out; clear HA
   simp only [spec_l8Lines.l0] at H
   by_cases c5 : x6_1 < 27
   ·rw [if_pos c5] at H
    have c5b0 := decide_eq_true c5; clear c5; replace H := bs H; obtain ⟨t232, A6, H⟩ := H; replace H := ifn H; obtain ⟨c7, H⟩ := H; have LMc7 := am c7; clear c7
    generalize hy235 : (x5_1 ++ [t232] : List (List Int)) = y235 at H
    have Ny235 := am hy235.symm; clear hy235; have H' := am H; clear H
    go_wp2_with (first | ((with_reducible refine gate_callee (f := 72) rfl ?_); refine gl 16 Try.func72 #[.int .i64 a0, .slice A1 l1.length c1, .int .i64 x6_1] ?_; (with_reducible refine (spec_l8Line.calls k1 a0 _ _ l1 x6_1 t232 _ ?_ ?_ A6.out).mono ?_); exact Kd.C_below HR1.out (bw HB); exact HC1.out; rintro e w8 ⟨v233, rfl, ho0, hb⟩; refine ⟨_, rfl, ?_⟩; replace HO_5 := eS HO_5 (Kd.R_base ho0) hb; have HO234 := am (Kd.R_lower ho0 (bz HB)); replace HB := bq HB hb; (try clear hb); (try clear ho0); obtain ⟨Ao10, co10, eo10⟩ := Kd.R_slice HO234.out; subst eo10) | ((with_reducible refine gate_builtin (b := .append) (xs := #[.tmp 12, .tmp 17]) rfl ?_); at_builtin; refine Kd.S_append (Kd.slice 3 (Kd.int .i64)) (w0 := w) w.heap.size rfl (.tmp 12) (.tmp 17) 45 22 (.slice none 0 0) 24 rfl Try.underlying45 info22 rfl (by decide) (by omega) u5 x5_1 t232 [.slice Ao10 t232.length co10] (fun _ => True) (fun k_ => some k_ = (.slice Ao10 t232.length co10 : Value).ownBlock) rfl rfl ?aP (fun k_ hk_ => ((Kd.R_mono (ok' := fun k_ => ((fun _ => True)) k_ ∧ some k_ ≠ (u5 : Value).ownBlock) (Kd.R_apart' (HO234.out) (Kd.S_typed HO_5.out) (by decide)) (fun k_ hk => ⟨trivial, hk.2⟩))).1 k_ hk_.symm) ?aF ?aO ?aB ?aS ?aL ?_; (case aP => exact Kd.M_row (Kd.R_mono (Kd.R_tight rfl (Kd.R_mono (ok' := fun k_ => ((fun _ => True)) k_ ∧ some k_ ≠ (u5 : Value).ownBlock) (Kd.R_apart' (HO234.out) (Kd.S_typed HO_5.out) (by decide)) (fun k_ hk => ⟨trivial, hk.2⟩))) (fun _ h_ => h_))); (case aB => exact (bw HB)); (case aF => exact (fun _ _ => trivial)); (case aO => exact (by (with_reducible repeat (first | apply Kd.S_alloc | apply Kd.S_drewN | apply Kd.S_drew)); exact Kd.S_mono HO_5.out (fun k_ hk => ⟨trivial, fun e_ => hk.2 e_⟩))); (case aS => exact (bz HB)); (case aL => have := LMc7.out; omega); intro v236 w9 ho hb hg hat; rw [← Ny235.out] at ho; replace HB := am (hb); have HO237 := am (ho); clear HO_5 HO234; clear ho hb hg hat))
    go_roundg k1
    case measure => have := HK1.out; omega
    case rel => exact ⟨(y235), (wrap64 (x6_1 + 1)), fr, H', ⟨by have := HK1.out; omega⟩, ⟨wS HO237⟩, ⟨bw HB⟩⟩
   ·rw [if_neg c5] at H
    have c5b0 := decide_eq_false c5; clear c5; obtain rfl := Option.some.inj H; go_wp2; go_ret
    exact ⟨_, fq, wS HO_5, bw HB⟩
end Go.Proofs.Ytmenehnfgenlpaa.PA

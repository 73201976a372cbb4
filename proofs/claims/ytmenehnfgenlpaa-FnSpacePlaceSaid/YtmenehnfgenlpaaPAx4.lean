-- Written by xprint.py, a program of this claim's own (over the kit's print.py)
import Derived.Test.YtmenehnfgenlpaaPAx0
import Derived.Test.YtmenehnfgenlpaaPAx3
namespace Go.Proofs.Ytmenehnfgenlpaa.PA
open Go.RowKit Go.Proofs.YtmenehnfgenlpaaW.PrintWords Go.Proofs.YtmenehnfgenlpaaW.PrintLast Go.Proofs.YtmenehnfgenlpaaW.PrintMore
attribute [local go_sem] max2_int min2_int max_two min_two max_three min_three max_four min_four   -- for this text's walks alone
set_option linter.unusedVariables false
set_option linter.unusedSimpArgs false

/-! ### spec_SpaceCross: function 37 -/
def spec_SpaceCross.f (k : Nat) (a0 : Int) (l1 : List Int) (l2 : List Int) : Option (Bool) := (spec_SpaceIn.f k a0 l1).bind fun t168 => (if t168 = true then ((spec_SpaceIn.f k a0 l2).bind fun t169 => (if t169 = true then (if 4 ≤ (l1.length : Int) then (if 4 ≤ (l2.length : Int) then ((spec_l7Rank.f k a0 (([(l1.take 4), (l1.drop 4), (l2.take 4), (l2.drop 4)] : List (List Int)))).bind fun t193 => (some (t193 == 3))) else (none)) else (none)) else (some false))) else (some false))
theorem spec_SpaceCross.mono : ∀ a0 a1 a2 k, LeO (spec_SpaceCross.f k a0 a1 a2) (spec_SpaceCross.f (k + 1) a0 a1 a2) := by
 intro a0 a1 a2 k
 unfold spec_SpaceCross.f
 repeat' first | (with_reducible first | apply spec_SpaceIn.mono | apply spec_l7Rank.mono | exact LeO.refl _ | exact LeO.none _ | refine LeO.ite ?_ ?_ | refine LeO.bind ?_ (fun _ => ?_)) | (first | apply spec_SpaceIn.mono | apply spec_l7Rank.mono | exact LeO.none _ | refine LeO.ite ?_ ?_ | refine LeO.bind ?_ (fun _ => ?_))
def spec_SpaceCross.T1 : Bool × List (List Nat × List Nat) := (true, [([], []), ([], []), ([0, 1], [0, 1]), ([2, 2], [2]), ([3], [3]), ([3], [3]), ([4, 5, 3, 3], [3, 4, 5]), ([3, 6], [3, 6]), ([7, 6], [7]), ([8], [8]), ([8], [8]), ([10, 8], [8, 10]), ([8], [8]), ([12, 8], [8, 12]), ([8], [8]), ([14, 8], [8, 14]), ([8], [8]), ([16, 8], [8, 16]), ([11, 13, 15, 17, 8], [8, 11, 13, 15, 17]), ([9, 18, 8, 8], [8, 9, 18]), ([19, 8], [8, 19]), ([8, 20], [8, 20]), ([21, 19, 0, 1, 2, 3, 4, 5, 6, 7, 8, 9, 10, 11, 12, 13, 14, 15, 16, 17, 18, 19, 20, 21], [21])])
def spec_SpaceCross.B1 : List Nat := [0, 0, 3, 7, 15, 15, 63, 127, 255, 511, 511, 1535, 511, 4607, 511, 16895, 511, 66047, 261631, 524287, 1048575, 2097151, 4194303]
theorem spec_SpaceCross.tab1 : rtab .any (opsOf Try.f37 1) = spec_SpaceCross.T1 := by kernel_rfl
theorem spec_SpaceCross.bits1 : waitsOk spec_SpaceCross.T1.2 spec_SpaceCross.B1 = true := by kernel_rfl
set_option maxHeartbeats 8000000 in
set_option maxRecDepth 100000 in
theorem spec_SpaceCross.calls (k : Nat) (a0 : Int) (P1_ : Nat → Prop) (A1 : Option Addr) (c1 : Nat) (l1 : List Int) (P2_ : Nat → Prop) (A2 : Option Addr) (c2 : Nat) (l2 : List Int) (r : Bool) (w : World) (hs1 : Kd.V (Kd.int .i64) 3 w w.heap.size (fun k_ => P1_ k_) (.slice A1 l1.length c1) l1) (hs2 : Kd.V (Kd.int .i64) 3 w w.heap.size (fun k_ => P2_ k_) (.slice A2 l2.length c2) l2) (h : spec_SpaceCross.f k a0 l1 l2 = some r) :
  Calls Try.prog 37 #[.int .i64 a0, .slice A1 l1.length c1, .slice A2 l2.length c2] w fun e w' => e = .returned (.bool r) ∧ Below w.heap.size w w' := by
 have HO1 := am (show Kd.V (Kd.int .i64) 3 w w.heap.size (fun k_ => ((P1_ k_ ∨ P2_ k_) ∨ w.heap.size ≤ k_)) (.slice A1 l1.length c1) l1 from Kd.V_mono hs1 (fun k_ hk => .inl (.inl hk)))
 have HO2 := am (show Kd.V (Kd.int .i64) 3 w w.heap.size (fun k_ => ((P1_ k_ ∨ P2_ k_) ∨ w.heap.size ≤ k_)) (.slice A2 l2.length c2) l2 from Kd.V_mono hs2 (fun k_ hk => .inl (.inr hk)))
 have HB := am (Below.refl w.heap.size w)
 have H : ((spec_SpaceIn.f k a0 l1).bind fun t168 => (if t168 = true then ((spec_SpaceIn.f k a0 l2).bind fun t169 => (if t169 = true then (if 4 ≤ (l1.length : Int) then (if 4 ≤ (l2.length : Int) then ((spec_l7Rank.f k a0 (([(l1.take 4), (l1.drop 4), (l2.take 4), (l2.drop 4)] : List (List Int)))).bind fun t193 => (some (t193 == 3))) else (none)) else (none)) else (some false))) else (some false))) = some r := h
 clear h; replace H := bs H; obtain ⟨t168, A4, H⟩ := H
 by_cases c5 : t168 = true
 ·subst c5
  rw [if_pos rfl] at H
  replace H := bs H; obtain ⟨t169, A6, H⟩ := H
  by_cases c7 : t169 = true
  ·subst c7
   rw [if_pos rfl] at H
   replace H := ifn H; obtain ⟨c8, H⟩ := H; have c8b0 := eq_true c8; have c8b1 := decide_eq_true c8; clear c8
   generalize hy170 : (l1.take 4 : List Int) = y170 at H
   have Ny170 := am hy170.symm; clear hy170
   have c9b0 := eq_true (od : 4 ≤ (l1.length : Int))
   generalize hy175 : (l1.drop 4 : List Int) = y175 at H
   have Ny175 := am hy175.symm; clear hy175; replace H := ifn H; obtain ⟨c10, H⟩ := H; have c10b0 := eq_true c10; have c10b1 := decide_eq_true c10; clear c10
   generalize hy180 : (l2.take 4 : List Int) = y180 at H
   have Ny180 := am hy180.symm; clear hy180
   have c11b0 := eq_true (od : 4 ≤ (l2.length : Int))
   generalize hy185 : (l2.drop 4 : List Int) = y185 at H
   have Ny185 := am hy185.symm; clear hy185
   generalize hy190 : (([y170, y175, y180, y185] : List (List Int))) = y190 at H
   have Ny190 := am hy190.symm; clear hy190; replace H := bs H; obtain ⟨t193, A12, H⟩ := H; obtain rfl := Option.some.inj H
   go_enter Try.func37, Try.ntmps37
   try go_wp2
   replace HO1 := am (Kd.V_drew HO1.out)
   replace HO2 := am (Kd.V_drew HO2.out)
   replace HB := am (below_drew1 HB.out)
   refine st 23 (fun w' => True) [] spec_SpaceCross.tab1 spec_SpaceCross.bits1 (trivial) fun hHeld HT_ HW_ => ?_
   generalize w.drew = w13 at HO1 HO2 HB hHeld ⊢
   refine pz 0 7 HT_ ?_; refine pz 1 8 HT_ ?_
   refine on 2 (some 9) HT_ fun K hK => ?_
   refine gs_ Try.func23 #[.int .i64 a0, .slice A1 l1.length c1] ?_
   with_reducible refine (spec_SpaceIn.calls k a0 _ _ l1 true _ ?side1 ?side2 A4.out).mono ?_
   (case side1 => exact Kd.C_below (Kd.V_reads' HO1.out).2.2 gs)
   (case side2 => exact (Kd.V_reads' HO1.out).2.1)
   rintro e w14 ⟨rfl, hb⟩
   refine ⟨_, rfl, ?_⟩
   replace HO1 := am (Kd.V_below (wV HO1) hb)
   replace HO2 := am (Kd.V_below (wV HO2) hb)
   replace HB := bq HB hb
   (try clear hb)
   (try clear hb2)
   (try clear hk)
   (try clear hi)
   refine hK.out _ _ trivial fun hHeld => nz ?_
   clear hK K; refine pz 3 10 HT_ ?_; refine pz 4 11 HT_ ?_; refine pz 5 12 HT_ ?_
   refine on 6 (some 13) HT_ fun K hK => ?_
   refine gs_ Try.func23 #[.int .i64 a0, .slice A2 l2.length c2] ?_
   with_reducible refine (spec_SpaceIn.calls k a0 _ _ l2 true _ ?side1 ?side2 A6.out).mono ?_
   (case side1 => exact Kd.C_below (Kd.V_reads' HO2.out).2.2 gs)
   (case side2 => exact (Kd.V_reads' HO2.out).2.1)
   rintro e w15 ⟨rfl, hb⟩
   refine ⟨_, rfl, ?_⟩
   replace HO1 := am (Kd.V_below (wV HO1) hb)
   replace HO2 := am (Kd.V_below (wV HO2) hb)
   replace HB := bq HB hb
   (try clear hb)
   (try clear hb2)
   (try clear hk)
   (try clear hi)
   have q16 : (4 : Int) ≤ ((l1.length : Int) : Int) := od
   obtain ⟨i016, hi016, _, hsz16, _⟩ := info_parts info3
   have hroom16 : l1.length ≤ c1 := (Kd.V_reads' HO1.out).2.1
   have hC16 : Kd.F (Kd.int .i64) _ _ A1 l1.length l1 := (Kd.V_at (base := w.heap.size) HO1.out).2.2
   have hcut16 := cut_to (P := Try.prog) 22 3 .i64 Try.underlying22 hi016 A1 l1.length c1 4 (by omega) q16 hroom16
   have hr16 := Kd.F_take (m := 4) hC16 (by omega)
   have hy16 : y170.length = (4 : Int).toNat := (by rw [Ny170.out, List.length_take]; omega)
   rw [← Ny170.out] at hr16
   rw [← hy16] at hcut16
   have HO174 := am (show Kd.V (Kd.int .i64) 3 _ w.heap.size _ (.slice A1 y170.length c1) y170 from Kd.V_mk (by omega) hr16)
   have HC174 := am (show y170.length ≤ c1 from by omega)
   clear hr16 hC16 hroom16 hi016 hsz16
   have KY16 := am hy16
   clear hy16; replace q16 := eq_true q16
   have q17 : (4 : Int) ≤ ((l1.length : Int) : Int) := od
   obtain ⟨i017, hi017, _, hsz17, _⟩ := info_parts info3
   have hroom17 : l1.length ≤ c1 := (Kd.V_reads' HO1.out).2.1
   have hC17 : Kd.F (Kd.int .i64) _ _ A1 l1.length l1 := (Kd.V_at (base := w.heap.size) HO1.out).2.2
   have hcut17 := cut_from (P := Try.prog) 22 3 .i64 Try.underlying22 hi017 1 hsz17 A1 l1.length c1 4 (by omega) q17
   have hr17 := Kd.F_cut (m := (4 : Int).toNat) (c := c1) hC17 (by omega) hroom17
   obtain ⟨A17, hA17⟩ : ∃ Az_, Az_ = (if c1 = (4 : Int).toNat then A1 else (A1 : Option Addr).map (·.add ((4 : Int).toNat * 1))) := ⟨_, rfl⟩
   obtain ⟨c17, hc17⟩ : ∃ cz_, cz_ = c1 - (4 : Int).toNat := ⟨_, rfl⟩
   have hy17 : y175.length = l1.length - (4 : Int).toNat := (by rw [Ny175.out, List.length_drop] <;> omega)
   rw [show (l1).drop (4 : Int).toNat = y175 from Ny175.out.symm] at hr17
   replace hr17 : Kd.F (Kd.int .i64) _ _ A17 y175.length y175 := (by rw [hA17]; exact hr17)
   rw [← hy17, ← hA17, ← hc17] at hcut17
   have HO179 := am (show Kd.V (Kd.int .i64) 3 _ w.heap.size _ (.slice A17 y175.length c17) y175 from Kd.V_mk (by rw [hy17, hc17]; exact Nat.sub_le_sub_right hroom17 _) hr17)
   have HC179 := am (show y175.length ≤ c17 from by rw [hy17, hc17]; exact Nat.sub_le_sub_right hroom17 _)
   clear hr17 hC17 hroom17 hi017 hsz17 hc17
   have KY17 := am hy17
   have KA17 := am hA17
   clear hy17 hA17; replace q17 := eq_true q17
   have q18 : (4 : Int) ≤ ((l2.length : Int) : Int) := od
   obtain ⟨i018, hi018, _, hsz18, _⟩ := info_parts info3
   have hroom18 : l2.length ≤ c2 := (Kd.V_reads' HO2.out).2.1
   have hC18 : Kd.F (Kd.int .i64) _ _ A2 l2.length l2 := (Kd.V_at (base := w.heap.size) HO2.out).2.2
   have hcut18 := cut_to (P := Try.prog) 22 3 .i64 Try.underlying22 hi018 A2 l2.length c2 4 (by omega) q18 hroom18
   have hr18 := Kd.F_take (m := 4) hC18 (by omega)
   have hy18 : y180.length = (4 : Int).toNat := (by rw [Ny180.out, List.length_take]; omega)
   rw [← Ny180.out] at hr18
   rw [← hy18] at hcut18
   have HO184 := am (show Kd.V (Kd.int .i64) 3 _ w.heap.size _ (.slice A2 y180.length c2) y180 from Kd.V_mk (by omega) hr18)
   have HC184 := am (show y180.length ≤ c2 from by omega)
   clear hr18 hC18 hroom18 hi018 hsz18
   have KY18 := am hy18
   clear hy18; replace q18 := eq_true q18
   have q19 : (4 : Int) ≤ ((l2.length : Int) : Int) := od
   obtain ⟨i019, hi019, _, hsz19, _⟩ := info_parts info3
   have hroom19 : l2.length ≤ c2 := (Kd.V_reads' HO2.out).2.1
   have hC19 : Kd.F (Kd.int .i64) _ _ A2 l2.length l2 := (Kd.V_at (base := w.heap.size) HO2.out).2.2
   have hcut19 := cut_from (P := Try.prog) 22 3 .i64 Try.underlying22 hi019 1 hsz19 A2 l2.length c2 4 (by omega) q19
   have hr19 := Kd.F_cut (m := (4 : Int).toNat) (c := c2) hC19 (by omega) hroom19
   obtain ⟨A19, hA19⟩ : ∃ Az_, Az_ = (if c2 = (4 : Int).toNat then A2 else (A2 : Option Addr).map (·.add ((4 : Int).toNat * 1))) := ⟨_, rfl⟩
   obtain ⟨c19, hc19⟩ : ∃ cz_, cz_ = c2 - (4 : Int).toNat := ⟨_, rfl⟩
   have hy19 : y185.length = l2.length - (4 : Int).toNat := (by rw [Ny185.out, List.length_drop] <;> omega)
   rw [show (l2).drop (4 : Int).toNat = y185 from Ny185.out.symm] at hr19
   replace hr19 : Kd.F (Kd.int .i64) _ _ A19 y185.length y185 := (by rw [hA19]; exact hr19)
   rw [← hy19, ← hA19, ← hc19] at hcut19
   have HO189 := am (show Kd.V (Kd.int .i64) 3 _ w.heap.size _ (.slice A19 y185.length c19) y185 from Kd.V_mk (by rw [hy19, hc19]; exact Nat.sub_le_sub_right hroom19 _) hr19)
   have HC189 := am (show y185.length ≤ c19 from by rw [hy19, hc19]; exact Nat.sub_le_sub_right hroom19 _)
   clear hr19 hC19 hroom19 hi019 hsz19 hc19
   have KY19 := am hy19
   have KA19 := am hA19
   clear hy19 hA19; replace q19 := eq_true q19
   refine hK.out _ _ trivial fun hHeld => nz ?_
   clear hK K; refine pz 7 14 HT_ ?_; refine pz 8 15 HT_ ?_; refine pz 9 16 HT_ ?_; refine pz 10 17 HT_ ?_; refine pz 11 18 HT_ ?_; refine pz 12 19 HT_ ?_; refine pz 13 20 HT_ ?_; refine pz 14 21 HT_ ?_; refine pz 15 22 HT_ ?_; refine pz 16 23 HT_ ?_
   refine pz 17 24 HT_ ?_
   refine on 18 (some 25) HT_ fun K hK => ?_
   refine Kd.N_lit_step (Kd.slice 3 (Kd.int .i64)) _ 22 ?hg (N' := 25) ?hd (xs := ([y170, y175, y180, y185] : List (List Int))) (inner := [.slice A1 y170.length c1, .slice A17 y175.length c17, .slice A2 y180.length c2, .slice A19 y185.length c19]) (ok := (fun k_ => ((P1_ k_ ∨ P2_ k_) ∨ w.heap.size ≤ k_))) (okp := (fun k_ => ((P1_ k_ ∨ P2_ k_) ∨ w.heap.size ≤ k_))) ?hr ?hp (fun _ hk => hk) ((show ∀ k_, w15.heap.size ≤ k_ → (fun k_ => ((P1_ k_ ∨ P2_ k_) ∨ w.heap.size ≤ k_)) k_ from fun k_ hk => (.inr (Nat.le_trans (bz HB) hk))) _ (Nat.le_refl _)) (Below.refl _ _) (Nat.le_refl _) (by simp) ?_; (case hd => rfl); (case hg => rfl); (case hr => first | (go_simp; done) | (go_simp; rfl)); (case hp => exact (Reps.one (show Kd.FK (Kd.slice 3 (Kd.int .i64)) _ _ y170 [.slice A1 y170.length c1] from (Kd.FK_slice_mk (Kd.V_reads' (HO174.out)).2.1 (Kd.V_F (wV HO174)))) (Reps.one (show Kd.FK (Kd.slice 3 (Kd.int .i64)) _ _ y175 [.slice A17 y175.length c17] from (Kd.FK_slice_mk (Kd.V_reads' (HO179.out)).2.1 (Kd.V_F (wV HO179)))) (Reps.one (show Kd.FK (Kd.slice 3 (Kd.int .i64)) _ _ y180 [.slice A2 y180.length c2] from (Kd.FK_slice_mk (Kd.V_reads' (HO184.out)).2.1 (Kd.V_F (wV HO184)))) (Reps.one (show Kd.FK (Kd.slice 3 (Kd.int .i64)) _ _ y185 [.slice A19 y185.length c19] from (Kd.FK_slice_mk (Kd.V_reads' (HO189.out)).2.1 (Kd.V_F (wV HO189)))) (Reps.none _ _))))))
   intro v191 w20 ho21 hb hg_ hnew_
   clear hg_ hnew_
   (first | rw [← Ny190.out] at ho21 | (simp only [Int.reduceToNat] at ho21; rw [← Ny190.out] at ho21))
   replace HO1 := eV HO1 (Kd.N_base ho21) hb
   replace HO2 := eV HO2 (Kd.N_base ho21) hb
   replace HO174 := eV HO174 (Kd.N_base ho21) hb
   replace HO179 := eV HO179 (Kd.N_base ho21) hb
   replace HO184 := eV HO184 (Kd.N_base ho21) hb
   replace HO189 := eV HO189 (Kd.N_base ho21) hb
   have HO192 := am (Kd.N_lower ho21 (bz HB))
   replace HB := bq HB hb
   clear hb ho21
   obtain ⟨Ao22, co22, eo22⟩ := Kd.N_slice HO192.out
   (first | subst eo22 | (injection eo22 with f1_ f2_ f3_; have f4_ := f1_.symm; have f5_ := f3_.symm; clear f1_ f2_ f3_; subst f4_; subst f5_))
   refine hK.out _ _ trivial fun hHeld => nz ?_
   clear hK K
   refine on 19 (some 26) HT_ fun K hK => ?_
   refine gs_ Try.func67 #[.int .i64 a0, .slice Ao22 y190.length co22] ?_
   with_reducible refine (spec_l7Rank.calls k a0 _ _ y190 t193 _ ?side1 ?side2 A12.out).mono ?_
   (case side1 => exact Kd.C_below (Kd.N_reads' HO192.out).2.2 gs)
   (case side2 => exact (Kd.N_reads' HO192.out).2.1)
   rintro e w23 ⟨rfl, hb⟩
   refine ⟨_, rfl, ?_⟩
   replace HO1 := am (Kd.V_below (wV HO1) hb)
   replace HO2 := am (Kd.V_below (wV HO2) hb)
   replace HO174 := am (Kd.V_below (wV HO174) hb)
   replace HO179 := am (Kd.V_below (wV HO179) hb)
   replace HO184 := am (Kd.V_below (wV HO184) hb)
   replace HO189 := am (Kd.V_below (wV HO189) hb)
   replace HO192 := am (Kd.N_below (wN HO192) hb)
   replace HB := bq HB hb
   (try clear hb)
   (try clear hb2)
   (try clear hk)
   (try clear hi)
   refine hK.out _ _ trivial fun hHeld => nz ?_
   clear hK K; refine pz 20 27 HT_ ?_; refine pz 21 28 HT_ ?_; refine pz 22 6 HT_ ?_
   refine done_ (done_of HT_.out (by kernel_rfl)) ?_
   try go_wp2
   go_ret
   exact ⟨fq, bw HB⟩
  ·replace c7 := Bool.eq_false_iff.mpr c7
   subst c7
   rw [if_neg (show ¬ (false = true) by decide)] at H
   obtain rfl := Option.some.inj H
   go_enter Try.func37, Try.ntmps37
   try go_wp2
   replace HO1 := am (Kd.V_drew HO1.out)
   replace HO2 := am (Kd.V_drew HO2.out)
   replace HB := am (below_drew1 HB.out)
   refine st 23 (fun w' => True) [] spec_SpaceCross.tab1 spec_SpaceCross.bits1 (trivial) fun hHeld HT_ HW_ => ?_
   generalize w.drew = w24 at HO1 HO2 HB hHeld ⊢
   refine pz 0 7 HT_ ?_; refine pz 1 8 HT_ ?_
   refine on 2 (some 9) HT_ fun K hK => ?_
   refine gs_ Try.func23 #[.int .i64 a0, .slice A1 l1.length c1] ?_
   with_reducible refine (spec_SpaceIn.calls k a0 _ _ l1 true _ ?side1 ?side2 A4.out).mono ?_
   (case side1 => exact Kd.C_below (Kd.V_reads' HO1.out).2.2 gs)
   (case side2 => exact (Kd.V_reads' HO1.out).2.1)
   rintro e w25 ⟨rfl, hb⟩
   refine ⟨_, rfl, ?_⟩
   replace HO1 := am (Kd.V_below (wV HO1) hb)
   replace HO2 := am (Kd.V_below (wV HO2) hb)
   replace HB := bq HB hb
   (try clear hb)
   (try clear hb2)
   (try clear hk)
   (try clear hi)
   refine hK.out _ _ trivial fun hHeld => nz ?_
   clear hK K; refine pz 3 10 HT_ ?_; refine pz 4 11 HT_ ?_; refine pz 5 12 HT_ ?_
   refine on 6 (some 13) HT_ fun K hK => ?_
   refine gs_ Try.func23 #[.int .i64 a0, .slice A2 l2.length c2] ?_
   with_reducible refine (spec_SpaceIn.calls k a0 _ _ l2 false _ ?side1 ?side2 A6.out).mono ?_
   (case side1 => exact Kd.C_below (Kd.V_reads' HO2.out).2.2 gs)
   (case side2 => exact (Kd.V_reads' HO2.out).2.1)
   rintro e w26 ⟨rfl, hb⟩
   refine ⟨_, rfl, ?_⟩
   replace HO1 := am (Kd.V_below (wV HO1) hb)
   replace HO2 := am (Kd.V_below (wV HO2) hb)
   replace HB := bq HB hb
   (try clear hb)
   (try clear hb2)
   (try clear hk)
   (try clear hi)
   refine hK.out _ _ trivial fun hHeld => nz ?_
   clear hK K; refine pz 7 14 HT_ ?_; refine pz 8 15 HT_ ?_; refine po 9 16 HT_ ?_; refine po 10 17 HT_ ?_; refine po 11 18 HT_ ?_; refine po 12 19 HT_ ?_; refine po 13 20 HT_ ?_; refine po 14 21 HT_ ?_; refine po 15 22 HT_ ?_; refine po 16 23 HT_ ?_
   refine po 17 24 HT_ ?_; refine po 18 25 HT_ ?_; refine po 19 26 HT_ ?_; refine po 20 27 HT_ ?_; refine pz 21 28 HT_ ?_; refine pz 22 6 HT_ ?_
   refine done_ (done_of HT_.out (by kernel_rfl)) ?_
   try go_wp2
   go_ret
   exact ⟨fq, bw HB⟩
 ·replace c5 := Bool.eq_false_iff.mpr c5
  subst c5
  rw [if_neg (show ¬ (false = true) by decide)] at H
  obtain rfl := Option.some.inj H
  go_enter Try.func37, Try.ntmps37
  try go_wp2
  replace HO1 := am (Kd.V_drew HO1.out)
  replace HO2 := am (Kd.V_drew HO2.out)
  replace HB := am (below_drew1 HB.out)
  refine st 23 (fun w' => True) [] spec_SpaceCross.tab1 spec_SpaceCross.bits1 (trivial) fun hHeld HT_ HW_ => ?_
  generalize w.drew = w27 at HO1 HO2 HB hHeld ⊢
  refine pz 0 7 HT_ ?_; refine pz 1 8 HT_ ?_
  refine on 2 (some 9) HT_ fun K hK => ?_
  refine gs_ Try.func23 #[.int .i64 a0, .slice A1 l1.length c1] ?_
  with_reducible refine (spec_SpaceIn.calls k a0 _ _ l1 false _ ?side1 ?side2 A4.out).mono ?_
  (case side1 => exact Kd.C_below (Kd.V_reads' HO1.out).2.2 gs)
  (case side2 => exact (Kd.V_reads' HO1.out).2.1)
  rintro e w28 ⟨rfl, hb⟩
  refine ⟨_, rfl, ?_⟩
  replace HO1 := am (Kd.V_below (wV HO1) hb)
  replace HO2 := am (Kd.V_below (wV HO2) hb)
  replace HB := bq HB hb
  (try clear hb)
  (try clear hb2)
  (try clear hk)
  (try clear hi)
  refine hK.out _ _ trivial fun hHeld => nz ?_
  clear hK K; refine pz 3 10 HT_ ?_; refine po 4 11 HT_ ?_; refine po 5 12 HT_ ?_; refine po 6 13 HT_ ?_; refine pz 7 14 HT_ ?_; refine pz 8 15 HT_ ?_; refine po 9 16 HT_ ?_; refine po 10 17 HT_ ?_; refine po 11 18 HT_ ?_; refine po 12 19 HT_ ?_
  refine po 13 20 HT_ ?_; refine po 14 21 HT_ ?_; refine po 15 22 HT_ ?_; refine po 16 23 HT_ ?_; refine po 17 24 HT_ ?_; refine po 18 25 HT_ ?_; refine po 19 26 HT_ ?_; refine po 20 27 HT_ ?_; refine pz 21 28 HT_ ?_; refine pz 22 6 HT_ ?_
  refine done_ (done_of HT_.out (by kernel_rfl)) ?_
  try go_wp2
  go_ret
  exact ⟨fq, bw HB⟩
end Go.Proofs.Ytmenehnfgenlpaa.PA

-- Written by xprint.py, a program of this claim's own (over the kit's print.py)
import Derived.Test.YtmenehnfgenlpaaPAx0
import Derived.Test.YtmenehnfgenlpaaPAx14
import Derived.Test.YtmenehnfgenlpaaPAx15
import Derived.Test.YtmenehnfgenlpaaPAx16
import Derived.Deep.Cut
namespace Go.Proofs.Ytmenehnfgenlpaa.PA
open Go.RowKit Go.Proofs.YtmenehnfgenlpaaW.PrintWords Go.Proofs.YtmenehnfgenlpaaW.PrintLast Go.Proofs.YtmenehnfgenlpaaW.PrintMore
attribute [local go_sem] max2_int min2_int max_two min_two max_three min_three max_four min_four   -- for this text's walks alone
set_option linter.unusedVariables false
set_option linter.unusedSimpArgs false

/-! ### spec_SpaceThrough: function 86 -/
def spec_SpaceThrough.f (k : Nat) (a0 : Int) (l1 : List Int) (l2 : List Int) : Option (List Int × Bool) := (spec_PlaceIn.f k a0 l1).bind fun t558 => (if t558 = true then ((spec_PlaceIn.f k a0 l2).bind fun t559 => (if t559 = true then ((spec_l7Of.f k a0 (([l1, l2] : List (List Int)))).bind fun bt563 => (some (bt563.1, bt563.2))) else (some ((([] : List Int)), false)))) else (some ((([] : List Int)), false)))
theorem spec_SpaceThrough.mono : ∀ a0 a1 a2 k, LeO (spec_SpaceThrough.f k a0 a1 a2) (spec_SpaceThrough.f (k + 1) a0 a1 a2) := by
 intro a0 a1 a2 k
 unfold spec_SpaceThrough.f
 repeat' first | (with_reducible first | apply spec_PlaceIn.mono | apply spec_l7Of.mono | exact LeO.refl _ | exact LeO.none _ | refine LeO.ite ?_ ?_ | refine LeO.bind ?_ (fun _ => ?_)) | (first | apply spec_PlaceIn.mono | apply spec_l7Of.mono | exact LeO.none _ | refine LeO.ite ?_ ?_ | refine LeO.bind ?_ (fun _ => ?_))
set_option maxHeartbeats 8000000 in
set_option maxRecDepth 100000 in
theorem spec_SpaceThrough.calls (k : Nat) (a0 : Int) (P1_ : Nat → Prop) (A1 : Option Addr) (c1 : Nat) (l1 : List Int) (P2_ : Nat → Prop) (A2 : Option Addr) (c2 : Nat) (l2 : List Int) (r1 : List Int) (r2 : Bool) (w : World) (hs1 : Kd.V (Kd.int .i64) 3 w w.heap.size (fun k_ => P1_ k_) (.slice A1 l1.length c1) l1) (hs2 : Kd.V (Kd.int .i64) 3 w w.heap.size (fun k_ => P2_ k_) (.slice A2 l2.length c2) l2) (h : spec_SpaceThrough.f k a0 l1 l2 = some (r1, r2)) :
  Calls Try.prog 86 #[.int .i64 a0, .slice A1 l1.length c1, .slice A2 l2.length c2] w fun e w' => ∃ v0_ : Value, e = .returned (.tuple #[v0_, .bool r2]) ∧ Kd.R (Kd.int .i64) 3 w' w.heap.size (fun k_ => (w.heap.size ≤ k_)) v0_ r1 ∧ Below w.heap.size w w' := by
 have HO1 := am (show Kd.V (Kd.int .i64) 3 w w.heap.size (fun k_ => ((P1_ k_ ∨ P2_ k_) ∨ w.heap.size ≤ k_)) (.slice A1 l1.length c1) l1 from Kd.V_mono hs1 (fun k_ hk => .inl (.inl hk)))
 have HO2 := am (show Kd.V (Kd.int .i64) 3 w w.heap.size (fun k_ => ((P1_ k_ ∨ P2_ k_) ∨ w.heap.size ≤ k_)) (.slice A2 l2.length c2) l2 from Kd.V_mono hs2 (fun k_ hk => .inl (.inr hk)))
 have HB := am (Below.refl w.heap.size w)
 have H : ((spec_PlaceIn.f k a0 l1).bind fun t558 => (if t558 = true then ((spec_PlaceIn.f k a0 l2).bind fun t559 => (if t559 = true then ((spec_l7Of.f k a0 (([l1, l2] : List (List Int)))).bind fun bt563 => (some (bt563.1, bt563.2))) else (some ((([] : List Int)), false)))) else (some ((([] : List Int)), false)))) = some (r1, r2) := h
 clear h; replace H := bs H; obtain ⟨t558, A4, H⟩ := H
 by_cases c5 : t558 = true
 ·subst c5
  rw [if_pos rfl] at H
  replace H := bs H; obtain ⟨t559, A6, H⟩ := H
  by_cases c7 : t559 = true
  ·subst c7
   rw [if_pos rfl] at H
   generalize hy560 : (([l1, l2] : List (List Int))) = y560 at H
   have Ny560 := am hy560.symm; clear hy560; replace H := bs H
   obtain ⟨⟨t563, t564⟩, A8, H⟩ := H
   dsimp only at H
   simp only [Option.some.injEq, Prod.mk.injEq] at H
   obtain ⟨rfl, rfl⟩ := H
   go_enter Try.func86, Try.ntmps86
   go_wp2_with (first | ((with_reducible refine gate_callee (f := 66) rfl ?_); refine gl 10 Try.func66 #[.int .i64 a0, .slice A1 l1.length c1] ?_; (with_reducible refine (spec_PlaceIn.calls k a0 _ _ l1 true _ ?_ ?_ A4.out).mono ?_); exact Kd.C_below (Kd.V_reads' HO1.out).2.2 gs; exact (Kd.V_reads' HO1.out).2.1; rintro e w9 ⟨rfl, hb⟩; refine ⟨_, rfl, ?_⟩; replace HO1 := am (Kd.V_below (wV HO1) hb); replace HO2 := am (Kd.V_below (wV HO2) hb); replace HB := bq HB hb; (try clear hb)) | (go_at_call 66; (with_reducible refine (spec_PlaceIn.calls k a0 _ _ l2 true _ ?_ ?_ A6.out).mono ?_); exact Kd.C_below (Kd.V_reads' HO2.out).2.2 gs; exact (Kd.V_reads' HO2.out).2.1; rintro e w10 ⟨rfl, hb⟩; replace HO1 := am (Kd.V_below (wV HO1) hb); replace HO2 := am (Kd.V_below (wV HO2) hb); replace HB := bq HB hb; (try clear hb)) | ((with_reducible refine gate_dst (N := 22) rfl ?_); refine Kd.N_lit (Kd.slice 3 (Kd.int .i64)) _ 22 ?hg (N' := 22) ?hd (xs := ([l1, l2] : List (List Int))) (inner := [.slice A1 l1.length c1, .slice A2 l2.length c2]) (ok := (fun k_ => ((P1_ k_ ∨ P2_ k_) ∨ w.heap.size ≤ k_))) (okp := (fun k_ => ((P1_ k_ ∨ P2_ k_) ∨ w.heap.size ≤ k_))) ?hr ?hp (fun _ hk => hk) ((show ∀ k_, w10.heap.size ≤ k_ → (fun k_ => ((P1_ k_ ∨ P2_ k_) ∨ w.heap.size ≤ k_)) k_ from fun k_ hk => (.inr (Nat.le_trans (bz HB) hk))) _ (Nat.le_refl _)) (Below.refl _ _) (Nat.le_refl _) (by simp) ?_; (case hd => rfl); (case hg => rfl); (case hr => first | (go_simp; done) | (go_simp; rfl)); (case hp => exact (Reps.one (show Kd.FK (Kd.slice 3 (Kd.int .i64)) _ _ l1 [.slice A1 l1.length c1] from (Kd.FK_slice_mk (Kd.V_reads' (HO1.out)).2.1 (Kd.V_F (wV HO1)))) (Reps.one (show Kd.FK (Kd.slice 3 (Kd.int .i64)) _ _ l2 [.slice A2 l2.length c2] from (Kd.FK_slice_mk (Kd.V_reads' (HO2.out)).2.1 (Kd.V_F (wV HO2)))) (Reps.none _ _)))); intro v561 w11 ho12 hb hg_ hnew_; clear hg_ hnew_; (first | rw [← Ny560.out] at ho12 | (simp only [Int.reduceToNat] at ho12; rw [← Ny560.out] at ho12)); replace HO1 := eV HO1 (Kd.N_base ho12) hb; replace HO2 := eV HO2 (Kd.N_base ho12) hb; have HO562 := am (Kd.N_lower ho12 (bz HB)); replace HB := bq HB hb; clear hb ho12; obtain ⟨Ao13, co13, eo13⟩ := Kd.N_slice HO562.out; subst eo13) | ((with_reducible refine gate_callee (f := 91) rfl ?_); refine gl 23 Try.func91 #[.int .i64 a0, .slice Ao13 y560.length co13] ?_; (with_reducible refine (spec_l7Of.calls k a0 _ _ y560 t563 t564 _ ?_ ?_ A8.out).mono ?_); exact Kd.C_below (Kd.N_reads' HO562.out).2.2 gs; exact (Kd.N_reads' HO562.out).2.1; rintro e w14 ⟨v565, rfl, ho0, hb⟩; refine ⟨_, rfl, ?_⟩; replace HO1 := eV HO1 (Kd.R_base ho0) hb; replace HO2 := eV HO2 (Kd.R_base ho0) hb; replace HO562 := eN HO562 (Kd.R_base ho0) hb; have HO566 := am (mR ho0 HB); replace HB := bq HB hb; (try clear hb); (try clear ho0)))
   go_ret2
   exact ⟨_, fq, Kd.R_below (Kd.R_mono HO566.out (fun _ hk => hk.1)) gs, bw HB⟩
  ·replace c7 := Bool.eq_false_iff.mpr c7
   subst c7
   rw [if_neg (show ¬ (false = true) by decide)] at H
   generalize hy567 : (([] : List Int)) = y567 at H
   have Ny567 := am hy567.symm; clear hy567
   simp only [Option.some.injEq, Prod.mk.injEq] at H
   obtain ⟨rfl, rfl⟩ := H
   go_enter Try.func86, Try.ntmps86
   go_wp2_with (first | ((with_reducible refine gate_callee (f := 66) rfl ?_); refine gl 10 Try.func66 #[.int .i64 a0, .slice A1 l1.length c1] ?_; (with_reducible refine (spec_PlaceIn.calls k a0 _ _ l1 true _ ?_ ?_ A4.out).mono ?_); exact Kd.C_below (Kd.V_reads' HO1.out).2.2 gs; exact (Kd.V_reads' HO1.out).2.1; rintro e w15 ⟨rfl, hb⟩; refine ⟨_, rfl, ?_⟩; replace HO1 := am (Kd.V_below (wV HO1) hb); replace HO2 := am (Kd.V_below (wV HO2) hb); replace HB := bq HB hb; (try clear hb)) | (go_at_call 66; (with_reducible refine (spec_PlaceIn.calls k a0 _ _ l2 false _ ?_ ?_ A6.out).mono ?_); exact Kd.C_below (Kd.V_reads' HO2.out).2.2 gs; exact (Kd.V_reads' HO2.out).2.1; rintro e w16 ⟨rfl, hb⟩; replace HO1 := am (Kd.V_below (wV HO1) hb); replace HO2 := am (Kd.V_below (wV HO2) hb); replace HB := bq HB hb; (try clear hb)) | ((with_reducible refine gate_dst (N := 18) rfl ?_); refine li 3 ([] : List Int) ?_; intro v568 w17 ho18 hb; (first | rw [← Ny567.out] at ho18 | (simp only [Int.reduceToNat] at ho18; rw [← Ny567.out] at ho18)); replace HO1 := eV HO1 (Kd.R_base ho18) hb; replace HO2 := eV HO2 (Kd.R_base ho18) hb; have HO569 := am (mR ho18 HB); replace HB := bq HB hb; clear hb ho18))
   go_ret2
   exact ⟨_, fq, Kd.R_below (Kd.R_mono HO569.out (fun _ hk => hk.1)) gs, bw HB⟩
 ·replace c5 := Bool.eq_false_iff.mpr c5
  subst c5
  rw [if_neg (show ¬ (false = true) by decide)] at H
  generalize hy570 : (([] : List Int)) = y570 at H
  have Ny570 := am hy570.symm; clear hy570
  simp only [Option.some.injEq, Prod.mk.injEq] at H
  obtain ⟨rfl, rfl⟩ := H
  go_enter Try.func86, Try.ntmps86
  go_wp2_with (first | ((with_reducible refine gate_callee (f := 66) rfl ?_); refine gl 10 Try.func66 #[.int .i64 a0, .slice A1 l1.length c1] ?_; (with_reducible refine (spec_PlaceIn.calls k a0 _ _ l1 false _ ?_ ?_ A4.out).mono ?_); exact Kd.C_below (Kd.V_reads' HO1.out).2.2 gs; exact (Kd.V_reads' HO1.out).2.1; rintro e w19 ⟨rfl, hb⟩; refine ⟨_, rfl, ?_⟩; replace HO1 := am (Kd.V_below (wV HO1) hb); replace HO2 := am (Kd.V_below (wV HO2) hb); replace HB := bq HB hb; (try clear hb)) | ((with_reducible refine gate_dst (N := 18) rfl ?_); refine li 3 ([] : List Int) ?_; intro v571 w20 ho21 hb; (first | rw [← Ny570.out] at ho21 | (simp only [Int.reduceToNat] at ho21; rw [← Ny570.out] at ho21)); replace HO1 := eV HO1 (Kd.R_base ho21) hb; replace HO2 := eV HO2 (Kd.R_base ho21) hb; have HO572 := am (mR ho21 HB); replace HB := bq HB hb; clear hb ho21))
  go_ret2
  exact ⟨_, fq, Kd.R_below (Kd.R_mono HO572.out (fun _ hk => hk.1)) gs, bw HB⟩/-! ### spec_l92Line: function 58 -/
def spec_l92Line.j0 : Nat → Int → List Int → Bool → List Int → Int → Option (List Int × Int)
 | 0, _, _, _, _, _ => none
 | k + 1, x1, x5, x20, x1000, x1001 => if x20 = true then (some (x5, x1001)) else ((spec_l92Place.f k x1000 x1001 x1).bind fun bt581 => ((spec_l92Place.f k x1000 bt581.2 x1).bind fun bt585 => ((spec_SpaceThrough.f k x1 bt581.1 bt585.1).bind fun bt589 => (if bt589.2 = true then ((spec_l6Rd_pick.f k x1000 bt585.2 24).bind fun bt593 => (if bt593.1 = 0 then (if 7 ≤ (bt589.1.length : Int) then (some ((bt589.1.take (7 : Int).toNat), bt593.2)) else (none)) else (some (bt589.1, bt593.2)))) else (some ((([1, 0, 0, 0, 0, 1, 0, 0] : List Int)), bt585.2))))))
def spec_l92Line.f (k : Nat) (s0_0 : List Int) (s0_1 : Int) (a1 : Int) : Option (List Int × Int) := (spec_l6Rd_pick.f k s0_0 s0_1 27).bind fun bt573 => ((spec_CubeLine.f k a1 bt573.1).bind fun bt575 => (if bt575.2 = true then ((spec_l6Rd_pick.f k s0_0 bt573.2 2).bind fun bt579 => (spec_l92Line.j0 k a1 bt575.1 (bt579.1 == 0) s0_0 bt579.2)) else (spec_l92Line.j0 k a1 bt575.1 false s0_0 bt573.2)))
theorem spec_l92Line.mono_l : ∀ k, (∀ y0 y1 y2 y3 y4, LeO (spec_l92Line.j0 k y0 y1 y2 y3 y4) (spec_l92Line.j0 (k + 1) y0 y1 y2 y3 y4))
 | 0 => fun _ _ _ _ _ r h => by simp [spec_l92Line.j0] at h
 | k + 1 => by
  have ih0 := spec_l92Line.mono_l k
  ·intro y0 y1 y2 y3 y4
   unfold spec_l92Line.j0
   repeat' first | (with_reducible first | apply ih0 | apply spec_CubeLine.mono | apply spec_SpaceThrough.mono | apply spec_l6Rd_pick.mono | apply spec_l92Place.mono | exact LeO.refl _ | exact LeO.none _ | refine LeO.ite ?_ ?_ | refine LeO.bind ?_ (fun _ => ?_)) | (first | apply ih0 | apply spec_CubeLine.mono | apply spec_SpaceThrough.mono | apply spec_l6Rd_pick.mono | apply spec_l92Place.mono | exact LeO.none _ | refine LeO.ite ?_ ?_ | refine LeO.bind ?_ (fun _ => ?_))
theorem spec_l92Line.mono : ∀ a0 a1 a2 k, LeO (spec_l92Line.f k a0 a1 a2) (spec_l92Line.f (k + 1) a0 a1 a2) := by
 intro a0 a1 a2 k
 have ih0 := spec_l92Line.mono_l k
 unfold spec_l92Line.f
 repeat' first | (with_reducible first | apply ih0 | apply spec_CubeLine.mono | apply spec_SpaceThrough.mono | apply spec_l6Rd_pick.mono | apply spec_l92Place.mono | exact LeO.refl _ | exact LeO.none _ | refine LeO.ite ?_ ?_ | refine LeO.bind ?_ (fun _ => ?_)) | (first | apply ih0 | apply spec_CubeLine.mono | apply spec_SpaceThrough.mono | apply spec_l6Rd_pick.mono | apply spec_l92Place.mono | exact LeO.none _ | refine LeO.ite ?_ ?_ | refine LeO.bind ?_ (fun _ => ?_))
set_option maxHeartbeats 8000000 in
set_option maxRecDepth 100000 in
theorem spec_l92Line.calls (k : Nat) (g : Nat) (s0_0 : List Int) (s0_1 : Int) (a1 : Int) (r1 : List Int) (r2 : Int) (w0 w : World) (hI : IsS78 w0 w g s0_0 s0_1) (hB : Below w0.heap.size w0 w) (h : spec_l92Line.f k s0_0 s0_1 a1 = some (r1, r2)) :
  Calls Try.prog 58 #[.pointer (some ⟨g, 0, none⟩), .int .i64 a1] w fun e w' => ∃ v0_ : Value, e = .returned (v0_) ∧ Kd.R (Kd.int .i64) 3 w' w.heap.size (fun _ => True) v0_ r1 ∧ IsS78 w0 w' g s0_0 r2 ∧ Below w0.heap.size w0 w' ∧ KeepBut w w' g none := by
 have HI0 := am hI
 have HK := am (KeepBut.refl w g none)
 have HL := am hB.size
 clear hI
 have HW0 := am hB.size
 have HB := am hB
 clear hB
 have H : ((spec_l6Rd_pick.f k s0_0 s0_1 27).bind fun bt573 => ((spec_CubeLine.f k a1 bt573.1).bind fun bt575 => (if bt575.2 = true then ((spec_l6Rd_pick.f k s0_0 bt573.2 2).bind fun bt579 => (spec_l92Line.j0 k a1 bt575.1 (bt579.1 == 0) s0_0 bt579.2)) else (spec_l92Line.j0 k a1 bt575.1 false s0_0 bt573.2)))) = some (r1, r2) := h
 clear h; replace H := bs H
 obtain ⟨⟨t573, t574⟩, A3, H⟩ := H
 dsimp only at H
 replace H := bs H
 obtain ⟨⟨t575, t576⟩, A4, H⟩ := H
 dsimp only at H
 have HC5 := am H
 clear H
 go_enter Try.func58, Try.ntmps58
 go_upto_region 2 with (first | ((with_reducible refine gate_callee (f := 64) rfl ?_); refine gl 11 Try.func64 #[.pointer (some ⟨g, 0, none⟩), .int .i64 27] ?_; (with_reducible refine (spec_l6Rd_pick.calls k g s0_0 s0_1 27 t573 t574 w0 _ ?_ ?_ A3.out).mono ?_); (· repeat (first | (with_reducible first | exact HI0.out | apply IsS78.alloc | apply IsS78.drewN | apply IsS78.drew | apply IsS78.set_1) | exact HI0.out)); (· repeat (first | (with_reducible first | exact HB.out | apply below_alloc | apply pw_below_drewN | apply below_drew1 | refine below_set ?_ (IsS78.ge HI0.out)) | exact HB.out)); rintro e w6 ⟨rfl, hi, hb, hk⟩; refine ⟨_, rfl, ?_⟩; replace HK := am (KeepBut.trans (kw HK) hk (.inl rfl)); replace HB := am (hb); replace HI0 := am (hi); (try clear hb); (try clear hk); (try clear hi)) | ((with_reducible refine gate_callee (f := 32) rfl ?_); refine gl 12 Try.func32 #[.int .i64 a1, .int .i64 t573] ?_; (with_reducible refine (spec_CubeLine.calls k a1 t573 t575 t576 _ A4.out).mono ?_); rintro e w7 ⟨v577, rfl, ho0, hb⟩; refine ⟨_, rfl, ?_⟩; have HO578 := am (Kd.R_lower ho0 (keep_size (w := w) (g := g) (row := none) (kw HK))); replace HK := am (KeepBut.trans (kw HK) (KeepBut.of_below hb g none) (.inl rfl)); replace HB := am (below_step (bi78 HB HI0) hb); replace HI0 := am (IsS78.below (iw78 HI0) hb); (try clear hb); (try clear ho0)))
 (try simp only [Act.put, List.setIfInBounds_toArray, List.set_cons_zero, List.set_cons_succ])
 go_cut [20] (fun v20 wc => ∃ (kq : Nat) (x20_4 : Bool) (x1001_4 : Int), v20 = .bool x20_4 ∧ Aside0 (spec_l92Line.j0 kq a1 t575 x20_4 s0_0 x1001_4 = some (r1, r2)) ∧ Aside0 (kq ≤ k) ∧ Aside0 (Kd.R (Kd.int .i64) 3 wc w.heap.size (fun _ => True) v577 t575) ∧ Aside0 (IsS78 w0 wc g s0_0 x1001_4) ∧ Aside0 (KeepBut w wc g none) ∧ Aside0 (Below w0.heap.size w0 wc))
 case first =>
  have H := HC5.out
  clear HC5
  by_cases c8 : t576 = true
  ·subst c8
   rw [if_pos rfl] at H
   replace H := bs H
   obtain ⟨⟨t579, t580⟩, A9, H⟩ := H
   dsimp only at H
   have H' := am H; clear H
   go_wp2_with (first | (go_at_call 64; (with_reducible refine (spec_l6Rd_pick.calls k g s0_0 t574 2 t579 t580 w0 _ ?_ ?_ A9.out).mono ?_); (· repeat (first | (with_reducible first | exact HI0.out | apply IsS78.alloc | apply IsS78.drewN | apply IsS78.drew | apply IsS78.set_1) | exact HI0.out)); (· repeat (first | (with_reducible first | exact HB.out | apply below_alloc | apply pw_below_drewN | apply below_drew1 | refine below_set ?_ (IsS78.ge HI0.out)) | exact HB.out)); rintro e w10 ⟨rfl, hi, hb, hk⟩; replace HO578 := am (Kd.R_mono (Kd.R_keep (IsS78.apart (show IsS78 w0 _ g s0_0 t574 from iw78 HI0) (wR HO578) (by decide)) hk (fun _ h => h.2)) (fun _ h => h.1)); replace HK := am (KeepBut.trans (kw HK) hk (.inl rfl)); replace HB := am (hb); replace HI0 := am (hi); (try clear hb); (try clear hk); (try clear hi)))
   go_meet
   case rel => exact ⟨_, ((t579 == 0)), (t580), fr, H', ⟨by first | omega | exact Nat.le_refl _⟩, ⟨wR HO578⟩, ⟨iw78 HI0⟩, ⟨kw HK⟩, ⟨bi78 HB HI0⟩⟩
  ·replace c8 := Bool.eq_false_iff.mpr c8
   subst c8
   rw [if_neg (show ¬ (false = true) by decide)] at H
   have H' := am H; clear H; go_wp2
   go_meet
   case rel => exact ⟨_, (false), (t574), fr, H', ⟨by first | omega | exact Nat.le_refl _⟩, ⟨wR HO578⟩, ⟨iw78 HI0⟩, ⟨kw HK⟩, ⟨bi78 HB HI0⟩⟩
 case rest =>
  clear HC5; try clear p2; try clear c3; try clear c5; try clear c6; try clear c8
  obtain ⟨kq, x20_4, x1001_4, rfl, HA, HJ4, HO_5, HI0, HK, HB⟩ := hcut
  cases kq with
  | zero => exact absurd HA.out (by simp [spec_l92Line.j0])
  | succ kj4 =>
   have H := HA.out; clear HA
   simp only [spec_l92Line.j0] at H
   by_cases c11 : x20_4 = true
   ·subst c11
    rw [if_pos rfl] at H
    simp only [Option.some.injEq, Prod.mk.injEq] at H
    obtain ⟨rfl, rfl⟩ := H; go_wp2; go_ret
    exact ⟨_, fq, wR HO_5, iw78 HI0, bi78 HB HI0, kw HK⟩
   ·replace c11 := Bool.eq_false_iff.mpr c11
    subst c11
    rw [if_neg (show ¬ (false = true) by decide)] at H
    replace H := bs H
    obtain ⟨⟨t581, t584⟩, A12, H⟩ := H
    dsimp only at H
    replace H := bs H
    obtain ⟨⟨t585, t588⟩, A13, H⟩ := H
    dsimp only at H
    replace H := bs H
    obtain ⟨⟨t589, t592⟩, A14, H⟩ := H
    dsimp only at H
    by_cases c15 : t592 = true
    ·subst c15
     rw [if_pos rfl] at H
     replace H := bs H
     obtain ⟨⟨t593, t594⟩, A16, H⟩ := H
     dsimp only at H
     by_cases c17 : t593 = 0
     ·rw [if_pos c17] at H
      have c17b0 := beq_iff_eq.mpr c17; have c17b1 := bne_eq_false_iff_eq.mpr c17; clear c17; replace H := ifn H; obtain ⟨c18, H⟩ := H; have c18b0 := eq_true c18; have c18b1 := decide_eq_true c18; clear c18
      generalize hy595 : (t589.take (7 : Int).toNat : List Int) = y595 at H
      have Ny595 := am hy595.symm; clear hy595
      simp only [Option.some.injEq, Prod.mk.injEq] at H
      obtain ⟨rfl, rfl⟩ := H
      go_wp2_with (first | ((with_reducible refine gate_callee (f := 65) rfl ?_); refine gl 24 Try.func65 #[.pointer (some ⟨g, 0, none⟩), .int .i64 a1] ?_; (with_reducible refine (spec_l92Place.calls kj4 g s0_0 x1001_4 a1 t581 t584 w0 _ ?_ ?_ A12.out).mono ?_); (· repeat (first | (with_reducible first | exact HI0.out | apply IsS78.alloc | apply IsS78.drewN | apply IsS78.drew | apply IsS78.set_1) | exact HI0.out)); (· repeat (first | (with_reducible first | exact HB.out | apply below_alloc | apply pw_below_drewN | apply below_drew1 | refine below_set ?_ (IsS78.ge HI0.out)) | exact HB.out)); rintro e w19 ⟨v582, rfl, ho0, hi, hb, hk⟩; refine ⟨_, rfl, ?_⟩; have HO583 := am (Kd.R_lower (Kd.R_new' ho0 (Kd.R_lt (wR HO_5))) (keep_size (w := w) (g := g) (row := none) (kw HK))); replace HO_5 := am (Kd.R_mono (Kd.R_told (Kd.R_oldK (IsS78.apart (show IsS78 w0 _ g s0_0 x1001_4 from iw78 HI0) (wR HO_5) (by decide)) hk) (Kd.R_base ho0)) (fun _ h_ => h_.1)); replace HK := am (KeepBut.trans (kw HK) hk (.inl rfl)); replace HB := am (hb); replace HI0 := am (hi); (try clear hb); (try clear hk); (try clear hi); (try clear ho0)) | ((with_reducible refine gate_callee (f := 65) rfl ?_); refine gl 30 Try.func65 #[.pointer (some ⟨g, 0, none⟩), .int .i64 a1] ?_; (with_reducible refine (spec_l92Place.calls kj4 g s0_0 t584 a1 t585 t588 w0 _ ?_ ?_ A13.out).mono ?_); (· repeat (first | (with_reducible first | exact HI0.out | apply IsS78.alloc | apply IsS78.drewN | apply IsS78.drew | apply IsS78.set_1) | exact HI0.out)); (· repeat (first | (with_reducible first | exact HB.out | apply below_alloc | apply pw_below_drewN | apply below_drew1 | refine below_set ?_ (IsS78.ge HI0.out)) | exact HB.out)); rintro e w20 ⟨v586, rfl, ho0, hi, hb, hk⟩; refine ⟨_, rfl, ?_⟩; have HO587 := am (Kd.R_lower (Kd.R_new' (Kd.R_new' ho0 (Kd.R_lt (wR HO_5))) (Kd.R_lt (wR HO583))) (keep_size (w := w) (g := g) (row := none) (kw HK))); replace HO_5 := am (Kd.R_mono (Kd.R_told (Kd.R_oldK (IsS78.apart (show IsS78 w0 _ g s0_0 t584 from iw78 HI0) (wR HO_5) (by decide)) hk) (Kd.R_base ho0)) (fun _ h_ => h_.1)); replace HO583 := am (Kd.R_mono (Kd.R_told (Kd.R_oldK (IsS78.apart (show IsS78 w0 _ g s0_0 t584 from iw78 HI0) (wR HO583) (by decide)) hk) (Kd.R_base ho0)) (fun _ h_ => h_.1)); replace HK := am (KeepBut.trans (kw HK) hk (.inl rfl)); replace HB := am (hb); replace HI0 := am (hi); (try clear hb); (try clear hk); (try clear hi); (try clear ho0); obtain ⟨Ao21, co21, eo21⟩ := Kd.R_slice HO583.out; subst eo21; obtain ⟨Ao22, co22, eo22⟩ := Kd.R_slice HO587.out; subst eo22) | ((with_reducible refine gate_callee (f := 86) rfl ?_); refine gl 31 Try.func86 #[.int .i64 a1, .slice Ao21 t581.length co21, .slice Ao22 t585.length co22] ?_; (with_reducible refine (spec_SpaceThrough.calls kj4 a1 (fun k_ => some k_ = (.slice Ao21 t581.length co21 : Value).ownBlock) _ _ t581 (fun k_ => some k_ = (.slice Ao22 t585.length co22 : Value).ownBlock) _ _ t585 t589 true _ ?_ ?_ A14.out).mono ?_); exact Kd.R_V (Kd.R_tight rfl (IsS78.apart HI0.out (HO583.out) (by decide))); exact Kd.R_V (Kd.R_tight rfl (IsS78.apart HI0.out (HO587.out) (by decide))); rintro e w23 ⟨v590, rfl, ho0, hb⟩; refine ⟨_, rfl, ?_⟩; have HO591 := am (Kd.R_lower (Kd.R_new' (Kd.R_new' (Kd.R_new' (Kd.R_mono (ok' := fun k_ => True) ho0 (fun _ hk_ => trivial)) (Kd.R_lt (wR HO_5))) (Kd.R_lt (wR HO583))) (Kd.R_lt (wR HO587))) (keep_size (w := w) (g := g) (row := none) (kw HK))); replace HO_5 := eR HO_5 (Kd.R_base ho0) hb; replace HO583 := eR HO583 (Kd.R_base ho0) hb; replace HO587 := eR HO587 (Kd.R_base ho0) hb; replace HK := am (KeepBut.trans (kw HK) (KeepBut.of_below hb g none) (.inl rfl)); replace HB := am (below_step (bi78 HB HI0) hb); replace HI0 := am (IsS78.below (iw78 HI0) hb); (try clear hb); (try clear ho0)) | ((with_reducible refine gate_callee (f := 64) rfl ?_); refine gl 38 Try.func64 #[.pointer (some ⟨g, 0, none⟩), .int .i64 24] ?_; (with_reducible refine (spec_l6Rd_pick.calls kj4 g s0_0 t588 24 t593 t594 w0 _ ?_ ?_ A16.out).mono ?_); (· repeat (first | (with_reducible first | exact HI0.out | apply IsS78.alloc | apply IsS78.drewN | apply IsS78.drew | apply IsS78.set_1) | exact HI0.out)); (· repeat (first | (with_reducible first | exact HB.out | apply below_alloc | apply pw_below_drewN | apply below_drew1 | refine below_set ?_ (IsS78.ge HI0.out)) | exact HB.out)); rintro e w24 ⟨rfl, hi, hb, hk⟩; refine ⟨_, rfl, ?_⟩; replace HO_5 := am (Kd.R_mono (Kd.R_keep (IsS78.apart (show IsS78 w0 _ g s0_0 t588 from iw78 HI0) (wR HO_5) (by decide)) hk (fun _ h => h.2)) (fun _ h => h.1)); replace HO583 := am (Kd.R_mono (Kd.R_keep (IsS78.apart (show IsS78 w0 _ g s0_0 t588 from iw78 HI0) (wR HO583) (by decide)) hk (fun _ h => h.2)) (fun _ h => h.1)); replace HO587 := am (Kd.R_mono (Kd.R_keep (IsS78.apart (show IsS78 w0 _ g s0_0 t588 from iw78 HI0) (wR HO587) (by decide)) hk (fun _ h => h.2)) (fun _ h => h.1)); replace HO591 := am (Kd.R_mono (Kd.R_keep (IsS78.apart (show IsS78 w0 _ g s0_0 t588 from iw78 HI0) (wR HO591) (by decide)) hk (fun _ h => h.2)) (fun _ h => h.1)); replace HK := am (KeepBut.trans (kw HK) hk (.inl rfl)); replace HB := am (hb); replace HI0 := am (hi); (try clear hb); (try clear hk); (try clear hi); obtain ⟨Ao25, co25, eo25⟩ := Kd.R_slice HO591.out; subst eo25; have q26 : (7 : Int) ≤ ((t589.length : Int) : Int) := od; obtain ⟨i026, hi026, _, hsz26, _⟩ := info_parts info3; have hcut26 := cut_to (P := Try.prog) 22 3 .i64 Try.underlying22 hi026 Ao25 t589.length co25 7 (by omega) q26 (Kd.R_reads' HO591.out).2.1; have hr26 := Kd.R_take (m := (7 : Int).toNat) HO591.out (by omega); have hy26 : y595.length = (7 : Int).toNat := (by rw [Ny595.out, List.length_take]; omega); rw [← Ny595.out] at hr26; rw [← hy26] at hr26 hcut26; clear hy26 hi026 hsz26 HO591; have HO597 := am hr26; clear hr26; replace q26 := eq_true q26))
      go_ret
      exact ⟨_, fq, Kd.R_below (Kd.R_mono HO597.out (fun _ hk => trivial)) gs, iw78 HI0, bi78 HB HI0, kw HK⟩
     ·rw [if_neg c17] at H
      have c17b0 := beq_eq_false_iff_ne.mpr c17; have c17b1 := bne_iff_ne.mpr c17
      simp only [Option.some.injEq, Prod.mk.injEq] at H
      obtain ⟨rfl, rfl⟩ := H
      go_wp2_with (first | ((with_reducible refine gate_callee (f := 65) rfl ?_); refine gl 24 Try.func65 #[.pointer (some ⟨g, 0, none⟩), .int .i64 a1] ?_; (with_reducible refine (spec_l92Place.calls kj4 g s0_0 x1001_4 a1 t581 t584 w0 _ ?_ ?_ A12.out).mono ?_); (· repeat (first | (with_reducible first | exact HI0.out | apply IsS78.alloc | apply IsS78.drewN | apply IsS78.drew | apply IsS78.set_1) | exact HI0.out)); (· repeat (first | (with_reducible first | exact HB.out | apply below_alloc | apply pw_below_drewN | apply below_drew1 | refine below_set ?_ (IsS78.ge HI0.out)) | exact HB.out)); rintro e w27 ⟨v582, rfl, ho0, hi, hb, hk⟩; refine ⟨_, rfl, ?_⟩; have HO583 := am (Kd.R_lower (Kd.R_new' ho0 (Kd.R_lt (wR HO_5))) (keep_size (w := w) (g := g) (row := none) (kw HK))); replace HO_5 := am (Kd.R_mono (Kd.R_told (Kd.R_oldK (IsS78.apart (show IsS78 w0 _ g s0_0 x1001_4 from iw78 HI0) (wR HO_5) (by decide)) hk) (Kd.R_base ho0)) (fun _ h_ => h_.1)); replace HK := am (KeepBut.trans (kw HK) hk (.inl rfl)); replace HB := am (hb); replace HI0 := am (hi); (try clear hb); (try clear hk); (try clear hi); (try clear ho0)) | ((with_reducible refine gate_callee (f := 65) rfl ?_); refine gl 30 Try.func65 #[.pointer (some ⟨g, 0, none⟩), .int .i64 a1] ?_; (with_reducible refine (spec_l92Place.calls kj4 g s0_0 t584 a1 t585 t588 w0 _ ?_ ?_ A13.out).mono ?_); (· repeat (first | (with_reducible first | exact HI0.out | apply IsS78.alloc | apply IsS78.drewN | apply IsS78.drew | apply IsS78.set_1) | exact HI0.out)); (· repeat (first | (with_reducible first | exact HB.out | apply below_alloc | apply pw_below_drewN | apply below_drew1 | refine below_set ?_ (IsS78.ge HI0.out)) | exact HB.out)); rintro e w28 ⟨v586, rfl, ho0, hi, hb, hk⟩; refine ⟨_, rfl, ?_⟩; have HO587 := am (Kd.R_lower (Kd.R_new' (Kd.R_new' ho0 (Kd.R_lt (wR HO_5))) (Kd.R_lt (wR HO583))) (keep_size (w := w) (g := g) (row := none) (kw HK))); replace HO_5 := am (Kd.R_mono (Kd.R_told (Kd.R_oldK (IsS78.apart (show IsS78 w0 _ g s0_0 t584 from iw78 HI0) (wR HO_5) (by decide)) hk) (Kd.R_base ho0)) (fun _ h_ => h_.1)); replace HO583 := am (Kd.R_mono (Kd.R_told (Kd.R_oldK (IsS78.apart (show IsS78 w0 _ g s0_0 t584 from iw78 HI0) (wR HO583) (by decide)) hk) (Kd.R_base ho0)) (fun _ h_ => h_.1)); replace HK := am (KeepBut.trans (kw HK) hk (.inl rfl)); replace HB := am (hb); replace HI0 := am (hi); (try clear hb); (try clear hk); (try clear hi); (try clear ho0); obtain ⟨Ao29, co29, eo29⟩ := Kd.R_slice HO583.out; subst eo29; obtain ⟨Ao30, co30, eo30⟩ := Kd.R_slice HO587.out; subst eo30) | ((with_reducible refine gate_callee (f := 86) rfl ?_); refine gl 31 Try.func86 #[.int .i64 a1, .slice Ao29 t581.length co29, .slice Ao30 t585.length co30] ?_; (with_reducible refine (spec_SpaceThrough.calls kj4 a1 (fun k_ => some k_ = (.slice Ao29 t581.length co29 : Value).ownBlock) _ _ t581 (fun k_ => some k_ = (.slice Ao30 t585.length co30 : Value).ownBlock) _ _ t585 t589 true _ ?_ ?_ A14.out).mono ?_); exact Kd.R_V (Kd.R_tight rfl (IsS78.apart HI0.out (HO583.out) (by decide))); exact Kd.R_V (Kd.R_tight rfl (IsS78.apart HI0.out (HO587.out) (by decide))); rintro e w31 ⟨v590, rfl, ho0, hb⟩; refine ⟨_, rfl, ?_⟩; have HO591 := am (Kd.R_lower (Kd.R_new' (Kd.R_new' (Kd.R_new' (Kd.R_mono (ok' := fun k_ => True) ho0 (fun _ hk_ => trivial)) (Kd.R_lt (wR HO_5))) (Kd.R_lt (wR HO583))) (Kd.R_lt (wR HO587))) (keep_size (w := w) (g := g) (row := none) (kw HK))); replace HO_5 := eR HO_5 (Kd.R_base ho0) hb; replace HO583 := eR HO583 (Kd.R_base ho0) hb; replace HO587 := eR HO587 (Kd.R_base ho0) hb; replace HK := am (KeepBut.trans (kw HK) (KeepBut.of_below hb g none) (.inl rfl)); replace HB := am (below_step (bi78 HB HI0) hb); replace HI0 := am (IsS78.below (iw78 HI0) hb); (try clear hb); (try clear ho0)) | ((with_reducible refine gate_callee (f := 64) rfl ?_); refine gl 38 Try.func64 #[.pointer (some ⟨g, 0, none⟩), .int .i64 24] ?_; (with_reducible refine (spec_l6Rd_pick.calls kj4 g s0_0 t588 24 t593 t594 w0 _ ?_ ?_ A16.out).mono ?_); (· repeat (first | (with_reducible first | exact HI0.out | apply IsS78.alloc | apply IsS78.drewN | apply IsS78.drew | apply IsS78.set_1) | exact HI0.out)); (· repeat (first | (with_reducible first | exact HB.out | apply below_alloc | apply pw_below_drewN | apply below_drew1 | refine below_set ?_ (IsS78.ge HI0.out)) | exact HB.out)); rintro e w32 ⟨rfl, hi, hb, hk⟩; refine ⟨_, rfl, ?_⟩; replace HO_5 := am (Kd.R_mono (Kd.R_keep (IsS78.apart (show IsS78 w0 _ g s0_0 t588 from iw78 HI0) (wR HO_5) (by decide)) hk (fun _ h => h.2)) (fun _ h => h.1)); replace HO583 := am (Kd.R_mono (Kd.R_keep (IsS78.apart (show IsS78 w0 _ g s0_0 t588 from iw78 HI0) (wR HO583) (by decide)) hk (fun _ h => h.2)) (fun _ h => h.1)); replace HO587 := am (Kd.R_mono (Kd.R_keep (IsS78.apart (show IsS78 w0 _ g s0_0 t588 from iw78 HI0) (wR HO587) (by decide)) hk (fun _ h => h.2)) (fun _ h => h.1)); replace HO591 := am (Kd.R_mono (Kd.R_keep (IsS78.apart (show IsS78 w0 _ g s0_0 t588 from iw78 HI0) (wR HO591) (by decide)) hk (fun _ h => h.2)) (fun _ h => h.1)); replace HK := am (KeepBut.trans (kw HK) hk (.inl rfl)); replace HB := am (hb); replace HI0 := am (hi); (try clear hb); (try clear hk); (try clear hi)))
      go_ret
      exact ⟨_, fq, Kd.R_below (Kd.R_mono HO591.out (fun _ hk => trivial)) gs, iw78 HI0, bi78 HB HI0, kw HK⟩
    ·replace c15 := Bool.eq_false_iff.mpr c15
     subst c15
     rw [if_neg (show ¬ (false = true) by decide)] at H
     generalize hy598 : (([1, 0, 0, 0, 0, 1, 0, 0] : List Int)) = y598 at H
     have Ny598 := am hy598.symm; clear hy598
     simp only [Option.some.injEq, Prod.mk.injEq] at H
     obtain ⟨rfl, rfl⟩ := H
     go_wp2_with (first | ((with_reducible refine gate_callee (f := 65) rfl ?_); refine gl 24 Try.func65 #[.pointer (some ⟨g, 0, none⟩), .int .i64 a1] ?_; (with_reducible refine (spec_l92Place.calls kj4 g s0_0 x1001_4 a1 t581 t584 w0 _ ?_ ?_ A12.out).mono ?_); (· repeat (first | (with_reducible first | exact HI0.out | apply IsS78.alloc | apply IsS78.drewN | apply IsS78.drew | apply IsS78.set_1) | exact HI0.out)); (· repeat (first | (with_reducible first | exact HB.out | apply below_alloc | apply pw_below_drewN | apply below_drew1 | refine below_set ?_ (IsS78.ge HI0.out)) | exact HB.out)); rintro e w33 ⟨v582, rfl, ho0, hi, hb, hk⟩; refine ⟨_, rfl, ?_⟩; have HO583 := am (Kd.R_lower (Kd.R_new' ho0 (Kd.R_lt (wR HO_5))) (keep_size (w := w) (g := g) (row := none) (kw HK))); replace HO_5 := am (Kd.R_mono (Kd.R_told (Kd.R_oldK (IsS78.apart (show IsS78 w0 _ g s0_0 x1001_4 from iw78 HI0) (wR HO_5) (by decide)) hk) (Kd.R_base ho0)) (fun _ h_ => h_.1)); replace HK := am (KeepBut.trans (kw HK) hk (.inl rfl)); replace HB := am (hb); replace HI0 := am (hi); (try clear hb); (try clear hk); (try clear hi); (try clear ho0)) | ((with_reducible refine gate_callee (f := 65) rfl ?_); refine gl 30 Try.func65 #[.pointer (some ⟨g, 0, none⟩), .int .i64 a1] ?_; (with_reducible refine (spec_l92Place.calls kj4 g s0_0 t584 a1 t585 t588 w0 _ ?_ ?_ A13.out).mono ?_); (· repeat (first | (with_reducible first | exact HI0.out | apply IsS78.alloc | apply IsS78.drewN | apply IsS78.drew | apply IsS78.set_1) | exact HI0.out)); (· repeat (first | (with_reducible first | exact HB.out | apply below_alloc | apply pw_below_drewN | apply below_drew1 | refine below_set ?_ (IsS78.ge HI0.out)) | exact HB.out)); rintro e w34 ⟨v586, rfl, ho0, hi, hb, hk⟩; refine ⟨_, rfl, ?_⟩; have HO587 := am (Kd.R_lower (Kd.R_new' (Kd.R_new' ho0 (Kd.R_lt (wR HO_5))) (Kd.R_lt (wR HO583))) (keep_size (w := w) (g := g) (row := none) (kw HK))); replace HO_5 := am (Kd.R_mono (Kd.R_told (Kd.R_oldK (IsS78.apart (show IsS78 w0 _ g s0_0 t584 from iw78 HI0) (wR HO_5) (by decide)) hk) (Kd.R_base ho0)) (fun _ h_ => h_.1)); replace HO583 := am (Kd.R_mono (Kd.R_told (Kd.R_oldK (IsS78.apart (show IsS78 w0 _ g s0_0 t584 from iw78 HI0) (wR HO583) (by decide)) hk) (Kd.R_base ho0)) (fun _ h_ => h_.1)); replace HK := am (KeepBut.trans (kw HK) hk (.inl rfl)); replace HB := am (hb); replace HI0 := am (hi); (try clear hb); (try clear hk); (try clear hi); (try clear ho0); obtain ⟨Ao35, co35, eo35⟩ := Kd.R_slice HO583.out; subst eo35; obtain ⟨Ao36, co36, eo36⟩ := Kd.R_slice HO587.out; subst eo36) | ((with_reducible refine gate_callee (f := 86) rfl ?_); refine gl 31 Try.func86 #[.int .i64 a1, .slice Ao35 t581.length co35, .slice Ao36 t585.length co36] ?_; (with_reducible refine (spec_SpaceThrough.calls kj4 a1 (fun k_ => some k_ = (.slice Ao35 t581.length co35 : Value).ownBlock) _ _ t581 (fun k_ => some k_ = (.slice Ao36 t585.length co36 : Value).ownBlock) _ _ t585 t589 false _ ?_ ?_ A14.out).mono ?_); exact Kd.R_V (Kd.R_tight rfl (IsS78.apart HI0.out (HO583.out) (by decide))); exact Kd.R_V (Kd.R_tight rfl (IsS78.apart HI0.out (HO587.out) (by decide))); rintro e w37 ⟨v590, rfl, ho0, hb⟩; refine ⟨_, rfl, ?_⟩; have HO591 := am (Kd.R_lower (Kd.R_new' (Kd.R_new' (Kd.R_new' (Kd.R_mono (ok' := fun k_ => True) ho0 (fun _ hk_ => trivial)) (Kd.R_lt (wR HO_5))) (Kd.R_lt (wR HO583))) (Kd.R_lt (wR HO587))) (keep_size (w := w) (g := g) (row := none) (kw HK))); replace HO_5 := eR HO_5 (Kd.R_base ho0) hb; replace HO583 := eR HO583 (Kd.R_base ho0) hb; replace HO587 := eR HO587 (Kd.R_base ho0) hb; replace HK := am (KeepBut.trans (kw HK) (KeepBut.of_below hb g none) (.inl rfl)); replace HB := am (below_step (bi78 HB HI0) hb); replace HI0 := am (IsS78.below (iw78 HI0) hb); (try clear hb); (try clear ho0)) | ((with_reducible refine gate_dst (N := 36) rfl ?_); refine li 3 [1, 0, 0, 0, 0, 1, 0, 0] ?_; intro v599 w38 ho39 hb; (first | rw [← Ny598.out] at ho39 | (simp only [Int.reduceToNat] at ho39; rw [← Ny598.out] at ho39)); have HO600 := am (Kd.R_lower (Kd.R_new' (Kd.R_new' (Kd.R_new' (Kd.R_new' ho39 (Kd.R_lt (wR HO_5))) (Kd.R_lt (wR HO583))) (Kd.R_lt (wR HO587))) (Kd.R_lt (wR HO591))) (keep_size (w := w) (g := g) (row := none) (kw HK))); replace HO_5 := eR HO_5 (Kd.R_base ho39) hb; replace HO583 := eR HO583 (Kd.R_base ho39) hb; replace HO587 := eR HO587 (Kd.R_base ho39) hb; replace HO591 := eR HO591 (Kd.R_base ho39) hb; replace HK := am (KeepBut.trans (kw HK) (KeepBut.of_below hb g none) (.inl rfl)); replace HB := am (below_step (bi78 HB HI0) hb); replace HI0 := am (IsS78.below (iw78 HI0) hb); clear hb ho39))
     go_ret
     exact ⟨_, fq, Kd.R_below (Kd.R_mono HO600.out (fun _ hk => trivial)) gs, iw78 HI0, bi78 HB HI0, kw HK⟩
end Go.Proofs.Ytmenehnfgenlpaa.PA

-- Written by xprint.py, a program of this claim's own (over the kit's print.py)
import Derived.Test.YtmenehnfgenlpaaPAx0
import Derived.Test.YtmenehnfgenlpaaPAx7
import Derived.Test.YtmenehnfgenlpaaPAx9
import Derived.Test.YtmenehnfgenlpaaPAx10
import Derived.Test.YtmenehnfgenlpaaPAx12
import Derived.Test.YtmenehnfgenlpaaPAx13
import Derived.Deep.Cut
namespace Go.Proofs.Ytmenehnfgenlpaa.PA
open Go.RowKit Go.Proofs.YtmenehnfgenlpaaW.PrintWords Go.Proofs.YtmenehnfgenlpaaW.PrintLast Go.Proofs.YtmenehnfgenlpaaW.PrintMore
attribute [local go_sem] max2_int min2_int max_two min_two max_three min_three max_four min_four   -- for this text's walks alone
set_option linter.unusedVariables false
set_option linter.unusedSimpArgs false

/-! ### spec_l92Lines: function 78 -/
def spec_l92Lines.j0 : Nat → Int → List Int → Bool → List Int → Int → Option (Int × List Int × List Int)
 | 0, _, _, _, _, _ => none
 | k + 1, x6, x7, x24, x444000, x444001 => if x24 = true then (if 4 ≤ (x7.length : Int) then ((spec_l4Row.f k x6 (x7.take 4)).bind fun t457 => ((spec_l92Place.f k x444000 x444001 x6).bind fun bt460 => ((spec_SpaceThrough.f k x6 t457 bt460.1).bind fun bt464 => (if bt464.2 = true then (some (x6, x7, bt464.1)) else ((spec_l92Line.f k x444000 bt460.2 x6).bind fun bt468 => (some (x6, x7, bt468.1))))))) else (none)) else ((spec_l92Line.f k x444000 x444001 x6).bind fun bt472 => (some (x6, x7, bt472.1)))
def spec_l92Lines.f (k : Nat) (l0 : List Int) : Option (Int × List Int × List Int) := (spec_l6Open.f l0).bind fun bt441 => ((spec_l92Prime.f k bt441.1 bt441.2).bind fun bt444 => ((spec_l92Line.f k bt441.1 bt444.2 bt444.1).bind fun bt446 => ((spec_SpaceIn.f k bt444.1 bt446.1).bind fun t450 => (if t450 = true then ((spec_l6Rd_pick.f k bt441.1 bt446.2 2).bind fun bt451 => (spec_l92Lines.j0 k bt444.1 bt446.1 (bt451.1 == 0) bt441.1 bt451.2)) else (spec_l92Lines.j0 k bt444.1 bt446.1 false bt441.1 bt446.2)))))
theorem spec_l92Lines.mono_l : ∀ k, (∀ y0 y1 y2 y3 y4, LeO (spec_l92Lines.j0 k y0 y1 y2 y3 y4) (spec_l92Lines.j0 (k + 1) y0 y1 y2 y3 y4))
 | 0 => fun _ _ _ _ _ r h => by simp [spec_l92Lines.j0] at h
 | k + 1 => by
  have ih0 := spec_l92Lines.mono_l k
  ·intro y0 y1 y2 y3 y4
   unfold spec_l92Lines.j0
   repeat' first | (with_reducible first | apply ih0 | apply spec_SpaceIn.mono | apply spec_SpaceThrough.mono | apply spec_l4Row.mono | apply spec_l6Rd_pick.mono | apply spec_l92Line.mono | apply spec_l92Place.mono | apply spec_l92Prime.mono | exact LeO.refl _ | exact LeO.none _ | refine LeO.ite ?_ ?_ | refine LeO.bind ?_ (fun _ => ?_)) | (first | apply ih0 | apply spec_SpaceIn.mono | apply spec_SpaceThrough.mono | apply spec_l4Row.mono | apply spec_l6Rd_pick.mono | apply spec_l92Line.mono | apply spec_l92Place.mono | apply spec_l92Prime.mono | exact LeO.none _ | refine LeO.ite ?_ ?_ | refine LeO.bind ?_ (fun _ => ?_))
theorem spec_l92Lines.mono : ∀ a0 k, LeO (spec_l92Lines.f k a0) (spec_l92Lines.f (k + 1) a0) := by
 intro a0 k
 have ih0 := spec_l92Lines.mono_l k
 unfold spec_l92Lines.f
 repeat' first | (with_reducible first | apply ih0 | apply spec_SpaceIn.mono | apply spec_SpaceThrough.mono | apply spec_l4Row.mono | apply spec_l6Rd_pick.mono | apply spec_l92Line.mono | apply spec_l92Place.mono | apply spec_l92Prime.mono | exact LeO.refl _ | exact LeO.none _ | refine LeO.ite ?_ ?_ | refine LeO.bind ?_ (fun _ => ?_)) | (first | apply ih0 | apply spec_SpaceIn.mono | apply spec_SpaceThrough.mono | apply spec_l4Row.mono | apply spec_l6Rd_pick.mono | apply spec_l92Line.mono | apply spec_l92Place.mono | apply spec_l92Prime.mono | exact LeO.none _ | refine LeO.ite ?_ ?_ | refine LeO.bind ?_ (fun _ => ?_))
set_option maxHeartbeats 8000000 in
set_option maxRecDepth 100000 in
theorem spec_l92Lines.calls (k : Nat) (A0 : Option Addr) (c0 : Nat) (l0 : List Int) (r1 : Int) (r2 : List Int) (r3 : List Int) (w : World) (hr0 : Kd.C (Kd.int .u8) w A0 l0.length l0) (hc0 : l0.length ≤ c0) (h : spec_l92Lines.f k l0 = some (r1, r2, r3)) :
  Calls Try.prog 78 #[.slice A0 l0.length c0] w fun e w' => ∃ v1_ v2_ : Value, e = .returned (.tuple #[.int .i64 r1, v1_, v2_]) ∧ Kd.R (Kd.int .i64) 3 w' w.heap.size (fun k_ => some k_ ≠ (v2_ : Value).ownBlock) v1_ r2 ∧ Kd.R (Kd.int .i64) 3 w' w.heap.size (fun k_ => some k_ ≠ (v1_ : Value).ownBlock) v2_ r3 ∧ Below w.heap.size w w' := by
 have HR0 := am hr0
 have HC0 := am hc0
 clear hr0 hc0
 have HB := am (Below.refl w.heap.size w)
 have H : ((spec_l6Open.f l0).bind fun bt441 => ((spec_l92Prime.f k bt441.1 bt441.2).bind fun bt444 => ((spec_l92Line.f k bt441.1 bt444.2 bt444.1).bind fun bt446 => ((spec_SpaceIn.f k bt444.1 bt446.1).bind fun t450 => (if t450 = true then ((spec_l6Rd_pick.f k bt441.1 bt446.2 2).bind fun bt451 => (spec_l92Lines.j0 k bt444.1 bt446.1 (bt451.1 == 0) bt441.1 bt451.2)) else (spec_l92Lines.j0 k bt444.1 bt446.1 false bt441.1 bt446.2)))))) = some (r1, r2, r3) := h
 clear h; replace H := bs H
 obtain ⟨⟨t441, t442⟩, A2, H⟩ := H
 dsimp only at H
 replace H := bs H
 obtain ⟨⟨t444, t445⟩, A3, H⟩ := H
 dsimp only at H
 replace H := bs H
 obtain ⟨⟨t446, t449⟩, A4, H⟩ := H
 dsimp only at H
 have HC5 := am H
 clear H
 go_enter Try.func78, Try.ntmps78
 go_upto_region 4 with (first | ((with_reducible refine gate_callee (f := 56) rfl ?_); refine gl 11 Try.func56 #[.slice A0 l0.length c0] ?_; (with_reducible refine (spec_l6Open.calls _ _ l0 t441 t442 w _ ?_ ?_ ?_ A2.out).mono ?_); (· repeat (first | (with_reducible first | exact HB.out | apply below_alloc | apply pw_below_drewN | apply below_drew1) | exact HB.out)); exact HR0.out; exact HC0.out; rintro e w6 ⟨g443, rfl, hi, hb, hb2⟩; refine ⟨_, rfl, ?_⟩; replace HB := am (hb); have HI443 := am (hi); (try clear hb); (try clear hb2); (try clear hi)) | ((with_reducible refine gate_callee (f := 57) rfl ?_); refine gl 13 Try.func57 #[.pointer (some ⟨g443, 0, none⟩)] ?_; (with_reducible refine (spec_l92Prime.calls k g443 t441 t442 t444 t445 w _ ?_ ?_ A3.out).mono ?_); (· repeat (first | (with_reducible first | exact HI443.out | apply IsS78.alloc | apply IsS78.drewN | apply IsS78.drew | apply IsS78.set_1) | exact HI443.out)); (· repeat (first | (with_reducible first | exact HB.out | apply below_alloc | apply pw_below_drewN | apply below_drew1 | refine below_set ?_ (IsS78.ge HI443.out)) | exact HB.out)); rintro e w7 ⟨rfl, hi, hb, hk⟩; refine ⟨_, rfl, ?_⟩; replace HB := am (hb); replace HI443 := am (hi); (try clear hb); (try clear hk); (try clear hi)) | ((with_reducible refine gate_callee (f := 58) rfl ?_); refine gl 16 Try.func58 #[.pointer (some ⟨g443, 0, none⟩), .int .i64 t444] ?_; (with_reducible refine (spec_l92Line.calls k g443 t441 t445 t444 t446 t449 w _ ?_ ?_ A4.out).mono ?_); (· repeat (first | (with_reducible first | exact HI443.out | apply IsS78.alloc | apply IsS78.drewN | apply IsS78.drew | apply IsS78.set_1) | exact HI443.out)); (· repeat (first | (with_reducible first | exact HB.out | apply below_alloc | apply pw_below_drewN | apply below_drew1 | refine below_set ?_ (IsS78.ge HI443.out)) | exact HB.out)); rintro e w8 ⟨v447, rfl, ho0, hi, hb, hk⟩; refine ⟨_, rfl, ?_⟩; have HO448 := am (Kd.R_lower ho0 (below_size (bi78 HB HI443))); replace HB := am (hb); replace HI443 := am (hi); (try clear hb); (try clear hk); (try clear hi); (try clear ho0)))
 (try simp only [Act.put, List.setIfInBounds_toArray, List.set_cons_zero, List.set_cons_succ])
 go_cut [24] (fun v24 wc => ∃ (kq : Nat) (x24_4 : Bool) (x444001_4 : Int), v24 = .bool x24_4 ∧ Aside0 (spec_l92Lines.j0 kq t444 t446 x24_4 t441 x444001_4 = some (r1, r2, r3)) ∧ Aside0 (kq ≤ k) ∧ Aside0 (Kd.R (Kd.int .i64) 3 wc w.heap.size (fun _ => True) v447 t446) ∧ Aside0 (IsS78 w wc g443 t441 x444001_4) ∧ Aside0 (Below w.heap.size w wc))
 case first =>
  have H := HC5.out
  clear HC5; replace H := bs H; obtain ⟨t450, A9, H⟩ := H
  by_cases c10 : t450 = true
  ·subst c10
   rw [if_pos rfl] at H
   replace H := bs H
   obtain ⟨⟨t451, t452⟩, A11, H⟩ := H
   dsimp only at H
   have H' := am H; clear H
   obtain ⟨Ao12, co12, eo12⟩ := Kd.R_slice HO448.out
   subst eo12
   go_wp2_with (first | ((with_reducible refine gate_callee (f := 23) rfl ?_); refine gl 19 Try.func23 #[.int .i64 t444, .slice Ao12 t446.length co12] ?_; (with_reducible refine (spec_SpaceIn.calls k t444 _ _ t446 true _ ?_ ?_ A9.out).mono ?_); exact Kd.C_below (Kd.R_reads' HO448.out).2.2 gs; exact (Kd.R_reads' HO448.out).2.1; rintro e w13 ⟨rfl, hb⟩; refine ⟨_, rfl, ?_⟩; replace HO448 := am (Kd.R_below (wR HO448) hb); replace HB := am (below_step (bi78 HB HI443) hb); replace HI443 := am (IsS78.below (iw78 HI443) hb); (try clear hb)) | (go_at_call 64; (with_reducible refine (spec_l6Rd_pick.calls k g443 t441 t449 2 t451 t452 w _ ?_ ?_ A11.out).mono ?_); (· repeat (first | (with_reducible first | exact HI443.out | apply IsS78.alloc | apply IsS78.drewN | apply IsS78.drew | apply IsS78.set_1) | exact HI443.out)); (· repeat (first | (with_reducible first | exact HB.out | apply below_alloc | apply pw_below_drewN | apply below_drew1 | refine below_set ?_ (IsS78.ge HI443.out)) | exact HB.out)); rintro e w14 ⟨rfl, hi, hb, hk⟩; replace HO448 := am (Kd.R_mono (Kd.R_keep (IsS78.apart (show IsS78 w _ g443 t441 t449 from iw78 HI443) (wR HO448) (by decide)) hk (fun _ h => h.2)) (fun _ h => h.1)); replace HB := am (hb); replace HI443 := am (hi); (try clear hb); (try clear hk); (try clear hi)))
   go_meet
   case rel => exact ⟨_, ((t451 == 0)), (t452), fr, H', ⟨by first | omega | exact Nat.le_refl _⟩, ⟨wR HO448⟩, ⟨iw78 HI443⟩, ⟨bi78 HB HI443⟩⟩
  ·replace c10 := Bool.eq_false_iff.mpr c10
   subst c10
   rw [if_neg (show ¬ (false = true) by decide)] at H
   have H' := am H; clear H
   obtain ⟨Ao15, co15, eo15⟩ := Kd.R_slice HO448.out
   subst eo15
   go_wp2_with (first | ((with_reducible refine gate_callee (f := 23) rfl ?_); refine gl 19 Try.func23 #[.int .i64 t444, .slice Ao15 t446.length co15] ?_; (with_reducible refine (spec_SpaceIn.calls k t444 _ _ t446 false _ ?_ ?_ A9.out).mono ?_); exact Kd.C_below (Kd.R_reads' HO448.out).2.2 gs; exact (Kd.R_reads' HO448.out).2.1; rintro e w16 ⟨rfl, hb⟩; refine ⟨_, rfl, ?_⟩; replace HO448 := am (Kd.R_below (wR HO448) hb); replace HB := am (below_step (bi78 HB HI443) hb); replace HI443 := am (IsS78.below (iw78 HI443) hb); (try clear hb)))
   go_meet
   case rel => exact ⟨_, (false), (t449), fr, H', ⟨by first | omega | exact Nat.le_refl _⟩, ⟨wR HO448⟩, ⟨iw78 HI443⟩, ⟨bi78 HB HI443⟩⟩
 case rest =>
  clear HC5; try clear c1; try clear c2; try clear p2; try clear c5; try clear c7; try clear c10
  obtain ⟨kq, x24_4, x444001_4, rfl, HA, HJ4, HO_7, HI443, HB⟩ := hcut
  cases kq with
  | zero => exact absurd HA.out (by simp [spec_l92Lines.j0])
  | succ kj4 =>
   have H := HA.out; clear HA
   simp only [spec_l92Lines.j0] at H
   by_cases c17 : x24_4 = true
   ·subst c17
    rw [if_pos rfl] at H
    replace H := ifn H; obtain ⟨c18, H⟩ := H; have c18b0 := eq_true c18; have c18b1 := decide_eq_true c18; clear c18
    generalize hy453 : (t446.take 4) = y453 at H
    have Ny453 := am hy453.symm; clear hy453; replace H := bs H; obtain ⟨t457, A19, H⟩ := H; replace H := bs H
    obtain ⟨⟨t460, t463⟩, A20, H⟩ := H
    dsimp only at H
    replace H := bs H
    obtain ⟨⟨t464, t467⟩, A21, H⟩ := H
    dsimp only at H
    by_cases c22 : t467 = true
    ·subst c22
     rw [if_pos rfl] at H
     simp only [Option.some.injEq, Prod.mk.injEq] at H
     obtain ⟨rfl, rfl, rfl⟩ := H
     obtain ⟨Ao24, co24, eo24⟩ := Kd.R_slice HO_7.out
     subst eo24
     have q23 : (4 : Int) ≤ ((t446.length : Int) : Int) := od
     obtain ⟨i023, hi023, _, hsz23, _⟩ := info_parts info3
     have hroom23 : t446.length ≤ co24 := (Kd.R_reads' HO_7.out).2.1
     have hC23 : Kd.C (Kd.int .i64) _ Ao24 t446.length t446 := (Kd.R_reads' HO_7.out).2.2
     have hcut23 := cut_to (P := Try.prog) 22 3 .i64 Try.underlying22 hi023 Ao24 t446.length co24 4 (by omega) q23 hroom23
     have hr23 := Kd.C_take (m := 4) hC23 (by omega)
     have hy23 : y453.length = (4 : Int).toNat := (by rw [Ny453.out, List.length_take]; omega)
     rw [← Ny453.out] at hr23
     rw [← hy23] at hcut23
     have HR456 := am hr23
     have HC456 := am (show y453.length ≤ co24 from by omega)
     clear hr23 hC23 hroom23 hi023 hsz23
     have KY23 := am hy23
     clear hy23
     have KL23 := am (show 4 ≤ t446.length from by omega)
     replace q23 := eq_true q23
     go_wp2_with (first | ((with_reducible refine gate_callee (f := 44) rfl ?_); refine gl 30 Try.func44 #[.int .i64 t444, .slice Ao24 y453.length co24] ?_; (with_reducible refine (spec_l4Row.calls kj4 t444 _ _ y453 t457 _ ?_ ?_ A19.out).mono ?_); exact wC HR456; exact HC456.out; rintro e w25 ⟨v458, rfl, ho0, hb⟩; refine ⟨_, rfl, ?_⟩; have HO459 := am (Kd.R_lower (Kd.R_new' ho0 (Kd.R_lt (wR HO_7))) (below_size (bi78 HB HI443))); replace HO_7 := eR HO_7 (Kd.R_base ho0) hb; replace HR456 := am (Kd.C_below (wC HR456) hb); replace HB := am (below_step (bi78 HB HI443) hb); replace HI443 := am (IsS78.below (iw78 HI443) hb); (try clear hb); (try clear ho0)) | ((with_reducible refine gate_callee (f := 65) rfl ?_); refine gl 33 Try.func65 #[.pointer (some ⟨g443, 0, none⟩), .int .i64 t444] ?_; (with_reducible refine (spec_l92Place.calls kj4 g443 t441 x444001_4 t444 t460 t463 w _ ?_ ?_ A20.out).mono ?_); (· repeat (first | (with_reducible first | exact HI443.out | apply IsS78.alloc | apply IsS78.drewN | apply IsS78.drew | apply IsS78.set_1) | exact HI443.out)); (· repeat (first | (with_reducible first | exact HB.out | apply below_alloc | apply pw_below_drewN | apply below_drew1 | refine below_set ?_ (IsS78.ge HI443.out)) | exact HB.out)); rintro e w26 ⟨v461, rfl, ho0, hi, hb, hk⟩; refine ⟨_, rfl, ?_⟩; have HO462 := am (Kd.R_lower (Kd.R_new' (Kd.R_new' ho0 (Kd.R_lt (wR HO_7))) (Kd.R_lt (wR HO459))) (below_size (bi78 HB HI443))); replace HO_7 := am (Kd.R_mono (Kd.R_told (Kd.R_oldK (IsS78.apart (show IsS78 w _ g443 t441 x444001_4 from iw78 HI443) (wR HO_7) (by decide)) hk) (Kd.R_base ho0)) (fun _ h_ => h_.1)); replace HO459 := am (Kd.R_mono (Kd.R_told (Kd.R_oldK (IsS78.apart (show IsS78 w _ g443 t441 x444001_4 from iw78 HI443) (wR HO459) (by decide)) hk) (Kd.R_base ho0)) (fun _ h_ => h_.1)); replace HB := am (hb); replace HI443 := am (hi); (try clear hb); (try clear hk); (try clear hi); (try clear ho0); obtain ⟨Ao27, co27, eo27⟩ := Kd.R_slice HO459.out; subst eo27; obtain ⟨Ao28, co28, eo28⟩ := Kd.R_slice HO462.out; subst eo28) | ((with_reducible refine gate_callee (f := 86) rfl ?_); refine gl 34 Try.func86 #[.int .i64 t444, .slice Ao27 t457.length co27, .slice Ao28 t460.length co28] ?_; (with_reducible refine (spec_SpaceThrough.calls kj4 t444 (fun k_ => some k_ = (.slice Ao27 t457.length co27 : Value).ownBlock) _ _ t457 (fun k_ => some k_ = (.slice Ao28 t460.length co28 : Value).ownBlock) _ _ t460 t464 true _ ?_ ?_ A21.out).mono ?_); exact Kd.R_V (Kd.R_tight rfl (IsS78.apart HI443.out (HO459.out) (by decide))); exact Kd.R_V (Kd.R_tight rfl (IsS78.apart HI443.out (HO462.out) (by decide))); rintro e w29 ⟨v465, rfl, ho0, hb⟩; refine ⟨_, rfl, ?_⟩; have HO466 := am (Kd.R_lower (Kd.R_new' (Kd.R_new' (Kd.R_new' (Kd.R_mono (ok' := fun k_ => True) ho0 (fun _ hk_ => trivial)) (Kd.R_lt (wR HO_7))) (Kd.R_lt (wR HO459))) (Kd.R_lt (wR HO462))) (below_size (bi78 HB HI443))); replace HO_7 := eR HO_7 (Kd.R_base ho0) hb; replace HO459 := eR HO459 (Kd.R_base ho0) hb; replace HO462 := eR HO462 (Kd.R_base ho0) hb; replace HB := am (below_step (bi78 HB HI443) hb); replace HI443 := am (IsS78.below (iw78 HI443) hb); (try clear hb); (try clear ho0)))
     go_ret3
     exact ⟨_, _, fq, Kd.R_below (Kd.R_mono HO_7.out (fun _ hk => hk.2)) gs, Kd.R_below (Kd.R_mono HO466.out (fun _ hk => hk.1.1.2)) gs, bi78 HB HI443⟩
    ·replace c22 := Bool.eq_false_iff.mpr c22
     subst c22
     rw [if_neg (show ¬ (false = true) by decide)] at H
     replace H := bs H
     obtain ⟨⟨t468, t471⟩, A30, H⟩ := H
     dsimp only at H
     simp only [Option.some.injEq, Prod.mk.injEq] at H
     obtain ⟨rfl, rfl, rfl⟩ := H
     obtain ⟨Ao32, co32, eo32⟩ := Kd.R_slice HO_7.out
     subst eo32
     have q31 : (4 : Int) ≤ ((t446.length : Int) : Int) := od
     obtain ⟨i031, hi031, _, hsz31, _⟩ := info_parts info3
     have hroom31 : t446.length ≤ co32 := (Kd.R_reads' HO_7.out).2.1
     have hC31 : Kd.C (Kd.int .i64) _ Ao32 t446.length t446 := (Kd.R_reads' HO_7.out).2.2
     have hcut31 := cut_to (P := Try.prog) 22 3 .i64 Try.underlying22 hi031 Ao32 t446.length co32 4 (by omega) q31 hroom31
     have hr31 := Kd.C_take (m := 4) hC31 (by omega)
     have hy31 : y453.length = (4 : Int).toNat := (by rw [Ny453.out, List.length_take]; omega)
     rw [← Ny453.out] at hr31
     rw [← hy31] at hcut31
     have HR456 := am hr31
     have HC456 := am (show y453.length ≤ co32 from by omega)
     clear hr31 hC31 hroom31 hi031 hsz31
     have KY31 := am hy31
     clear hy31
     have KL31 := am (show 4 ≤ t446.length from by omega)
     replace q31 := eq_true q31
     go_wp2_with (first | ((with_reducible refine gate_callee (f := 44) rfl ?_); refine gl 30 Try.func44 #[.int .i64 t444, .slice Ao32 y453.length co32] ?_; (with_reducible refine (spec_l4Row.calls kj4 t444 _ _ y453 t457 _ ?_ ?_ A19.out).mono ?_); exact wC HR456; exact HC456.out; rintro e w33 ⟨v458, rfl, ho0, hb⟩; refine ⟨_, rfl, ?_⟩; have HO459 := am (Kd.R_lower (Kd.R_new' ho0 (Kd.R_lt (wR HO_7))) (below_size (bi78 HB HI443))); replace HO_7 := eR HO_7 (Kd.R_base ho0) hb; replace HR456 := am (Kd.C_below (wC HR456) hb); replace HB := am (below_step (bi78 HB HI443) hb); replace HI443 := am (IsS78.below (iw78 HI443) hb); (try clear hb); (try clear ho0)) | ((with_reducible refine gate_callee (f := 65) rfl ?_); refine gl 33 Try.func65 #[.pointer (some ⟨g443, 0, none⟩), .int .i64 t444] ?_; (with_reducible refine (spec_l92Place.calls kj4 g443 t441 x444001_4 t444 t460 t463 w _ ?_ ?_ A20.out).mono ?_); (· repeat (first | (with_reducible first | exact HI443.out | apply IsS78.alloc | apply IsS78.drewN | apply IsS78.drew | apply IsS78.set_1) | exact HI443.out)); (· repeat (first | (with_reducible first | exact HB.out | apply below_alloc | apply pw_below_drewN | apply below_drew1 | refine below_set ?_ (IsS78.ge HI443.out)) | exact HB.out)); rintro e w34 ⟨v461, rfl, ho0, hi, hb, hk⟩; refine ⟨_, rfl, ?_⟩; have HO462 := am (Kd.R_lower (Kd.R_new' (Kd.R_new' ho0 (Kd.R_lt (wR HO_7))) (Kd.R_lt (wR HO459))) (below_size (bi78 HB HI443))); replace HO_7 := am (Kd.R_mono (Kd.R_told (Kd.R_oldK (IsS78.apart (show IsS78 w _ g443 t441 x444001_4 from iw78 HI443) (wR HO_7) (by decide)) hk) (Kd.R_base ho0)) (fun _ h_ => h_.1)); replace HO459 := am (Kd.R_mono (Kd.R_told (Kd.R_oldK (IsS78.apart (show IsS78 w _ g443 t441 x444001_4 from iw78 HI443) (wR HO459) (by decide)) hk) (Kd.R_base ho0)) (fun _ h_ => h_.1)); replace HB := am (hb); replace HI443 := am (hi); (try clear hb); (try clear hk); (try clear hi); (try clear ho0); obtain ⟨Ao35, co35, eo35⟩ := Kd.R_slice HO459.out; subst eo35; obtain ⟨Ao36, co36, eo36⟩ := Kd.R_slice HO462.out; subst eo36) | ((with_reducible refine gate_callee (f := 86) rfl ?_); refine gl 34 Try.func86 #[.int .i64 t444, .slice Ao35 t457.length co35, .slice Ao36 t460.length co36] ?_; (with_reducible refine (spec_SpaceThrough.calls kj4 t444 (fun k_ => some k_ = (.slice Ao35 t457.length co35 : Value).ownBlock) _ _ t457 (fun k_ => some k_ = (.slice Ao36 t460.length co36 : Value).ownBlock) _ _ t460 t464 false _ ?_ ?_ A21.out).mono ?_); exact Kd.R_V (Kd.R_tight rfl (IsS78.apart HI443.out (HO459.out) (by decide))); exact Kd.R_V (Kd.R_tight rfl (IsS78.apart HI443.out (HO462.out) (by decide))); rintro e w37 ⟨v465, rfl, ho0, hb⟩; refine ⟨_, rfl, ?_⟩; have HO466 := am (Kd.R_lower (Kd.R_new' (Kd.R_new' (Kd.R_new' (Kd.R_mono (ok' := fun k_ => True) ho0 (fun _ hk_ => trivial)) (Kd.R_lt (wR HO_7))) (Kd.R_lt (wR HO459))) (Kd.R_lt (wR HO462))) (below_size (bi78 HB HI443))); replace HO_7 := eR HO_7 (Kd.R_base ho0) hb; replace HO459 := eR HO459 (Kd.R_base ho0) hb; replace HO462 := eR HO462 (Kd.R_base ho0) hb; replace HB := am (below_step (bi78 HB HI443) hb); replace HI443 := am (IsS78.below (iw78 HI443) hb); (try clear hb); (try clear ho0)) | ((with_reducible refine gate_callee (f := 58) rfl ?_); refine gl 45 Try.func58 #[.pointer (some ⟨g443, 0, none⟩), .int .i64 t444] ?_; (with_reducible refine (spec_l92Line.calls kj4 g443 t441 t463 t444 t468 t471 w _ ?_ ?_ A30.out).mono ?_); (· repeat (first | (with_reducible first | exact HI443.out | apply IsS78.alloc | apply IsS78.drewN | apply IsS78.drew | apply IsS78.set_1) | exact HI443.out)); (· repeat (first | (with_reducible first | exact HB.out | apply below_alloc | apply pw_below_drewN | apply below_drew1 | refine below_set ?_ (IsS78.ge HI443.out)) | exact HB.out)); rintro e w38 ⟨v469, rfl, ho0, hi, hb, hk⟩; refine ⟨_, rfl, ?_⟩; have HO470 := am (Kd.R_lower (Kd.R_new' (Kd.R_new' (Kd.R_new' (Kd.R_new' ho0 (Kd.R_lt (wR HO_7))) (Kd.R_lt (wR HO459))) (Kd.R_lt (wR HO462))) (Kd.R_lt (wR HO466))) (below_size (bi78 HB HI443))); replace HO_7 := am (Kd.R_mono (Kd.R_told (Kd.R_oldK (IsS78.apart (show IsS78 w _ g443 t441 t463 from iw78 HI443) (wR HO_7) (by decide)) hk) (Kd.R_base ho0)) (fun _ h_ => h_.1)); replace HO459 := am (Kd.R_mono (Kd.R_told (Kd.R_oldK (IsS78.apart (show IsS78 w _ g443 t441 t463 from iw78 HI443) (wR HO459) (by decide)) hk) (Kd.R_base ho0)) (fun _ h_ => h_.1)); replace HO462 := am (Kd.R_mono (Kd.R_told (Kd.R_oldK (IsS78.apart (show IsS78 w _ g443 t441 t463 from iw78 HI443) (wR HO462) (by decide)) hk) (Kd.R_base ho0)) (fun _ h_ => h_.1)); replace HO466 := am (Kd.R_mono (Kd.R_told (Kd.R_oldK (IsS78.apart (show IsS78 w _ g443 t441 t463 from iw78 HI443) (wR HO466) (by decide)) hk) (Kd.R_base ho0)) (fun _ h_ => h_.1)); replace HB := am (hb); replace HI443 := am (hi); (try clear hb); (try clear hk); (try clear hi); (try clear ho0)))
     go_ret3
     exact ⟨_, _, fq, Kd.R_below (Kd.R_mono HO_7.out (fun _ hk => hk.2)) gs, Kd.R_below (Kd.R_mono HO470.out (fun _ hk => hk.1.1.1.2)) gs, bi78 HB HI443⟩
   ·replace c17 := Bool.eq_false_iff.mpr c17
    subst c17
    rw [if_neg (show ¬ (false = true) by decide)] at H
    replace H := bs H
    obtain ⟨⟨t472, t475⟩, A39, H⟩ := H
    dsimp only at H
    simp only [Option.some.injEq, Prod.mk.injEq] at H
    obtain ⟨rfl, rfl, rfl⟩ := H
    go_wp2_with (first | ((with_reducible refine gate_callee (f := 58) rfl ?_); refine gl 45 Try.func58 #[.pointer (some ⟨g443, 0, none⟩), .int .i64 t444] ?_; (with_reducible refine (spec_l92Line.calls kj4 g443 t441 x444001_4 t444 t472 t475 w _ ?_ ?_ A39.out).mono ?_); (· repeat (first | (with_reducible first | exact HI443.out | apply IsS78.alloc | apply IsS78.drewN | apply IsS78.drew | apply IsS78.set_1) | exact HI443.out)); (· repeat (first | (with_reducible first | exact HB.out | apply below_alloc | apply pw_below_drewN | apply below_drew1 | refine below_set ?_ (IsS78.ge HI443.out)) | exact HB.out)); rintro e w40 ⟨v473, rfl, ho0, hi, hb, hk⟩; refine ⟨_, rfl, ?_⟩; have HO474 := am (Kd.R_lower (Kd.R_new' ho0 (Kd.R_lt (wR HO_7))) (below_size (bi78 HB HI443))); replace HO_7 := am (Kd.R_mono (Kd.R_told (Kd.R_oldK (IsS78.apart (show IsS78 w _ g443 t441 x444001_4 from iw78 HI443) (wR HO_7) (by decide)) hk) (Kd.R_base ho0)) (fun _ h_ => h_.1)); replace HB := am (hb); replace HI443 := am (hi); (try clear hb); (try clear hk); (try clear hi); (try clear ho0)))
    go_ret3
    exact ⟨_, _, fq, Kd.R_below (Kd.R_mono HO_7.out (fun _ hk => hk.2)) gs, Kd.R_below (Kd.R_mono HO474.out (fun _ hk => hk.2)) gs, bi78 HB HI443⟩/-! ### spec_DrawSpaceCross: function 36 -/
def spec_DrawSpaceCross.f (k : Nat) (l0 : List Int) : Option (Int × List Int × List Int) := (spec_l92Lines.f k l0).bind fun bt476 => (some (bt476.1, bt476.2.1, bt476.2.2))
theorem spec_DrawSpaceCross.mono : ∀ a0 k, LeO (spec_DrawSpaceCross.f k a0) (spec_DrawSpaceCross.f (k + 1) a0) := by
 intro a0 k
 unfold spec_DrawSpaceCross.f
 repeat' first | (with_reducible first | apply spec_l92Lines.mono | exact LeO.refl _ | exact LeO.none _ | refine LeO.ite ?_ ?_ | refine LeO.bind ?_ (fun _ => ?_)) | (first | apply spec_l92Lines.mono | exact LeO.none _ | refine LeO.ite ?_ ?_ | refine LeO.bind ?_ (fun _ => ?_))
set_option maxHeartbeats 8000000 in
set_option maxRecDepth 100000 in
theorem spec_DrawSpaceCross.calls (k : Nat) (A0 : Option Addr) (c0 : Nat) (l0 : List Int) (r1 : Int) (r2 : List Int) (r3 : List Int) (w : World) (hr0 : Kd.C (Kd.int .u8) w A0 l0.length l0) (hc0 : l0.length ≤ c0) (h : spec_DrawSpaceCross.f k l0 = some (r1, r2, r3)) :
  Calls Try.prog 36 #[.slice A0 l0.length c0] w fun e w' => ∃ v1_ v2_ : Value, e = .returned (.tuple #[.int .i64 r1, v1_, v2_]) ∧ Kd.R (Kd.int .i64) 3 w' w.heap.size (fun k_ => some k_ ≠ (v2_ : Value).ownBlock) v1_ r2 ∧ Kd.R (Kd.int .i64) 3 w' w.heap.size (fun k_ => some k_ ≠ (v1_ : Value).ownBlock) v2_ r3 ∧ Below w.heap.size w w' := by
 have HR0 := am hr0
 have HC0 := am hc0
 clear hr0 hc0
 have HB := am (Below.refl w.heap.size w)
 have H : ((spec_l92Lines.f k l0).bind fun bt476 => (some (bt476.1, bt476.2.1, bt476.2.2))) = some (r1, r2, r3) := h
 clear h; replace H := bs H
 obtain ⟨⟨t476, t477, t478⟩, A2, H⟩ := H
 dsimp only at H
 simp only [Option.some.injEq, Prod.mk.injEq] at H
 obtain ⟨rfl, rfl, rfl⟩ := H
 go_enter Try.func36, Try.ntmps36
 go_wp2_with (first | ((with_reducible refine gate_callee (f := 78) rfl ?_); refine gl 6 Try.func78 #[.slice A0 l0.length c0] ?_; (with_reducible refine (spec_l92Lines.calls k _ _ l0 t476 t477 t478 _ ?_ ?_ A2.out).mono ?_); exact wC HR0; exact HC0.out; rintro e w3 ⟨v479, v481, rfl, ho0, ho1, hb⟩; refine ⟨_, rfl, ?_⟩; have HO480 := am (Kd.R_lower ho0 (bz HB)); have HO482 := am (Kd.R_lower ho1 (bz HB)); replace HB := bq HB hb; (try clear hb); (try clear ho0); (try clear ho1)))
 go_ret3
 exact ⟨_, _, fq, wR HO480, wR HO482, bw HB⟩/-! ### spec_l7Rank: function 67 -/
def spec_l7Rank.f (k : Nat) (a0 : Int) (l1 : List (List Int)) : Option (Int) := (spec_l4Reduce.f k a0 l1 4).bind fun bt483 => (some (bt483.1.length : Int))
theorem spec_l7Rank.mono : ∀ a0 a1 k, LeO (spec_l7Rank.f k a0 a1) (spec_l7Rank.f (k + 1) a0 a1) := by
 intro a0 a1 k
 unfold spec_l7Rank.f
 repeat' first | (with_reducible first | apply spec_l4Reduce.mono | exact LeO.refl _ | exact LeO.none _ | refine LeO.ite ?_ ?_ | refine LeO.bind ?_ (fun _ => ?_)) | (first | apply spec_l4Reduce.mono | exact LeO.none _ | refine LeO.ite ?_ ?_ | refine LeO.bind ?_ (fun _ => ?_))
set_option maxHeartbeats 8000000 in
set_option maxRecDepth 100000 in
theorem spec_l7Rank.calls (k : Nat) (a0 : Int) (A1 : Option Addr) (c1 : Nat) (l1 : List (List Int)) (r : Int) (w : World) (hr1 : Kd.C (Kd.slice 3 (Kd.int .i64)) w A1 l1.length l1) (hc1 : l1.length ≤ c1) (h : spec_l7Rank.f k a0 l1 = some r) :
  Calls Try.prog 67 #[.int .i64 a0, .slice A1 l1.length c1] w fun e w' => e = .returned (.int .i64 r) ∧ Below w.heap.size w w' := by
 have HR1 := am hr1
 have HC1 := am hc1
 clear hr1 hc1
 have HB := am (Below.refl w.heap.size w)
 have H : ((spec_l4Reduce.f k a0 l1 4).bind fun bt483 => (some (bt483.1.length : Int))) = some r := h
 clear h; replace H := bs H
 obtain ⟨⟨t483, t486⟩, A3, H⟩ := H
 dsimp only at H
 obtain rfl := Option.some.inj H
 go_enter Try.func67, Try.ntmps67
 go_wp2_with (first | ((with_reducible refine gate_callee (f := 60) rfl ?_); refine gl 10 Try.func60 #[.int .i64 a0, .slice A1 l1.length c1, .int .i64 4] ?_; (with_reducible refine (spec_l4Reduce.calls k a0 (fun k_ => k_ < w.heap.size) _ _ l1 4 t483 t486 _ ?_ A3.out).mono ?_); exact Kd.V_mk HC1.out (Kd.F_below (Kd.C_F (Kd.heap_slice 3 (Kd.heap_int .i64)) HR1.out) (bw HB)); rintro e w4 ⟨v484, v487, rfl, ho0, ho1, hb⟩; refine ⟨_, rfl, ?_⟩; have HO485 := am (Kd.N_lower (Kd.N_mono (ok' := fun k_ => some k_ ≠ (v487 : Value).ownBlock) ho0 (fun k_ hk_ => hk_.2)) (bz HB)); have HO488 := am (Kd.R_lower (Kd.R_mono (ok' := fun k_ => True) ho1 (fun _ hk_ => trivial)) (bz HB)); replace HB := bq HB hb; (try clear hb); (try clear ho0); (try clear ho1); obtain ⟨Ao5, co5, eo5⟩ := Kd.N_slice HO485.out; subst eo5))
 go_ret
 exact ⟨fq, bw HB⟩
end Go.Proofs.Ytmenehnfgenlpaa.PA

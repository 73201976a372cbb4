-- Written by xprint.py, a program of this claim's own (over the kit's print.py)
import Derived.Test.YtmenehnfgenlpaaPAx0
import Derived.Test.YtmenehnfgenlpaaPAx1
import Derived.Test.YtmenehnfgenlpaaPAx3
import Derived.Test.YtmenehnfgenlpaaPAx14
import Derived.Test.YtmenehnfgenlpaaPAx16
import Derived.Test.YtmenehnfgenlpaaPAx17
import Derived.Deep.Cut
namespace Go.Proofs.Ytmenehnfgenlpaa.PA
open Go.RowKit Go.Proofs.YtmenehnfgenlpaaW.PrintWords Go.Proofs.YtmenehnfgenlpaaW.PrintLast Go.Proofs.YtmenehnfgenlpaaW.PrintMore
attribute [local go_sem] max2_int min2_int max_two min_two max_three min_three max_four min_four   -- for this text's walks alone
set_option linter.unusedVariables false
set_option linter.unusedSimpArgs false

/-! ### spec_l92Lines: function 78 -/
def spec_l92Lines.j0 : Nat → Int → List Int → Bool → List Int → Int → Option (Int × List Int × List Int)
 | 0, _, _, _, _, _ => none
 | k + 1, x6, x7, x24, x604000, x604001 => if x24 = true then (if 4 ≤ (x7.length : Int) then ((spec_l4Row.f k x6 (x7.take 4)).bind fun t617 => ((spec_l92Place.f k x604000 x604001 x6).bind fun bt620 => ((spec_SpaceThrough.f k x6 t617 bt620.1).bind fun bt624 => (if bt624.2 = true then (some (x6, x7, bt624.1)) else ((spec_l92Line.f k x604000 bt620.2 x6).bind fun bt628 => (some (x6, x7, bt628.1))))))) else (none)) else ((spec_l92Line.f k x604000 x604001 x6).bind fun bt632 => (some (x6, x7, bt632.1)))
def spec_l92Lines.f (k : Nat) (l0 : List Int) : Option (Int × List Int × List Int) := (spec_l6Open.f l0).bind fun bt601 => ((spec_l92Prime.f k bt601.1 bt601.2).bind fun bt604 => ((spec_l92Line.f k bt601.1 bt604.2 bt604.1).bind fun bt606 => ((spec_SpaceIn.f k bt604.1 bt606.1).bind fun t610 => (if t610 = true then ((spec_l6Rd_pick.f k bt601.1 bt606.2 2).bind fun bt611 => (spec_l92Lines.j0 k bt604.1 bt606.1 (bt611.1 == 0) bt601.1 bt611.2)) else (spec_l92Lines.j0 k bt604.1 bt606.1 false bt601.1 bt606.2)))))
theorem spec_l92Lines.mono_l : ∀ k, (∀ y0 y1 y2 y3 y4, LeO (spec_l92Lines.j0 k y0 y1 y2 y3 y4) (spec_l92Lines.j0 (k + 1) y0 y1 y2 y3 y4))
 | 0 => fun _ _ _ _ _ r h => by simp [spec_l92Lines.j0] at h
 | k + 1 => by
  have ih0 := spec_l92Lines.mono_l k
  ·intro y0 y1 y2 y3 y4
   unfold spec_l92Lines.j0
   repeat' first | (with_reducible first | apply ih0 | apply spec_SpaceIn.mono | apply spec_SpaceThrough.mono | apply spec_l4Row.mono | apply spec_l6Rd_pick.mono | apply spec_l92Line.mono | apply spec_l92Place.mono | apply spec_l92Prime.mono | exact LeO.refl _ | exact LeO.none _ | refine LeO.ite ?_ ?_ | refine LeO.bind ?_ (fun _ => ?_)) | (first | apply ih0 | apply spec_SpaceIn.mono | apply spec_SpaceThrough.mono | apply spec_l4Row.mono | apply spec_l6Rd_pick.mono | apply spec_l92Line.mono | apply spec_l92Place.mono | apply spec_l92Prime.mono | exact LeO.none _ | refine LeO.ite ?_ ?_ | refine LeO.bind ?_ (fun _ => ?_))
theorem spec_l92Lines.mono : ∀ a0 k, LeO (spec_l92Lines.f k a0) (spec_l92Lines.f (k + 1) a0) := by
 intro a0 k
 have ih0 := spec_l92Lines.mono_l k
 unfold spec_l92Lines.f
 repeat' first | (with_reducible first | apply ih0 | apply spec_SpaceIn.mono | apply spec_SpaceThrough.mono | apply spec_l4Row.mono | apply spec_l6Rd_pick.mono | apply spec_l92Line.mono | apply spec_l92Place.mono | apply spec_l92Prime.mono | exact LeO.refl _ | exact LeO.none _ | refine LeO.ite ?_ ?_ | refine LeO.bind ?_ (fun _ => ?_)) | (first | apply ih0 | apply spec_SpaceIn.mono | apply spec_SpaceThrough.mono | apply spec_l4Row.mono | apply spec_l6Rd_pick.mono | apply spec_l92Line.mono | apply spec_l92Place.mono | apply spec_l92Prime.mono | exact LeO.none _ | refine LeO.ite ?_ ?_ | refine LeO.bind ?_ (fun _ => ?_))
set_option maxHeartbeats 8000000 in
set_option maxRecDepth 100000 in
theorem spec_l92Lines.calls (k : Nat) (A0 : Option Addr) (c0 : Nat) (l0 : List Int) (r1 : Int) (r2 : List Int) (r3 : List Int) (w : World) (hr0 : Kd.C (Kd.int .u8) w A0 l0.length l0) (hc0 : l0.length ≤ c0) (h : spec_l92Lines.f k l0 = some (r1, r2, r3)) :
  Calls Try.prog 78 #[.slice A0 l0.length c0] w fun e w' => ∃ v1_ v2_ : Value, e = .returned (.tuple #[.int .i64 r1, v1_, v2_]) ∧ Kd.R (Kd.int .i64) 3 w' w.heap.size (fun k_ => some k_ ≠ (v2_ : Value).ownBlock) v1_ r2 ∧ Kd.R (Kd.int .i64) 3 w' w.heap.size (fun k_ => some k_ ≠ (v1_ : Value).ownBlock) v2_ r3 ∧ Below w.heap.size w w' := by
 have HR0 := am hr0
 have HC0 := am hc0
 clear hr0 hc0
 have HB := am (Below.refl w.heap.size w)
 have H : ((spec_l6Open.f l0).bind fun bt601 => ((spec_l92Prime.f k bt601.1 bt601.2).bind fun bt604 => ((spec_l92Line.f k bt601.1 bt604.2 bt604.1).bind fun bt606 => ((spec_SpaceIn.f k bt604.1 bt606.1).bind fun t610 => (if t610 = true then ((spec_l6Rd_pick.f k bt601.1 bt606.2 2).bind fun bt611 => (spec_l92Lines.j0 k bt604.1 bt606.1 (bt611.1 == 0) bt601.1 bt611.2)) else (spec_l92Lines.j0 k bt604.1 bt606.1 false bt601.1 bt606.2)))))) = some (r1, r2, r3) := h
 clear h; replace H := bs H
 obtain ⟨⟨t601, t602⟩, A2, H⟩ := H
 dsimp only at H
 replace H := bs H
 obtain ⟨⟨t604, t605⟩, A3, H⟩ := H
 dsimp only at H
 replace H := bs H
 obtain ⟨⟨t606, t609⟩, A4, H⟩ := H
 dsimp only at H
 have HC5 := am H
 clear H
 go_enter Try.func78, Try.ntmps78
 go_upto_region 4 with (first | ((with_reducible refine gate_callee (f := 56) rfl ?_); refine gl 11 Try.func56 #[.slice A0 l0.length c0] ?_; (with_reducible refine (spec_l6Open.calls _ _ l0 t601 t602 w _ ?_ ?_ ?_ A2.out).mono ?_); (· repeat (first | (with_reducible first | exact HB.out | apply below_alloc | apply pw_below_drewN | apply below_drew1) | exact HB.out)); exact HR0.out; exact HC0.out; rintro e w6 ⟨g603, rfl, hi, hb, hb2⟩; refine ⟨_, rfl, ?_⟩; replace HB := am (hb); have HI603 := am (hi); (try clear hb); (try clear hb2); (try clear hi)) | ((with_reducible refine gate_callee (f := 57) rfl ?_); refine gl 13 Try.func57 #[.pointer (some ⟨g603, 0, none⟩)] ?_; (with_reducible refine (spec_l92Prime.calls k g603 t601 t602 t604 t605 w _ ?_ ?_ A3.out).mono ?_); (· repeat (first | (with_reducible first | exact HI603.out | apply IsS78.alloc | apply IsS78.drewN | apply IsS78.drew | apply IsS78.set_1) | exact HI603.out)); (· repeat (first | (with_reducible first | exact HB.out | apply below_alloc | apply pw_below_drewN | apply below_drew1 | refine below_set ?_ (IsS78.ge HI603.out)) | exact HB.out)); rintro e w7 ⟨rfl, hi, hb, hk⟩; refine ⟨_, rfl, ?_⟩; replace HB := am (hb); replace HI603 := am (hi); (try clear hb); (try clear hk); (try clear hi)) | ((with_reducible refine gate_callee (f := 58) rfl ?_); refine gl 16 Try.func58 #[.pointer (some ⟨g603, 0, none⟩), .int .i64 t604] ?_; (with_reducible refine (spec_l92Line.calls k g603 t601 t605 t604 t606 t609 w _ ?_ ?_ A4.out).mono ?_); (· repeat (first | (with_reducible first | exact HI603.out | apply IsS78.alloc | apply IsS78.drewN | apply IsS78.drew | apply IsS78.set_1) | exact HI603.out)); (· repeat (first | (with_reducible first | exact HB.out | apply below_alloc | apply pw_below_drewN | apply below_drew1 | refine below_set ?_ (IsS78.ge HI603.out)) | exact HB.out)); rintro e w8 ⟨v607, rfl, ho0, hi, hb, hk⟩; refine ⟨_, rfl, ?_⟩; have HO608 := am (Kd.R_lower ho0 (below_size (bi78 HB HI603))); replace HB := am (hb); replace HI603 := am (hi); (try clear hb); (try clear hk); (try clear hi); (try clear ho0)))
 (try simp only [Act.put, List.setIfInBounds_toArray, List.set_cons_zero, List.set_cons_succ])
 go_cut [24] (fun v24 wc => ∃ (kq : Nat) (x24_4 : Bool) (x604001_4 : Int), v24 = .bool x24_4 ∧ Aside0 (spec_l92Lines.j0 kq t604 t606 x24_4 t601 x604001_4 = some (r1, r2, r3)) ∧ Aside0 (kq ≤ k) ∧ Aside0 (Kd.R (Kd.int .i64) 3 wc w.heap.size (fun _ => True) v607 t606) ∧ Aside0 (IsS78 w wc g603 t601 x604001_4) ∧ Aside0 (Below w.heap.size w wc))
 case first =>
  have H := HC5.out
  clear HC5; replace H := bs H; obtain ⟨t610, A9, H⟩ := H
  by_cases c10 : t610 = true
  ·subst c10
   rw [if_pos rfl] at H
   replace H := bs H
   obtain ⟨⟨t611, t612⟩, A11, H⟩ := H
   dsimp only at H
   have H' := am H; clear H
   obtain ⟨Ao12, co12, eo12⟩ := Kd.R_slice HO608.out
   subst eo12
   go_wp2_with (first | ((with_reducible refine gate_callee (f := 23) rfl ?_); refine gl 19 Try.func23 #[.int .i64 t604, .slice Ao12 t606.length co12] ?_; (with_reducible refine (spec_SpaceIn.calls k t604 _ _ t606 true _ ?_ ?_ A9.out).mono ?_); exact Kd.C_below (Kd.R_reads' HO608.out).2.2 gs; exact (Kd.R_reads' HO608.out).2.1; rintro e w13 ⟨rfl, hb⟩; refine ⟨_, rfl, ?_⟩; replace HO608 := am (Kd.R_below (wR HO608) hb); replace HB := am (below_step (bi78 HB HI603) hb); replace HI603 := am (IsS78.below (iw78 HI603) hb); (try clear hb)) | (go_at_call 64; (with_reducible refine (spec_l6Rd_pick.calls k g603 t601 t609 2 t611 t612 w _ ?_ ?_ A11.out).mono ?_); (· repeat (first | (with_reducible first | exact HI603.out | apply IsS78.alloc | apply IsS78.drewN | apply IsS78.drew | apply IsS78.set_1) | exact HI603.out)); (· repeat (first | (with_reducible first | exact HB.out | apply below_alloc | apply pw_below_drewN | apply below_drew1 | refine below_set ?_ (IsS78.ge HI603.out)) | exact HB.out)); rintro e w14 ⟨rfl, hi, hb, hk⟩; replace HO608 := am (Kd.R_mono (Kd.R_keep (IsS78.apart (show IsS78 w _ g603 t601 t609 from iw78 HI603) (wR HO608) (by decide)) hk (fun _ h => h.2)) (fun _ h => h.1)); replace HB := am (hb); replace HI603 := am (hi); (try clear hb); (try clear hk); (try clear hi)))
   go_meet
   case rel => exact ⟨_, ((t611 == 0)), (t612), fr, H', ⟨by first | omega | exact Nat.le_refl _⟩, ⟨wR HO608⟩, ⟨iw78 HI603⟩, ⟨bi78 HB HI603⟩⟩
  ·replace c10 := Bool.eq_false_iff.mpr c10
   subst c10
   rw [if_neg (show ¬ (false = true) by decide)] at H
   have H' := am H; clear H
   obtain ⟨Ao15, co15, eo15⟩ := Kd.R_slice HO608.out
   subst eo15
   go_wp2_with (first | ((with_reducible refine gate_callee (f := 23) rfl ?_); refine gl 19 Try.func23 #[.int .i64 t604, .slice Ao15 t606.length co15] ?_; (with_reducible refine (spec_SpaceIn.calls k t604 _ _ t606 false _ ?_ ?_ A9.out).mono ?_); exact Kd.C_below (Kd.R_reads' HO608.out).2.2 gs; exact (Kd.R_reads' HO608.out).2.1; rintro e w16 ⟨rfl, hb⟩; refine ⟨_, rfl, ?_⟩; replace HO608 := am (Kd.R_below (wR HO608) hb); replace HB := am (below_step (bi78 HB HI603) hb); replace HI603 := am (IsS78.below (iw78 HI603) hb); (try clear hb)))
   go_meet
   case rel => exact ⟨_, (false), (t609), fr, H', ⟨by first | omega | exact Nat.le_refl _⟩, ⟨wR HO608⟩, ⟨iw78 HI603⟩, ⟨bi78 HB HI603⟩⟩
 case rest =>
  clear HC5; try clear c1; try clear c2; try clear p2; try clear c5; try clear c7; try clear c10
  obtain ⟨kq, x24_4, x604001_4, rfl, HA, HJ4, HO_7, HI603, HB⟩ := hcut
  cases kq with
  | zero => exact absurd HA.out (by simp [spec_l92Lines.j0])
  | succ kj4 =>
   have H := HA.out; clear HA
   simp only [spec_l92Lines.j0] at H
   by_cases c17 : x24_4 = true
   ·subst c17
    rw [if_pos rfl] at H
    replace H := ifn H; obtain ⟨c18, H⟩ := H; have c18b0 := eq_true c18; have c18b1 := decide_eq_true c18; clear c18
    generalize hy613 : (t606.take 4 : List Int) = y613 at H
    have Ny613 := am hy613.symm; clear hy613; replace H := bs H; obtain ⟨t617, A19, H⟩ := H; replace H := bs H
    obtain ⟨⟨t620, t623⟩, A20, H⟩ := H
    dsimp only at H
    replace H := bs H
    obtain ⟨⟨t624, t627⟩, A21, H⟩ := H
    dsimp only at H
    by_cases c22 : t627 = true
    ·subst c22
     rw [if_pos rfl] at H
     simp only [Option.some.injEq, Prod.mk.injEq] at H
     obtain ⟨rfl, rfl, rfl⟩ := H
     obtain ⟨Ao24, co24, eo24⟩ := Kd.R_slice HO_7.out
     subst eo24
     have q23 : (4 : Int) ≤ ((t606.length : Int) : Int) := od
     obtain ⟨i023, hi023, _, hsz23, _⟩ := info_parts info3
     have hroom23 : t606.length ≤ co24 := (Kd.R_reads' HO_7.out).2.1
     have hC23 : Kd.C (Kd.int .i64) _ Ao24 t606.length t606 := (Kd.R_reads' HO_7.out).2.2
     have hcut23 := cut_to (P := Try.prog) 22 3 .i64 Try.underlying22 hi023 Ao24 t606.length co24 4 (by omega) q23 hroom23
     have hr23 := Kd.C_take (m := 4) hC23 (by omega)
     have hy23 : y613.length = (4 : Int).toNat := (by rw [Ny613.out, List.length_take]; omega)
     rw [← Ny613.out] at hr23
     rw [← hy23] at hcut23
     have HR616 := am hr23
     have HC616 := am (show y613.length ≤ co24 from by omega)
     clear hr23 hC23 hroom23 hi023 hsz23
     have KY23 := am hy23
     clear hy23
     have KL23 := am (show 4 ≤ t606.length from by omega)
     replace q23 := eq_true q23
     go_wp2_with (first | ((with_reducible refine gate_callee (f := 44) rfl ?_); refine gl 30 Try.func44 #[.int .i64 t604, .slice Ao24 y613.length co24] ?_; (with_reducible refine (spec_l4Row.calls kj4 t604 _ _ y613 t617 _ ?_ ?_ A19.out).mono ?_); exact wC HR616; exact HC616.out; rintro e w25 ⟨v618, rfl, ho0, hb⟩; refine ⟨_, rfl, ?_⟩; have HO619 := am (Kd.R_lower (Kd.R_new' ho0 (Kd.R_lt (wR HO_7))) (below_size (bi78 HB HI603))); replace HO_7 := eR HO_7 (Kd.R_base ho0) hb; replace HR616 := am (Kd.C_below (wC HR616) hb); replace HB := am (below_step (bi78 HB HI603) hb); replace HI603 := am (IsS78.below (iw78 HI603) hb); (try clear hb); (try clear ho0)) | ((with_reducible refine gate_callee (f := 65) rfl ?_); refine gl 33 Try.func65 #[.pointer (some ⟨g603, 0, none⟩), .int .i64 t604] ?_; (with_reducible refine (spec_l92Place.calls kj4 g603 t601 x604001_4 t604 t620 t623 w _ ?_ ?_ A20.out).mono ?_); (· repeat (first | (with_reducible first | exact HI603.out | apply IsS78.alloc | apply IsS78.drewN | apply IsS78.drew | apply IsS78.set_1) | exact HI603.out)); (· repeat (first | (with_reducible first | exact HB.out | apply below_alloc | apply pw_below_drewN | apply below_drew1 | refine below_set ?_ (IsS78.ge HI603.out)) | exact HB.out)); rintro e w26 ⟨v621, rfl, ho0, hi, hb, hk⟩; refine ⟨_, rfl, ?_⟩; have HO622 := am (Kd.R_lower (Kd.R_new' (Kd.R_new' ho0 (Kd.R_lt (wR HO_7))) (Kd.R_lt (wR HO619))) (below_size (bi78 HB HI603))); replace HO_7 := am (Kd.R_mono (Kd.R_told (Kd.R_oldK (IsS78.apart (show IsS78 w _ g603 t601 x604001_4 from iw78 HI603) (wR HO_7) (by decide)) hk) (Kd.R_base ho0)) (fun _ h_ => h_.1)); replace HO619 := am (Kd.R_mono (Kd.R_told (Kd.R_oldK (IsS78.apart (show IsS78 w _ g603 t601 x604001_4 from iw78 HI603) (wR HO619) (by decide)) hk) (Kd.R_base ho0)) (fun _ h_ => h_.1)); replace HB := am (hb); replace HI603 := am (hi); (try clear hb); (try clear hk); (try clear hi); (try clear ho0); obtain ⟨Ao27, co27, eo27⟩ := Kd.R_slice HO619.out; subst eo27; obtain ⟨Ao28, co28, eo28⟩ := Kd.R_slice HO622.out; subst eo28) | ((with_reducible refine gate_callee (f := 86) rfl ?_); refine gl 34 Try.func86 #[.int .i64 t604, .slice Ao27 t617.length co27, .slice Ao28 t620.length co28] ?_; (with_reducible refine (spec_SpaceThrough.calls kj4 t604 (fun k_ => some k_ = (.slice Ao27 t617.length co27 : Value).ownBlock) _ _ t617 (fun k_ => some k_ = (.slice Ao28 t620.length co28 : Value).ownBlock) _ _ t620 t624 true _ ?_ ?_ A21.out).mono ?_); exact Kd.R_V (Kd.R_tight rfl (IsS78.apart HI603.out (HO619.out) (by decide))); exact Kd.R_V (Kd.R_tight rfl (IsS78.apart HI603.out (HO622.out) (by decide))); rintro e w29 ⟨v625, rfl, ho0, hb⟩; refine ⟨_, rfl, ?_⟩; have HO626 := am (Kd.R_lower (Kd.R_new' (Kd.R_new' (Kd.R_new' (Kd.R_mono (ok' := fun k_ => True) ho0 (fun _ hk_ => trivial)) (Kd.R_lt (wR HO_7))) (Kd.R_lt (wR HO619))) (Kd.R_lt (wR HO622))) (below_size (bi78 HB HI603))); replace HO_7 := eR HO_7 (Kd.R_base ho0) hb; replace HO619 := eR HO619 (Kd.R_base ho0) hb; replace HO622 := eR HO622 (Kd.R_base ho0) hb; replace HB := am (below_step (bi78 HB HI603) hb); replace HI603 := am (IsS78.below (iw78 HI603) hb); (try clear hb); (try clear ho0)))
     go_ret3
     exact ⟨_, _, fq, Kd.R_below (Kd.R_mono HO_7.out (fun _ hk => hk.2)) gs, Kd.R_below (Kd.R_mono HO626.out (fun _ hk => hk.1.1.2)) gs, bi78 HB HI603⟩
    ·replace c22 := Bool.eq_false_iff.mpr c22
     subst c22
     rw [if_neg (show ¬ (false = true) by decide)] at H
     replace H := bs H
     obtain ⟨⟨t628, t631⟩, A30, H⟩ := H
     dsimp only at H
     simp only [Option.some.injEq, Prod.mk.injEq] at H
     obtain ⟨rfl, rfl, rfl⟩ := H
     obtain ⟨Ao32, co32, eo32⟩ := Kd.R_slice HO_7.out
     subst eo32
     have q31 : (4 : Int) ≤ ((t606.length : Int) : Int) := od
     obtain ⟨i031, hi031, _, hsz31, _⟩ := info_parts info3
     have hroom31 : t606.length ≤ co32 := (Kd.R_reads' HO_7.out).2.1
     have hC31 : Kd.C (Kd.int .i64) _ Ao32 t606.length t606 := (Kd.R_reads' HO_7.out).2.2
     have hcut31 := cut_to (P := Try.prog) 22 3 .i64 Try.underlying22 hi031 Ao32 t606.length co32 4 (by omega) q31 hroom31
     have hr31 := Kd.C_take (m := 4) hC31 (by omega)
     have hy31 : y613.length = (4 : Int).toNat := (by rw [Ny613.out, List.length_take]; omega)
     rw [← Ny613.out] at hr31
     rw [← hy31] at hcut31
     have HR616 := am hr31
     have HC616 := am (show y613.length ≤ co32 from by omega)
     clear hr31 hC31 hroom31 hi031 hsz31
     have KY31 := am hy31
     clear hy31
     have KL31 := am (show 4 ≤ t606.length from by omega)
     replace q31 := eq_true q31
     go_wp2_with (first | ((with_reducible refine gate_callee (f := 44) rfl ?_); refine gl 30 Try.func44 #[.int .i64 t604, .slice Ao32 y613.length co32] ?_; (with_reducible refine (spec_l4Row.calls kj4 t604 _ _ y613 t617 _ ?_ ?_ A19.out).mono ?_); exact wC HR616; exact HC616.out; rintro e w33 ⟨v618, rfl, ho0, hb⟩; refine ⟨_, rfl, ?_⟩; have HO619 := am (Kd.R_lower (Kd.R_new' ho0 (Kd.R_lt (wR HO_7))) (below_size (bi78 HB HI603))); replace HO_7 := eR HO_7 (Kd.R_base ho0) hb; replace HR616 := am (Kd.C_below (wC HR616) hb); replace HB := am (below_step (bi78 HB HI603) hb); replace HI603 := am (IsS78.below (iw78 HI603) hb); (try clear hb); (try clear ho0)) | ((with_reducible refine gate_callee (f := 65) rfl ?_); refine gl 33 Try.func65 #[.pointer (some ⟨g603, 0, none⟩), .int .i64 t604] ?_; (with_reducible refine (spec_l92Place.calls kj4 g603 t601 x604001_4 t604 t620 t623 w _ ?_ ?_ A20.out).mono ?_); (· repeat (first | (with_reducible first | exact HI603.out | apply IsS78.alloc | apply IsS78.drewN | apply IsS78.drew | apply IsS78.set_1) | exact HI603.out)); (· repeat (first | (with_reducible first | exact HB.out | apply below_alloc | apply pw_below_drewN | apply below_drew1 | refine below_set ?_ (IsS78.ge HI603.out)) | exact HB.out)); rintro e w34 ⟨v621, rfl, ho0, hi, hb, hk⟩; refine ⟨_, rfl, ?_⟩; have HO622 := am (Kd.R_lower (Kd.R_new' (Kd.R_new' ho0 (Kd.R_lt (wR HO_7))) (Kd.R_lt (wR HO619))) (below_size (bi78 HB HI603))); replace HO_7 := am (Kd.R_mono (Kd.R_told (Kd.R_oldK (IsS78.apart (show IsS78 w _ g603 t601 x604001_4 from iw78 HI603) (wR HO_7) (by decide)) hk) (Kd.R_base ho0)) (fun _ h_ => h_.1)); replace HO619 := am (Kd.R_mono (Kd.R_told (Kd.R_oldK (IsS78.apart (show IsS78 w _ g603 t601 x604001_4 from iw78 HI603) (wR HO619) (by decide)) hk) (Kd.R_base ho0)) (fun _ h_ => h_.1)); replace HB := am (hb); replace HI603 := am (hi); (try clear hb); (try clear hk); (try clear hi); (try clear ho0); obtain ⟨Ao35, co35, eo35⟩ := Kd.R_slice HO619.out; subst eo35; obtain ⟨Ao36, co36, eo36⟩ := Kd.R_slice HO622.out; subst eo36) | ((with_reducible refine gate_callee (f := 86) rfl ?_); refine gl 34 Try.func86 #[.int .i64 t604, .slice Ao35 t617.length co35, .slice Ao36 t620.length co36] ?_; (with_reducible refine (spec_SpaceThrough.calls kj4 t604 (fun k_ => some k_ = (.slice Ao35 t617.length co35 : Value).ownBlock) _ _ t617 (fun k_ => some k_ = (.slice Ao36 t620.length co36 : Value).ownBlock) _ _ t620 t624 false _ ?_ ?_ A21.out).mono ?_); exact Kd.R_V (Kd.R_tight rfl (IsS78.apart HI603.out (HO619.out) (by decide))); exact Kd.R_V (Kd.R_tight rfl (IsS78.apart HI603.out (HO622.out) (by decide))); rintro e w37 ⟨v625, rfl, ho0, hb⟩; refine ⟨_, rfl, ?_⟩; have HO626 := am (Kd.R_lower (Kd.R_new' (Kd.R_new' (Kd.R_new' (Kd.R_mono (ok' := fun k_ => True) ho0 (fun _ hk_ => trivial)) (Kd.R_lt (wR HO_7))) (Kd.R_lt (wR HO619))) (Kd.R_lt (wR HO622))) (below_size (bi78 HB HI603))); replace HO_7 := eR HO_7 (Kd.R_base ho0) hb; replace HO619 := eR HO619 (Kd.R_base ho0) hb; replace HO622 := eR HO622 (Kd.R_base ho0) hb; replace HB := am (below_step (bi78 HB HI603) hb); replace HI603 := am (IsS78.below (iw78 HI603) hb); (try clear hb); (try clear ho0)) | ((with_reducible refine gate_callee (f := 58) rfl ?_); refine gl 45 Try.func58 #[.pointer (some ⟨g603, 0, none⟩), .int .i64 t604] ?_; (with_reducible refine (spec_l92Line.calls kj4 g603 t601 t623 t604 t628 t631 w _ ?_ ?_ A30.out).mono ?_); (· repeat (first | (with_reducible first | exact HI603.out | apply IsS78.alloc | apply IsS78.drewN | apply IsS78.drew | apply IsS78.set_1) | exact HI603.out)); (· repeat (first | (with_reducible first | exact HB.out | apply below_alloc | apply pw_below_drewN | apply below_drew1 | refine below_set ?_ (IsS78.ge HI603.out)) | exact HB.out)); rintro e w38 ⟨v629, rfl, ho0, hi, hb, hk⟩; refine ⟨_, rfl, ?_⟩; have HO630 := am (Kd.R_lower (Kd.R_new' (Kd.R_new' (Kd.R_new' (Kd.R_new' ho0 (Kd.R_lt (wR HO_7))) (Kd.R_lt (wR HO619))) (Kd.R_lt (wR HO622))) (Kd.R_lt (wR HO626))) (below_size (bi78 HB HI603))); replace HO_7 := am (Kd.R_mono (Kd.R_told (Kd.R_oldK (IsS78.apart (show IsS78 w _ g603 t601 t623 from iw78 HI603) (wR HO_7) (by decide)) hk) (Kd.R_base ho0)) (fun _ h_ => h_.1)); replace HO619 := am (Kd.R_mono (Kd.R_told (Kd.R_oldK (IsS78.apart (show IsS78 w _ g603 t601 t623 from iw78 HI603) (wR HO619) (by decide)) hk) (Kd.R_base ho0)) (fun _ h_ => h_.1)); replace HO622 := am (Kd.R_mono (Kd.R_told (Kd.R_oldK (IsS78.apart (show IsS78 w _ g603 t601 t623 from iw78 HI603) (wR HO622) (by decide)) hk) (Kd.R_base ho0)) (fun _ h_ => h_.1)); replace HO626 := am (Kd.R_mono (Kd.R_told (Kd.R_oldK (IsS78.apart (show IsS78 w _ g603 t601 t623 from iw78 HI603) (wR HO626) (by decide)) hk) (Kd.R_base ho0)) (fun _ h_ => h_.1)); replace HB := am (hb); replace HI603 := am (hi); (try clear hb); (try clear hk); (try clear hi); (try clear ho0)))
     go_ret3
     exact ⟨_, _, fq, Kd.R_below (Kd.R_mono HO_7.out (fun _ hk => hk.2)) gs, Kd.R_below (Kd.R_mono HO630.out (fun _ hk => hk.1.1.1.2)) gs, bi78 HB HI603⟩
   ·replace c17 := Bool.eq_false_iff.mpr c17
    subst c17
    rw [if_neg (show ¬ (false = true) by decide)] at H
    replace H := bs H
    obtain ⟨⟨t632, t635⟩, A39, H⟩ := H
    dsimp only at H
    simp only [Option.some.injEq, Prod.mk.injEq] at H
    obtain ⟨rfl, rfl, rfl⟩ := H
    go_wp2_with (first | ((with_reducible refine gate_callee (f := 58) rfl ?_); refine gl 45 Try.func58 #[.pointer (some ⟨g603, 0, none⟩), .int .i64 t604] ?_; (with_reducible refine (spec_l92Line.calls kj4 g603 t601 x604001_4 t604 t632 t635 w _ ?_ ?_ A39.out).mono ?_); (· repeat (first | (with_reducible first | exact HI603.out | apply IsS78.alloc | apply IsS78.drewN | apply IsS78.drew | apply IsS78.set_1) | exact HI603.out)); (· repeat (first | (with_reducible first | exact HB.out | apply below_alloc | apply pw_below_drewN | apply below_drew1 | refine below_set ?_ (IsS78.ge HI603.out)) | exact HB.out)); rintro e w40 ⟨v633, rfl, ho0, hi, hb, hk⟩; refine ⟨_, rfl, ?_⟩; have HO634 := am (Kd.R_lower (Kd.R_new' ho0 (Kd.R_lt (wR HO_7))) (below_size (bi78 HB HI603))); replace HO_7 := am (Kd.R_mono (Kd.R_told (Kd.R_oldK (IsS78.apart (show IsS78 w _ g603 t601 x604001_4 from iw78 HI603) (wR HO_7) (by decide)) hk) (Kd.R_base ho0)) (fun _ h_ => h_.1)); replace HB := am (hb); replace HI603 := am (hi); (try clear hb); (try clear hk); (try clear hi); (try clear ho0)))
    go_ret3
    exact ⟨_, _, fq, Kd.R_below (Kd.R_mono HO_7.out (fun _ hk => hk.2)) gs, Kd.R_below (Kd.R_mono HO634.out (fun _ hk => hk.2)) gs, bi78 HB HI603⟩/-! ### spec_DrawSpacePlace: function 41 -/
def spec_DrawSpacePlace.f (k : Nat) (l0 : List Int) : Option (Int × List Int × List Int) := (spec_l92Lines.f k l0).bind fun bt636 => (some (bt636.1, bt636.2.1, bt636.2.2))
theorem spec_DrawSpacePlace.mono : ∀ a0 k, LeO (spec_DrawSpacePlace.f k a0) (spec_DrawSpacePlace.f (k + 1) a0) := by
 intro a0 k
 unfold spec_DrawSpacePlace.f
 repeat' first | (with_reducible first | apply spec_l92Lines.mono | exact LeO.refl _ | exact LeO.none _ | refine LeO.ite ?_ ?_ | refine LeO.bind ?_ (fun _ => ?_)) | (first | apply spec_l92Lines.mono | exact LeO.none _ | refine LeO.ite ?_ ?_ | refine LeO.bind ?_ (fun _ => ?_))
set_option maxHeartbeats 8000000 in
set_option maxRecDepth 100000 in
theorem spec_DrawSpacePlace.calls (k : Nat) (A0 : Option Addr) (c0 : Nat) (l0 : List Int) (r1 : Int) (r2 : List Int) (r3 : List Int) (w : World) (hr0 : Kd.C (Kd.int .u8) w A0 l0.length l0) (hc0 : l0.length ≤ c0) (h : spec_DrawSpacePlace.f k l0 = some (r1, r2, r3)) :
  Calls Try.prog 41 #[.slice A0 l0.length c0] w fun e w' => ∃ v1_ v2_ : Value, e = .returned (.tuple #[.int .i64 r1, v1_, v2_]) ∧ Kd.R (Kd.int .i64) 3 w' w.heap.size (fun k_ => some k_ ≠ (v2_ : Value).ownBlock) v1_ r2 ∧ Kd.R (Kd.int .i64) 3 w' w.heap.size (fun k_ => some k_ ≠ (v1_ : Value).ownBlock) v2_ r3 ∧ Below w.heap.size w w' := by
 have HR0 := am hr0
 have HC0 := am hc0
 clear hr0 hc0
 have HB := am (Below.refl w.heap.size w)
 have H : ((spec_l92Lines.f k l0).bind fun bt636 => (some (bt636.1, bt636.2.1, bt636.2.2))) = some (r1, r2, r3) := h
 clear h; replace H := bs H
 obtain ⟨⟨t636, t637, t638⟩, A2, H⟩ := H
 dsimp only at H
 simp only [Option.some.injEq, Prod.mk.injEq] at H
 obtain ⟨rfl, rfl, rfl⟩ := H
 go_enter Try.func41, Try.ntmps41
 go_wp2_with (first | ((with_reducible refine gate_callee (f := 78) rfl ?_); refine gl 6 Try.func78 #[.slice A0 l0.length c0] ?_; (with_reducible refine (spec_l92Lines.calls k _ _ l0 t636 t637 t638 _ ?_ ?_ A2.out).mono ?_); exact wC HR0; exact HC0.out; rintro e w3 ⟨v639, v641, rfl, ho0, ho1, hb⟩; refine ⟨_, rfl, ?_⟩; have HO640 := am (Kd.R_lower ho0 (bz HB)); have HO642 := am (Kd.R_lower ho1 (bz HB)); replace HB := bq HB hb; (try clear hb); (try clear ho0); (try clear ho1)))
 go_ret3
 exact ⟨_, _, fq, wR HO640, wR HO642, bw HB⟩
end Go.Proofs.Ytmenehnfgenlpaa.PA

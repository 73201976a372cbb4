-- Written by xprint.py, a program of this claim's own (over the kit's print.py)
import Derived.Test.YtmenehnfgenlpaaPAx0
import Derived.Test.YtmenehnfgenlpaaPAx7
import Derived.Test.YtmenehnfgenlpaaPAx14
import Derived.Test.YtmenehnfgenlpaaPAx15
import Derived.Deep.Cut
namespace Go.Proofs.Ytmenehnfgenlpaa.PA
open Go.RowKit Go.Proofs.YtmenehnfgenlpaaW.PrintWords Go.Proofs.YtmenehnfgenlpaaW.PrintLast Go.Proofs.YtmenehnfgenlpaaW.PrintMore
attribute [local go_sem] max2_int min2_int max_two min_two max_three min_three max_four min_four   -- for this text's walks alone
set_option linter.unusedVariables false
set_option linter.unusedSimpArgs false

/-! ### laws_FnCross: function 9 -/
def laws_FnCross.j0 : Nat → Int → List Int → List Int → Bool → Bool → Bool → Option (Bool)
 | 0, _, _, _, _, _, _ => none
 | k + 1, x3, x4, x5, x6, x7, x33 => if x33 = true then (some (x6 == x7)) else ((impl_SpacePlace.f k x3 x4 x5).bind fun bt524 => (if bt524.2 = true then ((impl_SpaceCross.f k x3 x5 x4).bind fun t528 => (some t528)) else (some false)))
def laws_FnCross.f (k : Nat) (l0 : List Int) : Option (Bool) := if (l0.length : Int) > 1048576 then (some true) else ((spec_DrawSpaceCross.f k l0).bind fun bt515 => ((impl_SpaceCross.f k bt515.1 bt515.2.1 bt515.2.2).bind fun t522 => ((spec_SpaceCross.f k bt515.1 bt515.2.1 bt515.2.2).bind fun t523 => (if (t522 != t523) = true then (laws_FnCross.j0 k bt515.1 bt515.2.1 bt515.2.2 t522 t523 true) else (laws_FnCross.j0 k bt515.1 bt515.2.1 bt515.2.2 t522 t523 (!t522))))))
theorem laws_FnCross.mono_l : ∀ k, (∀ y0 y1 y2 y3 y4 y5, LeO (laws_FnCross.j0 k y0 y1 y2 y3 y4 y5) (laws_FnCross.j0 (k + 1) y0 y1 y2 y3 y4 y5))
 | 0 => fun _ _ _ _ _ _ r h => by simp [laws_FnCross.j0] at h
 | k + 1 => by
  have ih0 := laws_FnCross.mono_l k
  ·intro y0 y1 y2 y3 y4 y5
   unfold laws_FnCross.j0
   repeat' first | (with_reducible first | apply ih0 | apply impl_SpaceCross.mono | apply impl_SpacePlace.mono | apply spec_DrawSpaceCross.mono | apply spec_SpaceCross.mono | exact LeO.refl _ | exact LeO.none _ | refine LeO.ite ?_ ?_ | refine LeO.bind ?_ (fun _ => ?_)) | (first | apply ih0 | apply impl_SpaceCross.mono | apply impl_SpacePlace.mono | apply spec_DrawSpaceCross.mono | apply spec_SpaceCross.mono | exact LeO.none _ | refine LeO.ite ?_ ?_ | refine LeO.bind ?_ (fun _ => ?_))
theorem laws_FnCross.mono : ∀ a0 k, LeO (laws_FnCross.f k a0) (laws_FnCross.f (k + 1) a0) := by
 intro a0 k
 have ih0 := laws_FnCross.mono_l k
 unfold laws_FnCross.f
 repeat' first | (with_reducible first | apply ih0 | apply impl_SpaceCross.mono | apply impl_SpacePlace.mono | apply spec_DrawSpaceCross.mono | apply spec_SpaceCross.mono | exact LeO.refl _ | exact LeO.none _ | refine LeO.ite ?_ ?_ | refine LeO.bind ?_ (fun _ => ?_)) | (first | apply ih0 | apply impl_SpaceCross.mono | apply impl_SpacePlace.mono | apply spec_DrawSpaceCross.mono | apply spec_SpaceCross.mono | exact LeO.none _ | refine LeO.ite ?_ ?_ | refine LeO.bind ?_ (fun _ => ?_))
set_option maxHeartbeats 8000000 in
set_option maxRecDepth 100000 in
theorem laws_FnCross.calls (k : Nat) (A0 : Option Addr) (c0 : Nat) (l0 : List Int) (r : Bool) (w : World) (hr0 : Kd.C (Kd.int .u8) w A0 l0.length l0) (hc0 : l0.length ≤ c0) (hT : r = true) (h : laws_FnCross.f k l0 = some r) :
  Calls Try.prog 9 #[.slice A0 l0.length c0] w fun e w' => e = .returned (.bool r) ∧ Below w.heap.size w w' := by
 have HT := am hT
 clear hT
 have HR0 := am hr0
 have HC0 := am hc0
 clear hr0 hc0
 have HB := am (Below.refl w.heap.size w)
 have H : (if (l0.length : Int) > 1048576 then (some true) else ((spec_DrawSpaceCross.f k l0).bind fun bt515 => ((impl_SpaceCross.f k bt515.1 bt515.2.1 bt515.2.2).bind fun t522 => ((spec_SpaceCross.f k bt515.1 bt515.2.1 bt515.2.2).bind fun t523 => (if (t522 != t523) = true then (laws_FnCross.j0 k bt515.1 bt515.2.1 bt515.2.2 t522 t523 true) else (laws_FnCross.j0 k bt515.1 bt515.2.1 bt515.2.2 t522 t523 (!t522))))))) = some r := h
 clear h
 by_cases c2 : (l0.length : Int) > 1048576
 ·rw [if_pos c2] at H
  have c2b0 := decide_eq_true c2
  have c2b1 : decide (1048576 < l0.length) = true := decide_eq_true (by omega)
  clear c2; obtain rfl := Option.some.inj H
  go_enter Try.func9, Try.ntmps9
  go_wp2; go_ret
  exact ⟨fq, bw HB⟩
 ·rw [if_neg c2] at H
  have c2b0 := decide_eq_false c2
  have c2b1 : decide (1048576 < l0.length) = false := decide_eq_false (by omega)
  clear c2; replace H := bs H
  obtain ⟨⟨t515, t516, t517⟩, A3, H⟩ := H
  dsimp only at H
  replace H := bs H; obtain ⟨t522, A4, H⟩ := H; replace H := bs H; obtain ⟨t523, A5, H⟩ := H
  have HC6 := am H
  clear H
  go_enter Try.func9, Try.ntmps9
  go_upto_region 6 with (first | ((with_reducible refine gate_callee (f := 36) rfl ?_); refine gl 15 Try.func36 #[.slice A0 l0.length c0] ?_; (with_reducible refine (spec_DrawSpaceCross.calls k _ _ l0 t515 t516 t517 _ ?_ ?_ A3.out).mono ?_); exact wC HR0; exact HC0.out; rintro e w7 ⟨v518, v520, rfl, ho0, ho1, hb⟩; refine ⟨_, rfl, ?_⟩; have HO519 := am (Kd.R_lower ho0 (bz HB)); have HO521 := am (Kd.R_lower ho1 (bz HB)); replace HB := bq HB hb; (try clear hb); (try clear ho0); (try clear ho1); obtain ⟨Ao8, co8, eo8⟩ := Kd.R_slice HO519.out; subst eo8; obtain ⟨Ao9, co9, eo9⟩ := Kd.R_slice HO521.out; subst eo9) | ((with_reducible refine gate_callee (f := 24) rfl ?_); refine gl 22 Try.func24 #[.int .i64 t515, .slice Ao8 t516.length co8, .slice Ao9 t517.length co9] ?_; (with_reducible refine (impl_SpaceCross.calls k t515 _ _ t516 _ _ t517 t522 _ ?_ ?_ ?_ ?_ A4.out).mono ?_); exact Kd.C_below (Kd.R_reads' HO519.out).2.2 gs; exact (Kd.R_reads' HO519.out).2.1; exact Kd.C_below (Kd.R_reads' HO521.out).2.2 gs; exact (Kd.R_reads' HO521.out).2.1; rintro e w10 ⟨rfl, hb⟩; refine ⟨_, rfl, ?_⟩; replace HO519 := am (Kd.R_below (wR HO519) hb); replace HO521 := am (Kd.R_below (wR HO521) hb); replace HB := bq HB hb; (try clear hb)) | ((with_reducible refine gate_callee (f := 37) rfl ?_); refine gl 26 Try.func37 #[.int .i64 t515, .slice Ao8 t516.length co8, .slice Ao9 t517.length co9] ?_; (with_reducible refine (spec_SpaceCross.calls k t515 (fun k_ => some k_ = (.slice Ao8 t516.length co8 : Value).ownBlock) _ _ t516 (fun k_ => some k_ = (.slice Ao9 t517.length co9 : Value).ownBlock) _ _ t517 t523 _ ?_ ?_ A5.out).mono ?_); exact Kd.R_V (Kd.R_tight rfl (HO519.out)); exact Kd.R_V (Kd.R_tight rfl (HO521.out)); rintro e w11 ⟨rfl, hb⟩; refine ⟨_, rfl, ?_⟩; replace HO519 := am (Kd.R_below (wR HO519) hb); replace HO521 := am (Kd.R_below (wR HO521) hb); replace HB := bq HB hb; (try clear hb)))
  (try simp only [Act.put, List.setIfInBounds_toArray, List.set_cons_zero, List.set_cons_succ])
  go_cut [33] (fun v33 wc => ∃ (kq : Nat) (x33_5 : Bool), v33 = .bool x33_5 ∧ Aside0 (laws_FnCross.j0 kq t515 t516 t517 t522 t523 x33_5 = some r) ∧ Aside0 (kq ≤ k) ∧ Aside0 (Kd.R (Kd.int .i64) 3 wc w.heap.size (fun k_ => some k_ ≠ ((.slice Ao9 t517.length co9) : Value).ownBlock) (.slice Ao8 t516.length co8) t516) ∧ Aside0 (Kd.R (Kd.int .i64) 3 wc w.heap.size (fun k_ => some k_ ≠ ((.slice Ao8 t516.length co8) : Value).ownBlock) (.slice Ao9 t517.length co9) t517) ∧ Aside0 (Below w.heap.size w wc))
  case first =>
   have H := HC6.out
   clear HC6
   by_cases c12 : (t522 != t523) = true
   ·rw [if_pos c12] at H
    have c12b0 : (t522 != t523) = true := c12
    (try (have c12b1 : decide (t522 = t523) = false := by simpa using c12))
    (try (have c12b2 : (t522 == t523) = false := by simpa using c12))
    (try (have c12b3 : ¬ (t522 = t523) := by simpa using c12))
    clear c12
    (first | rw [c12b0] | (simp only [i64_w, i32_w]; rw [c12b0]) | skip)
    have H' := am H; clear H; go_wp2
    go_meet
    case rel => exact ⟨_, (true), fr, H', ⟨by first | omega | exact Nat.le_refl _⟩, ⟨wR HO519⟩, ⟨wR HO521⟩, ⟨bw HB⟩⟩
   ·rw [if_neg c12] at H
    have c12b0 : (t522 != t523) = false := by simpa using c12
    (try (have c12b1 : decide (t522 = t523) = true := by simpa using c12))
    (try (have c12b2 : (t522 == t523) = true := by simpa using c12))
    clear c12
    (first | rw [c12b0] | (simp only [i64_w, i32_w]; rw [c12b0]) | skip)
    have H' := am H; clear H; go_wp2
    go_meet
    case rel => exact ⟨_, (!t522), fr, H', ⟨by first | omega | exact Nat.le_refl _⟩, ⟨wR HO519⟩, ⟨wR HO521⟩, ⟨bw HB⟩⟩
  case rest =>
   clear HC6; try clear c1; try clear c2; try clear c2b0; try clear c2b1; try clear p2; try clear c3; try clear c9; try clear c12; try clear c12b0; try clear c12b1; try clear c12b2
   obtain ⟨kq, x33_5, rfl, HA, HJ5, HO_4, HO_5, HB⟩ := hcut
   cases kq with
   | zero => exact absurd HA.out (by simp [laws_FnCross.j0])
   | succ kj5 =>
    have H := HA.out; clear HA
    simp only [laws_FnCross.j0] at H
    by_cases c13 : x33_5 = true
    ·subst c13
     rw [if_pos rfl] at H
     obtain rfl := Option.some.inj H; go_wp2; go_ret
     exact ⟨fq, bw HB⟩
    ·replace c13 := Bool.eq_false_iff.mpr c13
     subst c13
     rw [if_neg (show ¬ (false = true) by decide)] at H
     replace H := bs H
     obtain ⟨⟨t524, t527⟩, A14, H⟩ := H
     dsimp only at H
     by_cases c15 : t527 = true
     ·subst c15
      rw [if_pos rfl] at H
      replace H := bs H; obtain ⟨t528, A16, H⟩ := H; obtain rfl := Option.some.inj H
      go_wp2_with (first | ((with_reducible refine gate_callee (f := 15) rfl ?_); refine gl 41 Try.func15 #[.int .i64 t515, .slice Ao8 t516.length co8, .slice Ao9 t517.length co9] ?_; (with_reducible refine (impl_SpacePlace.calls kj5 t515 _ _ t516 _ _ t517 t524 true _ ?_ ?_ ?_ ?_ A14.out).mono ?_); exact Kd.C_below (Kd.R_reads' HO_4.out).2.2 gs; exact (Kd.R_reads' HO_4.out).2.1; exact Kd.C_below (Kd.R_reads' HO_5.out).2.2 gs; exact (Kd.R_reads' HO_5.out).2.1; rintro e w17 ⟨v525, rfl, ho0, hb⟩; refine ⟨_, rfl, ?_⟩; have HO526 := am (Kd.V_lower (Kd.V_mono (ok' := fun k_ => some k_ ≠ (.slice Ao8 t516.length co8 : Value).ownBlock ∧ some k_ ≠ (.slice Ao9 t517.length co9 : Value).ownBlock) ho0 (fun k_ hk_ => ⟨(Kd.fresh' (Kd.R_lt (wR HO_4)) k_ hk_), (Kd.fresh' (Kd.R_lt (wR HO_5)) k_ hk_)⟩)) (bz HB)); replace HO_4 := am (Kd.R_below (wR HO_4) hb); replace HO_5 := am (Kd.R_below (wR HO_5) hb); replace HB := bq HB hb; (try clear hb); (try clear ho0)) | (go_at_call 24; (with_reducible refine (impl_SpaceCross.calls kj5 t515 _ _ t517 _ _ t516 t528 _ ?_ ?_ ?_ ?_ A16.out).mono ?_); exact Kd.C_below (Kd.R_reads' HO_5.out).2.2 gs; exact (Kd.R_reads' HO_5.out).2.1; exact Kd.C_below (Kd.R_reads' HO_4.out).2.2 gs; exact (Kd.R_reads' HO_4.out).2.1; rintro e w18 ⟨rfl, hb⟩; replace HO_4 := am (Kd.R_below (wR HO_4) hb); replace HO_5 := am (Kd.R_below (wR HO_5) hb); replace HO526 := am (Kd.V_below (wV HO526) hb); replace HB := bq HB hb; (try clear hb)))
      go_ret
      exact ⟨fq, bw HB⟩
     ·replace c15 := Bool.eq_false_iff.mpr c15
      subst c15
      rw [if_neg (show ¬ (false = true) by decide)] at H
      exact absurd (H.trans (congrArg some HT.out)) (by simp)
/-- THE ONE PURE STATEMENT of laws_FnCross: yours. -/
def laws_FnCross.Pure : Prop := ∀ (l0 : List Int), l0.length ≤ maxLen → l0.length * 1 ≤ 140737488351232 → (∀ x ∈ l0, (Lit.int .u8 x).wf = true) → ∃ k, laws_FnCross.f k l0 = some true
theorem laws_FnCross.walk (P : laws_FnCross.Pure) (a0 : Option Addr) (len0 cap0 : Nat) (z0 : List Int) (w : World) (w0 : (a0 = none ∧ len0 = 0 ∧ cap0 = 0 ∧ z0 = []) ∨ ∃ x, a0 = some x ∧ len0 ≤ cap0 ∧ cap0 ≤ maxLen ∧ z0.length = cap0 ∧ (∀ i, i < z0.length → w.cell? (x.add i) = some (.int .u8 (z0.getD i 0))) ∧ ∀ n ∈ z0, (Lit.int .u8 n).wf = true) (y0 : len0 * 1 ≤ 140737488351232) :
  Calls Try.prog 9 #[.slice a0 len0 cap0] w fun e w' => e = .returned (.bool true) ∧ Below w.heap.size w w' := by
 obtain ⟨l0, rfl, hr0, hm0, hw0, hc0⟩ := ReadsInt.ofRowC w0
 obtain ⟨k, h⟩ := P l0 hm0 y0 hw0
 refine (laws_FnCross.calls k _ _ l0 true w (Kd.C_of_reads (d := (0 : Int)) (h1 := fun _ => rfl) hr0) hc0 rfl h).mono ?_
 rintro e w' ⟨rfl, hd⟩
 exact ⟨rfl, hd⟩
end Go.Proofs.Ytmenehnfgenlpaa.PA

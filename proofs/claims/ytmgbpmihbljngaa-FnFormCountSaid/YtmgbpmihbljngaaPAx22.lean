-- Written by xprint.py, a program of this claim's own (over the kit's print.py)
import Derived.Test.YtmgbpmihbljngaaPAx0
import Derived.Test.YtmgbpmihbljngaaPAx16
import Derived.Test.YtmgbpmihbljngaaPAx17
import Derived.Test.YtmgbpmihbljngaaPAx18
import Derived.Test.YtmgbpmihbljngaaPAx19
import Derived.Test.YtmgbpmihbljngaaPAx20
import Derived.Test.YtmgbpmihbljngaaPAx21
import Derived.Deep.Cut
namespace Go.Proofs.Ytmgbpmihbljngaa.PA
open Go.RowKit Go.Proofs.YtmgbpmihbljngaaW.PrintWords Go.Proofs.YtmgbpmihbljngaaW.PrintLast Go.Proofs.YtmgbpmihbljngaaW.PrintMore
attribute [local go_sem] max2_int min2_int max_two min_two max_three min_three max_four min_four   -- for this text's walks alone
set_option linter.unusedVariables false
set_option linter.unusedSimpArgs false

/-! ### laws_FnSmooth: function 4 -/
mutual
def laws_FnSmooth.j0 : Nat → Int → List Int → Bool → Bool → Bool → Option (Bool)
 | 0, _, _, _, _, _ => none
 | k + 1, x3, x4, x5, x6, x29 => if x29 = true then (some (x5 == x6)) else (laws_FnSmooth.l0 k x3 x4 (([] : List Int)) 0)
def laws_FnSmooth.l0 : Nat → Int → List Int → List Int → Int → Option (Bool)
 | 0, _, _, _, _ => none
 | k + 1, x3, x4, x7, x8 => if x8 < (x4.length : Int) then (if 0 ≤ x8 then (if x3 = 0 then (none) else (if x7.length < 17592186044416 then (laws_FnSmooth.l0 k x3 x4 (x7 ++ [Int.tmod (wrap64 (2 * (rd x4 x8))) x3]) (wrap64 (x8 + 1))) else (none))) else (none)) else ((impl_FormSmooth.f x3 x7).bind fun t555 => (some t555))
end
def laws_FnSmooth.f (k : Nat) (l0 : List Int) : Option (Bool) := if (l0.length : Int) > 1048576 then (some true) else ((spec_DrawFormSmooth.f k l0).bind fun bt542 => ((impl_FormSmooth.f bt542.1 bt542.2).bind fun t546 => ((spec_FormSmooth.f k bt542.1 bt542.2).bind fun t547 => (if (t546 != t547) = true then (laws_FnSmooth.j0 k bt542.1 bt542.2 t546 t547 true) else (laws_FnSmooth.j0 k bt542.1 bt542.2 t546 t547 (!t546))))))
theorem laws_FnSmooth.mono_l : ∀ k, (∀ y0 y1 y2 y3 y4, LeO (laws_FnSmooth.j0 k y0 y1 y2 y3 y4) (laws_FnSmooth.j0 (k + 1) y0 y1 y2 y3 y4)) ∧ (∀ y0 y1 y2 y3, LeO (laws_FnSmooth.l0 k y0 y1 y2 y3) (laws_FnSmooth.l0 (k + 1) y0 y1 y2 y3))
 | 0 => ⟨fun _ _ _ _ _ r h => by simp [laws_FnSmooth.j0] at h, fun _ _ _ _ r h => by simp [laws_FnSmooth.l0] at h⟩
 | k + 1 => by
  obtain ⟨ih0, ih1⟩ := laws_FnSmooth.mono_l k
  refine ⟨?_, ?_⟩
  ·intro y0 y1 y2 y3 y4
   unfold laws_FnSmooth.j0
   repeat' first | (with_reducible first | apply ih0 | apply ih1 | apply spec_DrawFormSmooth.mono | apply spec_FormSmooth.mono | exact LeO.refl _ | exact LeO.none _ | refine LeO.ite ?_ ?_ | refine LeO.bind ?_ (fun _ => ?_)) | (first | apply ih0 | apply ih1 | apply spec_DrawFormSmooth.mono | apply spec_FormSmooth.mono | exact LeO.none _ | refine LeO.ite ?_ ?_ | refine LeO.bind ?_ (fun _ => ?_))
  ·intro y0 y1 y2 y3
   unfold laws_FnSmooth.l0
   repeat' first | (with_reducible first | apply ih0 | apply ih1 | apply spec_DrawFormSmooth.mono | apply spec_FormSmooth.mono | exact LeO.refl _ | exact LeO.none _ | refine LeO.ite ?_ ?_ | refine LeO.bind ?_ (fun _ => ?_)) | (first | apply ih0 | apply ih1 | apply spec_DrawFormSmooth.mono | apply spec_FormSmooth.mono | exact LeO.none _ | refine LeO.ite ?_ ?_ | refine LeO.bind ?_ (fun _ => ?_))
theorem laws_FnSmooth.mono : ∀ a0 k, LeO (laws_FnSmooth.f k a0) (laws_FnSmooth.f (k + 1) a0) := by
 intro a0 k
 obtain ⟨ih0, ih1⟩ := laws_FnSmooth.mono_l k
 unfold laws_FnSmooth.f
 repeat' first | (with_reducible first | apply ih0 | apply ih1 | apply spec_DrawFormSmooth.mono | apply spec_FormSmooth.mono | exact LeO.refl _ | exact LeO.none _ | refine LeO.ite ?_ ?_ | refine LeO.bind ?_ (fun _ => ?_)) | (first | apply ih0 | apply ih1 | apply spec_DrawFormSmooth.mono | apply spec_FormSmooth.mono | exact LeO.none _ | refine LeO.ite ?_ ?_ | refine LeO.bind ?_ (fun _ => ?_))
set_option maxHeartbeats 8000000 in
set_option maxRecDepth 100000 in
theorem laws_FnSmooth.calls (k : Nat) (A0 : Option Addr) (c0 : Nat) (l0 : List Int) (r : Bool) (w : World) (hr0 : Kd.C (Kd.int .u8) w A0 l0.length l0) (hc0 : l0.length ≤ c0) (hT : r = true) (h : laws_FnSmooth.f k l0 = some r) :
  Calls Try.prog 4 #[.slice A0 l0.length c0] w fun e w' => e = .returned (.bool r) ∧ Below w.heap.size w w' := by
 have HT := am hT
 clear hT
 have HR0 := am hr0
 have HC0 := am hc0
 clear hr0 hc0
 have HB := am (Below.refl w.heap.size w)
 have H : (if (l0.length : Int) > 1048576 then (some true) else ((spec_DrawFormSmooth.f k l0).bind fun bt542 => ((impl_FormSmooth.f bt542.1 bt542.2).bind fun t546 => ((spec_FormSmooth.f k bt542.1 bt542.2).bind fun t547 => (if (t546 != t547) = true then (laws_FnSmooth.j0 k bt542.1 bt542.2 t546 t547 true) else (laws_FnSmooth.j0 k bt542.1 bt542.2 t546 t547 (!t546))))))) = some r := h
 clear h
 by_cases c2 : (l0.length : Int) > 1048576
 ·rw [if_pos c2] at H
  have c2b0 := decide_eq_true c2
  have c2b1 : decide (1048576 < l0.length) = true := decide_eq_true (by omega)
  clear c2; obtain rfl := Option.some.inj H
  go_enter Try.func4, Try.ntmps4
  go_wp2; go_ret
  exact ⟨fq, bw HB⟩
 ·rw [if_neg c2] at H
  have c2b0 := decide_eq_false c2
  have c2b1 : decide (1048576 < l0.length) = false := decide_eq_false (by omega)
  clear c2; replace H := bs H
  obtain ⟨⟨t542, t543⟩, A3, H⟩ := H
  dsimp only at H
  replace H := bs H; obtain ⟨t546, A4, H⟩ := H; replace H := bs H; obtain ⟨t547, A5, H⟩ := H
  have HC6 := am H
  clear H
  go_enter Try.func4, Try.ntmps4
  go_upto_region 6 with (first | ((with_reducible refine gate_callee (f := 16) rfl ?_); refine gl 14 Try.func16 #[.slice A0 l0.length c0] ?_; (with_reducible refine (spec_DrawFormSmooth.calls k _ _ l0 t542 t543 _ ?_ ?_ A3.out).mono ?_); exact wC HR0; exact HC0.out; rintro e w7 ⟨v544, rfl, ho0, hb⟩; refine ⟨_, rfl, ?_⟩; have HO545 := am (Kd.V_lower (Kd.V_mono (ok' := fun k_ => True) ho0 (fun k_ hk_ => trivial)) (bz HB)); replace HB := bq HB hb; (try clear hb); (try clear ho0); obtain ⟨Ao8, co8, eo8⟩ := Kd.V_slice HO545.out; subst eo8) | ((with_reducible refine gate_callee (f := 17) rfl ?_); refine gl 19 Try.func17 #[.int .i64 t542, .slice Ao8 t543.length co8] ?_; (with_reducible refine (impl_FormSmooth.calls t542 _ _ t543 t546 _ ?_ ?_ A4.out).mono ?_); exact Kd.C_below (Kd.V_reads' HO545.out).2.2 gs; exact (Kd.V_reads' HO545.out).2.1; rintro e w9 ⟨rfl, hb⟩; refine ⟨_, rfl, ?_⟩; replace HO545 := am (Kd.V_below (wV HO545) hb); replace HB := bq HB hb; (try clear hb)) | ((with_reducible refine gate_callee (f := 18) rfl ?_); refine gl 22 Try.func18 #[.int .i64 t542, .slice Ao8 t543.length co8] ?_; (with_reducible refine (spec_FormSmooth.calls k t542 _ _ t543 t547 _ ?_ ?_ A5.out).mono ?_); exact Kd.C_below (Kd.V_reads' HO545.out).2.2 gs; exact (Kd.V_reads' HO545.out).2.1; rintro e w10 ⟨rfl, hb⟩; refine ⟨_, rfl, ?_⟩; replace HO545 := am (Kd.V_below (wV HO545) hb); replace HB := bq HB hb; (try clear hb)))
  (try simp only [Act.put, List.setIfInBounds_toArray, List.set_cons_zero, List.set_cons_succ])
  go_cut [29] (fun v29 wc => ∃ (kq : Nat) (x29_5 : Bool), v29 = .bool x29_5 ∧ Aside0 (laws_FnSmooth.j0 kq t542 t543 t546 t547 x29_5 = some r) ∧ Aside0 (kq ≤ k) ∧ Aside0 (Kd.V (Kd.int .i64) 3 wc w.heap.size (fun _ => True) (.slice Ao8 t543.length co8) t543) ∧ Aside0 (Below w.heap.size w wc))
  case first =>
   have H := HC6.out
   clear HC6
   by_cases c11 : (t546 != t547) = true
   ·rw [if_pos c11] at H
    have c11b0 : (t546 != t547) = true := c11
    (try (have c11b1 : decide (t546 = t547) = false := by simpa using c11))
    (try (have c11b2 : (t546 == t547) = false := by simpa using c11))
    (try (have c11b3 : ¬ (t546 = t547) := by simpa using c11))
    clear c11
    (first | rw [c11b0] | (simp only [i64_w, i32_w]; rw [c11b0]) | skip)
    have H' := am H; clear H; go_wp2
    go_meet
    case rel => exact ⟨_, (true), fr, H', ⟨by first | omega | exact Nat.le_refl _⟩, ⟨wV HO545⟩, ⟨bw HB⟩⟩
   ·rw [if_neg c11] at H
    have c11b0 : (t546 != t547) = false := by simpa using c11
    (try (have c11b1 : decide (t546 = t547) = true := by simpa using c11))
    (try (have c11b2 : (t546 == t547) = true := by simpa using c11))
    clear c11
    (first | rw [c11b0] | (simp only [i64_w, i32_w]; rw [c11b0]) | skip)
    have H' := am H; clear H; go_wp2
    go_meet
    case rel => exact ⟨_, (!t546), fr, H', ⟨by first | omega | exact Nat.le_refl _⟩, ⟨wV HO545⟩, ⟨bw HB⟩⟩
  case rest =>
   clear HC6; try clear c1; try clear c2; try clear c2b0; try clear c2b1; try clear p2; try clear c4; try clear c11; try clear c11b0; try clear c11b1; try clear c11b2
   obtain ⟨kq, x29_5, rfl, HA, HJ5, HO_4, HB⟩ := hcut
   cases kq with
   | zero => exact absurd HA.out (by simp [laws_FnSmooth.j0])
   | succ kj5 =>
    have H := HA.out; clear HA
    simp only [laws_FnSmooth.j0] at H
    by_cases c12 : x29_5 = true
    ·subst c12
     rw [if_pos rfl] at H
     obtain rfl := Option.some.inj H; go_wp2; go_ret
     exact ⟨fq, bw HB⟩
    ·replace c12 := Bool.eq_false_iff.mpr c12
     subst c12
     rw [if_neg (show ¬ (false = true) by decide)] at H
     generalize hy548 : (([] : List Int)) = y548 at H
     have Ny548 := am hy548.symm; clear hy548; have H' := am H; clear H
     go_wp2_with (first | ((with_reducible refine gate_dst (N := 33) rfl ?_); refine li 3 ([] : List Int) ?_; intro v549 w13 ho14 hb; (first | rw [← Ny548.out] at ho14 | (simp only [Int.reduceToNat] at ho14; rw [← Ny548.out] at ho14)); replace HO_4 := eV HO_4 (Kd.R_base ho14) hb; have HO550 := am (Kd.R_lower ho14 (bz HB)); replace HB := bq HB hb; clear hb ho14))
     go_loopg [7, 8] kj5 (fun kq v7 v8 w' => ∃ (x7_2 : List Int) (x8_2 : Int), v8 = .int .i64 x8_2 ∧ Aside0 (laws_FnSmooth.l0 kq t542 t543 x7_2 x8_2 = some r) ∧ Aside0 (kq ≤ kj5) ∧ Aside0 (Kd.V (Kd.int .i64) 3 w' w.heap.size (fun k_ => some k_ ≠ (v7 : Value).ownBlock) (.slice Ao8 t543.length co8) t543) ∧ Aside0 (Kd.R (Kd.int .i64) 3 w' w.heap.size (fun _ => True) v7 x7_2) ∧ Aside0 (Below w.heap.size w w'))
     case atStart => exact ⟨(y548), (0), fr, H', ⟨Nat.le_refl _⟩, ⟨Kd.V_below (Kd.V_mono HO_4.out (fun _ hk => hk.2)) gs⟩, ⟨wR HO550⟩, ⟨bw HB⟩⟩
     case round =>
      clear H'; try clear c1; try clear c2; try clear c2b0; try clear c2b1; try clear p2; try clear c4; try clear c11; try clear c11b0; try clear c11b1; try clear c11b2; try clear c12; try clear p2
      obtain ⟨x7_2, x8_2, rfl, HA, HK2, HO_4, HO_7, HB⟩ := hrel
      cases gk with
      | zero => exact absurd HA.out (by simp [laws_FnSmooth.l0])
      | succ k2 =>
       have H := HA.out; clear HA
       simp only [laws_FnSmooth.l0] at H
       by_cases c15 : x8_2 < (t543.length : Int)
       ·rw [if_pos c15] at H
        have c15b0 := decide_eq_true c15; clear c15; replace H := ifn H; obtain ⟨c16, H⟩ := H; have c16b0 := decide_eq_true c16; clear c16; replace H := ifm H; obtain ⟨c17, H⟩ := H; have c17b0 := beq_eq_false_iff_ne.mpr c17; have c17b1 := bne_iff_ne.mpr c17
        replace H := ifn H; obtain ⟨c18, H⟩ := H; have LMc18 := am c18; clear c18
        generalize hy552 : (x7_2 ++ [Int.tmod (wrap64 (2 * (rd t543 x8_2))) t542] : List Int) = y552 at H
        have Ny552 := am hy552.symm; clear hy552; have H' := am H; clear H
        have p551 : 0 ≤ (x8_2 : Int) := od
        have q551 : x8_2 < (t543.length : Int) := od
        obtain ⟨ad551, e551, hx551_0⟩ := Kd.at_int (Kd.V_reads' HO_4.out).2.2 x8_2 p551 q551
        cases e551; replace p551 := eq_true p551; replace q551 := eq_true q551
        go_wp2_with (first | ((with_reducible refine gate_builtin (b := .append) (xs := #[.tmp 40, .tmp 48]) rfl ?_); at_builtin; refine Kd.R_append (Kd.int .i64) (w0 := w) w.heap.size rfl (.tmp 40) (.tmp 48) 23 3 (.int .i64 0) 8 rfl Try.underlying23 info3 rfl (by decide) (by omega) u7 x7_2 (Int.tmod (wrap64 (2 * (rd t543 x8_2))) t542) [.int .i64 (Int.tmod (wrap64 (2 * (rd t543 x8_2))) t542)] (fun _ => True) (fun _ => False) rfl rfl ?aP (fun _ hk => hk.elim) ?aF ?aO ?aB ?aS ?aL ?_; (case aP => exact rfl); (case aB => exact (bw HB)); (case aF => exact (fun _ _ => trivial)); (case aO => exact (wR HO_7)); (case aS => exact (bz HB)); (case aL => have := LMc18.out; omega); intro v553 w19 ho hb hg hat; rw [← Ny552.out] at ho; replace HO_4 := am (Kd.V_afterv (ok := (fun _ => True)) (by (with_reducible repeat (first | apply Kd.V_alloc | apply Kd.V_drewN | apply Kd.V_drew)); exact Kd.V_mono HO_4.out (fun _ hk => ⟨trivial, hk⟩)) hg hat); replace HB := am (hb); have HO554 := am (ho); clear HO_7; clear ho hb hg hat))
        go_roundg k2
        case measure => have := HJ5.out; have := HK2.out; omega
        case rel => exact ⟨(y552), (wrap64 (x8_2 + 1)), fr, H', ⟨by have := HJ5.out; have := HK2.out; omega⟩, ⟨Kd.V_below (Kd.V_mono HO_4.out (fun _ hk => hk.2)) gs⟩, ⟨wR HO554⟩, ⟨bw HB⟩⟩
       ·rw [if_neg c15] at H
        have c15b0 := decide_eq_false c15; clear c15; replace H := bs H; obtain ⟨t555, A20, H⟩ := H; obtain rfl := Option.some.inj H
        obtain ⟨Ao21, co21, eo21⟩ := Kd.R_slice HO_7.out
        subst eo21
        go_wp2_with (first | ((with_reducible refine gate_callee (f := 17) rfl ?_); refine gl 52 Try.func17 #[.int .i64 t542, .slice Ao21 x7_2.length co21] ?_; (with_reducible refine (impl_FormSmooth.calls t542 _ _ x7_2 t555 _ ?_ ?_ A20.out).mono ?_); exact Kd.C_below (Kd.R_reads' HO_7.out).2.2 gs; exact (Kd.R_reads' HO_7.out).2.1; rintro e w22 ⟨rfl, hb⟩; refine ⟨_, rfl, ?_⟩; replace HO_4 := am (Kd.V_below (wV HO_4) hb); replace HO_7 := am (Kd.R_below (wR HO_7) hb); replace HB := bq HB hb; (try clear hb)))
        go_ret
        exact ⟨fq, bw HB⟩
/-- THE ONE PURE STATEMENT of laws_FnSmooth: yours. -/
def laws_FnSmooth.Pure : Prop := ∀ (l0 : List Int), l0.length ≤ maxLen → l0.length * 1 ≤ 140737488351232 → (∀ x ∈ l0, (Lit.int .u8 x).wf = true) → ∃ k, laws_FnSmooth.f k l0 = some true
theorem laws_FnSmooth.walk (P : laws_FnSmooth.Pure) (a0 : Option Addr) (len0 cap0 : Nat) (z0 : List Int) (w : World) (w0 : (a0 = none ∧ len0 = 0 ∧ cap0 = 0 ∧ z0 = []) ∨ ∃ x, a0 = some x ∧ len0 ≤ cap0 ∧ cap0 ≤ maxLen ∧ z0.length = cap0 ∧ (∀ i, i < z0.length → w.cell? (x.add i) = some (.int .u8 (z0.getD i 0))) ∧ ∀ n ∈ z0, (Lit.int .u8 n).wf = true) (y0 : len0 * 1 ≤ 140737488351232) :
  Calls Try.prog 4 #[.slice a0 len0 cap0] w fun e w' => e = .returned (.bool true) ∧ Below w.heap.size w w' := by
 obtain ⟨l0, rfl, hr0, hm0, hw0, hc0⟩ := ReadsInt.ofRowC w0
 obtain ⟨k, h⟩ := P l0 hm0 y0 hw0
 refine (laws_FnSmooth.calls k _ _ l0 true w (Kd.C_of_reads (d := (0 : Int)) (h1 := fun _ => rfl) hr0) hc0 rfl h).mono ?_
 rintro e w' ⟨rfl, hd⟩
 exact ⟨rfl, hd⟩/-! ### spec_DrawFormCount: function 13 -/
def spec_DrawFormCount.f (k : Nat) (l0 : List Int) : Option (Int × List Int) := (spec_l92Small.f k l0).bind fun bt556 => (some (bt556.1, bt556.2))
theorem spec_DrawFormCount.mono : ∀ a0 k, LeO (spec_DrawFormCount.f k a0) (spec_DrawFormCount.f (k + 1) a0) := by
 intro a0 k
 unfold spec_DrawFormCount.f
 repeat' first | (with_reducible first | apply spec_l92Small.mono | exact LeO.refl _ | exact LeO.none _ | refine LeO.ite ?_ ?_ | refine LeO.bind ?_ (fun _ => ?_)) | (first | apply spec_l92Small.mono | exact LeO.none _ | refine LeO.ite ?_ ?_ | refine LeO.bind ?_ (fun _ => ?_))
set_option maxHeartbeats 8000000 in
set_option maxRecDepth 100000 in
theorem spec_DrawFormCount.calls (k : Nat) (A0 : Option Addr) (c0 : Nat) (l0 : List Int) (r1 : Int) (r2 : List Int) (w : World) (hr0 : Kd.C (Kd.int .u8) w A0 l0.length l0) (hc0 : l0.length ≤ c0) (h : spec_DrawFormCount.f k l0 = some (r1, r2)) :
  Calls Try.prog 13 #[.slice A0 l0.length c0] w fun e w' => ∃ v1_ : Value, e = .returned (.tuple #[.int .i64 r1, v1_]) ∧ Kd.V (Kd.int .i64) 3 w' w.heap.size (fun k_ => (w.heap.size ≤ k_)) v1_ r2 ∧ Below w.heap.size w w' := by
 have HR0 := am hr0
 have HC0 := am hc0
 clear hr0 hc0
 have HB := am (Below.refl w.heap.size w)
 have H : ((spec_l92Small.f k l0).bind fun bt556 => (some (bt556.1, bt556.2))) = some (r1, r2) := h
 clear h; replace H := bs H
 obtain ⟨⟨t556, t557⟩, A2, H⟩ := H
 dsimp only at H
 simp only [Option.some.injEq, Prod.mk.injEq] at H
 obtain ⟨rfl, rfl⟩ := H
 go_enter Try.func13, Try.ntmps13
 go_wp2_with (first | ((with_reducible refine gate_callee (f := 51) rfl ?_); refine gl 5 Try.func51 #[.slice A0 l0.length c0] ?_; (with_reducible refine (spec_l92Small.calls k _ _ l0 t556 t557 _ ?_ ?_ A2.out).mono ?_); exact wC HR0; exact HC0.out; rintro e w3 ⟨v558, rfl, ho0, hb⟩; refine ⟨_, rfl, ?_⟩; have HO559 := am (Kd.V_lower (Kd.V_mono (ok' := fun k_ => (w.heap.size ≤ k_)) ho0 (fun k_ hk_ => (Nat.le_trans (bz HB) hk_))) (bz HB)); replace HB := bq HB hb; (try clear hb); (try clear ho0)))
 go_ret2
 exact ⟨_, fq, wV HO559, bw HB⟩/-! ### impl_FormCount: function 14 (by hand) -/
/-- one place more, if the form is 0 there -/
def countStep (p : Int) (f : List Int) (n : Int) (a : List Int) : Int × Bool := (if valI p f a = 0 then wrap64 (n + 1) else n, true)
/-- what lies in the three captured variables -/
def CountInv (w0 : World) (b0 b1 b2 : Nat) (p : Int) (A : Option Addr) (c len : Nat) (n : Int) (W : World) : Prop :=
 Below w0.heap.size w0 W ∧ W.heap[b0]? = some (.cells #[.int .i64 p] 3 (0, 0)) ∧ W.heap[b1]? = some (.cells #[.slice A len c] 23 (0, 0)) ∧ W.heap[b2]? = some (.cells #[.int .i64 n] 3 (0, 0))
theorem heap_lt {w : World} {b : Nat} {o : Obj} (h : w.heap[b]? = some o) : b < w.heap.size := (Array.getElem?_eq_some_iff.1 h).1
theorem heap_alloc_old {w : World} {b : Nat} {o : Obj} (h : w.heap[b]? = some o) (o2 : Obj) : (w.alloc o2).heap[b]? = some o := by rw [Below.heap_alloc _ _ _ (heap_lt h)]; exact h
theorem heap_alloc_here (w : World) (o : Obj) : (w.alloc o).heap[w.heap.size]? = some o := by
 show (w.heap.push o)[w.heap.size]? = _
 simp
set_option maxHeartbeats 1000000 in
theorem countTell_any (w0 W : World) (b0 b1 b2 : Nat) (hb02 : b0 ≠ b2) (hb12 : b1 ≠ b2) (hlb : w0.heap.size ≤ b2) (p : Int) (hp : p ≠ 0) (A1 : Option Addr) (c1 : Nat) (f : List Int) (hf : f.length = 20) (hr1 : Kd.C (Kd.int .i64) w0 A1 f.length f) (hc1 : f.length ≤ c1) (n : Int) (a : List Int) (A : Option Addr) (c : Nat)
  (hI : CountInv w0 b0 b1 b2 p A1 c1 f.length n W) (ha : a.length = 4) (hra : Kd.C (Kd.int .i64) W A a.length a) (hca : a.length ≤ c) :
  Calls Try.prog 54 #[.slice A a.length c, .pointer (some ⟨b0, 0, none⟩), .pointer (some ⟨b1, 0, none⟩), .pointer (some ⟨b2, 0, none⟩)] W fun e w' => e = .returned (.bool (countStep p f n a).2) ∧ CountInv w0 b0 b1 b2 p A1 c1 f.length (countStep p f n a).1 w' ∧ W.heap.size ≤ w'.heap.size := by
 obtain ⟨hb, h0, h1, h2⟩ := hI
 obtain ⟨k, hk⟩ := (valueAt_ev p f a hp hf ha).rounds
 have hx0 : W.cell? ⟨b0, 0, none⟩ = some (.int .i64 p) := (blk_cell h0 0).trans rfl
 have hx1 : W.cell? ⟨b1, 0, none⟩ = some (.slice A1 f.length c1) := (blk_cell h1 0).trans rfl
 have hx2 : W.cell? ⟨b2, 0, none⟩ = some (.int .i64 n) := (blk_cell h2 0).trans rfl
 have hf2 : W.frozen? ⟨b2, 0, none⟩ = false := blk_frozen h2 0
 have hr2 := Kd.C_below hr1 hb
 have HK := Lib.hid hk
 have HF := Lib.hid hf
 have HA := Lib.hid ha
 clear hk hf ha
 by_cases hv : valI p f a = 0
 ·have hvb : (valI p f a == 0) = true := beq_iff_eq.mpr hv
  have HV := Lib.hid hv
  clear hv
  go_enter Try.func54, Try.ntmps54
  go_wp2_with fail
  refine (impl_valueAt.calls k p _ _ f _ _ a (valI p f a) W hr2 hc1 hra hca HK.out).mono ?_
  rintro e w1 ⟨rfl, ⟨m, rfl⟩⟩
  go_wp2; go_ret
  refine ⟨rfl, ⟨(pw_below_drewN hb m).trans ((Below.refl _ _).setCell (p := ⟨b2, 0, none⟩) hlb _), ?_, ?_, ?_⟩, by simp [World.setCell]⟩
  ·rw [Below.heap_setCell _ _ _ _ hb02]; exact h0
  ·rw [Below.heap_setCell _ _ _ _ hb12]; exact h1
  ·rw [countStep, if_pos HV.out]
   simpa using blk_set (w := W.drewN m) h2 0 (.int .i64 (wrap64 (n + 1)))
 ·have hvb : (valI p f a == 0) = false := beq_eq_false_iff_ne.mpr hv
  have HV := Lib.hid hv
  clear hv
  go_enter Try.func54, Try.ntmps54
  go_wp2_with fail
  refine (impl_valueAt.calls k p _ _ f _ _ a (valI p f a) W hr2 hc1 hra hca HK.out).mono ?_
  rintro e w1 ⟨rfl, ⟨m, rfl⟩⟩
  go_wp2; go_ret
  exact ⟨rfl, ⟨pw_below_drewN hb m, h0, h1, by rw [countStep, if_neg HV.out]; exact h2⟩, by simp⟩
/-- how many places the form is 0 at -/
def countI (p : Int) (f : List Int) : Int := runs (countStep p f) 0 (places p.toNat)
def impl_FormCount.f (a0 : Int) (l1 : List Int) : Option (Int × Bool) :=
 (impl_areNumbers.f a0 l1 20).bind fun t => if t = true then some (countI a0 l1, true) else some (0, false)
theorem primeB_bounds {p : Int} (h : primeB p = true) : 7 ≤ p ∧ p ≤ 31 := by
 have := of_decide_eq_true h
 omega
theorem ret_ib {k : IntKind} {a b : Int} {c d : Bool} (h : a = b ∧ c = d) : Ending.returned (.tuple #[.int k a, .bool c]) = .returned (.tuple #[.int k b, .bool d]) := by rw [h.1, h.2]
set_option maxHeartbeats 1000000 in
theorem impl_FormCount.calls (a0 : Int) (A1 : Option Addr) (c1 : Nat) (l1 : List Int) (r1 : Int) (r2 : Bool) (w : World) (hr1 : Kd.C (Kd.int .i64) w A1 l1.length l1) (hc1 : l1.length ≤ c1) (h : impl_FormCount.f a0 l1 = some (r1, r2)) :
  Calls Try.prog 14 #[.int .i64 a0, .slice A1 l1.length c1] w fun e w' => e = .returned (.tuple #[.int .i64 r1, .bool r2]) ∧ Below w.heap.size w w' := by
 have hmf : ∀ (fn : Fn) (first cap : Array Value) (w : World), (Instr.makeFunc fn first cap).run Try.prog w = .ok (.func fn first cap) w := fun _ _ _ _ => rfl
 have hb2 : Below w.heap.size w ((w.alloc (.cells #[.int .i64 a0] 3)).alloc (.cells #[.slice A1 l1.length c1] 23)) := ((Below.refl _ _).alloc (Nat.le_refl _) _).alloc (by simp) _
 have hr2 := Kd.C_below hr1 hb2
 obtain ⟨t, ht⟩ : ∃ t, impl_areNumbers.f a0 l1 20 = some t := ⟨_, rfl⟩
 rw [impl_FormCount.f, ht] at h
 have H := Lib.hid h
 have HT := Lib.hid ht
 clear h; cases t
 ·clear ht
  go_enter Try.func14, Try.ntmps14
  go_wp2_with fail
  refine (impl_areNumbers.calls a0 _ _ l1 20 false _ hr2 hc1 HT.out).mono ?_
  rintro e w1 ⟨rfl, hb⟩
  go_wp2
  go_ret2
  exact ⟨ret_ib (by simpa using H.out), hb2.trans (hb.mono (by simp; omega))⟩
 ·have hp : primeB a0 = true ∧ l1.length = 20 := by
   have h9 : (primeB a0 && decide ((l1.length : Int) = 20) && l1.all fun x => decide (0 ≤ x) && decide (x < a0)) = true := Option.some.inj ht
   rw [Bool.and_eq_true, Bool.and_eq_true] at h9
   have := of_decide_eq_true h9.1.2
   exact ⟨h9.1.1, by omega⟩
  clear ht
  have hpb := primeB_bounds hp.1
  obtain ⟨p, rfl⟩ := Int.eq_ofNat_of_zero_le (show 0 ≤ a0 by omega)
  have HP := Lib.hid hp
  clear hp
  go_enter Try.func14, Try.ntmps14
  go_wp2_with fail
  refine (impl_areNumbers.calls _ _ _ l1 20 true _ hr2 hc1 HT.out).mono ?_
  rintro e w1 ⟨rfl, hb⟩
  have hx0 : w1.heap[w.heap.size]? = some (.cells #[.int .i64 (p : Int)] 3 (0, 0)) := by
   rw [hb.block _ (by simp; omega)]; exact heap_alloc_old (heap_alloc_here _ _) _
  have hx1 : w1.heap[w.heap.size + 1]? = some (.cells #[.slice A1 l1.length c1] 23 (0, 0)) := by
   rw [hb.block _ (by simp)]; simpa using heap_alloc_here (w.alloc (.cells #[.int .i64 (p : Int)] 3)) (.cells #[.slice A1 l1.length c1] 23)
  have hz1 : w.heap.size + 2 ≤ w1.heap.size := by simpa using hb.size
  have hy0 := heap_alloc_old hx0 (.cells #[.int .i64 0] 3)
  have hy1 := heap_alloc_old hx1 (.cells #[.int .i64 0] 3)
  have hy2 := heap_alloc_here w1 (.cells #[.int .i64 0] 3)
  have hbw : Below w.heap.size w (w1.alloc (.cells #[.int .i64 0] 3)) := (hb2.trans (hb.mono (by simp; omega))).alloc (by omega) _
  have hI0 : CountInv w w.heap.size (w.heap.size + 1) w1.heap.size p A1 c1 l1.length 0 (w1.alloc (.cells #[.int .i64 0] 3)) := ⟨hbw, hy0, hy1, hy2⟩
  have hc0 : (w1.alloc (.cells #[.int .i64 0] 3)).cell? ⟨w.heap.size, 0, none⟩ = some (.int .i64 (p : Int)) := (blk_cell hy0 0).trans rfl
  have HI0 := Lib.hid hI0
  clear hI0 hy0 hy1 hy2 hx0 hx1
  go_wp2_with fail
  refine (eachPlace_any 54 #[.pointer (some ⟨w.heap.size, 0, none⟩), .pointer (some ⟨w.heap.size + 1, 0, none⟩), .pointer (some ⟨w1.heap.size, 0, none⟩)] Int (fun n W => CountInv w w.heap.size (w.heap.size + 1) w1.heap.size p A1 c1 l1.length n W) (countStep p l1) p 0 _ (by omega) (by omega) (Go.Proofs.enters_of Try.func54 (by kernel_rfl) rfl) HI0.out ?m ?q).mono ?_
  case m =>
   rintro s W W' ⟨g0, g1, g2, g3⟩ hbe
   refine ⟨g0.trans (hbe.mono (by simp; omega)), ?_, ?_, ?_⟩
   ·rw [hbe.block _ (by simp; omega)]; exact g1
   ·rw [hbe.block _ (by simp; omega)]; exact g2
   ·rw [hbe.block _ (by simp)]; exact g3
  case q =>
   intro s a A c W hI hsz ha hra hca
   rw [← ha]
   exact countTell_any w W w.heap.size (w.heap.size + 1) w1.heap.size (by omega) (by omega) (by omega) p (by omega) A1 c1 l1 HP.out.2 hr1 hc1 s a A c hI ha hra hca
  rintro e w2 ⟨rfl, g0, g1, g2, g3⟩
  have hx3 : w2.cell? ⟨w1.heap.size, 0, none⟩ = some (.int .i64 (runs (countStep p l1) 0 (places p))) := (blk_cell g3 0).trans rfl
  go_wp2
  go_ret2
  exact ⟨ret_ib (by simpa [countI] using H.out), g0⟩/-! ### spec_FormCount: function 15 -/
def spec_FormCount.l0 : Nat → Int → List Int → Int → Int → Option (Int × Bool)
 | 0, _, _, _, _ => none
 | k + 1, x0, x1, x6, x7 => if x7 < (wrap64 ((wrap64 ((wrap64 (1 + x0)) + (wrap64 (x0 * x0)))) + (wrap64 ((wrap64 (x0 * x0)) * x0)))) then ((spec_l6sPlace.f x0 x7).bind fun t561 => ((spec_l6sValue.f k x0 x1 t561).bind fun t564 => (if t564 = 0 then (spec_FormCount.l0 k x0 x1 (wrap64 (x6 + 1)) (wrap64 (x7 + 1))) else (spec_FormCount.l0 k x0 x1 x6 (wrap64 (x7 + 1)))))) else (some (x6, true))
def spec_FormCount.f (k : Nat) (a0 : Int) (l1 : List Int) : Option (Int × Bool) := (spec_FormIn.f k a0 l1).bind fun t560 => (if t560 = true then (spec_FormCount.l0 k a0 l1 0 0) else (some (0, false)))
theorem spec_FormCount.mono_l : ∀ k, (∀ y0 y1 y2 y3, LeO (spec_FormCount.l0 k y0 y1 y2 y3) (spec_FormCount.l0 (k + 1) y0 y1 y2 y3))
 | 0 => fun _ _ _ _ r h => by simp [spec_FormCount.l0] at h
 | k + 1 => by
  have ih0 := spec_FormCount.mono_l k
  ·intro y0 y1 y2 y3
   unfold spec_FormCount.l0
   repeat' first | (with_reducible first | apply ih0 | apply spec_FormIn.mono | apply spec_l6sValue.mono | exact LeO.refl _ | exact LeO.none _ | refine LeO.ite ?_ ?_ | refine LeO.bind ?_ (fun _ => ?_)) | (first | apply ih0 | apply spec_FormIn.mono | apply spec_l6sValue.mono | exact LeO.none _ | refine LeO.ite ?_ ?_ | refine LeO.bind ?_ (fun _ => ?_))
theorem spec_FormCount.mono : ∀ a0 a1 k, LeO (spec_FormCount.f k a0 a1) (spec_FormCount.f (k + 1) a0 a1) := by
 intro a0 a1 k
 have ih0 := spec_FormCount.mono_l k
 unfold spec_FormCount.f
 repeat' first | (with_reducible first | apply ih0 | apply spec_FormIn.mono | apply spec_l6sValue.mono | exact LeO.refl _ | exact LeO.none _ | refine LeO.ite ?_ ?_ | refine LeO.bind ?_ (fun _ => ?_)) | (first | apply ih0 | apply spec_FormIn.mono | apply spec_l6sValue.mono | exact LeO.none _ | refine LeO.ite ?_ ?_ | refine LeO.bind ?_ (fun _ => ?_))
set_option maxHeartbeats 8000000 in
set_option maxRecDepth 100000 in
theorem spec_FormCount.calls (k : Nat) (a0 : Int) (A1 : Option Addr) (c1 : Nat) (l1 : List Int) (r1 : Int) (r2 : Bool) (w : World) (hr1 : Kd.C (Kd.int .i64) w A1 l1.length l1) (hc1 : l1.length ≤ c1) (h : spec_FormCount.f k a0 l1 = some (r1, r2)) :
  Calls Try.prog 15 #[.int .i64 a0, .slice A1 l1.length c1] w fun e w' => e = .returned (.tuple #[.int .i64 r1, .bool r2]) ∧ Below w.heap.size w w' := by
 have HR1 := am hr1
 have HC1 := am hc1
 clear hr1 hc1
 have HB := am (Below.refl w.heap.size w)
 have H : ((spec_FormIn.f k a0 l1).bind fun t560 => (if t560 = true then (spec_FormCount.l0 k a0 l1 0 0) else (some (0, false)))) = some (r1, r2) := h
 clear h; replace H := bs H; obtain ⟨t560, A3, H⟩ := H
 by_cases c4 : t560 = true
 ·subst c4
  rw [if_pos rfl] at H
  have H' := am H; clear H
  go_enter Try.func15, Try.ntmps15
  go_wp2_with (first | ((with_reducible refine gate_callee (f := 56) rfl ?_); refine gl 10 Try.func56 #[.int .i64 a0, .slice A1 l1.length c1] ?_; (with_reducible refine (spec_FormIn.calls k a0 _ _ l1 true _ ?_ ?_ A3.out).mono ?_); exact wC HR1; exact HC1.out; rintro e w' ⟨rfl, ⟨nd, rfl⟩⟩; refine ⟨_, rfl, ?_⟩))
  go_loopg [6, 7] k (fun kq v6 v7 w' => ∃ (x6_1 : Int) (x7_1 : Int), v6 = .int .i64 x6_1 ∧ v7 = .int .i64 x7_1 ∧ Aside0 (spec_FormCount.l0 kq a0 l1 x6_1 x7_1 = some (r1, r2)) ∧ Aside0 (kq ≤ k) ∧ Aside0 (Below w.heap.size w w'))
  case atStart => exact ⟨(0), (0), fr, fr, H', ⟨Nat.le_refl _⟩, ⟨bw HB⟩⟩
  case round =>
   clear H'; try clear c1; try clear p2; try clear c4
   obtain ⟨x6_1, x7_1, rfl, rfl, HA, HK1, HB⟩ := hrel
   cases gk with
   | zero => exact absurd HA.out (by simp [spec_FormCount.l0])
   | succ k1 =>
    have H := HA.out; clear HA
    simp only [spec_FormCount.l0] at H
    by_cases c5 : x7_1 < (wrap64 ((wrap64 ((wrap64 (1 + a0)) + (wrap64 (a0 * a0)))) + (wrap64 ((wrap64 (a0 * a0)) * a0))))
    ·rw [if_pos c5] at H
     have c5b0 := decide_eq_true c5; clear c5; replace H := bs H; obtain ⟨t561, A6, H⟩ := H; replace H := bs H; obtain ⟨t564, A7, H⟩ := H
     by_cases c8 : t564 = 0
     ·rw [if_pos c8] at H
      have c8b0 := beq_iff_eq.mpr c8; have c8b1 := bne_eq_false_iff_eq.mpr c8; clear c8; have H' := am H; clear H
      go_wp2_with (first | ((with_reducible refine gate_callee (f := 58) rfl ?_); refine gl 32 Try.func58 #[.int .i64 a0, .int .i64 x7_1] ?_; (with_reducible refine (spec_l6sPlace.calls a0 x7_1 t561 _ A6.out).mono ?_); rintro e w9 ⟨v562, rfl, ho0, hb⟩; refine ⟨_, rfl, ?_⟩; have HO563 := am (Kd.R_lower ho0 (bz HB)); replace HB := bq HB hb; (try clear hb); (try clear ho0); obtain ⟨Ao10, co10, eo10⟩ := Kd.R_slice HO563.out; subst eo10) | ((with_reducible refine gate_callee (f := 57) rfl ?_); refine gl 33 Try.func57 #[.int .i64 a0, .slice A1 l1.length c1, .slice Ao10 t561.length co10] ?_; (with_reducible refine (spec_l6sValue.calls k1 a0 _ _ l1 _ _ t561 t564 _ ?_ ?_ ?_ ?_ A7.out).mono ?_); exact Kd.C_below HR1.out (bw HB); exact HC1.out; exact Kd.C_below (Kd.R_reads' HO563.out).2.2 gs; exact (Kd.R_reads' HO563.out).2.1; rintro e w' ⟨rfl, ⟨nd, rfl⟩⟩; refine ⟨_, rfl, ?_⟩))
      go_roundg k1
      case measure => have := HK1.out; omega
      case rel => exact ⟨(wrap64 (x6_1 + 1)), (wrap64 (x7_1 + 1)), fr, fr, H', ⟨by have := HK1.out; omega⟩, ⟨bw HB⟩⟩
     ·rw [if_neg c8] at H
      have c8b0 := beq_eq_false_iff_ne.mpr c8; have c8b1 := bne_iff_ne.mpr c8; have H' := am H; clear H
      go_wp2_with (first | ((with_reducible refine gate_callee (f := 58) rfl ?_); refine gl 32 Try.func58 #[.int .i64 a0, .int .i64 x7_1] ?_; (with_reducible refine (spec_l6sPlace.calls a0 x7_1 t561 _ A6.out).mono ?_); rintro e w11 ⟨v562, rfl, ho0, hb⟩; refine ⟨_, rfl, ?_⟩; have HO563 := am (Kd.R_lower ho0 (bz HB)); replace HB := bq HB hb; (try clear hb); (try clear ho0); obtain ⟨Ao12, co12, eo12⟩ := Kd.R_slice HO563.out; subst eo12) | ((with_reducible refine gate_callee (f := 57) rfl ?_); refine gl 33 Try.func57 #[.int .i64 a0, .slice A1 l1.length c1, .slice Ao12 t561.length co12] ?_; (with_reducible refine (spec_l6sValue.calls k1 a0 _ _ l1 _ _ t561 t564 _ ?_ ?_ ?_ ?_ A7.out).mono ?_); exact Kd.C_below HR1.out (bw HB); exact HC1.out; exact Kd.C_below (Kd.R_reads' HO563.out).2.2 gs; exact (Kd.R_reads' HO563.out).2.1; rintro e w' ⟨rfl, ⟨nd, rfl⟩⟩; refine ⟨_, rfl, ?_⟩))
      go_roundg k1
      case measure => have := HK1.out; omega
      case rel => exact ⟨(x6_1), (wrap64 (x7_1 + 1)), fr, fr, H', ⟨by have := HK1.out; omega⟩, ⟨bw HB⟩⟩
    ·rw [if_neg c5] at H
     have c5b0 := decide_eq_false c5; clear c5
     simp only [Option.some.injEq, Prod.mk.injEq] at H
     obtain ⟨rfl, rfl⟩ := H; go_wp2
     go_ret2
     exact ⟨fq, bw HB⟩
 ·replace c4 := Bool.eq_false_iff.mpr c4
  subst c4
  rw [if_neg (show ¬ (false = true) by decide)] at H
  simp only [Option.some.injEq, Prod.mk.injEq] at H
  obtain ⟨rfl, rfl⟩ := H
  go_enter Try.func15, Try.ntmps15
  go_wp2_with (first | ((with_reducible refine gate_callee (f := 56) rfl ?_); refine gl 10 Try.func56 #[.int .i64 a0, .slice A1 l1.length c1] ?_; (with_reducible refine (spec_FormIn.calls k a0 _ _ l1 false _ ?_ ?_ A3.out).mono ?_); exact wC HR1; exact HC1.out; rintro e w' ⟨rfl, ⟨nd, rfl⟩⟩; refine ⟨_, rfl, ?_⟩))
  go_ret2
  exact ⟨fq, bw HB⟩/-! ### laws_FnFormCount: function 3 -/
mutual
def laws_FnFormCount.j0 : Nat → Int → List Int → Int → Bool → Int → Bool → Bool → Option (Bool)
 | 0, _, _, _, _, _, _, _ => none
 | k + 1, x3, x4, x5, x6, x7, x8, x42 => if x42 = true then (if (x6 == x8) = true then (some (x5 == x7)) else (some false)) else (laws_FnFormCount.l0 k x3 x4 x5 true 0)
def laws_FnFormCount.l0 : Nat → Int → List Int → Int → Bool → Int → Option (Bool)
 | 0, _, _, _, _, _ => none
 | k + 1, x3, x4, x5, x9, x10 => if x10 < (x4.length : Int) then (if x9 = true then (if 0 ≤ x10 then (laws_FnFormCount.l0 k x3 x4 x5 ((rd x4 x10) == 0) (wrap64 (x10 + 1))) else (none)) else (laws_FnFormCount.l0 k x3 x4 x5 false (wrap64 (x10 + 1)))) else (if x3 = 0 then (none) else (if (Int.tmod (wrap64 (x5 - 1)) x3) = 0 then (if x9 = true then (some (x5 == (wrap64 ((wrap64 ((wrap64 ((wrap64 ((wrap64 (x3 * x3)) * x3)) + (wrap64 (x3 * x3)))) + x3)) + 1)))) else (some true)) else (some false)))
end
def laws_FnFormCount.f (k : Nat) (l0 : List Int) : Option (Bool) := if (l0.length : Int) > 1048576 then (some true) else ((spec_DrawFormCount.f k l0).bind fun bt565 => ((impl_FormCount.f bt565.1 bt565.2).bind fun bt569 => ((spec_FormCount.f k bt565.1 bt565.2).bind fun bt571 => (if (bt569.2 != bt571.2) = true then (laws_FnFormCount.j0 k bt565.1 bt565.2 bt569.1 bt569.2 bt571.1 bt571.2 true) else (if bt569.1 = bt571.1 then (laws_FnFormCount.j0 k bt565.1 bt565.2 bt569.1 bt569.2 bt571.1 bt571.2 (!bt569.2)) else (laws_FnFormCount.j0 k bt565.1 bt565.2 bt569.1 bt569.2 bt571.1 bt571.2 true))))))
theorem laws_FnFormCount.mono_l : ∀ k, (∀ y0 y1 y2 y3 y4 y5 y6, LeO (laws_FnFormCount.j0 k y0 y1 y2 y3 y4 y5 y6) (laws_FnFormCount.j0 (k + 1) y0 y1 y2 y3 y4 y5 y6)) ∧ (∀ y0 y1 y2 y3 y4, LeO (laws_FnFormCount.l0 k y0 y1 y2 y3 y4) (laws_FnFormCount.l0 (k + 1) y0 y1 y2 y3 y4))
 | 0 => ⟨fun _ _ _ _ _ _ _ r h => by simp [laws_FnFormCount.j0] at h, fun _ _ _ _ _ r h => by simp [laws_FnFormCount.l0] at h⟩
 | k + 1 => by
  obtain ⟨ih0, ih1⟩ := laws_FnFormCount.mono_l k
  refine ⟨?_, ?_⟩
  ·intro y0 y1 y2 y3 y4 y5 y6
   unfold laws_FnFormCount.j0
   repeat' first | (with_reducible first | apply ih0 | apply ih1 | apply spec_DrawFormCount.mono | apply spec_FormCount.mono | exact LeO.refl _ | exact LeO.none _ | refine LeO.ite ?_ ?_ | refine LeO.bind ?_ (fun _ => ?_)) | (first | apply ih0 | apply ih1 | apply spec_DrawFormCount.mono | apply spec_FormCount.mono | exact LeO.none _ | refine LeO.ite ?_ ?_ | refine LeO.bind ?_ (fun _ => ?_))
  ·intro y0 y1 y2 y3 y4
   unfold laws_FnFormCount.l0
   repeat' first | (with_reducible first | apply ih0 | apply ih1 | apply spec_DrawFormCount.mono | apply spec_FormCount.mono | exact LeO.refl _ | exact LeO.none _ | refine LeO.ite ?_ ?_ | refine LeO.bind ?_ (fun _ => ?_)) | (first | apply ih0 | apply ih1 | apply spec_DrawFormCount.mono | apply spec_FormCount.mono | exact LeO.none _ | refine LeO.ite ?_ ?_ | refine LeO.bind ?_ (fun _ => ?_))
theorem laws_FnFormCount.mono : ∀ a0 k, LeO (laws_FnFormCount.f k a0) (laws_FnFormCount.f (k + 1) a0) := by
 intro a0 k
 obtain ⟨ih0, ih1⟩ := laws_FnFormCount.mono_l k
 unfold laws_FnFormCount.f
 repeat' first | (with_reducible first | apply ih0 | apply ih1 | apply spec_DrawFormCount.mono | apply spec_FormCount.mono | exact LeO.refl _ | exact LeO.none _ | refine LeO.ite ?_ ?_ | refine LeO.bind ?_ (fun _ => ?_)) | (first | apply ih0 | apply ih1 | apply spec_DrawFormCount.mono | apply spec_FormCount.mono | exact LeO.none _ | refine LeO.ite ?_ ?_ | refine LeO.bind ?_ (fun _ => ?_))
set_option maxHeartbeats 8000000 in
set_option maxRecDepth 100000 in
theorem laws_FnFormCount.calls (k : Nat) (A0 : Option Addr) (c0 : Nat) (l0 : List Int) (r : Bool) (w : World) (hr0 : Kd.C (Kd.int .u8) w A0 l0.length l0) (hc0 : l0.length ≤ c0) (hT : r = true) (h : laws_FnFormCount.f k l0 = some r) :
  Calls Try.prog 3 #[.slice A0 l0.length c0] w fun e w' => e = .returned (.bool r) ∧ Below w.heap.size w w' := by
 have HT := am hT
 clear hT
 have HR0 := am hr0
 have HC0 := am hc0
 clear hr0 hc0
 have HB := am (Below.refl w.heap.size w)
 have H : (if (l0.length : Int) > 1048576 then (some true) else ((spec_DrawFormCount.f k l0).bind fun bt565 => ((impl_FormCount.f bt565.1 bt565.2).bind fun bt569 => ((spec_FormCount.f k bt565.1 bt565.2).bind fun bt571 => (if (bt569.2 != bt571.2) = true then (laws_FnFormCount.j0 k bt565.1 bt565.2 bt569.1 bt569.2 bt571.1 bt571.2 true) else (if bt569.1 = bt571.1 then (laws_FnFormCount.j0 k bt565.1 bt565.2 bt569.1 bt569.2 bt571.1 bt571.2 (!bt569.2)) else (laws_FnFormCount.j0 k bt565.1 bt565.2 bt569.1 bt569.2 bt571.1 bt571.2 true))))))) = some r := h
 clear h
 by_cases c2 : (l0.length : Int) > 1048576
 ·rw [if_pos c2] at H
  have c2b0 := decide_eq_true c2
  have c2b1 : decide (1048576 < l0.length) = true := decide_eq_true (by omega)
  clear c2; obtain rfl := Option.some.inj H
  go_enter Try.func3, Try.ntmps3
  go_wp2; go_ret
  exact ⟨fq, bw HB⟩
 ·rw [if_neg c2] at H
  have c2b0 := decide_eq_false c2
  have c2b1 : decide (1048576 < l0.length) = false := decide_eq_false (by omega)
  clear c2; replace H := bs H
  obtain ⟨⟨t565, t566⟩, A3, H⟩ := H
  dsimp only at H
  replace H := bs H
  obtain ⟨⟨t569, t570⟩, A4, H⟩ := H
  dsimp only at H
  replace H := bs H
  obtain ⟨⟨t571, t572⟩, A5, H⟩ := H
  dsimp only at H
  have HC6 := am H
  clear H
  go_enter Try.func3, Try.ntmps3
  go_upto_region 6 with (first | ((with_reducible refine gate_callee (f := 13) rfl ?_); refine gl 16 Try.func13 #[.slice A0 l0.length c0] ?_; (with_reducible refine (spec_DrawFormCount.calls k _ _ l0 t565 t566 _ ?_ ?_ A3.out).mono ?_); exact wC HR0; exact HC0.out; rintro e w7 ⟨v567, rfl, ho0, hb⟩; refine ⟨_, rfl, ?_⟩; have HO568 := am (Kd.V_lower (Kd.V_mono (ok' := fun k_ => True) ho0 (fun k_ hk_ => trivial)) (bz HB)); replace HB := bq HB hb; (try clear hb); (try clear ho0); obtain ⟨Ao8, co8, eo8⟩ := Kd.V_slice HO568.out; subst eo8) | ((with_reducible refine gate_callee (f := 14) rfl ?_); refine gl 22 Try.func14 #[.int .i64 t565, .slice Ao8 t566.length co8] ?_; (with_reducible refine (impl_FormCount.calls t565 _ _ t566 t569 t570 _ ?_ ?_ A4.out).mono ?_); exact Kd.C_below (Kd.V_reads' HO568.out).2.2 gs; exact (Kd.V_reads' HO568.out).2.1; rintro e w9 ⟨rfl, hb⟩; refine ⟨_, rfl, ?_⟩; replace HO568 := am (Kd.V_below (wV HO568) hb); replace HB := bq HB hb; (try clear hb)) | ((with_reducible refine gate_callee (f := 15) rfl ?_); refine gl 28 Try.func15 #[.int .i64 t565, .slice Ao8 t566.length co8] ?_; (with_reducible refine (spec_FormCount.calls k t565 _ _ t566 t571 t572 _ ?_ ?_ A5.out).mono ?_); exact Kd.C_below (Kd.V_reads' HO568.out).2.2 gs; exact (Kd.V_reads' HO568.out).2.1; rintro e w10 ⟨rfl, hb⟩; refine ⟨_, rfl, ?_⟩; replace HO568 := am (Kd.V_below (wV HO568) hb); replace HB := bq HB hb; (try clear hb)))
  (try simp only [Act.put, List.setIfInBounds_toArray, List.set_cons_zero, List.set_cons_succ])
  go_cut [42] (fun v42 wc => ∃ (kq : Nat) (x42_5 : Bool), v42 = .bool x42_5 ∧ Aside0 (laws_FnFormCount.j0 kq t565 t566 t569 t570 t571 t572 x42_5 = some r) ∧ Aside0 (kq ≤ k) ∧ Aside0 (Kd.V (Kd.int .i64) 3 wc w.heap.size (fun _ => True) (.slice Ao8 t566.length co8) t566) ∧ Aside0 (Below w.heap.size w wc))
  case first =>
   have H := HC6.out
   clear HC6
   by_cases c11 : (t570 != t572) = true
   ·rw [if_pos c11] at H
    have c11b0 : (t570 != t572) = true := c11
    (try (have c11b1 : decide (t570 = t572) = false := by simpa using c11))
    (try (have c11b2 : (t570 == t572) = false := by simpa using c11))
    (try (have c11b3 : ¬ (t570 = t572) := by simpa using c11))
    clear c11
    (first | rw [c11b0] | (simp only [i64_w, i32_w]; rw [c11b0]) | skip)
    have H' := am H; clear H; go_wp2
    go_meet
    case rel => exact ⟨_, (true), fr, H', ⟨by first | omega | exact Nat.le_refl _⟩, ⟨wV HO568⟩, ⟨bw HB⟩⟩
   ·rw [if_neg c11] at H
    have c11b0 : (t570 != t572) = false := by simpa using c11
    (try (have c11b1 : decide (t570 = t572) = true := by simpa using c11))
    (try (have c11b2 : (t570 == t572) = true := by simpa using c11))
    clear c11
    (first | rw [c11b0] | (simp only [i64_w, i32_w]; rw [c11b0]) | skip)
    by_cases c12 : t569 = t571
    ·rw [if_pos c12] at H
     have c12b0 := beq_iff_eq.mpr c12; have c12b1 := bne_eq_false_iff_eq.mpr c12; clear c12; have H' := am H; clear H; go_wp2
     go_meet
     case rel => exact ⟨_, (!t570), fr, H', ⟨by first | omega | exact Nat.le_refl _⟩, ⟨wV HO568⟩, ⟨bw HB⟩⟩
    ·rw [if_neg c12] at H
     have c12b0 := beq_eq_false_iff_ne.mpr c12; have c12b1 := bne_iff_ne.mpr c12; have H' := am H; clear H; go_wp2
     go_meet
     case rel => exact ⟨_, (true), fr, H', ⟨by first | omega | exact Nat.le_refl _⟩, ⟨wV HO568⟩, ⟨bw HB⟩⟩
  case rest =>
   clear HC6; try clear c1; try clear c2; try clear c2b0; try clear c2b1; try clear p2; try clear c3; try clear c11; try clear c11b0; try clear c11b1; try clear c11b2; try clear c12; try clear c12b0; try clear c12b1
   obtain ⟨kq, x42_5, rfl, HA, HJ5, HO_4, HB⟩ := hcut
   cases kq with
   | zero => exact absurd HA.out (by simp [laws_FnFormCount.j0])
   | succ kj5 =>
    have H := HA.out; clear HA
    simp only [laws_FnFormCount.j0] at H
    by_cases c13 : x42_5 = true
    ·subst c13
     rw [if_pos rfl] at H
     by_cases c14 : (t570 == t572) = true
     ·rw [if_pos c14] at H
      have c14b0 : (t570 == t572) = true := c14
      (try (have c14b1 : decide (t570 = t572) = true := by simpa using c14))
      (try (have c14b2 : (t570 == t572) = true := by simpa using c14))
      clear c14; obtain rfl := Option.some.inj H; go_wp2; go_ret
      exact ⟨fq, bw HB⟩
     ·rw [if_neg c14] at H
      have c14b0 : (t570 == t572) = false := by simpa using c14
      (try (have c14b1 : decide (t570 = t572) = false := by simpa using c14))
      (try (have c14b2 : (t570 == t572) = false := by simpa using c14))
      (try (have c14b3 : ¬ (t570 = t572) := by simpa using c14))
      clear c14
      exact absurd (H.trans (congrArg some HT.out)) (by simp)
    ·replace c13 := Bool.eq_false_iff.mpr c13
     subst c13
     rw [if_neg (show ¬ (false = true) by decide)] at H
     have H' := am H; clear H; go_wp2
     go_loopg [9, 10] kj5 (fun kq v9 v10 w' => ∃ (x9_2 : Bool) (x10_2 : Int), v9 = .bool x9_2 ∧ v10 = .int .i64 x10_2 ∧ Aside0 (laws_FnFormCount.l0 kq t565 t566 t569 x9_2 x10_2 = some r) ∧ Aside0 (kq ≤ kj5) ∧ Aside0 (Kd.V (Kd.int .i64) 3 w' w.heap.size (fun _ => True) (.slice Ao8 t566.length co8) t566) ∧ Aside0 (Below w.heap.size w w'))
     case atStart => exact ⟨(true), (0), fr, fr, H', ⟨Nat.le_refl _⟩, ⟨wV HO_4⟩, ⟨bw HB⟩⟩
     case round =>
      clear H'; try clear c1; try clear c2; try clear c2b0; try clear c2b1; try clear p2; try clear c3; try clear c11; try clear c11b0; try clear c11b1; try clear c11b2; try clear c12; try clear c12b0; try clear c12b1; try clear c13; try clear c14
      try clear c14b0; try clear c14b1; try clear c14b2; try clear p2
      obtain ⟨x9_2, x10_2, rfl, rfl, HA, HK2, HO_4, HB⟩ := hrel
      cases gk with
      | zero => exact absurd HA.out (by simp [laws_FnFormCount.l0])
      | succ k2 =>
       have H := HA.out; clear HA
       simp only [laws_FnFormCount.l0] at H
       by_cases c15 : x10_2 < (t566.length : Int)
       ·rw [if_pos c15] at H
        have c15b0 := decide_eq_true c15; clear c15
        by_cases c16 : x9_2 = true
        ·subst c16
         rw [if_pos rfl] at H
         replace H := ifn H; obtain ⟨c17, H⟩ := H; have c17b0 := decide_eq_true c17; clear c17; have H' := am H; clear H
         have p573 : 0 ≤ (x10_2 : Int) := od
         have q573 : x10_2 < (t566.length : Int) := od
         obtain ⟨ad573, e573, hx573_0⟩ := Kd.at_int (Kd.V_reads' HO_4.out).2.2 x10_2 p573 q573
         cases e573; replace p573 := eq_true p573; replace q573 := eq_true q573; go_wp2
         go_roundg k2
         case measure => have := HJ5.out; have := HK2.out; omega
         case rel => exact ⟨(((rd t566 x10_2) == 0)), (wrap64 (x10_2 + 1)), fr, fr, H', ⟨by have := HJ5.out; have := HK2.out; omega⟩, ⟨wV HO_4⟩, ⟨bw HB⟩⟩
        ·replace c16 := Bool.eq_false_iff.mpr c16
         subst c16
         rw [if_neg (show ¬ (false = true) by decide)] at H
         have H' := am H; clear H; go_wp2
         go_roundg k2
         case measure => have := HJ5.out; have := HK2.out; omega
         case rel => exact ⟨(false), (wrap64 (x10_2 + 1)), fr, fr, H', ⟨by have := HJ5.out; have := HK2.out; omega⟩, ⟨wV HO_4⟩, ⟨bw HB⟩⟩
       ·rw [if_neg c15] at H
        have c15b0 := decide_eq_false c15; clear c15; replace H := ifm H; obtain ⟨c18, H⟩ := H; have c18b0 := beq_eq_false_iff_ne.mpr c18; have c18b1 := bne_iff_ne.mpr c18
        by_cases c19 : (Int.tmod (wrap64 (t569 - 1)) t565) = 0
        ·rw [if_pos c19] at H
         have c19b0 := beq_iff_eq.mpr c19; have c19b1 := bne_eq_false_iff_eq.mpr c19; clear c19
         by_cases c20 : x9_2 = true
         ·subst c20
          rw [if_pos rfl] at H
          obtain rfl := Option.some.inj H; go_wp2; go_ret
          exact ⟨fq, bw HB⟩
         ·replace c20 := Bool.eq_false_iff.mpr c20
          subst c20
          rw [if_neg (show ¬ (false = true) by decide)] at H
          obtain rfl := Option.some.inj H; go_wp2; go_ret
          exact ⟨fq, bw HB⟩
        ·rw [if_neg c19] at H
         have c19b0 := beq_eq_false_iff_ne.mpr c19; have c19b1 := bne_iff_ne.mpr c19
         exact absurd (H.trans (congrArg some HT.out)) (by simp)
/-- THE ONE PURE STATEMENT of laws_FnFormCount: yours. -/
def laws_FnFormCount.Pure : Prop := ∀ (l0 : List Int), l0.length ≤ maxLen → l0.length * 1 ≤ 140737488351232 → (∀ x ∈ l0, (Lit.int .u8 x).wf = true) → ∃ k, laws_FnFormCount.f k l0 = some true
theorem laws_FnFormCount.walk (P : laws_FnFormCount.Pure) (a0 : Option Addr) (len0 cap0 : Nat) (z0 : List Int) (w : World) (w0 : (a0 = none ∧ len0 = 0 ∧ cap0 = 0 ∧ z0 = []) ∨ ∃ x, a0 = some x ∧ len0 ≤ cap0 ∧ cap0 ≤ maxLen ∧ z0.length = cap0 ∧ (∀ i, i < z0.length → w.cell? (x.add i) = some (.int .u8 (z0.getD i 0))) ∧ ∀ n ∈ z0, (Lit.int .u8 n).wf = true) (y0 : len0 * 1 ≤ 140737488351232) :
  Calls Try.prog 3 #[.slice a0 len0 cap0] w fun e w' => e = .returned (.bool true) ∧ Below w.heap.size w w' := by
 obtain ⟨l0, rfl, hr0, hm0, hw0, hc0⟩ := ReadsInt.ofRowC w0
 obtain ⟨k, h⟩ := P l0 hm0 y0 hw0
 refine (laws_FnFormCount.calls k _ _ l0 true w (Kd.C_of_reads (d := (0 : Int)) (h1 := fun _ => rfl) hr0) hc0 rfl h).mono ?_
 rintro e w' ⟨rfl, hd⟩
 exact ⟨rfl, hd⟩
end Go.Proofs.Ytmgbpmihbljngaa.PA

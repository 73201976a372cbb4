-- Written by xprint.py, a program of this claim's own (over the kit's print.py)
import Derived.Test.YtmgbpmihbljngaaPAx0
import Derived.Test.YtmgbpmihbljngaaPAx1
import Derived.Test.YtmgbpmihbljngaaPAx2
import Derived.Test.YtmgbpmihbljngaaPAx8
import Derived.Test.YtmgbpmihbljngaaPAx10
import Derived.Test.YtmgbpmihbljngaaPAx11
import Derived.Test.YtmgbpmihbljngaaPAx18
import Derived.Test.YtmgbpmihbljngaaPAx21
import Derived.BigQuiet
import Derived.Deep.QuietTactic
namespace Go.Proofs.Ytmgbpmihbljngaa.PA
open Go.RowKit Go.Proofs.YtmgbpmihbljngaaW.PrintWords Go.Proofs.YtmgbpmihbljngaaW.PrintLast Go.Proofs.YtmgbpmihbljngaaW.PrintMore
attribute [local go_sem] max2_int min2_int max_two min_two max_three min_three max_four min_four   -- for this text's walks alone
set_option linter.unusedVariables false
set_option linter.unusedSimpArgs false

/-! ### spec_PlaceIn: function 84 (by hand) -/
def pl_lowB (p x : Int) : Bool := decide (0 ≤ x) && decide (x ≤ wrap64 (p - 1))
theorem pl_l6In_low (p x : Int) : spec_l6In.f x 0 (wrap64 (p - 1)) = some (pl_lowB p x) := by
 unfold spec_l6In.f pl_lowB
 by_cases h : x ≥ 0
 ·have h' : 0 ≤ x := h
  simp [h, h']
 ·have h' : ¬ 0 ≤ x := h
  simp [h, h']
/-- what PlaceIn tells -/
def spec_PlaceIn.f (k : Nat) (a0 : Int) (l1 : List Int) : Option Bool := (spec_PrimeIn.f a0).bind fun t =>
 if t = true then (if l1.length = 4 then (if l1.all (pl_lowB a0) = true then (spec_l4Row.f k a0 l1).bind fun row => (spec_l4Zero.f k l1).bind fun z => if row.length = 4 then some (!z && (row == l1)) else none else some false) else some false) else some false
theorem spec_PlaceIn.mono : ∀ a0 a1 k, LeO (spec_PlaceIn.f k a0 a1) (spec_PlaceIn.f (k + 1) a0 a1) := by
 intro a0 a1 k
 unfold spec_PlaceIn.f
 refine LeO.bind (LeO.refl _) fun _ => LeO.ite (LeO.ite (LeO.ite (LeO.bind (spec_l4Row.mono _ _ _) fun _ => LeO.bind (spec_l4Zero.mono _ _) fun _ => LeO.refl _) (LeO.refl _)) (LeO.refl _)) (LeO.refl _)
theorem quiet_ {P : Program} {f : FuncId} {args : Array Value} {w : World} {v : Value} (h : Calls P f args w fun e w' => e = .returned v ∧ Drawn0 w w') : Calls P f args w fun e w' => e = .returned v ∧ ∃ n, w' = w.drewN n :=
 h.mono fun e w' h => ⟨h.1, h.2.out⟩
set_option maxHeartbeats 4000000 in
set_option maxRecDepth 100000 in
theorem spec_PlaceIn.calls (k : Nat) (a0 : Int) (A1 : Option Addr) (c1 : Nat) (l1 : List Int) (r : Bool) (w : World) (hr1 : Kd.C (Kd.int .i64) w A1 l1.length l1) (hc1 : l1.length ≤ c1) (h : spec_PlaceIn.f k a0 l1 = some r) :
  Calls Try.prog 84 #[.int .i64 a0, .slice A1 l1.length c1] w fun e w' => e = .returned (.bool r) ∧ Below w.heap.size w w' := by
 obtain ⟨t, hprime, h'⟩ := Option.bind_eq_some_iff.1 h
 clear h
 have HPR := Lib.hid hprime
 have HR1 := Lib.hid hr1
 have HC1 := Lib.hid hc1
 have H := Lib.hid h'
 clear hprime hr1 hc1 h'
 cases t with
 | false =>
  obtain rfl : r = false := by have h := H.out; simp at h; exact h
  go_enter Try.func84, Try.ntmps84
  go_wp2_with fail
  refine (spec_PrimeIn.calls a0 false _ HPR.out).mono ?_
  rintro e w1 ⟨rfl, ⟨q, rfl⟩⟩
  go_wp2; go_ret
  exact ⟨rfl, pw_below_drewN (Below.refl _ _) q⟩
 | true =>
  by_cases hl : l1.length = 4
  ·have HL := Lib.hid hl
   go_enter Try.func84, Try.ntmps84
   rw [hl]
   have h8 : ((4 : Int) != 4) = false := rfl
   clear hl
   go_wp2_with fail
   refine (spec_PrimeIn.calls a0 true _ HPR.out).mono ?_
   rintro e w1 ⟨rfl, ⟨q, rfl⟩⟩
   go_wp2_with fail
   have hb0 : Below w.heap.size w (w.drewN q) := pw_below_drewN (Below.refl _ _) q
   generalize w.drewN q = w1 at hb0 ⊢
   go_loopw [5] (fun i w' => ∃ j : Nat, j ≤ 4 ∧ i = .int .i64 j ∧ (l1.take j).all (pl_lowB a0) = true ∧ Below w.heap.size w w') (fun i _ => 4 - (intOf i).toNat)
   case atStart => exact ⟨0, by omega, rfl, by simp, hb0⟩
   case round =>
    clear hb0
    obtain ⟨j, hj, rfl, hall, hB⟩ := hrel
    have HB := Lib.hid hB
    have HALL := Lib.hid hall
    have HJ := Lib.hid hj
    clear hB hall hj
    by_cases hlt : j < 4
    ·obtain ⟨ad, e, hx⟩ := Kd.at_int (Kd.C_below HR1.out HB.out) (j : Int) (by omega) (by have := HL.out; omega)
     subst e
     simp only [Int.toNat_natCast] at hx
     have hd1 : decide ((j : Int) < 4) = true := decide_eq_true (by omega)
     have p1 : (0 ≤ (j : Int)) = True := eq_true (by omega)
     have q1 : ((j : Int) < 4) = True := eq_true (by omega)
     have hlow := pl_l6In_low a0 (rd l1 (j : Int))
     have HLT := Lib.hid hlt
     cases hv : pl_lowB a0 (rd l1 (j : Int)) with
     | false =>
      rw [hv] at hlow
      have HLOW := Lib.hid hlow
      have hr : r = false := by
       have h := H.out
       have ha : l1.all (pl_lowB a0) = false := by
        rw [List.all_eq_false]
        exact ⟨rd l1 (j : Int), by rw [rd, List.getD_eq_getElem?_getD, Int.toNat_natCast, List.getElem?_eq_getElem (by have := HL.out; omega)]; exact List.getElem_mem _, by simp [hv]⟩
       rw [if_pos trivial, if_pos HL.out, if_neg (by simp [ha])] at h
       exact (Option.some.inj h).symm
      subst hr; clear hlt hv hlow
      go_wp2_with fail
      refine (spec_l6In.calls _ _ _ _ _ HLOW.out).mono ?_
      rintro e w2 ⟨rfl, ⟨q, rfl⟩⟩
      go_wp2; go_ret
      exact ⟨rfl, pw_below_drewN HB.out q⟩
     | true =>
      rw [hv] at hlow
      have HLOW := Lib.hid hlow
      have HALL2 : Hid ((l1.take (j + 1)).all (pl_lowB a0) = true) := Lib.hid (by
       have h9 : j < l1.length := by have := HL.out; omega
       rw [List.take_add_one, List.all_append, HALL.out, List.getElem?_eq_getElem h9]
       have e : rd l1 (j : Int) = l1[j] := by simp [rd, List.getD_eq_getElem?_getD, h9]
       rw [e] at hv
       simp [hv])
      clear hlt hv hlow
      go_wp2_with fail
      refine (spec_l6In.calls _ _ _ _ _ HLOW.out).mono ?_
      rintro e w2 ⟨rfl, ⟨q, rfl⟩⟩
      go_wp2_with fail
      have hw1 : wrap64 ((j : Int) + 1) = ((j + 1 : Nat) : Int) := by have := HLT.out; unfold wrap64; omega
      go_roundw
      case measure => (try rw [hw1]); simp only [intOf]; have := HLT.out; omega
      case rel => exact ⟨j + 1, by have := HLT.out; omega, by first | rw [hw1] | go_num, HALL2.out, pw_below_drewN HB.out q⟩
    ·have hje : j = 4 := by have := HJ.out; omega
     subst hje
     have hd1 : decide (((4 : Nat) : Int) < 4) = false := rfl
     have h2 : ((spec_l4Row.f k a0 l1).bind fun row => (spec_l4Zero.f k l1).bind fun z => if row.length = 4 then some (!z && (row == l1)) else none) = some r := by
      have h := H.out
      rw [if_pos trivial, if_pos HL.out, if_pos (by have h := HALL.out; rwa [List.take_of_length_le (by have := HL.out; omega)] at h)] at h
      exact h
     obtain ⟨row, hrow, h3⟩ := Option.bind_eq_some_iff.1 h2
     obtain ⟨z, hz, h4⟩ := Option.bind_eq_some_iff.1 h3
     have hrl : row.length = 4 := by
      by_cases e : row.length = 4
      ·exact e
      ·rw [if_neg e] at h4; simp at h4
     rw [if_pos hrl] at h4
     have HROW := Lib.hid hrow
     have HZ := Lib.hid hz
     have HRES := Lib.hid (Option.some.inj h4)
     have HRL := Lib.hid hrl
     have hcall := spec_l4Row.calls k a0 A1 c1 l1 row wr (Kd.C_below HR1.out HB.out) HC1.out hrow
     rw [HL.out] at hcall
     have HCALL := Lib.hid hcall
     clear hlt HALL h2 h3 h4 hrow hz hrl H hcall
     go_wp2_with fail
     refine HCALL.out.mono ?_
     rintro e w2 ⟨v, rfl, hR, hb⟩
     obtain ⟨A2, c2, rfl⟩ := Kd.R_slice hR
     have HB2 : Hid (Below w.heap.size w w2) := Lib.hid (HB.out.trans (hb.mono HB.out.size))
     have HC2 := Lib.hid (Kd.R_reads' hR).2.2
     clear hR hb HCALL
     rw [HRL.out]
     obtain ⟨ad, e, hx0⟩ := Kd.at_int (Kd.C_below HR1.out HB2.out) 0 (by omega) (by have := HL.out; omega)
     subst e
     obtain ⟨_, e, hx1⟩ := Kd.at_int (Kd.C_below HR1.out HB2.out) 1 (by omega) (by have := HL.out; omega)
     cases e
     obtain ⟨_, e, hx2⟩ := Kd.at_int (Kd.C_below HR1.out HB2.out) 2 (by omega) (by have := HL.out; omega)
     cases e
     obtain ⟨_, e, hx3⟩ := Kd.at_int (Kd.C_below HR1.out HB2.out) 3 (by omega) (by have := HL.out; omega)
     cases e
     obtain ⟨ad2, e, hy0⟩ := Kd.at_int HC2.out 0 (by omega) (by have := HRL.out; omega)
     subst e
     obtain ⟨_, e, hy1⟩ := Kd.at_int HC2.out 1 (by omega) (by have := HRL.out; omega)
     cases e
     obtain ⟨_, e, hy2⟩ := Kd.at_int HC2.out 2 (by omega) (by have := HRL.out; omega)
     cases e
     obtain ⟨_, e, hy3⟩ := Kd.at_int HC2.out 3 (by omega) (by have := HRL.out; omega)
     cases e
     rw [show ((0 : Int)).toNat = 0 from rfl, Addr.add_zero'] at hx0 hy0
     simp only [show (1 : Int).toNat = 1 from rfl, show (2 : Int).toNat = 2 from rfl, show (3 : Int).toNat = 3 from rfl, Nat.reduceMul, Nat.reduceEqDiff, Go.Addr.add, ↓reduceIte] at hx1 hx2 hx3 hy1 hy2 hy3
     have hq : ∀ nq : Nat, Calls Try.prog 79 #[.slice (some ad) 4 c1] (w2.drewN nq) fun e w' => e = .returned (.bool z) ∧ ∃ n, w' = (w2.drewN nq).drewN n := fun nq => by
      have h := quiet_ (spec_l4Zero.calls k (some ad) c1 l1 z (w2.drewN nq) (Kd.C_drewN (Kd.C_below HR1.out HB2.out) nq) HC1.out HZ.out)
      rwa [HL.out] at h
     have hrow4 : row = [rd row 0, rd row 1, rd row 2, rd row 3] := by
      match row, HRL.out with
      | [_, _, _, _], _ => rfl
     have hl4 : l1 = [rd l1 0, rd l1 1, rd l1 2, rd l1 3] := by
      match l1, HL.out with
      | [_, _, _, _], _ => rfl
     have HEQ : Hid ((row == l1) = ((rd row 0 == rd l1 0) && (rd row 1 == rd l1 1) && (rd row 2 == rd l1 2) && (rd row 3 == rd l1 3))) := Lib.hid (by
      conv => lhs; rw [hrow4, hl4]
      rw [Bool.eq_iff_iff]
      simp [and_assoc])
     clear hrow4 hl4
     generalize rd row 0 = b0 at *
     generalize rd row 1 = b1 at *
     generalize rd row 2 = b2 at *
     generalize rd row 3 = b3 at *
     generalize rd l1 0 = a0' at *
     generalize rd l1 1 = a1' at *
     generalize rd l1 2 = a2' at *
     generalize rd l1 3 = a3' at *
     have HRES2 : Hid ((!z && (((b0 == a0') && (b1 == a1') && (b2 == a2') && (b3 == a3')))) = r) := Lib.hid (by rw [← HEQ.out]; exact HRES.out)
     clear HEQ HRES HROW HZ
     cases z with
     | true =>
      obtain rfl : r = false := by have h := HRES2.out; simpa using h.symm
      go_wp2_with fail
      go_quiet ((go_at_call 79; exact Calls.quiet_of (hq _)))
      go_wp2; go_ret
      exact ⟨rfl, pw_below_drewN HB2.out nq⟩
     | false =>
      cases e0 : (b0 == a0') with
      | false =>
       obtain rfl : r = false := by have h := HRES2.out; rw [e0] at h; simpa using h.symm
       go_wp2_with fail
       go_quiet ((go_at_call 79; exact Calls.quiet_of (hq _)))
       go_wp2; go_ret
       exact ⟨rfl, pw_below_drewN HB2.out nq⟩
      | true =>
       cases e1 : (b1 == a1') with
       | false =>
        obtain rfl : r = false := by have h := HRES2.out; rw [e1] at h; simpa using h.symm
        go_wp2_with fail
        go_quiet ((go_at_call 79; exact Calls.quiet_of (hq _)))
        go_wp2; go_ret
        exact ⟨rfl, pw_below_drewN HB2.out nq⟩
       | true =>
        cases e2 : (b2 == a2') with
        | false =>
         obtain rfl : r = false := by have h := HRES2.out; rw [e2] at h; simpa using h.symm
         go_wp2_with fail
         go_quiet ((go_at_call 79; exact Calls.quiet_of (hq _)))
         go_wp2; go_ret
         exact ⟨rfl, pw_below_drewN HB2.out nq⟩
        | true =>
         have hr : (b3 == a3') = r := by have h := HRES2.out; rw [e0, e1, e2] at h; simpa using h
         have HR := Lib.hid hr
         clear hr
         go_wp2_with fail
         go_quiet ((go_at_call 79; exact Calls.quiet_of (hq _)))
         go_wp2; go_ret
         exact ⟨by rw [← HR.out]; first | rfl | simp, pw_below_drewN HB2.out nq⟩
  ·obtain rfl : r = false := by have h := H.out; rw [if_neg hl] at h; simp at h; exact h
   have h8 : ((l1.length : Int) != 4) = true := bne_iff_ne.mpr (by omega)
   have h9 : ((l1.length : Int) == 4) = false := beq_eq_false_iff_ne.mpr (by omega)
   clear hl
   go_enter Try.func84, Try.ntmps84
   go_wp2_with fail
   refine (spec_PrimeIn.calls a0 true _ HPR.out).mono ?_
   rintro e w1 ⟨rfl, ⟨q, rfl⟩⟩
   go_wp2; go_ret
   exact ⟨rfl, pw_below_drewN (Below.refl _ _) q⟩/-! ### spec_SurfaceHas: function 36 -/
def spec_SurfaceHas.f (k : Nat) (a0 : Int) (l1 : List (S43)) (l2 : List Int) : Option (Bool) := (spec_PointGeneral.f k a0 l1).bind fun t476 => (if t476 = true then ((spec_PlaceIn.f k a0 l2).bind fun t477 => (if t477 = true then ((spec_l6sOf.f k a0 l1).bind fun t478 => ((spec_l6sValue.f k a0 t478 l2).bind fun t481 => (some (t481 == 0)))) else (some false))) else (some false))
theorem spec_SurfaceHas.mono : ∀ a0 a1 a2 k, LeO (spec_SurfaceHas.f k a0 a1 a2) (spec_SurfaceHas.f (k + 1) a0 a1 a2) := by
 intro a0 a1 a2 k
 unfold spec_SurfaceHas.f
 repeat' first | (with_reducible first | apply spec_PlaceIn.mono | apply spec_PointGeneral.mono | apply spec_l6sOf.mono | apply spec_l6sValue.mono | exact LeO.refl _ | exact LeO.none _ | refine LeO.ite ?_ ?_ | refine LeO.bind ?_ (fun _ => ?_)) | (first | apply spec_PlaceIn.mono | apply spec_PointGeneral.mono | apply spec_l6sOf.mono | apply spec_l6sValue.mono | exact LeO.none _ | refine LeO.ite ?_ ?_ | refine LeO.bind ?_ (fun _ => ?_))
set_option maxHeartbeats 8000000 in
set_option maxRecDepth 100000 in
theorem spec_SurfaceHas.calls (k : Nat) (a0 : Int) (A1 : Option Addr) (c1 : Nat) (l1 : List (S43)) (A2 : Option Addr) (c2 : Nat) (l2 : List Int) (r : Bool) (w : World) (hr1 : Kd.C k43 w A1 l1.length l1) (hc1 : l1.length ≤ c1) (hr2 : Kd.C (Kd.int .i64) w A2 l2.length l2) (hc2 : l2.length ≤ c2) (h : spec_SurfaceHas.f k a0 l1 l2 = some r) :
  Calls Try.prog 36 #[.int .i64 a0, .slice A1 l1.length c1, .slice A2 l2.length c2] w fun e w' => e = .returned (.bool r) ∧ Below w.heap.size w w' := by
 have HR1 := am hr1
 have HC1 := am hc1
 clear hr1 hc1
 have HR2 := am hr2
 have HC2 := am hc2
 clear hr2 hc2
 have HB := am (Below.refl w.heap.size w)
 have H : ((spec_PointGeneral.f k a0 l1).bind fun t476 => (if t476 = true then ((spec_PlaceIn.f k a0 l2).bind fun t477 => (if t477 = true then ((spec_l6sOf.f k a0 l1).bind fun t478 => ((spec_l6sValue.f k a0 t478 l2).bind fun t481 => (some (t481 == 0)))) else (some false))) else (some false))) = some r := h
 clear h; replace H := bs H; obtain ⟨t476, A4, H⟩ := H
 by_cases c5 : t476 = true
 ·subst c5
  rw [if_pos rfl] at H
  replace H := bs H; obtain ⟨t477, A6, H⟩ := H
  by_cases c7 : t477 = true
  ·subst c7
   rw [if_pos rfl] at H
   replace H := bs H; obtain ⟨t478, A8, H⟩ := H; replace H := bs H; obtain ⟨t481, A9, H⟩ := H; obtain rfl := Option.some.inj H
   go_enter Try.func36, Try.ntmps36
   go_wp2_with (first | ((with_reducible refine gate_callee (f := 62) rfl ?_); refine gl 9 Try.func62 #[.int .i64 a0, .slice A1 l1.length c1] ?_; (with_reducible refine (spec_PointGeneral.calls k a0 _ _ l1 true _ ?_ ?_ A4.out).mono ?_); exact wC HR1; exact HC1.out; rintro e w10 ⟨rfl, hb⟩; refine ⟨_, rfl, ?_⟩; replace HB := bq HB hb; (try clear hb)) | (go_at_call 84; (with_reducible refine (spec_PlaceIn.calls k a0 _ _ l2 true _ ?_ ?_ A6.out).mono ?_); exact Kd.C_below HR2.out (bw HB); exact HC2.out; rintro e w11 ⟨rfl, hb⟩; replace HB := bq HB hb; (try clear hb)) | (go_at_call 63; (with_reducible refine (spec_l6sOf.calls k a0 _ _ l1 t478 _ ?_ ?_ A8.out).mono ?_); exact Kd.C_below HR1.out (bw HB); exact HC1.out; rintro e w12 ⟨v479, rfl, ho0, hb⟩; have HO480 := am (Kd.V_lower (Kd.V_mono (ok' := fun k_ => True) ho0 (fun k_ hk_ => trivial)) (bz HB)); replace HB := bq HB hb; (try clear hb); (try clear ho0); obtain ⟨Ao13, co13, eo13⟩ := Kd.V_slice HO480.out; subst eo13) | (go_at_call 57; (with_reducible refine (spec_l6sValue.calls k a0 _ _ t478 _ _ l2 t481 _ ?_ ?_ ?_ ?_ A9.out).mono ?_); exact Kd.C_below (Kd.V_reads' HO480.out).2.2 gs; exact (Kd.V_reads' HO480.out).2.1; exact Kd.C_below HR2.out (bw HB); exact HC2.out; rintro e w' ⟨rfl, ⟨nd, rfl⟩⟩))
   go_ret
   exact ⟨fq, bw HB⟩
  ·replace c7 := Bool.eq_false_iff.mpr c7
   subst c7
   rw [if_neg (show ¬ (false = true) by decide)] at H
   obtain rfl := Option.some.inj H
   go_enter Try.func36, Try.ntmps36
   go_wp2_with (first | ((with_reducible refine gate_callee (f := 62) rfl ?_); refine gl 9 Try.func62 #[.int .i64 a0, .slice A1 l1.length c1] ?_; (with_reducible refine (spec_PointGeneral.calls k a0 _ _ l1 true _ ?_ ?_ A4.out).mono ?_); exact wC HR1; exact HC1.out; rintro e w14 ⟨rfl, hb⟩; refine ⟨_, rfl, ?_⟩; replace HB := bq HB hb; (try clear hb)) | (go_at_call 84; (with_reducible refine (spec_PlaceIn.calls k a0 _ _ l2 false _ ?_ ?_ A6.out).mono ?_); exact Kd.C_below HR2.out (bw HB); exact HC2.out; rintro e w15 ⟨rfl, hb⟩; replace HB := bq HB hb; (try clear hb)))
   go_ret
   exact ⟨fq, bw HB⟩
 ·replace c5 := Bool.eq_false_iff.mpr c5
  subst c5
  rw [if_neg (show ¬ (false = true) by decide)] at H
  obtain rfl := Option.some.inj H
  go_enter Try.func36, Try.ntmps36
  go_wp2_with (first | ((with_reducible refine gate_callee (f := 62) rfl ?_); refine gl 9 Try.func62 #[.int .i64 a0, .slice A1 l1.length c1] ?_; (with_reducible refine (spec_PointGeneral.calls k a0 _ _ l1 false _ ?_ ?_ A4.out).mono ?_); exact wC HR1; exact HC1.out; rintro e w16 ⟨rfl, hb⟩; refine ⟨_, rfl, ?_⟩; replace HB := bq HB hb; (try clear hb)))
  go_ret
  exact ⟨fq, bw HB⟩/-! ### laws_toIntS: function 37 -/
def laws_toIntS.l0 : Nat → List Int → List Int → Int → Option (List Int)
 | 0, _, _, _ => none
 | k + 1, x0, x3, x4 => if x4 < (x0.length : Int) then (if 0 ≤ x4 then (if x4 < (x3.length : Int) then (laws_toIntS.l0 k x0 (x3.set (x4 : Int).toNat (rd x0 x4)) (wrap64 (x4 + 1))) else (none)) else (none)) else (some x3)
def laws_toIntS.f (k : Nat) (l0 : List Int) : Option (List Int) := if 0 ≤ (l0.length : Int) then (if ((l0.length : Int) : Int).toNat ≤ 35184372088832 then (laws_toIntS.l0 k l0 (List.replicate ((l0.length : Int) : Int).toNat 0) 0) else (none)) else (none)
theorem laws_toIntS.mono_l : ∀ k, (∀ y0 y1 y2, LeO (laws_toIntS.l0 k y0 y1 y2) (laws_toIntS.l0 (k + 1) y0 y1 y2))
 | 0 => fun _ _ _ r h => by simp [laws_toIntS.l0] at h
 | k + 1 => by
  have ih0 := laws_toIntS.mono_l k
  ·intro y0 y1 y2
   unfold laws_toIntS.l0
   repeat' first | (with_reducible first | apply ih0 | exact LeO.refl _ | exact LeO.none _ | refine LeO.ite ?_ ?_ | refine LeO.bind ?_ (fun _ => ?_)) | (first | apply ih0 | exact LeO.none _ | refine LeO.ite ?_ ?_ | refine LeO.bind ?_ (fun _ => ?_))
theorem laws_toIntS.mono : ∀ a0 k, LeO (laws_toIntS.f k a0) (laws_toIntS.f (k + 1) a0) := by
 intro a0 k
 have ih0 := laws_toIntS.mono_l k
 unfold laws_toIntS.f
 repeat' first | (with_reducible first | apply ih0 | exact LeO.refl _ | exact LeO.none _ | refine LeO.ite ?_ ?_ | refine LeO.bind ?_ (fun _ => ?_)) | (first | apply ih0 | exact LeO.none _ | refine LeO.ite ?_ ?_ | refine LeO.bind ?_ (fun _ => ?_))
set_option maxHeartbeats 8000000 in
set_option maxRecDepth 100000 in
theorem laws_toIntS.calls (k : Nat) (A0 : Option Addr) (c0 : Nat) (l0 : List Int) (r : List Int) (w : World) (hr0 : Kd.C (Kd.int .i64) w A0 l0.length l0) (hc0 : l0.length ≤ c0) (h : laws_toIntS.f k l0 = some r) :
  Calls Try.prog 37 #[.slice A0 l0.length c0] w fun e w' => ∃ v0_ : Value, e = .returned (v0_) ∧ Kd.R (Kd.int .i64) 3 w' w.heap.size (fun _ => True) v0_ r ∧ Below w.heap.size w w' := by
 have HR0 := am hr0
 have HC0 := am hc0
 clear hr0 hc0
 have HB := am (Below.refl w.heap.size w)
 have H : (if 0 ≤ (l0.length : Int) then (if ((l0.length : Int) : Int).toNat ≤ 35184372088832 then (laws_toIntS.l0 k l0 (List.replicate ((l0.length : Int) : Int).toNat 0) 0) else (none)) else (none)) = some r := h
 clear h
 by_cases c2 : 0 ≤ (l0.length : Int)
 ·rw [if_pos c2] at H
  have c2b0 := eq_true c2; have c2b1 := decide_eq_true c2; clear c2; replace H := ifn H; obtain ⟨c3, H⟩ := H; have c3b0 := eq_true c3; have c3b1 := decide_eq_true c3; clear c3
  generalize hy482 : (List.replicate ((l0.length : Int) : Int).toNat 0 : List Int) = y482 at H
  have Ny482 := am hy482.symm; clear hy482; have H' := am H; clear H
  go_enter Try.func37, Try.ntmps37
  go_wp2_with (first | ((with_reducible refine gate_dst (N := 7) rfl ?_); refine Kd.R_make (Kd.int .i64) _ 3 rfl (N := 7) rfl 23 _ _ rfl (l0.length : Int) rfl rfl Try.underlying23 (.int .i64 0) 8 info3 rfl (by decide) (by omega) 0 (ok := fun _ => True) (okp := fun _ => True) rfl (fun _ hk => hk) trivial (od) (Nat.le_trans (Nat.mul_le_mul_right _ (od : (l0.length : Int).toNat ≤ 35184372088832)) (by omega)) (Below.refl _ _) (Nat.le_refl _) ?_; intro v483 w4 ho5 hb hg_ hnew_; clear hg_ hnew_; (first | rw [← Ny482.out] at ho5 | (simp only [Int.reduceToNat] at ho5; rw [← Ny482.out] at ho5)); have HO484 := am (Kd.R_lower ho5 (bz HB)); replace HB := bq HB hb; clear hb ho5))
  go_loopg [4] k (fun kq v4 w' => ∃ (x3_1 : List Int) (x4_1 : Int), v4 = .int .i64 x4_1 ∧ Aside0 (laws_toIntS.l0 kq l0 x3_1 x4_1 = some r) ∧ Aside0 (kq ≤ k) ∧ Aside0 (Kd.R (Kd.int .i64) 3 w' w.heap.size (fun _ => True) v483 x3_1) ∧ Aside0 (Below w.heap.size w w'))
  case atStart => exact ⟨(y482), (0), fr, H', ⟨Nat.le_refl _⟩, ⟨wR HO484⟩, ⟨bw HB⟩⟩
  case round =>
   clear H'; try clear c2; try clear c2b0; try clear c2b1; try clear p2; try clear c3; try clear c3b0; try clear c3b1
   obtain ⟨x3_1, x4_1, rfl, HA, HK1, HO_3, HB⟩ := hrel
   cases gk with
   | zero => exact absurd HA.out (by simp [laws_toIntS.l0])
   | succ k1 =>
    have H := HA.out; clear HA
    simp only [laws_toIntS.l0] at H
    by_cases c6 : x4_1 < (l0.length : Int)
    ·rw [if_pos c6] at H
     have c6b0 := decide_eq_true c6; clear c6; replace H := ifn H; obtain ⟨c7, H⟩ := H; have c7b0 := decide_eq_true c7; clear c7; replace H := ifn H; obtain ⟨c8, H⟩ := H; have c8b0 := decide_eq_true c8; clear c8
     generalize hy486 : (x3_1.set (x4_1 : Int).toNat (rd l0 x4_1) : List Int) = y486 at H
     have Ny486 := am hy486.symm; clear hy486; have H' := am H; clear H
     have p485 : 0 ≤ (x4_1 : Int) := od
     have q485 : x4_1 < (l0.length : Int) := od
     obtain ⟨ad485, e485, hx485_0⟩ := Kd.at_int HR0.out x4_1 p485 q485
     cases e485
     replace hx485_0 := wcl HB hx485_0
     replace p485 := eq_true p485; replace q485 := eq_true q485
     have p9 : 0 ≤ (x4_1 : Int) := od
     have q9 : (x4_1 : Int) < ((x3_1.length : Int) : Int) := od
     obtain ⟨go9, co9, eo9, gb9, gl9, cl9, HG9⟩ := Kd.R_form HO_3.out (by omega)
     (first | cases eo9 | (injection eo9 with ea_ en_ ec_; (first | subst ea_ | (injection ea_ with ea_; subst ea_)); subst ec_; clear en_))
     have GB9 := am gb9
     have GG9 := am HG9
     clear gb9 gl9 HG9
     obtain ⟨hx9_0, hf9_0⟩ := Kd.R_celln 0 HO_3.out (x4_1 : Int) p9 q9
     replace p9 := eq_true p9; replace q9 := eq_true q9
     have HP10 := Kd.R_putg HO_3.out (x4_1 : Int) (rd l0 x4_1)
     go_wp2_with (first | ((with_reducible refine gate_store (t := 3) (p := 20) rfl ?_); refine store_event (t := 3) (p := 20) (v := ?vo_w11) (w1 := (wr.setCell ⟨go9, (x4_1 : Int).toNat, none⟩ (.int .i64 (rd l0 x4_1)))) ?hg ?ho ?hn ?hr ?_; (case ho => rfl); (case hg => rfl); (case hn => rfl); (case hr => first | (go_simp; done) | (go_simp; rfl)); intro w11 hw; have hg : wr.grownBy w11 (some go9) := (by rw [hw]; exact HP10.2); have hp_ : Kd.R (Kd.int .i64) 3 w11 w.heap.size (fun _ => True) (.slice (some ⟨go9, 0, none⟩) x3_1.length co9) y486 := (by rw [hw, Ny486.out]; exact HP10.1); clear HP10; replace HO_3 := am (hp_); replace HB := am ((by rw [hw]; exact below_set (HB.out) GB9.out : Below w.heap.size w w11)); clear hg hw hp_))
     go_roundg k1
     case measure => have := HK1.out; omega
     case rel => exact ⟨(y486), (wrap64 (x4_1 + 1)), fr, H', ⟨by have := HK1.out; omega⟩, ⟨wR HO_3⟩, ⟨bw HB⟩⟩
    ·rw [if_neg c6] at H
     have c6b0 := decide_eq_false c6; clear c6; obtain rfl := Option.some.inj H; go_wp2; go_ret
     exact ⟨_, fq, wR HO_3, bw HB⟩
 ·rw [if_neg c2] at H
  exact absurd H (by simp)/-! ### laws_FnExactSurfaceHas: function 7 -/
def laws_FnExactSurfaceHas.f (k : Nat) (a0 : Int) (l1 : List (S76)) (l2 : List Int) : Option (Bool) := if (l2.length : Int) > 1048576 then (some true) else ((laws_szPointS.f l1 1048576).bind fun t487 => (if t487 < 0 then (some true) else ((laws_toPointS.f k l1).bind fun t488 => ((laws_toIntS.f k l2).bind fun t491 => ((spec_SurfaceHas.f k a0 t488 t491).bind fun t494 => ((laws_toPointS.f k l1).bind fun t495 => ((laws_toIntS.f k l2).bind fun t498 => ((impl_SurfaceHas.f k a0 t495 t498).bind fun t501 => (if (t501 != t494) = true then (some false) else ((laws_toPointS.f k l1).bind fun t502 => ((laws_eqPointS.f k t495 t502).bind fun t505 => (if t505 = true then ((laws_toIntS.f k l2).bind fun t506 => ((laws_eqIntS.f k t498 t506).bind fun t509 => (if t509 = true then (some true) else (some false)))) else (some false)))))))))))))
theorem laws_FnExactSurfaceHas.mono : ∀ a0 a1 a2 k, LeO (laws_FnExactSurfaceHas.f k a0 a1 a2) (laws_FnExactSurfaceHas.f (k + 1) a0 a1 a2) := by
 intro a0 a1 a2 k
 unfold laws_FnExactSurfaceHas.f
 repeat' first | (with_reducible first | apply impl_SurfaceHas.mono | apply laws_eqIntS.mono | apply laws_eqPointS.mono | apply laws_toIntS.mono | apply laws_toPointS.mono | apply spec_SurfaceHas.mono | exact LeO.refl _ | exact LeO.none _ | refine LeO.ite ?_ ?_ | refine LeO.bind ?_ (fun _ => ?_)) | (first | apply impl_SurfaceHas.mono | apply laws_eqIntS.mono | apply laws_eqPointS.mono | apply laws_toIntS.mono | apply laws_toPointS.mono | apply spec_SurfaceHas.mono | exact LeO.none _ | refine LeO.ite ?_ ?_ | refine LeO.bind ?_ (fun _ => ?_))
set_option maxHeartbeats 8000000 in
set_option maxRecDepth 100000 in
theorem laws_FnExactSurfaceHas.calls (k : Nat) (a0 : Int) (A1 : Option Addr) (c1 : Nat) (l1 : List (S76)) (A2 : Option Addr) (c2 : Nat) (l2 : List Int) (r : Bool) (w : World) (hr1 : Kd.C k76 w A1 l1.length l1) (hc1 : l1.length ≤ c1) (hr2 : Kd.C (Kd.int .i64) w A2 l2.length l2) (hc2 : l2.length ≤ c2) (hT : r = true) (h : laws_FnExactSurfaceHas.f k a0 l1 l2 = some r) :
  Calls Try.prog 7 #[.int .i64 a0, .slice A1 l1.length c1, .slice A2 l2.length c2] w fun e w' => e = .returned (.bool r) ∧ Below w.heap.size w w' := by
 have HT := am hT
 clear hT
 have HR1 := am hr1
 have HC1 := am hc1
 clear hr1 hc1
 have HR2 := am hr2
 have HC2 := am hc2
 clear hr2 hc2
 have HB := am (Below.refl w.heap.size w)
 have H : (if (l2.length : Int) > 1048576 then (some true) else ((laws_szPointS.f l1 1048576).bind fun t487 => (if t487 < 0 then (some true) else ((laws_toPointS.f k l1).bind fun t488 => ((laws_toIntS.f k l2).bind fun t491 => ((spec_SurfaceHas.f k a0 t488 t491).bind fun t494 => ((laws_toPointS.f k l1).bind fun t495 => ((laws_toIntS.f k l2).bind fun t498 => ((impl_SurfaceHas.f k a0 t495 t498).bind fun t501 => (if (t501 != t494) = true then (some false) else ((laws_toPointS.f k l1).bind fun t502 => ((laws_eqPointS.f k t495 t502).bind fun t505 => (if t505 = true then ((laws_toIntS.f k l2).bind fun t506 => ((laws_eqIntS.f k t498 t506).bind fun t509 => (if t509 = true then (some true) else (some false)))) else (some false)))))))))))))) = some r := h
 clear h
 by_cases c4 : (l2.length : Int) > 1048576
 ·rw [if_pos c4] at H
  have c4b0 := decide_eq_true c4
  have c4b1 : decide (1048576 < l2.length) = true := decide_eq_true (by omega)
  clear c4; obtain rfl := Option.some.inj H
  go_enter Try.func7, Try.ntmps7
  go_wp2; go_ret
  exact ⟨fq, bw HB⟩
 ·rw [if_neg c4] at H
  have c4b0 := decide_eq_false c4
  have c4b1 : decide (1048576 < l2.length) = false := decide_eq_false (by omega)
  clear c4; replace H := bs H; obtain ⟨t487, A5, H⟩ := H
  by_cases c6 : t487 < 0
  ·rw [if_pos c6] at H
   have c6b0 := decide_eq_true c6; clear c6; obtain rfl := Option.some.inj H
   go_enter Try.func7, Try.ntmps7
   go_wp2_with (first | ((with_reducible refine gate_callee (f := 19) rfl ?_); refine gl 17 Try.func19 #[.slice A1 l1.length c1, .int .i64 1048576] ?_; (with_reducible refine (laws_szPointS.calls _ _ l1 1048576 t487 _ ?_ ?_ A5.out).mono ?_); exact wC HR1; exact HC1.out; rintro e w' ⟨rfl, ⟨nd, rfl⟩⟩; refine ⟨_, rfl, ?_⟩))
   go_ret
   exact ⟨fq, bw HB⟩
  ·rw [if_neg c6] at H
   have c6b0 := decide_eq_false c6; clear c6; replace H := bs H; obtain ⟨t488, A7, H⟩ := H; replace H := bs H; obtain ⟨t491, A8, H⟩ := H; replace H := bs H; obtain ⟨t494, A9, H⟩ := H; replace H := bs H; obtain ⟨t495, A10, H⟩ := H; replace H := bs H
   obtain ⟨t498, A11, H⟩ := H; replace H := bs H; obtain ⟨t501, A12, H⟩ := H
   by_cases c13 : (t501 != t494) = true
   ·rw [if_pos c13] at H
    have c13b0 : (t501 != t494) = true := c13
    (try (have c13b1 : decide (t501 = t494) = false := by simpa using c13))
    (try (have c13b2 : (t501 == t494) = false := by simpa using c13))
    (try (have c13b3 : ¬ (t501 = t494) := by simpa using c13))
    clear c13
    exact absurd (H.trans (congrArg some HT.out)) (by simp)
   ·rw [if_neg c13] at H
    have c13b0 : (t501 != t494) = false := by simpa using c13
    (try (have c13b1 : decide (t501 = t494) = true := by simpa using c13))
    (try (have c13b2 : (t501 == t494) = true := by simpa using c13))
    clear c13; replace H := bs H; obtain ⟨t502, A14, H⟩ := H; replace H := bs H; obtain ⟨t505, A15, H⟩ := H
    by_cases c16 : t505 = true
    ·subst c16
     rw [if_pos rfl] at H
     replace H := bs H; obtain ⟨t506, A17, H⟩ := H; replace H := bs H; obtain ⟨t509, A18, H⟩ := H
     by_cases c19 : t509 = true
     ·subst c19
      rw [if_pos rfl] at H
      obtain rfl := Option.some.inj H
      go_enter Try.func7, Try.ntmps7
      go_wp2_with (first | ((with_reducible refine gate_callee (f := 19) rfl ?_); refine gl 17 Try.func19 #[.slice A1 l1.length c1, .int .i64 1048576] ?_; (with_reducible refine (laws_szPointS.calls _ _ l1 1048576 t487 _ ?_ ?_ A5.out).mono ?_); exact wC HR1; exact HC1.out; rintro e w' ⟨rfl, ⟨nd, rfl⟩⟩; refine ⟨_, rfl, ?_⟩) | ((with_reducible refine gate_callee (f := 21) rfl ?_); refine gl 22 Try.func21 #[.slice A1 l1.length c1] ?_; (with_reducible refine (laws_toPointS.calls k _ _ l1 t488 _ ?_ ?_ A7.out).mono ?_); exact wC HR1; exact HC1.out; rintro e w20 ⟨v489, rfl, ho0, hb⟩; refine ⟨_, rfl, ?_⟩; have HO490 := am (Kd.R_lower ho0 (bz HB)); replace HB := bq HB hb; (try clear hb); (try clear ho0)) | ((with_reducible refine gate_callee (f := 37) rfl ?_); refine gl 24 Try.func37 #[.slice A2 l2.length c2] ?_; (with_reducible refine (laws_toIntS.calls k _ _ l2 t491 _ ?_ ?_ A8.out).mono ?_); exact Kd.C_below HR2.out (bw HB); exact HC2.out; rintro e w21 ⟨v492, rfl, ho0, hb⟩; refine ⟨_, rfl, ?_⟩; replace HO490 := am (Kd.R_below (wR HO490) hb); have HO493 := am (Kd.R_lower ho0 (bz HB)); replace HB := bq HB hb; (try clear hb); (try clear ho0); obtain ⟨Ao22, co22, eo22⟩ := Kd.R_slice HO490.out; subst eo22; obtain ⟨Ao23, co23, eo23⟩ := Kd.R_slice HO493.out; subst eo23) | ((with_reducible refine gate_callee (f := 36) rfl ?_); refine gl 25 Try.func36 #[.int .i64 a0, .slice Ao22 t488.length co22, .slice Ao23 t491.length co23] ?_; (with_reducible refine (spec_SurfaceHas.calls k a0 _ _ t488 _ _ t491 t494 _ ?_ ?_ ?_ ?_ A9.out).mono ?_); exact Kd.C_below (Kd.R_reads' HO490.out).2.2 gs; exact (Kd.R_reads' HO490.out).2.1; exact Kd.C_below (Kd.R_reads' HO493.out).2.2 gs; exact (Kd.R_reads' HO493.out).2.1; rintro e w24 ⟨rfl, hb⟩; refine ⟨_, rfl, ?_⟩; replace HO490 := am (Kd.R_below (wR HO490) hb); replace HO493 := am (Kd.R_below (wR HO493) hb); replace HB := bq HB hb; (try clear hb)) | ((with_reducible refine gate_callee (f := 21) rfl ?_); refine gl 27 Try.func21 #[.slice A1 l1.length c1] ?_; (with_reducible refine (laws_toPointS.calls k _ _ l1 t495 _ ?_ ?_ A10.out).mono ?_); exact Kd.C_below HR1.out (bw HB); exact HC1.out; rintro e w25 ⟨v496, rfl, ho0, hb⟩; refine ⟨_, rfl, ?_⟩; replace HO493 := am (Kd.R_below (wR HO493) hb); have HO497 := am (Kd.R_lower (Kd.R_new' ho0 (Kd.R_lt (wR HO490))) (bz HB)); replace HO490 := eR HO490 (Kd.R_base ho0) hb; replace HB := bq HB hb; (try clear hb); (try clear ho0)) | ((with_reducible refine gate_callee (f := 37) rfl ?_); refine gl 29 Try.func37 #[.slice A2 l2.length c2] ?_; (with_reducible refine (laws_toIntS.calls k _ _ l2 t498 _ ?_ ?_ A11.out).mono ?_); exact Kd.C_below HR2.out (bw HB); exact HC2.out; rintro e w26 ⟨v499, rfl, ho0, hb⟩; refine ⟨_, rfl, ?_⟩; replace HO490 := am (Kd.R_below (wR HO490) hb); replace HO497 := am (Kd.R_below (wR HO497) hb); have HO500 := am (Kd.R_lower (Kd.R_new' ho0 (Kd.R_lt (wR HO493))) (bz HB)); replace HO493 := eR HO493 (Kd.R_base ho0) hb; replace HB := bq HB hb; (try clear hb); (try clear ho0); obtain ⟨Ao27, co27, eo27⟩ := Kd.R_slice HO497.out; subst eo27; obtain ⟨Ao28, co28, eo28⟩ := Kd.R_slice HO500.out; subst eo28) | ((with_reducible refine gate_callee (f := 35) rfl ?_); refine gl 33 Try.func35 #[.int .i64 a0, .slice Ao27 t495.length co27, .slice Ao28 t498.length co28] ?_; (with_reducible refine (impl_SurfaceHas.calls k a0 _ _ t495 _ _ t498 t501 _ ?_ ?_ ?_ ?_ A12.out).mono ?_); exact Kd.C_below (Kd.R_reads' HO497.out).2.2 gs; exact (Kd.R_reads' HO497.out).2.1; exact Kd.C_below (Kd.R_reads' HO500.out).2.2 gs; exact (Kd.R_reads' HO500.out).2.1; rintro e w29 ⟨rfl, hb⟩; refine ⟨_, rfl, ?_⟩; replace HO490 := am (Kd.R_below (wR HO490) hb); replace HO493 := am (Kd.R_below (wR HO493) hb); replace HO497 := am (Kd.R_below (wR HO497) hb); replace HO500 := am (Kd.R_below (wR HO500) hb); replace HB := bq HB hb; (try clear hb)) | ((with_reducible refine gate_callee (f := 21) rfl ?_); refine gl 39 Try.func21 #[.slice A1 l1.length c1] ?_; (with_reducible refine (laws_toPointS.calls k _ _ l1 t502 _ ?_ ?_ A14.out).mono ?_); exact Kd.C_below HR1.out (bw HB); exact HC1.out; rintro e w30 ⟨v503, rfl, ho0, hb⟩; refine ⟨_, rfl, ?_⟩; replace HO493 := am (Kd.R_below (wR HO493) hb); replace HO500 := am (Kd.R_below (wR HO500) hb); have HO504 := am (Kd.R_lower (Kd.R_new' (Kd.R_new' ho0 (Kd.R_lt (wR HO490))) (Kd.R_lt (wR HO497))) (bz HB)); replace HO490 := eR HO490 (Kd.R_base ho0) hb; replace HO497 := eR HO497 (Kd.R_base ho0) hb; replace HB := bq HB hb; (try clear hb); (try clear ho0); obtain ⟨Ao31, co31, eo31⟩ := Kd.R_slice HO504.out; subst eo31) | ((with_reducible refine gate_callee (f := 24) rfl ?_); refine gl 40 Try.func24 #[.slice Ao27 t495.length co27, .slice Ao31 t502.length co31] ?_; (with_reducible refine (laws_eqPointS.calls k _ _ t495 _ _ t502 true _ ?_ ?_ ?_ ?_ A15.out).mono ?_); exact Kd.C_below (Kd.R_reads' HO497.out).2.2 gs; exact (Kd.R_reads' HO497.out).2.1; exact Kd.C_below (Kd.R_reads' HO504.out).2.2 gs; exact (Kd.R_reads' HO504.out).2.1; rintro e w32 ⟨rfl, hb⟩; refine ⟨_, rfl, ?_⟩; replace HO490 := am (Kd.R_below (wR HO490) hb); replace HO493 := am (Kd.R_below (wR HO493) hb); replace HO497 := am (Kd.R_below (wR HO497) hb); replace HO500 := am (Kd.R_below (wR HO500) hb); replace HO504 := am (Kd.R_below (wR HO504) hb); replace HB := bq HB hb; (try clear hb)) | ((with_reducible refine gate_callee (f := 37) rfl ?_); refine gl 44 Try.func37 #[.slice A2 l2.length c2] ?_; (with_reducible refine (laws_toIntS.calls k _ _ l2 t506 _ ?_ ?_ A17.out).mono ?_); exact Kd.C_below HR2.out (bw HB); exact HC2.out; rintro e w33 ⟨v507, rfl, ho0, hb⟩; refine ⟨_, rfl, ?_⟩; replace HO490 := am (Kd.R_below (wR HO490) hb); replace HO497 := am (Kd.R_below (wR HO497) hb); replace HO504 := am (Kd.R_below (wR HO504) hb); have HO508 := am (Kd.R_lower (Kd.R_new' (Kd.R_new' ho0 (Kd.R_lt (wR HO493))) (Kd.R_lt (wR HO500))) (bz HB)); replace HO493 := eR HO493 (Kd.R_base ho0) hb; replace HO500 := eR HO500 (Kd.R_base ho0) hb; replace HB := bq HB hb; (try clear hb); (try clear ho0); obtain ⟨Ao34, co34, eo34⟩ := Kd.R_slice HO508.out; subst eo34) | ((with_reducible refine gate_callee (f := 23) rfl ?_); refine gl 45 Try.func23 #[.slice Ao28 t498.length co28, .slice Ao34 t506.length co34] ?_; (with_reducible refine (laws_eqIntS.calls k _ _ t498 _ _ t506 true _ ?_ ?_ ?_ ?_ A18.out).mono ?_); exact Kd.C_below (Kd.R_reads' HO500.out).2.2 gs; exact (Kd.R_reads' HO500.out).2.1; exact Kd.C_below (Kd.R_reads' HO508.out).2.2 gs; exact (Kd.R_reads' HO508.out).2.1; rintro e w' ⟨rfl, ⟨nd, rfl⟩⟩; refine ⟨_, rfl, ?_⟩))
      go_ret
      exact ⟨fq, bw HB⟩
     ·replace c19 := Bool.eq_false_iff.mpr c19
      subst c19
      rw [if_neg (show ¬ (false = true) by decide)] at H
      exact absurd (H.trans (congrArg some HT.out)) (by simp)
    ·replace c16 := Bool.eq_false_iff.mpr c16
     subst c16
     rw [if_neg (show ¬ (false = true) by decide)] at H
     exact absurd (H.trans (congrArg some HT.out)) (by simp)
end Go.Proofs.Ytmgbpmihbljngaa.PA

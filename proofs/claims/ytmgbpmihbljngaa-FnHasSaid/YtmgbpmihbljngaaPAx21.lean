-- Written by xprint.py, a program of this claim's own (over the kit's print.py)
import Derived.Test.YtmgbpmihbljngaaPAx9
import Derived.Test.YtmgbpmihbljngaaPAx20
namespace Go.Proofs.Ytmgbpmihbljngaa.PA
set_option maxHeartbeats 8000000
set_option maxRecDepth 100000
open Go.RowKit Go.Proofs.YtmgbpmihbljngaaW.PrintWords Go.Proofs.YtmgbpmihbljngaaW.PrintLast Go.Proofs.YtmgbpmihbljngaaW.PrintMore
attribute [local go_sem] j9 j8 Qf Qg js jr j6 j7
set_option linter.unusedVariables false
set_option linter.unusedSimpArgs false
def Ji (p x : Int) : Bool := decide (0 ≤ x) && decide (x ≤ wrap64 (p - 1))
theorem qho (p x : Int) : z5.f x 0 (wrap64 (p - 1)) = some (Ji p x) := by
 unfold z5.f Ji
 by_cases h : x ≥ 0
 ·have h' : 0 ≤ x := h
  simp [h, h']
 ·have h' : ¬ 0 ≤ x := h
  simp [h, h']
def Qd.f (k : Nat) (a0 : Int) (l1 : List Int) : Option Bool := (ju.f a0).bind fun t =>
 if t = true then (if l1.length = 4 then (if l1.all (Ji a0) = true then (qu.f k a0 l1).bind fun row => (q5.f k l1).bind fun z => if row.length = 4 then some (!z && (row == l1)) else none else some false) else some false) else some false
theorem Qd.mono : ∀ a0 a1 k, LeO (Qd.f k a0 a1) (Qd.f (k + 1) a0 a1) := by
 intro a0 a1 k
 unfold Qd.f
 refine LeO.bind (LeO.refl _) fun _ => LeO.ite (LeO.ite (LeO.ite (LeO.bind (qu.mono _ _ _) fun _ => LeO.bind (q5.mono _ _) fun _ => LeO.refl _) (LeO.refl _)) (LeO.refl _)) (LeO.refl _)
theorem quiet_ {P : Program} {f : FuncId} {args : Array Value} {w : World} {v : Value} (h : Calls P f args w fun e w' => e = .returned v ∧ Drawn0 w w') : Calls P f args w fun e w' => e = .returned v ∧ ∃ n, w' = w.drewN n :=
 h.mono fun e w' h => ⟨h.1, h.2.out⟩
theorem Qd.calls (k : Nat) (a0 : Int) (A1 : Option Addr) (c1 : Nat) (l1 : List Int) (r : Bool) (w : World) (hr1 : Kd.C (Kd.int .i64) w A1 l1.length l1) (hc1 : l1.length ≤ c1) (h : Qd.f k a0 l1 = some r) :
  Calls Try.prog 84 #[.int .i64 a0, .slice A1 l1.length c1] w fun e w' => e = .returned (.bool r) ∧ Below w.heap.size w w' := by
 obtain ⟨t, hprime, h'⟩ := Option.bind_eq_some_iff.1 h
 clear h
 have HPR := Lib.hid hprime
 have HR1 := Lib.hid hr1
 have HC1 := Lib.hid hc1
 have H := Lib.hid h'
 clear hprime hr1 hc1 h'
 cases t with
 | false =>
  obtain rfl : r = false := by have h := H.out; simp at h; exact h
  go_enter Try.func84, Try.ntmps84
  go_wp2_with fail
  refine (ju.calls a0 false _ HPR.out).mono ?_
  rintro e w1 ⟨rfl, ⟨q, rfl⟩⟩
  go_wp2; go_ret
  exact ⟨rfl, qo (Below.refl _ _) q⟩
 | true =>
  by_cases hl : l1.length = 4
  ·have HL := Lib.hid hl
   go_enter Try.func84, Try.ntmps84
   rw [hl]
   have h8 : ((4 : Int) != 4) = false := rfl
   clear hl
   go_wp2_with fail
   refine (ju.calls a0 true _ HPR.out).mono ?_
   rintro e w1 ⟨rfl, ⟨q, rfl⟩⟩
   go_wp2_with fail
   have hb0 : Below w.heap.size w (w.drewN q) := qo (Below.refl _ _) q
   generalize w.drewN q = w1 at hb0 ⊢
   go_loopw [5] (fun i w' => ∃ j : Nat, j ≤ 4 ∧ i = .int .i64 j ∧ (l1.take j).all (Ji a0) = true ∧ Below w.heap.size w w') (fun i _ => 4 - (intOf i).toNat)
   case atStart => exact ⟨0, by omega, rfl, by simp, hb0⟩
   case round =>
    clear hb0
    obtain ⟨j, hj, rfl, hall, hB⟩ := hrel
    have HB := Lib.hid hB
    have HALL := Lib.hid hall
    have HJ := Lib.hid hj
    clear hB hall hj
    by_cases hlt : j < 4
    ·obtain ⟨ad, e, hx⟩ := Kd.at_int (Kd.C_below HR1.out HB.out) (j : Int) (by omega) (by have := HL.out; omega)
     subst e
     simp only [Int.toNat_natCast] at hx
     have hd1 : decide ((j : Int) < 4) = true := decide_eq_true (by omega)
     have p1 : (0 ≤ (j : Int)) = True := eq_true (by omega)
     have q1 : ((j : Int) < 4) = True := eq_true (by omega)
     have hlow := qho a0 (rd l1 (j : Int))
     have HLT := Lib.hid hlt
     cases hv : Ji a0 (rd l1 (j : Int)) with
     | false =>
      rw [hv] at hlow
      have HLOW := Lib.hid hlow
      have hr : r = false := by
       have h := H.out
       have ha : l1.all (Ji a0) = false := by
        rw [List.all_eq_false]
        exact ⟨rd l1 (j : Int), by rw [rd, List.getD_eq_getElem?_getD, Int.toNat_natCast, List.getElem?_eq_getElem (by have := HL.out; omega)]; exact List.getElem_mem _, by simp [hv]⟩
       rw [if_pos trivial, if_pos HL.out, if_neg (by simp [ha])] at h
       exact (Option.some.inj h).symm
      subst hr; clear hlt hv hlow
      go_wp2_with fail
      refine (z5.calls _ _ _ _ _ HLOW.out).mono ?_
      rintro e w2 ⟨rfl, ⟨q, rfl⟩⟩
      go_wp2; go_ret
      exact ⟨rfl, qo HB.out q⟩
     | true =>
      rw [hv] at hlow
      have HLOW := Lib.hid hlow
      have HALL2 : Hid ((l1.take (j + 1)).all (Ji a0) = true) := Lib.hid (by
       have h9 : j < l1.length := by have := HL.out; omega
       rw [List.take_add_one, List.all_append, HALL.out, List.getElem?_eq_getElem h9]
       have e : rd l1 (j : Int) = l1[j] := by simp [rd, List.getD_eq_getElem?_getD, h9]
       rw [e] at hv
       simp [hv])
      clear hlt hv hlow
      go_wp2_with fail
      refine (z5.calls _ _ _ _ _ HLOW.out).mono ?_
      rintro e w2 ⟨rfl, ⟨q, rfl⟩⟩
      go_wp2_with fail
      have hw1 : wrap64 ((j : Int) + 1) = ((j + 1 : Nat) : Int) := by have := HLT.out; unfold wrap64; omega
      go_roundw
      case measure => (try rw [hw1]); simp only [intOf]; have := HLT.out; omega
      case rel => exact ⟨j + 1, by have := HLT.out; omega, by first | rw [hw1] | go_num, HALL2.out, qo HB.out q⟩
    ·have hje : j = 4 := by have := HJ.out; omega
     subst hje
     have hd1 : decide (((4 : Nat) : Int) < 4) = false := rfl
     have h2 : ((qu.f k a0 l1).bind fun row => (q5.f k l1).bind fun z => if row.length = 4 then some (!z && (row == l1)) else none) = some r := by
      have h := H.out
      rw [if_pos trivial, if_pos HL.out, if_pos (by have h := HALL.out; rwa [List.take_of_length_le (by have := HL.out; omega)] at h)] at h
      exact h
     obtain ⟨row, hrow, h3⟩ := Option.bind_eq_some_iff.1 h2
     obtain ⟨z, hz, h4⟩ := Option.bind_eq_some_iff.1 h3
     have hrl : row.length = 4 := by
      by_cases e : row.length = 4
      ·exact e
      ·rw [if_neg e] at h4; simp at h4
     rw [if_pos hrl] at h4
     have HROW := Lib.hid hrow
     have HZ := Lib.hid hz
     have HRES := Lib.hid (Option.some.inj h4)
     have HRL := Lib.hid hrl
     have hcall := qu.calls k a0 A1 c1 l1 row wr (Kd.C_below HR1.out HB.out) HC1.out hrow
     rw [HL.out] at hcall
     have HCALL := Lib.hid hcall
     clear hlt HALL h2 h3 h4 hrow hz hrl H hcall
     go_wp2_with fail
     refine HCALL.out.mono ?_
     rintro e w2 ⟨v, rfl, hR, hb⟩
     obtain ⟨A2, c2, rfl⟩ := Kd.R_slice hR
     have HB2 : Hid (Below w.heap.size w w2) := Lib.hid (HB.out.trans (hb.mono HB.out.size))
     have HC2 := Lib.hid (Kd.R_reads' hR).2.2
     clear hR hb HCALL
     rw [HRL.out]
     obtain ⟨ad, e, hx0⟩ := Kd.at_int (Kd.C_below HR1.out HB2.out) 0 (by omega) (by have := HL.out; omega)
     subst e
     obtain ⟨_, e, hx1⟩ := Kd.at_int (Kd.C_below HR1.out HB2.out) 1 (by omega) (by have := HL.out; omega)
     cases e
     obtain ⟨_, e, hx2⟩ := Kd.at_int (Kd.C_below HR1.out HB2.out) 2 (by omega) (by have := HL.out; omega)
     cases e
     obtain ⟨_, e, hx3⟩ := Kd.at_int (Kd.C_below HR1.out HB2.out) 3 (by omega) (by have := HL.out; omega)
     cases e
     obtain ⟨ad2, e, hy0⟩ := Kd.at_int HC2.out 0 (by omega) (by have := HRL.out; omega)
     subst e
     obtain ⟨_, e, hy1⟩ := Kd.at_int HC2.out 1 (by omega) (by have := HRL.out; omega)
     cases e
     obtain ⟨_, e, hy2⟩ := Kd.at_int HC2.out 2 (by omega) (by have := HRL.out; omega)
     cases e
     obtain ⟨_, e, hy3⟩ := Kd.at_int HC2.out 3 (by omega) (by have := HRL.out; omega)
     cases e
     rw [show ((0 : Int)).toNat = 0 from rfl, Addr.add_zero'] at hx0 hy0
     simp only [show (1 : Int).toNat = 1 from rfl, show (2 : Int).toNat = 2 from rfl, show (3 : Int).toNat = 3 from rfl, Nat.reduceMul, Nat.reduceEqDiff, Go.Addr.add, ↓reduceIte] at hx1 hx2 hx3 hy1 hy2 hy3
     have hq : ∀ nq : Nat, Calls Try.prog 79 #[.slice (some ad) 4 c1] (w2.drewN nq) fun e w' => e = .returned (.bool z) ∧ ∃ n, w' = (w2.drewN nq).drewN n := fun nq => by
      have h := quiet_ (q5.calls k (some ad) c1 l1 z (w2.drewN nq) (Kd.C_drewN (Kd.C_below HR1.out HB2.out) nq) HC1.out HZ.out)
      rwa [HL.out] at h
     have hrow4 : row = [rd row 0, rd row 1, rd row 2, rd row 3] := by
      match row, HRL.out with
      | [_, _, _, _], _ => rfl
     have hl4 : l1 = [rd l1 0, rd l1 1, rd l1 2, rd l1 3] := by
      match l1, HL.out with
      | [_, _, _, _], _ => rfl
     have HEQ : Hid ((row == l1) = ((rd row 0 == rd l1 0) && (rd row 1 == rd l1 1) && (rd row 2 == rd l1 2) && (rd row 3 == rd l1 3))) := Lib.hid (by
      conv => lhs; rw [hrow4, hl4]
      rw [Bool.eq_iff_iff]
      simp [and_assoc])
     clear hrow4 hl4
     generalize rd row 0 = b0 at *
     generalize rd row 1 = b1 at *
     generalize rd row 2 = b2 at *
     generalize rd row 3 = b3 at *
     generalize rd l1 0 = a0' at *
     generalize rd l1 1 = a1' at *
     generalize rd l1 2 = a2' at *
     generalize rd l1 3 = a3' at *
     have HRES2 : Hid ((!z && (((b0 == a0') && (b1 == a1') && (b2 == a2') && (b3 == a3')))) = r) := Lib.hid (by rw [← HEQ.out]; exact HRES.out)
     clear HEQ HRES HROW HZ
     cases z with
     | true =>
      obtain rfl : r = false := by have h := HRES2.out; simpa using h.symm
      go_wp2_with fail
      go_quiet ((go_at_call 79; exact Calls.quiet_of (hq _)))
      go_wp2; go_ret
      exact ⟨rfl, qo HB2.out nq⟩
     | false =>
      cases e0 : (b0 == a0') with
      | false =>
       obtain rfl : r = false := by have h := HRES2.out; rw [e0] at h; simpa using h.symm
       go_wp2_with fail
       go_quiet ((go_at_call 79; exact Calls.quiet_of (hq _)))
       go_wp2; go_ret
       exact ⟨rfl, qo HB2.out nq⟩
      | true =>
       cases e1 : (b1 == a1') with
       | false =>
        obtain rfl : r = false := by have h := HRES2.out; rw [e1] at h; simpa using h.symm
        go_wp2_with fail
        go_quiet ((go_at_call 79; exact Calls.quiet_of (hq _)))
        go_wp2; go_ret
        exact ⟨rfl, qo HB2.out nq⟩
       | true =>
        cases e2 : (b2 == a2') with
        | false =>
         obtain rfl : r = false := by have h := HRES2.out; rw [e2] at h; simpa using h.symm
         go_wp2_with fail
         go_quiet ((go_at_call 79; exact Calls.quiet_of (hq _)))
         go_wp2; go_ret
         exact ⟨rfl, qo HB2.out nq⟩
        | true =>
         have hr : (b3 == a3') = r := by have h := HRES2.out; rw [e0, e1, e2] at h; simpa using h
         have HR := Lib.hid hr
         clear hr
         go_wp2_with fail
         go_quiet ((go_at_call 79; exact Calls.quiet_of (hq _)))
         go_wp2; go_ret
         exact ⟨by rw [← HR.out]; first | rfl | simp, qo HB2.out nq⟩
  ·obtain rfl : r = false := by have h := H.out; rw [if_neg hl] at h; simp at h; exact h
   have h8 : ((l1.length : Int) != 4) = true := bne_iff_ne.mpr (by omega)
   have h9 : ((l1.length : Int) == 4) = false := beq_eq_false_iff_ne.mpr (by omega)
   clear hl
   go_enter Try.func84, Try.ntmps84
   go_wp2_with fail
   refine (ju.calls a0 true _ HPR.out).mono ?_
   rintro e w1 ⟨rfl, ⟨q, rfl⟩⟩
   go_wp2; go_ret
   exact ⟨rfl, qo (Below.refl _ _) q⟩
def jo.f (k : Nat) (a0 : Int) (l1 : List (S43)) (l2 : List Int) : Option (Bool) := (zf.f k a0 l1).bind fun t461 => (if t461 = true then ((Qd.f k a0 l2).bind fun t462 => (if t462 = true then ((ql.f k a0 l1).bind fun t463 => ((qr.f k a0 t463 l2).bind fun t466 => (some (t466 == 0)))) else (some false))) else (some false))
theorem jo.mono : ∀ a0 a1 a2 k, LeO (jo.f k a0 a1 a2) (jo.f (k + 1) a0 a1 a2) := by
 intro a0 a1 a2 k
 unfold jo.f
 repeat' first | (with_reducible first | apply Qd.mono | apply zf.mono | apply ql.mono | apply qr.mono | exact LeO.refl _ | exact LeO.none _ | refine LeO.ite ?_ ?_ | refine LeO.bind ?_ (fun _ => ?_)) | (first | apply Qd.mono | apply zf.mono | apply ql.mono | apply qr.mono | exact LeO.none _ | refine LeO.ite ?_ ?_ | refine LeO.bind ?_ (fun _ => ?_))
theorem jo.calls (k : Nat) (a0 : Int) (A1 : Option Addr) (c1 : Nat) (l1 : List (S43)) (A2 : Option Addr) (c2 : Nat) (l2 : List Int) (r : Bool) (w : World) (hr1 : Kd.C k43 w A1 l1.length l1) (hc1 : l1.length ≤ c1) (hr2 : Kd.C (Kd.int .i64) w A2 l2.length l2) (hc2 : l2.length ≤ c2) (h : jo.f k a0 l1 l2 = some r) :
  Calls Try.prog 36 #[.int .i64 a0, .slice A1 l1.length c1, .slice A2 l2.length c2] w fun e w' => e = .returned (.bool r) ∧ Below w.heap.size w w' := by
 have HR1 := am hr1
 have HC1 := am hc1
 clear hr1 hc1
 have HR2 := am hr2
 have HC2 := am hc2
 clear hr2 hc2
 have HB := am (Below.refl w.heap.size w)
 have H : ((zf.f k a0 l1).bind fun t461 => (if t461 = true then ((Qd.f k a0 l2).bind fun t462 => (if t462 = true then ((ql.f k a0 l1).bind fun t463 => ((qr.f k a0 t463 l2).bind fun t466 => (some (t466 == 0)))) else (some false))) else (some false))) = some r := h
 clear h; replace H := bs H; obtain ⟨t461, A4, H⟩ := H
 by_cases c5 : t461 = true
 ·subst c5
  rw [if_pos rfl] at H
  replace H := bs H; obtain ⟨t462, A6, H⟩ := H
  by_cases c7 : t462 = true
  ·subst c7
   rw [if_pos rfl] at H
   replace H := bs H; obtain ⟨t463, A8, H⟩ := H; replace H := bs H; obtain ⟨t466, A9, H⟩ := H; obtain rfl := Option.some.inj H
   go_enter Try.func36, Try.ntmps36
   go_wp2_with (first | ((with_reducible refine qf (f := 62) rfl ?_); refine gl 9 Try.func62 #[.int .i64 a0, .slice A1 l1.length c1] ?_; (with_reducible refine (zf.calls k a0 _ _ l1 true _ ?_ ?_ A4.out).mono ?_); exact wC HR1; exact HC1.out; rintro e w10 ⟨rfl, hb⟩; refine ⟨_, rfl, ?_⟩; replace HB := bq HB hb; (try clear hb)) | (go_at_call 84; (with_reducible refine (Qd.calls k a0 _ _ l2 true _ ?_ ?_ A6.out).mono ?_); exact Kd.C_below HR2.out (bw HB); exact HC2.out; rintro e w11 ⟨rfl, hb⟩; replace HB := bq HB hb; (try clear hb)) | (go_at_call 63; (with_reducible refine (ql.calls k a0 _ _ l1 t463 _ ?_ ?_ A8.out).mono ?_); exact Kd.C_below HR1.out (bw HB); exact HC1.out; rintro e w12 ⟨v464, rfl, ho0, hb⟩; have HO465 := am (Kd.V_lower (Kd.V_mono (ok' := fun k_ => True) ho0 (fun k_ hk_ => trivial)) (bz HB)); replace HB := bq HB hb; (try clear hb); (try clear ho0); obtain ⟨Ao13, co13, eo13⟩ := Kd.V_slice HO465.out; subst eo13) | (go_at_call 57; (with_reducible refine (qr.calls k a0 _ _ t463 _ _ l2 t466 _ ?_ ?_ ?_ ?_ A9.out).mono ?_); exact Kd.C_below (Kd.V_reads' HO465.out).2.2 gs; exact (Kd.V_reads' HO465.out).2.1; exact Kd.C_below HR2.out (bw HB); exact HC2.out; rintro e w' ⟨rfl, ⟨nd, rfl⟩⟩))
   go_ret
   exact ⟨fq, bw HB⟩
  ·replace c7 := Bool.eq_false_iff.mpr c7
   subst c7
   rw [if_neg (show ¬ (false = true) by decide)] at H
   obtain rfl := Option.some.inj H
   go_enter Try.func36, Try.ntmps36
   go_wp2_with (first | ((with_reducible refine qf (f := 62) rfl ?_); refine gl 9 Try.func62 #[.int .i64 a0, .slice A1 l1.length c1] ?_; (with_reducible refine (zf.calls k a0 _ _ l1 true _ ?_ ?_ A4.out).mono ?_); exact wC HR1; exact HC1.out; rintro e w14 ⟨rfl, hb⟩; refine ⟨_, rfl, ?_⟩; replace HB := bq HB hb; (try clear hb)) | (go_at_call 84; (with_reducible refine (Qd.calls k a0 _ _ l2 false _ ?_ ?_ A6.out).mono ?_); exact Kd.C_below HR2.out (bw HB); exact HC2.out; rintro e w15 ⟨rfl, hb⟩; replace HB := bq HB hb; (try clear hb)))
   go_ret
   exact ⟨fq, bw HB⟩
 ·replace c5 := Bool.eq_false_iff.mpr c5
  subst c5
  rw [if_neg (show ¬ (false = true) by decide)] at H
  obtain rfl := Option.some.inj H
  go_enter Try.func36, Try.ntmps36
  go_wp2_with (first | ((with_reducible refine qf (f := 62) rfl ?_); refine gl 9 Try.func62 #[.int .i64 a0, .slice A1 l1.length c1] ?_; (with_reducible refine (zf.calls k a0 _ _ l1 false _ ?_ ?_ A4.out).mono ?_); exact wC HR1; exact HC1.out; rintro e w16 ⟨rfl, hb⟩; refine ⟨_, rfl, ?_⟩; replace HB := bq HB hb; (try clear hb)))
  go_ret
  exact ⟨fq, bw HB⟩
def ji.l0 : Nat → Int → List Int → List Int → Int → Int → Option (Int)
 | 0, _, _, _, _, _ => none
 | k + 1, x0, x1, x2, x7, x8 => if x8 < (x1.length : Int) then (if 0 ≤ x8 then (if x8 < (x2.length : Int) then (if x0 = 0 then (none) else (ji.l0 k x0 x1 x2 (Int.tmod (wrap64 (x7 + (wrap64 ((rd x1 x8) * (rd x2 x8))))) x0) (wrap64 (x8 + 1)))) else (none)) else (none)) else (some x7)
def ji.f (k : Nat) (a0 : Int) (l1 : List Int) (l2 : List Int) : Option (Int) := ji.l0 k a0 l1 l2 0 0
theorem ji.mono_l : ∀ k, (∀ y0 y1 y2 y3 y4, LeO (ji.l0 k y0 y1 y2 y3 y4) (ji.l0 (k + 1) y0 y1 y2 y3 y4))
 | 0 => fun _ _ _ _ _ r h => by simp [ji.l0] at h
 | k + 1 => by
  have ih0 := ji.mono_l k
  ·intro y0 y1 y2 y3 y4
   unfold ji.l0
   repeat' first | (with_reducible first | apply ih0 | exact LeO.refl _ | exact LeO.none _ | refine LeO.ite ?_ ?_ | refine LeO.bind ?_ (fun _ => ?_)) | (first | apply ih0 | exact LeO.none _ | refine LeO.ite ?_ ?_ | refine LeO.bind ?_ (fun _ => ?_))
theorem ji.mono : ∀ a0 a1 a2 k, LeO (ji.f k a0 a1 a2) (ji.f (k + 1) a0 a1 a2) := by
 intro a0 a1 a2 k
 have ih0 := ji.mono_l k
 unfold ji.f
 repeat' first | (with_reducible first | apply ih0 | exact LeO.refl _ | exact LeO.none _ | refine LeO.ite ?_ ?_ | refine LeO.bind ?_ (fun _ => ?_)) | (first | apply ih0 | exact LeO.none _ | refine LeO.ite ?_ ?_ | refine LeO.bind ?_ (fun _ => ?_))
theorem ji.calls (k : Nat) (a0 : Int) (A1 : Option Addr) (c1 : Nat) (l1 : List Int) (A2 : Option Addr) (c2 : Nat) (l2 : List Int) (r : Int) (w : World) (hr1 : Kd.C (Kd.int .i64) w A1 l1.length l1) (hc1 : l1.length ≤ c1) (hr2 : Kd.C (Kd.int .i64) w A2 l2.length l2) (hc2 : l2.length ≤ c2) (h : ji.f k a0 l1 l2 = some r) :
  Calls Try.prog 124 #[.int .i64 a0, .slice A1 l1.length c1, .slice A2 l2.length c2] w fun e w' => e = .returned (.int .i64 r) ∧ Drawn0 w w' := by
 have HR1 := am hr1
 have HC1 := am hc1
 clear hr1 hc1
 have HR2 := am hr2
 have HC2 := am hc2
 clear hr2 hc2
 have H : (ji.l0 k a0 l1 l2 0 0) = some r := h
 clear h; have H' := am H; clear H
 go_enter Try.func124, Try.ntmps124
 go_wp2
 repeat (go_quiet (fail); try go_wp2)
 go_loopg [7, 8] k (fun kq v7 v8 w' => ∃ (x7_1 : Int) (x8_1 : Int), v7 = .int .i64 x7_1 ∧ v8 = .int .i64 x8_1 ∧ qb (ji.l0 kq a0 l1 l2 x7_1 x8_1 = some r) ∧ qb (kq ≤ k) ∧ Drawn0 w w')
 case atStart => exact ⟨(0), (0), fr, fr, H', ⟨Nat.le_refl _⟩, df⟩
 case round =>
  clear H'; try clear c1; try clear c2; try clear p2
  obtain ⟨x7_1, x8_1, rfl, rfl, HA, HK1, ⟨m1, rfl⟩⟩ := hrel
  cases gk with
  | zero => exact absurd HA.out (by simp [ji.l0])
  | succ k1 =>
   have H := HA.out; clear HA
   simp only [ji.l0] at H
   by_cases c4 : x8_1 < (l1.length : Int)
   ·rw [if_pos c4] at H
    have c4b0 := decide_eq_true c4; clear c4; replace H := ifn H; obtain ⟨c5, H⟩ := H; have c5b0 := decide_eq_true c5; clear c5; replace H := ifn H; obtain ⟨c6, H⟩ := H; have c6b0 := decide_eq_true c6; clear c6; replace H := ifm H; obtain ⟨c7, H⟩ := H
    have c7b0 := beq_eq_false_iff_ne.mpr c7; have c7b1 := bne_iff_ne.mpr c7; have H' := am H; clear H
    have p467 : 0 ≤ (x8_1 : Int) := od
    have q467 : x8_1 < (l1.length : Int) := od
    obtain ⟨ad467, e467, hx467_0⟩ := Kd.at_int HR1.out x8_1 p467 q467
    cases e467; replace p467 := eq_true p467; replace q467 := eq_true q467
    have p468 : 0 ≤ (x8_1 : Int) := od
    have q468 : x8_1 < (l2.length : Int) := od
    obtain ⟨ad468, e468, hx468_0⟩ := Kd.at_int HR2.out x8_1 p468 q468
    cases e468; replace p468 := eq_true p468; replace q468 := eq_true q468; go_wp2
    repeat (go_quiet (fail); try go_wp2)
    go_roundg k1
    case measure => have := HK1.out; omega
    case rel => exact ⟨(Int.tmod (wrap64 (x7_1 + (wrap64 ((rd l1 x8_1) * (rd l2 x8_1))))) a0), (wrap64 (x8_1 + 1)), fr, fr, H', ⟨by have := HK1.out; omega⟩, df⟩
   ·rw [if_neg c4] at H
    have c4b0 := decide_eq_false c4; clear c4; obtain rfl := Option.some.inj H; go_wp2
    repeat (go_quiet (fail); try go_wp2)
    go_ret
    exact ⟨fr, df⟩
def zt.l0 : Nat → Int → List (List Int) → List Int → List Int → Int → Option (List Int)
 | 0, _, _, _, _, _ => none
 | k + 1, x0, x1, x7, x8, x9 => if x9 < (x1.length : Int) then (if 0 ≤ x9 then ((ji.f k x0 (zz x1 x9) x8).bind fun t477 => (if x7.length < 17592186044416 then (zt.l0 k x0 x1 (x7 ++ [t477]) x8 (wrap64 (x9 + 1))) else (none))) else (none)) else (some x7)
def zt.f (k : Nat) (a0 : Int) (l1 : List (List Int)) (a2_0 : Int) (a2_1 : Int) (a2_2 : Int) : Option (List Int) := (qv.f k a0 a2_0 a2_1 a2_2).bind fun t473 => (zt.l0 k a0 l1 (([] : List Int)) t473 0)
theorem zt.mono_l : ∀ k, (∀ y0 y1 y2 y3 y4, LeO (zt.l0 k y0 y1 y2 y3 y4) (zt.l0 (k + 1) y0 y1 y2 y3 y4))
 | 0 => fun _ _ _ _ _ r h => by simp [zt.l0] at h
 | k + 1 => by
  have ih0 := zt.mono_l k
  ·intro y0 y1 y2 y3 y4
   unfold zt.l0
   repeat' first | (with_reducible first | apply ih0 | apply ji.mono | apply qv.mono | exact LeO.refl _ | exact LeO.none _ | refine LeO.ite ?_ ?_ | refine LeO.bind ?_ (fun _ => ?_)) | (first | apply ih0 | apply ji.mono | apply qv.mono | exact LeO.none _ | refine LeO.ite ?_ ?_ | refine LeO.bind ?_ (fun _ => ?_))
theorem zt.mono : ∀ a0 a1 a2 a3 a4 k, LeO (zt.f k a0 a1 a2 a3 a4) (zt.f (k + 1) a0 a1 a2 a3 a4) := by
 intro a0 a1 a2 a3 a4 k
 have ih0 := zt.mono_l k
 unfold zt.f
 repeat' first | (with_reducible first | apply ih0 | apply ji.mono | apply qv.mono | exact LeO.refl _ | exact LeO.none _ | refine LeO.ite ?_ ?_ | refine LeO.bind ?_ (fun _ => ?_)) | (first | apply ih0 | apply ji.mono | apply qv.mono | exact LeO.none _ | refine LeO.ite ?_ ?_ | refine LeO.bind ?_ (fun _ => ?_))
theorem zt.calls (k : Nat) (a0 : Int) (A1 : Option Addr) (c1 : Nat) (l1 : List (List Int)) (a2_0 : Int) (a2_1 : Int) (a2_2 : Int) (r : List Int) (w : World) (hr1 : Kd.C (Kd.slice 3 (Kd.int .i64)) w A1 l1.length l1) (hc1 : l1.length ≤ c1) (h : zt.f k a0 l1 a2_0 a2_1 a2_2 = some r) :
  Calls Try.prog 77 #[.int .i64 a0, .slice A1 l1.length c1, .agg #[.int .i64 a2_0, .int .i64 a2_1, .int .i64 a2_2]] w fun e w' => ∃ v0_ : Value, e = .returned (v0_) ∧ Kd.R (Kd.int .i64) 3 w' w.heap.size (fun _ => True) v0_ r ∧ Below w.heap.size w w' := by
 have hu43 := Try.underlying43
 have HR1 := am hr1
 have HC1 := am hc1
 clear hr1 hc1
 have HB := am (Below.refl w.heap.size w)
 have H : ((qv.f k a0 a2_0 a2_1 a2_2).bind fun t473 => (zt.l0 k a0 l1 (([] : List Int)) t473 0)) = some r := h
 clear h
 generalize hy470 : (([] : List Int)) = y470 at H
 have Ny470 := am hy470.symm; clear hy470; replace H := bs H; obtain ⟨t473, A4, H⟩ := H; have H' := am H; clear H
 go_enter Try.func77, Try.ntmps77
 go_wp2_with (first | ((with_reducible refine za (N := 5) rfl ?_); refine xe_ 5 43 #[.int .i64 a2_0, .int .i64 a2_1, .int .i64 a2_2] ?_; intro gb469 hg w5 hbox hb; have BK469 := am (hbox); have GW469 := am ((by rw [hg]; exact (bz HB) : w.heap.size ≤ gb469)); have GE469 := am ((by rw [hg]; exact (bz HB) : w.heap.size ≤ gb469)); replace HB := bq HB hb; clear hb hbox hg) | ((with_reducible refine za (N := 10) rfl ?_); refine li 3 ([] : List Int) ?_; intro v471 w6 ho7 hb; (first | rw [← Ny470.out] at ho7 | (simp only [Int.reduceToNat] at ho7; rw [← Ny470.out] at ho7)); have HO472 := am (Kd.R_lower ho7 (zc (bx_ HB))); replace BK469 := am (zg (g := gb469) (o := .cells #[.int .i64 a2_0, .int .i64 a2_1, .int .i64 a2_2] 43 (0, 0)) (pk_ BK469) hb); replace HB := am (qz (bx_ HB) hb); clear hb ho7; have hcz8_0 : w6.cell? ⟨gb469, 0, none⟩ = some (.int .i64 a2_0) := (qa BK469.out 0).trans rfl; have hcz8_1 : w6.cell? ⟨gb469, 1, none⟩ = some (.int .i64 a2_1) := (qa BK469.out 1).trans rfl; have hcz8_2 : w6.cell? ⟨gb469, 2, none⟩ = some (.int .i64 a2_2) := (qa BK469.out 2).trans rfl; have hfz8_0 := qp BK469.out 0; have hfz8_1 := qp BK469.out 1; have hfz8_2 := qp BK469.out 2) | ((with_reducible refine qf (f := 123) rfl ?_); refine gl 13 Try.func123 #[.int .i64 a0, .agg #[.int .i64 a2_0, .int .i64 a2_1, .int .i64 a2_2]] ?_; (with_reducible refine (qv.calls k a0 a2_0 a2_1 a2_2 t473 _ A4.out).mono ?_); rintro e w9 ⟨v474, rfl, ho0, hb⟩; refine ⟨_, rfl, ?_⟩; have HO475 := am (Kd.R_lower (Kd.R_new' ho0 (Kd.R_lt (wR HO472))) (zc (bx_ HB))); replace HO472 := eR HO472 (Kd.R_base ho0) hb; replace BK469 := am (zg (g := gb469) (o := .cells #[.int .i64 a2_0, .int .i64 a2_1, .int .i64 a2_2] 43 (0, 0)) (pk_ BK469) hb); replace HB := am (qz (bx_ HB) hb); (try clear hb); (try clear ho0)))
 go_loopg [7, 9] k (fun kq v7 v9 w' => ∃ (x7_1 : List Int) (x9_1 : Int), v9 = .int .i64 x9_1 ∧ qb (zt.l0 kq a0 l1 x7_1 t473 x9_1 = some r) ∧ qb (kq ≤ k) ∧ qb (Kd.R (Kd.int .i64) 3 w' w.heap.size (fun k_ => some k_ ≠ (v474 : Value).ownBlock) v7 x7_1) ∧ qb (Kd.R (Kd.int .i64) 3 w' w.heap.size (fun k_ => some k_ ≠ (v7 : Value).ownBlock) v474 t473) ∧ qb (w'.heap[gb469]? = some (.cells #[.int .i64 a2_0, .int .i64 a2_1, .int .i64 a2_2] 43 (0, 0))) ∧ qb (Below w.heap.size w w'))
 case atStart => exact ⟨(y470), (0), fr, H', ⟨Nat.le_refl _⟩, ⟨Kd.R_below (Kd.R_mono HO472.out (fun _ hk => hk.2)) gs⟩, ⟨Kd.R_below (Kd.R_mono HO475.out (fun _ hk => hk.2)) gs⟩, ⟨by (with_reducible repeat (first | refine qi ?_ _ | refine qj ?_ | refine qg ?_ _)); exact BK469.out⟩, ⟨bx_ HB⟩⟩
 case round =>
  clear H'; try clear c1; try clear p2; try clear c7; try clear hcz8_0; try clear hcz8_1; try clear hcz8_2; try clear hfz8_0; try clear hfz8_1; try clear hfz8_2
  obtain ⟨x7_1, x9_1, rfl, HA, HK1, HO_7, HO_8, BK469, HB⟩ := hrel
  cases gk with
  | zero => exact absurd HA.out (by simp [zt.l0])
  | succ k1 =>
   have H := HA.out; clear HA
   simp only [zt.l0] at H
   by_cases c10 : x9_1 < (l1.length : Int)
   ·rw [if_pos c10] at H
    have c10b0 := decide_eq_true c10; clear c10; replace H := ifn H; obtain ⟨c11, H⟩ := H; have c11b0 := decide_eq_true c11; clear c11; replace H := bs H; obtain ⟨t477, A12, H⟩ := H; replace H := ifn H; obtain ⟨c13, H⟩ := H; have LMc13 := am c13
    clear c13
    generalize hy478 : (x7_1 ++ [t477] : List Int) = y478 at H
    have Ny478 := am hy478.symm; clear hy478; have H' := am H; clear H
    have p476 : 0 ≤ (x9_1 : Int) := od
    have q476 : x9_1 < (l1.length : Int) := od
    obtain ⟨ad476, A476_0, c476_0, e476, hx476_0, hl476_0, hi476_0⟩ := Jr HR1.out x9_1 p476 q476
    cases e476
    replace hx476_0 := wcl HB hx476_0
    have HR476_0 := am hi476_0
    have HC476_0 := am hl476_0
    clear hi476_0 hl476_0; replace p476 := eq_true p476; replace q476 := eq_true q476
    obtain ⟨Ao14, co14, eo14⟩ := Kd.R_slice HO_8.out
    subst eo14
    go_wp2_with (first | ((with_reducible refine qf (f := 124) rfl ?_); refine gl 27 Try.func124 #[.int .i64 a0, .slice A476_0 (zz l1 x9_1).length c476_0, .slice Ao14 t473.length co14] ?_; (with_reducible refine (ji.calls k1 a0 _ _ (zz l1 x9_1) _ _ t473 t477 _ ?_ ?_ ?_ ?_ A12.out).mono ?_); exact Kd.C_below (Kd.C_below HR476_0.out HB.out) gs; exact HC476_0.out; exact Kd.C_below (Kd.R_reads' HO_8.out).2.2 gs; exact (Kd.R_reads' HO_8.out).2.1; rintro e w' ⟨rfl, ⟨nd, rfl⟩⟩; refine ⟨_, rfl, ?_⟩) | ((with_reducible refine jh (b := .append) (xs := #[.tmp 20, .tmp 28]) rfl ?_); at_builtin; refine Kd.R_append (Kd.int .i64) (w0 := w) w.heap.size rfl (.tmp 20) (.tmp 28) 23 3 (.int .i64 0) 8 rfl Try.underlying23 Ju rfl (by decide) (by omega) u7 x7_1 t477 [.int .i64 t477] (fun k_ => some k_ ≠ (.slice Ao14 t473.length co14 : Value).ownBlock) (fun _ => False) rfl rfl ?aP (fun _ hk => hk.elim) ?aF ?aO ?aB ?aS ?aL ?_; (case aP => exact rfl); (case aB => exact (bx_ HB)); (case aF => exact (fun k_ hk => Kd.fresh' (Kd.R_lt (wR HO_8)) k_ hk)); (case aO => exact (wR HO_7)); (case aS => exact (zc (bx_ HB))); (case aL => have := LMc13.out; omega); intro v479 w15 ho hb hg hat; rw [← Ny478.out] at ho; replace HO_8 := am (Kd.R_after (ok := (fun _ => True)) (oR_ HO_8 (fun _ hk => ⟨trivial, hk⟩)) hg hat); replace BK469 := am (Qh (g := gb469) (o := .cells #[.int .i64 a2_0, .int .i64 a2_1, .int .i64 a2_2] 43 (0, 0)) (pk_ BK469) hg (Kd.R_ne HO_7.out BK469.out (by decide))); replace HB := am (hb); have HO480 := am (ho); clear HO_7; clear ho hb hg hat))
    go_roundg k1
    case measure => have := HK1.out; omega
    case rel => exact ⟨(y478), (wrap64 (x9_1 + 1)), fr, H', ⟨by have := HK1.out; omega⟩, ⟨wR HO480⟩, ⟨Kd.R_below (Kd.R_mono HO_8.out (fun _ hk => hk.2)) gs⟩, ⟨by (with_reducible repeat (first | refine qi ?_ _ | refine qj ?_ | refine qg ?_ _)); exact BK469.out⟩, ⟨bx_ HB⟩⟩
   ·rw [if_neg c10] at H
    have c10b0 := decide_eq_false c10; clear c10; obtain rfl := Option.some.inj H; go_wp2; go_ret
    exact ⟨_, fq, Kd.R_below (Kd.R_mono HO_7.out (fun _ hk => trivial)) gs, bx_ HB⟩
end Go.Proofs.Ytmgbpmihbljngaa.PA

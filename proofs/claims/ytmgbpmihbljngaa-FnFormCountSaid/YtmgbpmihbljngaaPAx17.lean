-- Written by xprint.py, a program of this claim's own (over the kit's print.py)
import Derived.Test.YtmgbpmihbljngaaPAx0
import Derived.LoopN
namespace Go.Proofs.Ytmgbpmihbljngaa.PA
open Go.RowKit Go.Proofs.YtmgbpmihbljngaaW.PrintWords Go.Proofs.YtmgbpmihbljngaaW.PrintLast Go.Proofs.YtmgbpmihbljngaaW.PrintMore
attribute [local go_sem] max2_int min2_int max_two min_two max_three min_three max_four min_four   -- for this text's walks alone
set_option linter.unusedVariables false
set_option linter.unusedSimpArgs false

/-! ### slices_Index_int_int: function 159 -/
def slices_Index_int_int.l0 : Nat → List Int → Int → Int → Int → Option (Int)
 | 0, _, _, _, _ => none
 | k + 1, x0, x1, x7, x8 => if x8 < x7 then (if 0 ≤ x8 then (if x8 < (x0.length : Int) then (if x1 = (rd x0 x8) then (some x8) else (slices_Index_int_int.l0 k x0 x1 x7 (wrap64 (x8 + 1)))) else (none)) else (none)) else (some (-1))
def slices_Index_int_int.f (k : Nat) (l0 : List Int) (a1 : Int) : Option (Int) := slices_Index_int_int.l0 k l0 a1 (l0.length : Int) 0
theorem slices_Index_int_int.mono_l : ∀ k, (∀ y0 y1 y2 y3, LeO (slices_Index_int_int.l0 k y0 y1 y2 y3) (slices_Index_int_int.l0 (k + 1) y0 y1 y2 y3))
 | 0 => fun _ _ _ _ r h => by simp [slices_Index_int_int.l0] at h
 | k + 1 => by
  have ih0 := slices_Index_int_int.mono_l k
  ·intro y0 y1 y2 y3
   unfold slices_Index_int_int.l0
   repeat' first | (with_reducible first | apply ih0 | exact LeO.refl _ | exact LeO.none _ | refine LeO.ite ?_ ?_ | refine LeO.bind ?_ (fun _ => ?_)) | (first | apply ih0 | exact LeO.none _ | refine LeO.ite ?_ ?_ | refine LeO.bind ?_ (fun _ => ?_))
theorem slices_Index_int_int.mono : ∀ a0 a1 k, LeO (slices_Index_int_int.f k a0 a1) (slices_Index_int_int.f (k + 1) a0 a1) := by
 intro a0 a1 k
 have ih0 := slices_Index_int_int.mono_l k
 unfold slices_Index_int_int.f
 repeat' first | (with_reducible first | apply ih0 | exact LeO.refl _ | exact LeO.none _ | refine LeO.ite ?_ ?_ | refine LeO.bind ?_ (fun _ => ?_)) | (first | apply ih0 | exact LeO.none _ | refine LeO.ite ?_ ?_ | refine LeO.bind ?_ (fun _ => ?_))
set_option maxHeartbeats 8000000 in
set_option maxRecDepth 100000 in
theorem slices_Index_int_int.calls (k : Nat) (A0 : Option Addr) (c0 : Nat) (l0 : List Int) (a1 : Int) (r : Int) (w : World) (hr0 : Kd.C (Kd.int .i64) w A0 l0.length l0) (hc0 : l0.length ≤ c0) (h : slices_Index_int_int.f k l0 a1 = some r) :
  Calls Try.prog 159 #[.slice A0 l0.length c0, .int .i64 a1] w fun e w' => e = .returned (.int .i64 r) ∧ Drawn0 w w' := by
 have HR0 := am hr0
 have HC0 := am hc0
 clear hr0 hc0
 have H : (slices_Index_int_int.l0 k l0 a1 (l0.length : Int) 0) = some r := h
 clear h; have H' := am H; clear H
 go_enter Try.func159, Try.ntmps159
 go_wp2
 go_loopg [8] k (fun kq v8 w' => ∃ (x8_1 : Int), v8 = .int .i64 x8_1 ∧ Aside0 (slices_Index_int_int.l0 kq l0 a1 (l0.length : Int) x8_1 = some r) ∧ Aside0 (kq ≤ k) ∧ Drawn0 w w')
 case atStart => exact ⟨(0), fr, H', ⟨Nat.le_refl _⟩, df⟩
 case round =>
  clear H'; try clear c1; try clear p2
  obtain ⟨x8_1, rfl, HA, HK1, ⟨m1, rfl⟩⟩ := hrel
  cases gk with
  | zero => exact absurd HA.out (by simp [slices_Index_int_int.l0])
  | succ k1 =>
   have H := HA.out; clear HA
   simp only [slices_Index_int_int.l0] at H
   by_cases c3 : x8_1 < (l0.length : Int)
   ·rw [if_pos c3] at H
    have c3b0 := decide_eq_true c3; clear c3; replace H := ifn H; obtain ⟨c4, H⟩ := H; have c4b0 := decide_eq_true c4; clear c4; replace H := ifn H; obtain ⟨c5, H⟩ := H; have c5b0 := decide_eq_true c5; clear c5
    by_cases c6 : a1 = (rd l0 x8_1)
    ·rw [if_pos c6] at H
     have c6b0 := beq_iff_eq.mpr c6; have c6b1 := bne_eq_false_iff_eq.mpr c6; clear c6; obtain rfl := Option.some.inj H
     have p489 : 0 ≤ (x8_1 : Int) := od
     have q489 : x8_1 < (l0.length : Int) := od
     obtain ⟨ad489, e489, hx489_0⟩ := Kd.at_int HR0.out x8_1 p489 q489
     cases e489; replace p489 := eq_true p489; replace q489 := eq_true q489; go_wp2; go_ret
     exact ⟨fr, df⟩
    ·rw [if_neg c6] at H
     have c6b0 := beq_eq_false_iff_ne.mpr c6; have c6b1 := bne_iff_ne.mpr c6; have H' := am H; clear H
     have p489 : 0 ≤ (x8_1 : Int) := od
     have q489 : x8_1 < (l0.length : Int) := od
     obtain ⟨ad489, e489, hx489_0⟩ := Kd.at_int HR0.out x8_1 p489 q489
     cases e489; replace p489 := eq_true p489; replace q489 := eq_true q489; go_wp2
     go_roundg k1
     case measure => have := HK1.out; omega
     case rel => exact ⟨(wrap64 (x8_1 + 1)), fr, H', ⟨by have := HK1.out; omega⟩, df⟩
   ·rw [if_neg c3] at H
    have c3b0 := decide_eq_false c3; clear c3; obtain rfl := Option.some.inj H; go_wp2; go_ret
    exact ⟨fr, df⟩/-! ### slices_Contains_int_int: function 155 -/
def slices_Contains_int_int.f (k : Nat) (l0 : List Int) (a1 : Int) : Option (Bool) := (slices_Index_int_int.f k l0 a1).bind fun t490 => (some (decide (t490 ≥ 0)))
theorem slices_Contains_int_int.mono : ∀ a0 a1 k, LeO (slices_Contains_int_int.f k a0 a1) (slices_Contains_int_int.f (k + 1) a0 a1) := by
 intro a0 a1 k
 unfold slices_Contains_int_int.f
 repeat' first | (with_reducible first | apply slices_Index_int_int.mono | exact LeO.refl _ | exact LeO.none _ | refine LeO.ite ?_ ?_ | refine LeO.bind ?_ (fun _ => ?_)) | (first | apply slices_Index_int_int.mono | exact LeO.none _ | refine LeO.ite ?_ ?_ | refine LeO.bind ?_ (fun _ => ?_))
set_option maxHeartbeats 8000000 in
set_option maxRecDepth 100000 in
theorem slices_Contains_int_int.calls (k : Nat) (A0 : Option Addr) (c0 : Nat) (l0 : List Int) (a1 : Int) (r : Bool) (w : World) (hr0 : Kd.C (Kd.int .i64) w A0 l0.length l0) (hc0 : l0.length ≤ c0) (h : slices_Contains_int_int.f k l0 a1 = some r) :
  Calls Try.prog 155 #[.slice A0 l0.length c0, .int .i64 a1] w fun e w' => e = .returned (.bool r) ∧ Drawn0 w w' := by
 have HR0 := am hr0
 have HC0 := am hc0
 clear hr0 hc0
 have H : ((slices_Index_int_int.f k l0 a1).bind fun t490 => (some (decide (t490 ≥ 0)))) = some r := h
 clear h; replace H := bs H; obtain ⟨t490, A3, H⟩ := H; obtain rfl := Option.some.inj H
 go_enter Try.func155, Try.ntmps155
 go_wp2_with (first | ((with_reducible refine gate_callee (f := 159) rfl ?_); refine gl 7 Try.func159 #[.slice A0 l0.length c0, .int .i64 a1] ?_; (with_reducible refine (slices_Index_int_int.calls k _ _ l0 a1 t490 _ ?_ ?_ A3.out).mono ?_); exact wC HR0; exact HC0.out; rintro e w' ⟨rfl, ⟨nd, rfl⟩⟩; refine ⟨_, rfl, ?_⟩))
 go_ret
 exact ⟨fr, df⟩/-! ### impl_isPrime: function 99 -/
def impl_isPrime.f (k : Nat) (a0 : Int) : Option (Bool) := (slices_Contains_int_int.f k (([7, 11, 13, 17, 19, 23, 29, 31] : List Int)) a0).bind fun t494 => (some t494)
theorem impl_isPrime.mono : ∀ a0 k, LeO (impl_isPrime.f k a0) (impl_isPrime.f (k + 1) a0) := by
 intro a0 k
 unfold impl_isPrime.f
 repeat' first | (with_reducible first | apply slices_Contains_int_int.mono | exact LeO.refl _ | exact LeO.none _ | refine LeO.ite ?_ ?_ | refine LeO.bind ?_ (fun _ => ?_)) | (first | apply slices_Contains_int_int.mono | exact LeO.none _ | refine LeO.ite ?_ ?_ | refine LeO.bind ?_ (fun _ => ?_))
set_option maxHeartbeats 8000000 in
set_option maxRecDepth 100000 in
theorem impl_isPrime.calls (k : Nat) (a0 : Int) (r : Bool) (w : World) (h : impl_isPrime.f k a0 = some r) :
  Calls Try.prog 99 #[.int .i64 a0] w fun e w' => e = .returned (.bool r) ∧ Below w.heap.size w w' := by
 have HB := am (Below.refl w.heap.size w)
 have H : ((slices_Contains_int_int.f k (([7, 11, 13, 17, 19, 23, 29, 31] : List Int)) a0).bind fun t494 => (some t494)) = some r := h
 clear h
 generalize hy491 : (([7, 11, 13, 17, 19, 23, 29, 31] : List Int)) = y491 at H
 have Ny491 := am hy491.symm; clear hy491; replace H := bs H; obtain ⟨t494, A2, H⟩ := H; obtain rfl := Option.some.inj H
 go_enter Try.func99, Try.ntmps99
 go_wp2_with (first | ((with_reducible refine gate_dst (N := 3) rfl ?_); refine li 3 [7, 11, 13, 17, 19, 23, 29, 31] ?_; intro v492 w3 ho4 hb; (first | rw [← Ny491.out] at ho4 | (simp only [Int.reduceToNat] at ho4; rw [← Ny491.out] at ho4)); have HO493 := am (Kd.R_lower ho4 (bz HB)); replace HB := bq HB hb; clear hb ho4; obtain ⟨Ao5, co5, eo5⟩ := Kd.R_slice HO493.out; subst eo5) | ((with_reducible refine gate_callee (f := 155) rfl ?_); refine gl 5 Try.func155 #[.slice Ao5 y491.length co5, .int .i64 a0] ?_; (with_reducible refine (slices_Contains_int_int.calls k _ _ y491 a0 t494 _ ?_ ?_ A2.out).mono ?_); exact Kd.C_below (Kd.R_reads' HO493.out).2.2 gs; exact (Kd.R_reads' HO493.out).2.1; rintro e w' ⟨rfl, ⟨nd, rfl⟩⟩; refine ⟨_, rfl, ?_⟩))
 go_ret
 exact ⟨fq, bw HB⟩/-! ### slices_IndexFunc_int_int: function 156 (by hand) -/
/-- the first place at which q holds, or -1 -/
def idxOf (q : Int → Bool) : List Int → Int → Int
 | [], _ => -1
 | x :: xs, i => if q x then i else idxOf q xs (i + 1)
theorem ret_int {k : IntKind} {a b : Int} (h : a = b) : Ending.returned (.int k a) = .returned (.int k b) := by rw [h]
theorem ret_bool {a b : Bool} (h : a = b) : Ending.returned (.bool a) = .returned (.bool b) := by rw [h]
theorem rd_nat (l : List Int) (j : Nat) (h : j < l.length) : rd l (j : Int) = l[j] := by simp [rd, List.getD_eq_getElem?_getD, h]
set_option maxHeartbeats 400000 in
theorem indexFunc_any (g : Nat) (lb : Array Value) (q : Int → Bool) (A0 : Option Addr) (c0 : Nat) (l0 : List Int) (w : World) (hr0 : Kd.C (Kd.int .i64) w A0 l0.length l0)
  (he : ∀ args w, (callFunc g args).run Try.prog w = .ok (.enter g args) w)
  (hq : ∀ (x : Int) (w1 : World), Drawn0 w w1 → Calls Try.prog g (#[.int .i64 x] ++ lb) w1 fun e w' => e = .returned (.bool (q x)) ∧ Drawn0 w1 w') :
  Calls Try.prog 156 #[.slice A0 l0.length c0, .func (.func g) #[] lb] w fun e w' => e = .returned (.int .i64 (idxOf q l0 0)) ∧ Drawn0 w w' := by
 have hm := hr0.2.1
 go_enter Try.func156, Try.ntmps156
 go_wp2
 go_loopw [8] (fun i w' => ∃ j : Nat, j ≤ l0.length ∧ i = .int .i64 j ∧ idxOf q l0 0 = idxOf q (l0.drop j) j ∧ Drawn0 w w') (fun i _ => l0.length - (intOf i).toNat)
 case atStart => exact ⟨0, Nat.zero_le _, rfl, by simp, Drawn0.refl _⟩
 case round =>
  obtain ⟨j, hj, rfl, hidx, ⟨m1, rfl⟩⟩ := hrel
  have HIDX := Lib.hid hidx
  clear hidx
  by_cases hlt : j < l0.length
  ·obtain ⟨ad, e, hx⟩ := Kd.at_int hr0 (j : Int) (by omega) (by omega)
   subst e
   simp only [Int.toNat_natCast] at hx
   have hcall := hq (rd l0 j) (w.drewN m1) ⟨m1, rfl⟩
   have HC := Lib.hid hcall
   clear hcall hq
   cases hv : q (rd l0 j)
   all_goals
    go_wp2_with fail
    refine (HC.out).mono ?_
    rintro e w' ⟨rfl, ⟨m2, rfl⟩⟩
    simp only [hv]
    go_wp2
   ·go_roundw
    case rel => exact ⟨j + 1, by omega, by go_num, by rw [HIDX.out, List.drop_eq_getElem_cons hlt, idxOf, if_neg (by rw [← rd_nat l0 j hlt, hv]; simp)]; simp, ⟨m1 + m2, by simp⟩⟩
    case measure => simp [intOf]; omega
   ·go_ret
    exact ⟨ret_int (a := (j : Int)) (by rw [HIDX.out, List.drop_eq_getElem_cons hlt, idxOf, if_pos (by rw [← rd_nat l0 j hlt, hv])]), ⟨m1 + m2, by simp⟩⟩
  ·go_wp2
   go_ret
   exact ⟨ret_int (a := -1) (by rw [HIDX.out, List.drop_eq_nil_of_le (by omega), idxOf]), ⟨m1, rfl⟩⟩/-! ### slices_ContainsFunc_int_int: function 100 (by hand) -/
theorem containsFunc_any (g : Nat) (lb : Array Value) (q : Int → Bool) (A0 : Option Addr) (c0 : Nat) (l0 : List Int) (w : World) (hr0 : Kd.C (Kd.int .i64) w A0 l0.length l0)
  (he : ∀ args w, (callFunc g args).run Try.prog w = .ok (.enter g args) w)
  (hq : ∀ (x : Int) (w1 : World), Drawn0 w w1 → Calls Try.prog g (#[.int .i64 x] ++ lb) w1 fun e w' => e = .returned (.bool (q x)) ∧ Drawn0 w1 w') :
  Calls Try.prog 100 #[.slice A0 l0.length c0, .func (.func g) #[] lb] w fun e w' => e = .returned (.bool (decide (idxOf q l0 0 ≥ 0))) ∧ Drawn0 w w' := by
 have HC := Lib.hid (indexFunc_any g lb q A0 c0 l0 w hr0 he hq)
 clear hq
 go_enter Try.func100, Try.ntmps100
 go_wp2_with fail
 refine HC.out.mono ?_
 rintro e w' ⟨rfl, ⟨m2, rfl⟩⟩
 go_wp2; go_ret
 exact ⟨rfl, ⟨m2, rfl⟩⟩/-! ### impl_areNumbers: function 52 (by hand) -/
theorem notIn_any (x p : Int) (b : Nat) (w : World) (hc : w.cell? ⟨b, 0, none⟩ = some (.int .i64 p)) :
  Calls Try.prog 101 #[.int .i64 x, .pointer (some ⟨b, 0, none⟩)] w fun e w' => e = .returned (.bool (decide (x < 0) || decide (x ≥ p))) ∧ Drawn0 w w' := by
 by_cases h : x < 0
 ·have h1 : decide (x < 0) = true := decide_eq_true h
  go_enter Try.func101, Try.ntmps101
  go_wp2; go_ret
  exact ⟨by simp [h], Drawn0.refl _⟩
 ·have h1 : decide (x < 0) = false := decide_eq_false h
  go_enter Try.func101, Try.ntmps101
  go_wp2; go_ret
  exact ⟨by simp [h], Drawn0.refl _⟩
/-- the primes of the program -/
def primeB (p : Int) : Bool := decide (p = 7 ∨ p = 11 ∨ p = 13 ∨ p = 17 ∨ p = 19 ∨ p = 23 ∨ p = 29 ∨ p = 31)
theorem isPrime_f (a : Int) : impl_isPrime.f 20 a = some (primeB a) := by
 by_cases h : a = 7 ∨ a = 11 ∨ a = 13 ∨ a = 17 ∨ a = 19 ∨ a = 23 ∨ a = 29 ∨ a = 31
 ·rcases h with rfl | rfl | rfl | rfl | rfl | rfl | rfl | rfl <;> decide +kernel
 ·have h' := h
  simp only [not_or] at h
  obtain ⟨h1, h2, h3, h4, h5, h6, h7, h8⟩ := h
  simp [impl_isPrime.f, slices_Contains_int_int.f, slices_Index_int_int.f, slices_Index_int_int.l0, rd, wrap64, h1, h2, h3, h4, h5, h6, h7, h8, primeB]
theorem idxOf_ge (q : Int → Bool) : ∀ (l : List Int) (i : Int), 0 ≤ i → decide (idxOf q l i ≥ 0) = l.any q
 | [], i, h => by simp [idxOf]
 | x :: xs, i, h => by
  unfold idxOf
  cases hq : q x
  ·simp [hq, idxOf_ge q xs (i + 1) (by omega)]
  ·simp [hq, h]
def impl_areNumbers.f (a0 : Int) (l1 : List Int) (a2 : Int) : Option Bool := some (primeB a0 && decide ((l1.length : Int) = a2) && l1.all fun x => decide (0 ≤ x) && decide (x < a0))
theorem impl_areNumbers.not (p : Int) (l : List Int) : (!decide (idxOf (fun x => decide (x < 0) || decide (x ≥ p)) l 0 ≥ 0)) = l.all fun x => decide (0 ≤ x) && decide (x < p) := by
 rw [idxOf_ge _ l 0 (by omega), List.not_any_eq_all_not]
 congr 1
 funext x
 rw [Bool.eq_iff_iff]
 simp only [Bool.not_eq_true', Bool.or_eq_false_iff, decide_eq_false_iff_not, Bool.and_eq_true, decide_eq_true_eq]
 omega
set_option maxHeartbeats 1000000 in
theorem impl_areNumbers.calls (a0 : Int) (A1 : Option Addr) (c1 : Nat) (l1 : List Int) (a2 : Int) (r : Bool) (w : World) (hr1 : Kd.C (Kd.int .i64) w A1 l1.length l1) (hc1 : l1.length ≤ c1) (h : impl_areNumbers.f a0 l1 a2 = some r) :
  Calls Try.prog 52 #[.int .i64 a0, .slice A1 l1.length c1, .int .i64 a2] w fun e w' => e = .returned (.bool r) ∧ Below w.heap.size w w' := by
 have H := Lib.hid h
 clear h
 have hmf : ∀ (fn : Fn) (first cap : Array Value) (w : World), (Instr.makeFunc fn first cap).run Try.prog w = .ok (.func fn first cap) w := fun _ _ _ _ => rfl
 cases hp : primeB a0
 ·have HP := Lib.hid hp
  clear hp
  go_enter Try.func52, Try.ntmps52
  go_wp2_with fail
  refine (impl_isPrime.calls 20 a0 false _ (by rw [isPrime_f, HP.out])).mono ?_
  rintro e w1 ⟨rfl, hb⟩
  go_wp2; go_ret
  exact ⟨ret_bool (a := false) (by simpa [impl_areNumbers.f, HP.out] using H.out), (below_alloc (Below.refl _ _) _).trans (hb.mono (by simp))⟩
 ·have HP := Lib.hid hp
  clear hp
  by_cases hl : (l1.length : Int) = a2
  ·have hl1 : ((l1.length : Int) == a2) = true := beq_iff_eq.mpr hl
   have HL := Lib.hid hl
   clear hl
   go_enter Try.func52, Try.ntmps52
   go_wp2_with fail
   refine (impl_isPrime.calls 20 a0 true _ (by rw [isPrime_f, HP.out])).mono ?_
   rintro e w1 ⟨rfl, hb⟩
   have hcell : w1.cell? ⟨w.heap.size, 0, none⟩ = some (.int .i64 a0) := by
    rw [hb.cell (p := ⟨w.heap.size, 0, none⟩) (by simp)]; simp [go_sem]
   have hr2 := Kd.C_below hr1 ((below_alloc (Below.refl _ _) _).trans (hb.mono (by simp)))
   go_wp2_with fail
   refine (containsFunc_any 101 #[.pointer (some ⟨w.heap.size, 0, none⟩)] (fun x => decide (x < 0) || decide (x ≥ a0)) A1 c1 l1 w1 hr2 (Go.Proofs.enters_of Try.func101 (by kernel_rfl) rfl) (fun x w2 ⟨m, hm⟩ => by subst hm; exact notIn_any x a0 w.heap.size _ (by simpa using hcell))).mono ?_
   rintro e w2 ⟨rfl, ⟨m, rfl⟩⟩
   go_wp2; go_ret
   exact ⟨ret_bool (a := !decide (idxOf (fun x => decide (x < 0) || decide (x ≥ a0)) l1 0 ≥ 0)) (by rw [impl_areNumbers.not]; simpa [impl_areNumbers.f, HP.out, HL.out] using H.out), pw_below_drewN ((below_alloc (Below.refl _ _) _).trans (hb.mono (by simp))) m⟩
  ·have hl1 : ((l1.length : Int) == a2) = false := beq_eq_false_iff_ne.mpr hl
   have HL := Lib.hid hl
   clear hl
   go_enter Try.func52, Try.ntmps52
   go_wp2_with fail
   refine (impl_isPrime.calls 20 a0 true _ (by rw [isPrime_f, HP.out])).mono ?_
   rintro e w1 ⟨rfl, hb⟩
   go_wp2; go_ret
   exact ⟨ret_bool (a := false) (by simpa [impl_areNumbers.f, HP.out, HL.out] using H.out), (below_alloc (Below.refl _ _) _).trans (hb.mono (by simp))⟩/-! ### impl_power: function 102 -/
def impl_power.l0 : Nat → Int → Int → Int → Int → Option (Int)
 | 0, _, _, _, _ => none
 | k + 1, x0, x5, x6, x7 => if x7 < x6 then (impl_power.l0 k x0 (wrap64 (x5 * x0)) x6 (wrap64 (x7 + 1))) else (some x5)
def impl_power.f (k : Nat) (a0 : Int) (a1 : Int) : Option (Int) := impl_power.l0 k a0 1 a1 0
theorem impl_power.mono_l : ∀ k, (∀ y0 y1 y2 y3, LeO (impl_power.l0 k y0 y1 y2 y3) (impl_power.l0 (k + 1) y0 y1 y2 y3))
 | 0 => fun _ _ _ _ r h => by simp [impl_power.l0] at h
 | k + 1 => by
  have ih0 := impl_power.mono_l k
  ·intro y0 y1 y2 y3
   unfold impl_power.l0
   repeat' first | (with_reducible first | apply ih0 | exact LeO.refl _ | exact LeO.none _ | refine LeO.ite ?_ ?_ | refine LeO.bind ?_ (fun _ => ?_)) | (first | apply ih0 | exact LeO.none _ | refine LeO.ite ?_ ?_ | refine LeO.bind ?_ (fun _ => ?_))
theorem impl_power.mono : ∀ a0 a1 k, LeO (impl_power.f k a0 a1) (impl_power.f (k + 1) a0 a1) := by
 intro a0 a1 k
 have ih0 := impl_power.mono_l k
 unfold impl_power.f
 repeat' first | (with_reducible first | apply ih0 | exact LeO.refl _ | exact LeO.none _ | refine LeO.ite ?_ ?_ | refine LeO.bind ?_ (fun _ => ?_)) | (first | apply ih0 | exact LeO.none _ | refine LeO.ite ?_ ?_ | refine LeO.bind ?_ (fun _ => ?_))
set_option maxHeartbeats 8000000 in
set_option maxRecDepth 100000 in
theorem impl_power.calls (k : Nat) (a0 : Int) (a1 : Int) (r : Int) (w : World) (h : impl_power.f k a0 a1 = some r) :
  Calls Try.prog 102 #[.int .i64 a0, .int .i64 a1] w fun e w' => e = .returned (.int .i64 r) ∧ Drawn0 w w' := by
 have H : (impl_power.l0 k a0 1 a1 0) = some r := h
 clear h; have H' := am H; clear H
 go_enter Try.func102, Try.ntmps102
 go_wp2
 go_loopg [5, 7] k (fun kq v5 v7 w' => ∃ (x5_1 : Int) (x7_1 : Int), v5 = .int .i64 x5_1 ∧ v7 = .int .i64 x7_1 ∧ Aside0 (impl_power.l0 kq a0 x5_1 a1 x7_1 = some r) ∧ Aside0 (kq ≤ k) ∧ Drawn0 w w')
 case atStart => exact ⟨(1), (0), fr, fr, H', ⟨Nat.le_refl _⟩, df⟩
 case round =>
  clear H'; try clear c1; try clear p2
  obtain ⟨x5_1, x7_1, rfl, rfl, HA, HK1, ⟨m1, rfl⟩⟩ := hrel
  cases gk with
  | zero => exact absurd HA.out (by simp [impl_power.l0])
  | succ k1 =>
   have H := HA.out; clear HA
   simp only [impl_power.l0] at H
   by_cases c3 : x7_1 < a1
   ·rw [if_pos c3] at H
    have c3b0 := decide_eq_true c3; clear c3; have H' := am H; clear H; go_wp2
    go_roundg k1
    case measure => have := HK1.out; omega
    case rel => exact ⟨(wrap64 (x5_1 * a0)), (wrap64 (x7_1 + 1)), fr, fr, H', ⟨by have := HK1.out; omega⟩, df⟩
   ·rw [if_neg c3] at H
    have c3b0 := decide_eq_false c3; clear c3; obtain rfl := Option.some.inj H; go_wp2; go_ret
    exact ⟨fr, df⟩/-! ### impl_eachPlace: function 53 (by hand) -/
/-- a place of space by its first number's place and its code -/
def placeRow (p : Int) (first : Nat) (code : Int) : List Int :=
 match first with
 | 0 => [1, code / p / p % p, code / p % p, code % p]
 | 1 => [0, 1, code / p % p, code % p]
 | 2 => [0, 0, 1, code % p]
 | _ => [0, 0, 0, 1]
def placeMany (p : Nat) (first : Nat) : Nat := p ^ (3 - first)
/-- the places from the row of first, code on -/
def rowFrom (p : Nat) (first : Nat) (code : Nat) : List (List Int) := (List.range' code (placeMany p first - code)).map fun (c : Nat) => placeRow p first (c : Int)
def placesFrom (p : Nat) : Nat → List (List Int)
 | 0 => []
 | n + 1 => rowFrom p (3 - n) 0 ++ placesFrom p n
/-- all places, in the program's order -/
def places (p : Nat) : List (List Int) := placesFrom p 4
/-- a state that is turned by each place, till it says no -/
def runs {σ : Type} (step : σ → List Int → σ × Bool) : σ → List (List Int) → σ
 | s, [] => s
 | s, a :: rest => if (step s a).2 then runs step (step s a).1 rest else (step s a).1
theorem C_of_block {w : World} {b t : Nat} {xs : List Int} (h : w.heap[b]? = some (.cells (xs.map (Value.int .i64)).toArray t (0, 0))) (hl : xs.length ≤ 9223372036854775807) : Kd.C (Kd.int .i64) w (some ⟨b, 0, none⟩) xs.length xs := by
 refine Kd.C_of_reads (d := (0 : Int)) ⟨rfl, hl, fun hn => ⟨_, rfl, fun i hi => ?_⟩⟩
 have h2 := blk_cell h i
 have h3 : (⟨b, 0, none⟩ : Addr).add i = ⟨b, i, none⟩ := by
  unfold Addr.add
  split <;> simp_all
 rw [h3, h2]
 simp [List.getElem?_eq_getElem hi, List.getD_eq_getElem?_getD]
theorem power_eq (p : Nat) (h : p ≤ 31) (n : Nat) (hn : n ≤ 3) : impl_power.f 6 (p : Int) ((3 - n : Nat) : Int) = some ((placeMany p n : Nat) : Int) ∧ placeMany p n ≤ 29791 := by
 have hh : ∀ q : Fin 32, ∀ m : Fin 4, impl_power.f 6 (q.val : Int) ((3 - m.val : Nat) : Int) = some ((placeMany q.val m.val : Nat) : Int) ∧ placeMany q.val m.val ≤ 29791 := by decide +kernel
 exact hh ⟨p, by omega⟩ ⟨n, by omega⟩
theorem digit_eq (p c : Nat) (h7 : 7 ≤ p) (hc : c ≤ 29791) : wrap64 ((c : Int) / (p : Int)) = (c : Int) / (p : Int) ∧ wrap64 ((((c : Int) / (p : Int))).tdiv (p : Int)) = (c : Int) / (p : Int) / (p : Int) := by
 have h1 : (0 : Int) ≤ (c : Int) / (p : Int) := Int.ediv_nonneg (by omega) (by omega)
 have h2 : (c : Int) / (p : Int) ≤ c := Int.ediv_le_self _ (by omega)
 have h3 : (0 : Int) ≤ (c : Int) / (p : Int) / (p : Int) := Int.ediv_nonneg h1 (by omega)
 have h4 : (c : Int) / (p : Int) / (p : Int) ≤ (c : Int) / (p : Int) := Int.ediv_le_self _ h1
 rw [Int.tdiv_eq_ediv_of_nonneg h1]
 unfold wrap64
 omega
theorem digits_eq (p c : Nat) (h7 : 7 ≤ p) (hc : c ≤ 29791) : (wrap64 ((wrap64 ((c : Int) / (p : Int))).tdiv (p : Int))).tmod (p : Int) = (c : Int) / (p : Int) / (p : Int) % (p : Int) ∧ (wrap64 ((c : Int) / (p : Int))).tmod (p : Int) = (c : Int) / (p : Int) % (p : Int) := by
 obtain ⟨h1, h2⟩ := digit_eq p c h7 hc
 have h3 : (0 : Int) ≤ (c : Int) / (p : Int) := Int.ediv_nonneg (by omega) (by omega)
 rw [h1, h2, Int.tmod_eq_emod_of_nonneg h3, Int.tmod_eq_emod_of_nonneg (Int.ediv_nonneg h3 (by omega))]
 exact ⟨rfl, rfl⟩
theorem rowFrom_step {σ : Type} (step : σ → List Int → σ × Bool) (p n c : Nat) (s : σ) (r : List (List Int)) (h : c < placeMany p n) :
  rowFrom p n c = placeRow p n c :: rowFrom p n (c + 1) := by
 unfold rowFrom
 rw [show placeMany p n - c = (placeMany p n - (c + 1)) + 1 from by omega, List.range'_succ, List.map_cons]
theorem rowFrom_end (p n : Nat) : rowFrom p n (placeMany p n) = [] := by simp [rowFrom]
set_option maxHeartbeats 4000000 in
theorem eachPlace_any (g : Nat) (lb : Array Value) (σ : Type) (Inv : σ → World → Prop) (step : σ → List Int → σ × Bool) (p : Nat) (s0 : σ) (w : World) (h7 : 7 ≤ p) (h31 : p ≤ 31)
  (he : ∀ args w, (callFunc g args).run Try.prog w = .ok (.enter g args) w)
  (hI0 : Inv s0 w)
  (hmove : ∀ s W W', Inv s W → Below w.heap.size W W' → Inv s W')
  (hq : ∀ s a A c W, Inv s W → w.heap.size ≤ W.heap.size → a.length = 4 → Kd.C (Kd.int .i64) W A a.length a → a.length ≤ c → Calls Try.prog g (#[.slice A 4 c] ++ lb) W fun e w' => e = .returned (.bool (step s a).2) ∧ Inv (step s a).1 w' ∧ W.heap.size ≤ w'.heap.size) :
  Calls Try.prog 53 #[.int .i64 p, .func (.func g) #[] lb] w fun e w' => e = .returned (.tuple #[]) ∧ Inv (runs step s0 (places p)) w' := by
 have HM := Lib.hid hmove
 have HQ := Lib.hid hq
 clear hmove hq
 have hmk : ∀ (w : World), (Instr.makeSlice 23 (.int .i64 4) (.int .i64 4)).run Try.prog w = .ok (.slice (some ⟨w.heap.size, 0, none⟩) 4 4) (w.alloc (.cells #[.int .i64 0, .int .i64 0, .int .i64 0, .int .i64 0] 3)) := fun _ => by kernel_rfl
 go_enter Try.func53, Try.ntmps53
 go_wp2
 go_loopw [10] (fun i w' => ∃ n : Int, 0 ≤ n ∧ n ≤ 4 ∧ i = .int .i64 n ∧ ∃ s, Inv s w' ∧ w.heap.size ≤ w'.heap.size ∧ runs step s0 (places p) = runs step s (placesFrom p (4 - n.toNat))) (fun i _ => 4 - (intOf i).toNat)
 case atStart => exact ⟨0, by omega, by omega, rfl, s0, hI0, Nat.le_refl _, rfl⟩
 case round =>
  obtain ⟨n, hn0, hn, rfl, s, hI, hsz, hrun⟩ := hrel
  have HR := Lib.hid hrun
  clear hrun
  by_cases h4 : n = 4
  ·subst h4
   go_wp2
   go_end0
   exact ⟨rfl, by rw [HR.out]; exact hI⟩
  ·obtain rfl | rfl | rfl | rfl : n = 0 ∨ n = 1 ∨ n = 2 ∨ n = 3 := by omega
   ·have hpe := power_eq p h31 0 (by omega)
    generalize hM : placeMany p 0 = M at hpe
    obtain ⟨hp1, hMb⟩ := hpe
    have HP := Lib.hid hp1
    have HMM := Lib.hid hM
    clear hp1 hM
    go_wp2_with fail
    refine (impl_power.calls 6 (p : Int) 3 (M : Int) _ HP.out).mono ?_
    rintro e w1 ⟨rfl, ⟨m1, rfl⟩⟩
    go_wp2
    go_loopw [19] (fun i w' => ∃ c : Nat, c ≤ M ∧ i = .int .i64 c ∧ ∃ s, Inv s w' ∧ w.heap.size ≤ w'.heap.size ∧ runs step s0 (places p) = runs step s (rowFrom p 0 c ++ placesFrom p 3)) (fun i _ => M - (intOf i).toNat)
    case atStart => exact ⟨0, by omega, rfl, s, HM.out _ _ _ hI (pw_below_drewN (Below.refl _ _) _), by simpa using hsz, HR.out⟩
    case round =>
     clear HR hI hsz
     obtain ⟨c, hc, rfl, s, hI, hsz, hrun⟩ := hrel
     have HR := Lib.hid hrun
     clear hrun
     by_cases hlt : c < M
     ·go_wp2_with fail
      refine wp_loop_rounds 4 ?_
      rw [rounds_succ]
      go_wp2_with fail
      rw [rounds_succ]
      go_wp2_with fail
      rw [rounds_succ]
      go_wp2_with fail
      rw [rounds_succ]
      go_wp2_with fail
      refine (HQ.out s [1, (wrap64 ((wrap64 ((c : Int) / (p : Int))).tdiv (p : Int))).tmod (p : Int), (wrap64 ((c : Int) / (p : Int))).tmod (p : Int), (c : Int) % (p : Int)] _ 4 _ (HM.out _ _ _ hI ((Below.refl _ _).alloc hsz _)) (by simp; omega) rfl (C_of_block (by simpa using heap_alloc_new wr _) (by simp)) (Nat.le_refl 4)).mono ?_
      rw [show ([1, (wrap64 ((wrap64 ((c : Int) / (p : Int))).tdiv (p : Int))).tmod (p : Int), (wrap64 ((c : Int) / (p : Int))).tmod (p : Int), (c : Int) % (p : Int)] : List Int) = placeRow p 0 c from (by rw [(digits_eq p c h7 (by omega)).1, (digits_eq p c h7 (by omega)).2]; rfl)]
      rintro e w' ⟨rfl, hI2, hsz2⟩
      have hn := rowFrom_step step p 0 c s [] (by rw [HMM.out]; exact hlt)
      have HN := Lib.hid hn
      clear hn
      cases hb : (step s (placeRow p 0 c)).2
      ·have hfin : runs step s0 (places p) = (step s (placeRow p 0 c)).1 := by rw [HR.out, HN.out, List.cons_append, runs, if_neg (by rw [hb]; simp)]
       have HF := Lib.hid hfin
       clear hfin; go_wp2
       refine bodyPost_ret (results_none rfl _ _ _) rfl ?_
       exact ⟨rfl, by rw [HF.out]; exact hI2⟩
      ·have hfin : runs step s0 (places p) = runs step (step s (placeRow p 0 c)).1 (rowFrom p 0 (c + 1) ++ placesFrom p 3) := by rw [HR.out, HN.out, List.cons_append, runs, if_pos hb]
       have HF := Lib.hid hfin
       clear hfin; go_wp2
       exact ⟨⟨c + 1, by omega, by go_num, _, hI2, by simp at hsz2; omega, HF.out⟩, by simp [intOf]; omega⟩
     ·go_wp2_with fail
      exact ⟨⟨1, by omega, by omega, rfl, s, hI, hsz, by rw [HR.out, show c = placeMany p 0 from by rw [HMM.out]; omega, rowFrom_end]; rfl⟩, by simp [intOf]⟩
   ·have hpe := power_eq p h31 1 (by omega)
    generalize hM : placeMany p 1 = M at hpe
    obtain ⟨hp1, hMb⟩ := hpe
    have HP := Lib.hid hp1
    have HMM := Lib.hid hM
    clear hp1 hM
    go_wp2_with fail
    refine (impl_power.calls 6 (p : Int) 2 (M : Int) _ HP.out).mono ?_
    rintro e w1 ⟨rfl, ⟨m1, rfl⟩⟩
    go_wp2
    go_loopw [19] (fun i w' => ∃ c : Nat, c ≤ M ∧ i = .int .i64 c ∧ ∃ s, Inv s w' ∧ w.heap.size ≤ w'.heap.size ∧ runs step s0 (places p) = runs step s (rowFrom p 1 c ++ placesFrom p 2)) (fun i _ => M - (intOf i).toNat)
    case atStart => exact ⟨0, by omega, rfl, s, HM.out _ _ _ hI (pw_below_drewN (Below.refl _ _) _), by simpa using hsz, HR.out⟩
    case round =>
     clear HR hI hsz
     obtain ⟨c, hc, rfl, s, hI, hsz, hrun⟩ := hrel
     have HR := Lib.hid hrun
     clear hrun
     by_cases hlt : c < M
     ·go_wp2_with fail
      refine wp_loop_rounds 3 ?_
      rw [rounds_succ]
      go_wp2_with fail
      rw [rounds_succ]
      go_wp2_with fail
      rw [rounds_succ]
      go_wp2_with fail
      refine (HQ.out s [0, 1, (wrap64 ((c : Int) / (p : Int))).tmod (p : Int), (c : Int) % (p : Int)] _ 4 _ (HM.out _ _ _ hI ((Below.refl _ _).alloc hsz _)) (by simp; omega) rfl (C_of_block (by simpa using heap_alloc_new wr _) (by simp)) (Nat.le_refl 4)).mono ?_
      rw [show ([0, 1, (wrap64 ((c : Int) / (p : Int))).tmod (p : Int), (c : Int) % (p : Int)] : List Int) = placeRow p 1 c from (by rw [(digits_eq p c h7 (by omega)).2]; rfl)]
      rintro e w' ⟨rfl, hI2, hsz2⟩
      have hn := rowFrom_step step p 1 c s [] (by rw [HMM.out]; exact hlt)
      have HN := Lib.hid hn
      clear hn
      cases hb : (step s (placeRow p 1 c)).2
      ·have hfin : runs step s0 (places p) = (step s (placeRow p 1 c)).1 := by rw [HR.out, HN.out, List.cons_append, runs, if_neg (by rw [hb]; simp)]
       have HF := Lib.hid hfin
       clear hfin; go_wp2
       refine bodyPost_ret (results_none rfl _ _ _) rfl ?_
       exact ⟨rfl, by rw [HF.out]; exact hI2⟩
      ·have hfin : runs step s0 (places p) = runs step (step s (placeRow p 1 c)).1 (rowFrom p 1 (c + 1) ++ placesFrom p 2) := by rw [HR.out, HN.out, List.cons_append, runs, if_pos hb]
       have HF := Lib.hid hfin
       clear hfin; go_wp2
       exact ⟨⟨c + 1, by omega, by go_num, _, hI2, by simp at hsz2; omega, HF.out⟩, by simp [intOf]; omega⟩
     ·go_wp2_with fail
      exact ⟨⟨2, by omega, by omega, rfl, s, hI, hsz, by rw [HR.out, show c = placeMany p 1 from by rw [HMM.out]; omega, rowFrom_end]; rfl⟩, by simp [intOf]⟩
   ·have hpe := power_eq p h31 2 (by omega)
    generalize hM : placeMany p 2 = M at hpe
    obtain ⟨hp1, hMb⟩ := hpe
    have HP := Lib.hid hp1
    have HMM := Lib.hid hM
    clear hp1 hM
    go_wp2_with fail
    refine (impl_power.calls 6 (p : Int) 1 (M : Int) _ HP.out).mono ?_
    rintro e w1 ⟨rfl, ⟨m1, rfl⟩⟩
    go_wp2
    go_loopw [19] (fun i w' => ∃ c : Nat, c ≤ M ∧ i = .int .i64 c ∧ ∃ s, Inv s w' ∧ w.heap.size ≤ w'.heap.size ∧ runs step s0 (places p) = runs step s (rowFrom p 2 c ++ placesFrom p 1)) (fun i _ => M - (intOf i).toNat)
    case atStart => exact ⟨0, by omega, rfl, s, HM.out _ _ _ hI (pw_below_drewN (Below.refl _ _) _), by simpa using hsz, HR.out⟩
    case round =>
     clear HR hI hsz
     obtain ⟨c, hc, rfl, s, hI, hsz, hrun⟩ := hrel
     have HR := Lib.hid hrun
     clear hrun
     by_cases hlt : c < M
     ·go_wp2_with fail
      refine wp_loop_rounds 2 ?_
      rw [rounds_succ]
      go_wp2_with fail
      rw [rounds_succ]
      go_wp2_with fail
      refine (HQ.out s [0, 0, 1, (c : Int) % (p : Int)] _ 4 _ (HM.out _ _ _ hI ((Below.refl _ _).alloc hsz _)) (by simp; omega) rfl (C_of_block (by simpa using heap_alloc_new wr _) (by simp)) (Nat.le_refl 4)).mono ?_
      rw [show ([0, 0, 1, (c : Int) % (p : Int)] : List Int) = placeRow p 2 c from rfl]
      rintro e w' ⟨rfl, hI2, hsz2⟩
      have hn := rowFrom_step step p 2 c s [] (by rw [HMM.out]; exact hlt)
      have HN := Lib.hid hn
      clear hn
      cases hb : (step s (placeRow p 2 c)).2
      ·have hfin : runs step s0 (places p) = (step s (placeRow p 2 c)).1 := by rw [HR.out, HN.out, List.cons_append, runs, if_neg (by rw [hb]; simp)]
       have HF := Lib.hid hfin
       clear hfin; go_wp2
       refine bodyPost_ret (results_none rfl _ _ _) rfl ?_
       exact ⟨rfl, by rw [HF.out]; exact hI2⟩
      ·have hfin : runs step s0 (places p) = runs step (step s (placeRow p 2 c)).1 (rowFrom p 2 (c + 1) ++ placesFrom p 1) := by rw [HR.out, HN.out, List.cons_append, runs, if_pos hb]
       have HF := Lib.hid hfin
       clear hfin; go_wp2
       exact ⟨⟨c + 1, by omega, by go_num, _, hI2, by simp at hsz2; omega, HF.out⟩, by simp [intOf]; omega⟩
     ·go_wp2_with fail
      exact ⟨⟨3, by omega, by omega, rfl, s, hI, hsz, by rw [HR.out, show c = placeMany p 2 from by rw [HMM.out]; omega, rowFrom_end]; rfl⟩, by simp [intOf]⟩
   ·have hpe := power_eq p h31 3 (by omega)
    generalize hM : placeMany p 3 = M at hpe
    obtain ⟨hp1, hMb⟩ := hpe
    have HP := Lib.hid hp1
    have HMM := Lib.hid hM
    clear hp1 hM
    go_wp2_with fail
    refine (impl_power.calls 6 (p : Int) 0 (M : Int) _ HP.out).mono ?_
    rintro e w1 ⟨rfl, ⟨m1, rfl⟩⟩
    go_wp2
    go_loopw [19] (fun i w' => ∃ c : Nat, c ≤ M ∧ i = .int .i64 c ∧ ∃ s, Inv s w' ∧ w.heap.size ≤ w'.heap.size ∧ runs step s0 (places p) = runs step s (rowFrom p 3 c ++ placesFrom p 0)) (fun i _ => M - (intOf i).toNat)
    case atStart => exact ⟨0, by omega, rfl, s, HM.out _ _ _ hI (pw_below_drewN (Below.refl _ _) _), by simpa using hsz, HR.out⟩
    case round =>
     clear HR hI hsz
     obtain ⟨c, hc, rfl, s, hI, hsz, hrun⟩ := hrel
     have HR := Lib.hid hrun
     clear hrun
     by_cases hlt : c < M
     ·go_wp2_with fail
      refine wp_loop_rounds 1 ?_
      rw [rounds_succ]
      go_wp2_with fail
      refine (HQ.out s [0, 0, 0, 1] _ 4 _ (HM.out _ _ _ hI ((Below.refl _ _).alloc hsz _)) (by simp; omega) rfl (C_of_block (by simpa using heap_alloc_new wr _) (by simp)) (Nat.le_refl 4)).mono ?_
      rw [show ([0, 0, 0, 1] : List Int) = placeRow p 3 c from rfl]
      rintro e w' ⟨rfl, hI2, hsz2⟩
      have hn := rowFrom_step step p 3 c s [] (by rw [HMM.out]; exact hlt)
      have HN := Lib.hid hn
      clear hn
      cases hb : (step s (placeRow p 3 c)).2
      ·have hfin : runs step s0 (places p) = (step s (placeRow p 3 c)).1 := by rw [HR.out, HN.out, List.cons_append, runs, if_neg (by rw [hb]; simp)]
       have HF := Lib.hid hfin
       clear hfin; go_wp2
       refine bodyPost_ret (results_none rfl _ _ _) rfl ?_
       exact ⟨rfl, by rw [HF.out]; exact hI2⟩
      ·have hfin : runs step s0 (places p) = runs step (step s (placeRow p 3 c)).1 (rowFrom p 3 (c + 1) ++ placesFrom p 0) := by rw [HR.out, HN.out, List.cons_append, runs, if_pos hb]
       have HF := Lib.hid hfin
       clear hfin; go_wp2
       exact ⟨⟨c + 1, by omega, by go_num, _, hI2, by simp at hsz2; omega, HF.out⟩, by simp [intOf]; omega⟩
     ·go_wp2_with fail
      exact ⟨⟨4, by omega, by omega, rfl, s, hI, hsz, by rw [HR.out, show c = placeMany p 3 from by rw [HMM.out]; omega, rowFrom_end]; rfl⟩, by simp [intOf]⟩
end Go.Proofs.Ytmgbpmihbljngaa.PA

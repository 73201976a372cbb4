-- Written by xprint.py, a program of this claim's own (over the kit's print.py)
import Derived.Test.YtmenehnfgenlpaaPAx0
import Derived.Test.YtmenehnfgenlpaaPAx6
import Derived.Test.YtmenehnfgenlpaaPAx7
import Derived.Test.YtmenehnfgenlpaaPAx9
import Derived.Test.YtmenehnfgenlpaaPAx10
import Derived.BigQuiet
import Derived.Deep.QuietTactic
namespace Go.Proofs.Ytmenehnfgenlpaa.PA
open Go.RowKit Go.Proofs.YtmenehnfgenlpaaW.PrintWords Go.Proofs.YtmenehnfgenlpaaW.PrintLast Go.Proofs.YtmenehnfgenlpaaW.PrintMore
attribute [local go_sem] max2_int min2_int max_two min_two max_three min_three max_four min_four   -- for this text's walks alone
set_option linter.unusedVariables false
set_option linter.unusedSimpArgs false

/-! ### slices_Equal_int_int: function 68 -/
def slices_Equal_int_int.l0 : Nat → List Int → List Int → Int → Int → Option (Bool)
 | 0, _, _, _, _ => none
 | k + 1, x0, x1, x12, x13 => if x13 < x12 then (if 0 ≤ x13 then (if x13 < (x0.length : Int) then (if x13 < (x1.length : Int) then (if (rd x0 x13) = (rd x1 x13) then (slices_Equal_int_int.l0 k x0 x1 x12 (wrap64 (x13 + 1))) else (some false)) else (none)) else (none)) else (none)) else (some true)
def slices_Equal_int_int.f (k : Nat) (l0 : List Int) (l1 : List Int) : Option (Bool) := if (l0.length : Int) = (l1.length : Int) then (slices_Equal_int_int.l0 k l0 l1 (l0.length : Int) 0) else (some false)
theorem slices_Equal_int_int.mono_l : ∀ k, (∀ y0 y1 y2 y3, LeO (slices_Equal_int_int.l0 k y0 y1 y2 y3) (slices_Equal_int_int.l0 (k + 1) y0 y1 y2 y3))
 | 0 => fun _ _ _ _ r h => by simp [slices_Equal_int_int.l0] at h
 | k + 1 => by
  have ih0 := slices_Equal_int_int.mono_l k
  ·intro y0 y1 y2 y3
   unfold slices_Equal_int_int.l0
   repeat' first | (with_reducible first | apply ih0 | exact LeO.refl _ | exact LeO.none _ | refine LeO.ite ?_ ?_ | refine LeO.bind ?_ (fun _ => ?_)) | (first | apply ih0 | exact LeO.none _ | refine LeO.ite ?_ ?_ | refine LeO.bind ?_ (fun _ => ?_))
theorem slices_Equal_int_int.mono : ∀ a0 a1 k, LeO (slices_Equal_int_int.f k a0 a1) (slices_Equal_int_int.f (k + 1) a0 a1) := by
 intro a0 a1 k
 have ih0 := slices_Equal_int_int.mono_l k
 unfold slices_Equal_int_int.f
 repeat' first | (with_reducible first | apply ih0 | exact LeO.refl _ | exact LeO.none _ | refine LeO.ite ?_ ?_ | refine LeO.bind ?_ (fun _ => ?_)) | (first | apply ih0 | exact LeO.none _ | refine LeO.ite ?_ ?_ | refine LeO.bind ?_ (fun _ => ?_))
set_option maxHeartbeats 8000000 in
set_option maxRecDepth 100000 in
theorem slices_Equal_int_int.calls (k : Nat) (A0 : Option Addr) (c0 : Nat) (l0 : List Int) (A1 : Option Addr) (c1 : Nat) (l1 : List Int) (r : Bool) (w : World) (hr0 : Kd.C (Kd.int .i64) w A0 l0.length l0) (hc0 : l0.length ≤ c0) (hr1 : Kd.C (Kd.int .i64) w A1 l1.length l1) (hc1 : l1.length ≤ c1) (h : slices_Equal_int_int.f k l0 l1 = some r) :
  Calls Try.prog 68 #[.slice A0 l0.length c0, .slice A1 l1.length c1] w fun e w' => e = .returned (.bool r) ∧ Drawn0 w w' := by
 have HR0 := am hr0
 have HC0 := am hc0
 clear hr0 hc0
 have HR1 := am hr1
 have HC1 := am hc1
 clear hr1 hc1
 have H : (if (l0.length : Int) = (l1.length : Int) then (slices_Equal_int_int.l0 k l0 l1 (l0.length : Int) 0) else (some false)) = some r := h
 clear h
 by_cases c3 : (l0.length : Int) = (l1.length : Int)
 ·rw [if_pos c3] at H
  have c3b0 := beq_iff_eq.mpr c3; have c3b1 := bne_eq_false_iff_eq.mpr c3
  have c3b2 : (l0.length == l1.length) = true := by first | simpa using c3 | (simp at c3 ⊢; omega)
  clear c3; have H' := am H; clear H
  go_enter Try.func68, Try.ntmps68
  go_wp2
  repeat (go_quiet (fail); try go_wp2)
  go_loopg [13] k (fun kq v13 w' => ∃ (x13_1 : Int), v13 = .int .i64 x13_1 ∧ Aside0 (slices_Equal_int_int.l0 kq l0 l1 (l0.length : Int) x13_1 = some r) ∧ Aside0 (kq ≤ k) ∧ Drawn0 w w')
  case atStart => exact ⟨(0), fr, H', ⟨Nat.le_refl _⟩, df⟩
  case round =>
   clear H'; try clear c1; try clear p2; try clear c3; try clear c3b0; try clear c3b1; try clear c3b2
   obtain ⟨x13_1, rfl, HA, HK1, ⟨m1, rfl⟩⟩ := hrel
   cases gk with
   | zero => exact absurd HA.out (by simp [slices_Equal_int_int.l0])
   | succ k1 =>
    have H := HA.out; clear HA
    simp only [slices_Equal_int_int.l0] at H
    by_cases c4 : x13_1 < (l0.length : Int)
    ·rw [if_pos c4] at H
     have c4b0 := decide_eq_true c4; clear c4; replace H := ifn H; obtain ⟨c5, H⟩ := H; have c5b0 := decide_eq_true c5; clear c5; replace H := ifn H; obtain ⟨c6, H⟩ := H; have c6b0 := decide_eq_true c6; clear c6; replace H := ifn H; obtain ⟨c7, H⟩ := H
     have c7b0 := decide_eq_true c7; clear c7
     by_cases c8 : (rd l0 x13_1) = (rd l1 x13_1)
     ·rw [if_pos c8] at H
      have c8b0 := beq_iff_eq.mpr c8; have c8b1 := bne_eq_false_iff_eq.mpr c8; clear c8; have H' := am H; clear H
      have p376 : 0 ≤ (x13_1 : Int) := od
      have q376 : x13_1 < (l0.length : Int) := od
      obtain ⟨ad376, e376, hx376_0⟩ := Kd.at_int HR0.out x13_1 p376 q376
      cases e376; replace p376 := eq_true p376; replace q376 := eq_true q376
      have p377 : 0 ≤ (x13_1 : Int) := od
      have q377 : x13_1 < (l1.length : Int) := od
      obtain ⟨ad377, e377, hx377_0⟩ := Kd.at_int HR1.out x13_1 p377 q377
      cases e377; replace p377 := eq_true p377; replace q377 := eq_true q377; go_wp2
      repeat (go_quiet (fail); try go_wp2)
      go_roundg k1
      case measure => have := HK1.out; omega
      case rel => exact ⟨(wrap64 (x13_1 + 1)), fr, H', ⟨by have := HK1.out; omega⟩, df⟩
     ·rw [if_neg c8] at H
      have c8b0 := beq_eq_false_iff_ne.mpr c8; have c8b1 := bne_iff_ne.mpr c8; obtain rfl := Option.some.inj H
      have p376 : 0 ≤ (x13_1 : Int) := od
      have q376 : x13_1 < (l0.length : Int) := od
      obtain ⟨ad376, e376, hx376_0⟩ := Kd.at_int HR0.out x13_1 p376 q376
      cases e376; replace p376 := eq_true p376; replace q376 := eq_true q376
      have p377 : 0 ≤ (x13_1 : Int) := od
      have q377 : x13_1 < (l1.length : Int) := od
      obtain ⟨ad377, e377, hx377_0⟩ := Kd.at_int HR1.out x13_1 p377 q377
      cases e377; replace p377 := eq_true p377; replace q377 := eq_true q377; go_wp2
      repeat (go_quiet (fail); try go_wp2)
      go_ret
      exact ⟨fr, df⟩
    ·rw [if_neg c4] at H
     have c4b0 := decide_eq_false c4; clear c4; obtain rfl := Option.some.inj H; go_wp2
     repeat (go_quiet (fail); try go_wp2)
     go_ret
     exact ⟨fr, df⟩
 ·rw [if_neg c3] at H
  have c3b0 := beq_eq_false_iff_ne.mpr c3; have c3b1 := bne_iff_ne.mpr c3
  have c3b2 : (l0.length == l1.length) = false := by first | simpa using c3 | (simp at c3 ⊢; omega)
  obtain rfl := Option.some.inj H
  go_enter Try.func68, Try.ntmps68
  go_wp2
  repeat (go_quiet (fail); try go_wp2)
  go_ret
  exact ⟨fr, df⟩/-! ### slices_IndexFunc_int_int_101: function 101 (by hand) -/
/-- the first place at which q holds, or -1 -/
def idxOf (q : Int → Bool) : List Int → Int → Int
 | [], _ => -1
 | x :: xs, i => if q x then i else idxOf q xs (i + 1)
theorem idxOf_lt (q : Int → Bool) : ∀ (l : List Int) (i : Int), 0 ≤ i → idxOf q l i < i + l.length ∧ (-1 ≤ idxOf q l i) ∧ (0 ≤ idxOf q l i → i ≤ idxOf q l i)
 | [], i, h => by simp [idxOf]; omega
 | x :: xs, i, h => by
  have := idxOf_lt q xs (i + 1) (by omega)
  unfold idxOf; simp only [List.length_cons]
  split <;> omega
theorem ret_int {k : IntKind} {a b : Int} (h : a = b) : Ending.returned (.int k a) = .returned (.int k b) := by rw [h]
theorem ret_bool {a b : Bool} (h : a = b) : Ending.returned (.bool a) = .returned (.bool b) := by rw [h]
theorem rd_nat (l : List Int) (j : Nat) (h : j < l.length) : rd l (j : Int) = l[j] := by simp [rd, List.getD_eq_getElem?_getD, h]
set_option maxHeartbeats 400000 in
theorem indexFunc_any (g : Nat) (lb : Array Value) (q : Int → Bool) (A0 : Option Addr) (c0 : Nat) (l0 : List Int) (w : World) (hr0 : Kd.C (Kd.int .i64) w A0 l0.length l0)
  (he : ∀ args w, (callFunc g args).run Try.prog w = .ok (.enter g args) w)
  (hq : ∀ (x : Int) (w1 : World), Drawn0 w w1 → Calls Try.prog g (#[.int .i64 x] ++ lb) w1 fun e w' => e = .returned (.bool (q x)) ∧ Drawn0 w1 w') :
  Calls Try.prog 101 #[.slice A0 l0.length c0, .func (.func g) #[] lb] w fun e w' => e = .returned (.int .i64 (idxOf q l0 0)) ∧ Drawn0 w w' := by
 have hm := hr0.2.1
 go_enter Try.func101, Try.ntmps101
 go_wp2
 go_loopw [8] (fun i w' => ∃ j : Nat, j ≤ l0.length ∧ i = .int .i64 j ∧ idxOf q l0 0 = idxOf q (l0.drop j) j ∧ Drawn0 w w') (fun i _ => l0.length - (intOf i).toNat)
 case atStart => exact ⟨0, Nat.zero_le _, rfl, by simp, Drawn0.refl _⟩
 case round =>
  obtain ⟨j, hj, rfl, hidx, ⟨m1, rfl⟩⟩ := hrel
  have HIDX := Lib.hid hidx
  clear hidx
  by_cases hlt : j < l0.length
  ·obtain ⟨ad, e, hx⟩ := Kd.at_int hr0 (j : Int) (by omega) (by omega)
   subst e
   simp only [Int.toNat_natCast] at hx
   have hcall := hq (rd l0 j) (w.drewN m1) ⟨m1, rfl⟩
   have HC := Lib.hid hcall
   clear hcall hq
   cases hv : q (rd l0 j)
   all_goals
    go_wp2_with fail
    refine (HC.out).mono ?_
    rintro e w' ⟨rfl, ⟨m2, rfl⟩⟩
    simp only [hv]
    go_wp2
   ·go_roundw
    case rel => exact ⟨j + 1, by omega, by go_num, by rw [HIDX.out, List.drop_eq_getElem_cons hlt, idxOf, if_neg (by rw [← rd_nat l0 j hlt, hv]; simp)]; simp, ⟨m1 + m2, by simp⟩⟩
    case measure => simp [intOf]; omega
   ·go_ret
    exact ⟨ret_int (a := (j : Int)) (by rw [HIDX.out, List.drop_eq_getElem_cons hlt, idxOf, if_pos (by rw [← rd_nat l0 j hlt, hv])]), ⟨m1 + m2, by simp⟩⟩
  ·go_wp2
   go_ret
   exact ⟨ret_int (a := -1) (by rw [HIDX.out, List.drop_eq_nil_of_le (by omega), idxOf]), ⟨m1, rfl⟩⟩/-! ### slices_ContainsFunc_int_int: function 93 (by hand) -/
theorem containsFunc_any (g : Nat) (lb : Array Value) (q : Int → Bool) (A0 : Option Addr) (c0 : Nat) (l0 : List Int) (w : World) (hr0 : Kd.C (Kd.int .i64) w A0 l0.length l0)
  (he : ∀ args w, (callFunc g args).run Try.prog w = .ok (.enter g args) w)
  (hq : ∀ (x : Int) (w1 : World), Drawn0 w w1 → Calls Try.prog g (#[.int .i64 x] ++ lb) w1 fun e w' => e = .returned (.bool (q x)) ∧ Drawn0 w1 w') :
  Calls Try.prog 93 #[.slice A0 l0.length c0, .func (.func g) #[] lb] w fun e w' => e = .returned (.bool (decide (idxOf q l0 0 ≥ 0))) ∧ Drawn0 w w' := by
 have HC := Lib.hid (indexFunc_any g lb q A0 c0 l0 w hr0 he hq)
 clear hq
 go_enter Try.func93, Try.ntmps93
 go_wp2_with fail
 refine HC.out.mono ?_
 rintro e w' ⟨rfl, ⟨m2, rfl⟩⟩
 go_wp2; go_ret
 exact ⟨rfl, ⟨m2, rfl⟩⟩/-! ### impl_areNumbers: function 75 (by hand) -/
theorem notIn_any (x p : Int) (b : Nat) (w : World) (hc : w.cell? ⟨b, 0, none⟩ = some (.int .i64 p)) :
  Calls Try.prog 94 #[.int .i64 x, .pointer (some ⟨b, 0, none⟩)] w fun e w' => e = .returned (.bool (decide (x < 0) || decide (x ≥ p))) ∧ Drawn0 w w' := by
 by_cases h : x < 0
 ·have h1 : decide (x < 0) = true := decide_eq_true h
  go_enter Try.func94, Try.ntmps94
  go_wp2; go_ret
  exact ⟨by simp [h], Drawn0.refl _⟩
 ·have h1 : decide (x < 0) = false := decide_eq_false h
  go_enter Try.func94, Try.ntmps94
  go_wp2; go_ret
  exact ⟨by simp [h], Drawn0.refl _⟩
/-- the primes of the program -/
def primeB (p : Int) : Bool := decide (p = 7 ∨ p = 11 ∨ p = 13 ∨ p = 17 ∨ p = 19 ∨ p = 23 ∨ p = 29 ∨ p = 31)
theorem isPrime_f (a : Int) : impl_isPrime.f 20 a = some (primeB a) := by
 by_cases h : a = 7 ∨ a = 11 ∨ a = 13 ∨ a = 17 ∨ a = 19 ∨ a = 23 ∨ a = 29 ∨ a = 31
 ·rcases h with rfl | rfl | rfl | rfl | rfl | rfl | rfl | rfl <;> decide +kernel
 ·have h' := h
  simp only [not_or] at h
  obtain ⟨h1, h2, h3, h4, h5, h6, h7, h8⟩ := h
  simp [impl_isPrime.f, slices_Contains_int_int.f, slices_Index_int_int.f, slices_Index_int_int.l0, rd, wrap64, h1, h2, h3, h4, h5, h6, h7, h8, primeB]
theorem idxOf_ge (q : Int → Bool) : ∀ (l : List Int) (i : Int), 0 ≤ i → decide (idxOf q l i ≥ 0) = l.any q
 | [], i, h => by simp [idxOf]
 | x :: xs, i, h => by
  unfold idxOf
  cases hq : q x
  ·simp [hq, idxOf_ge q xs (i + 1) (by omega)]
  ·simp [hq, h]
def impl_areNumbers.f (a0 : Int) (l1 : List Int) (a2 : Int) : Option Bool := some (primeB a0 && decide ((l1.length : Int) = a2) && l1.all fun x => decide (0 ≤ x) && decide (x < a0))
theorem impl_areNumbers.not (p : Int) (l : List Int) : (!decide (idxOf (fun x => decide (x < 0) || decide (x ≥ p)) l 0 ≥ 0)) = l.all fun x => decide (0 ≤ x) && decide (x < p) := by
 rw [idxOf_ge _ l 0 (by omega), List.not_any_eq_all_not]
 congr 1
 funext x
 rw [Bool.eq_iff_iff]
 simp only [Bool.not_eq_true', Bool.or_eq_false_iff, decide_eq_false_iff_not, Bool.and_eq_true, decide_eq_true_eq]
 omega
set_option maxHeartbeats 1000000 in
theorem impl_areNumbers.calls (a0 : Int) (A1 : Option Addr) (c1 : Nat) (l1 : List Int) (a2 : Int) (r : Bool) (w : World) (hr1 : Kd.C (Kd.int .i64) w A1 l1.length l1) (hc1 : l1.length ≤ c1) (h : impl_areNumbers.f a0 l1 a2 = some r) :
  Calls Try.prog 75 #[.int .i64 a0, .slice A1 l1.length c1, .int .i64 a2] w fun e w' => e = .returned (.bool r) ∧ Below w.heap.size w w' := by
 have H := Lib.hid h
 clear h
 have hmf : ∀ (fn : Fn) (first cap : Array Value) (w : World), (Instr.makeFunc fn first cap).run Try.prog w = .ok (.func fn first cap) w := fun _ _ _ _ => rfl
 cases hp : primeB a0
 ·have HP := Lib.hid hp
  clear hp
  go_enter Try.func75, Try.ntmps75
  go_wp2_with fail
  refine (impl_isPrime.calls 20 a0 false _ (by rw [isPrime_f, HP.out])).mono ?_
  rintro e w1 ⟨rfl, hb⟩
  go_wp2; go_ret
  exact ⟨ret_bool (a := false) (by simpa [impl_areNumbers.f, HP.out] using H.out), (below_alloc (Below.refl _ _) _).trans (hb.mono (by simp))⟩
 ·have HP := Lib.hid hp
  clear hp
  by_cases hl : (l1.length : Int) = a2
  ·have hl1 : ((l1.length : Int) == a2) = true := beq_iff_eq.mpr hl
   have HL := Lib.hid hl
   clear hl
   go_enter Try.func75, Try.ntmps75
   go_wp2_with fail
   refine (impl_isPrime.calls 20 a0 true _ (by rw [isPrime_f, HP.out])).mono ?_
   rintro e w1 ⟨rfl, hb⟩
   have hcell : w1.cell? ⟨w.heap.size, 0, none⟩ = some (.int .i64 a0) := by
    rw [hb.cell (p := ⟨w.heap.size, 0, none⟩) (by simp)]; simp [go_sem]
   have hr2 := Kd.C_below hr1 ((below_alloc (Below.refl _ _) _).trans (hb.mono (by simp)))
   go_wp2_with fail
   refine (containsFunc_any 94 #[.pointer (some ⟨w.heap.size, 0, none⟩)] (fun x => decide (x < 0) || decide (x ≥ a0)) A1 c1 l1 w1 hr2 (Go.Proofs.enters_of Try.func94 (by kernel_rfl) rfl) (fun x w2 ⟨m, hm⟩ => by subst hm; exact notIn_any x a0 w.heap.size _ (by simpa using hcell))).mono ?_
   rintro e w2 ⟨rfl, ⟨m, rfl⟩⟩
   go_wp2; go_ret
   exact ⟨ret_bool (a := !decide (idxOf (fun x => decide (x < 0) || decide (x ≥ a0)) l1 0 ≥ 0)) (by rw [impl_areNumbers.not]; simpa [impl_areNumbers.f, HP.out, HL.out] using H.out), pw_below_drewN ((below_alloc (Below.refl _ _) _).trans (hb.mono (by simp))) m⟩
  ·have hl1 : ((l1.length : Int) == a2) = false := beq_eq_false_iff_ne.mpr hl
   have HL := Lib.hid hl
   clear hl
   go_enter Try.func75, Try.ntmps75
   go_wp2_with fail
   refine (impl_isPrime.calls 20 a0 true _ (by rw [isPrime_f, HP.out])).mono ?_
   rintro e w1 ⟨rfl, hb⟩
   go_wp2; go_ret
   exact ⟨ret_bool (a := false) (by simpa [impl_areNumbers.f, HP.out, HL.out] using H.out), (below_alloc (Below.refl _ _) _).trans (hb.mono (by simp))⟩/-! ### impl_isSpaceLine: function 45 -/
def impl_isSpaceLine.f (k : Nat) (a0 : Int) (l1 : List Int) : Option (Bool) := (impl_areNumbers.f a0 l1 8).bind fun t378 => (if t378 = true then ((impl_rowsOf.f l1).bind fun t379 => ((impl_spanOf.f k a0 t379).bind fun t382 => ((slices_Equal_int_int.f k t382 l1).bind fun t385 => (some t385)))) else (some false))
theorem impl_isSpaceLine.mono : ∀ a0 a1 k, LeO (impl_isSpaceLine.f k a0 a1) (impl_isSpaceLine.f (k + 1) a0 a1) := by
 intro a0 a1 k
 unfold impl_isSpaceLine.f
 repeat' first | (with_reducible first | apply impl_spanOf.mono | apply slices_Equal_int_int.mono | exact LeO.refl _ | exact LeO.none _ | refine LeO.ite ?_ ?_ | refine LeO.bind ?_ (fun _ => ?_)) | (first | apply impl_spanOf.mono | apply slices_Equal_int_int.mono | exact LeO.none _ | refine LeO.ite ?_ ?_ | refine LeO.bind ?_ (fun _ => ?_))
set_option maxHeartbeats 8000000 in
set_option maxRecDepth 100000 in
theorem impl_isSpaceLine.calls (k : Nat) (a0 : Int) (A1 : Option Addr) (c1 : Nat) (l1 : List Int) (r : Bool) (w : World) (hr1 : Kd.C (Kd.int .i64) w A1 l1.length l1) (hc1 : l1.length ≤ c1) (h : impl_isSpaceLine.f k a0 l1 = some r) :
  Calls Try.prog 45 #[.int .i64 a0, .slice A1 l1.length c1] w fun e w' => e = .returned (.bool r) ∧ Below w.heap.size w w' := by
 have HR1 := am hr1
 have HC1 := am hc1
 clear hr1 hc1
 have HB := am (Below.refl w.heap.size w)
 have H : ((impl_areNumbers.f a0 l1 8).bind fun t378 => (if t378 = true then ((impl_rowsOf.f l1).bind fun t379 => ((impl_spanOf.f k a0 t379).bind fun t382 => ((slices_Equal_int_int.f k t382 l1).bind fun t385 => (some t385)))) else (some false))) = some r := h
 clear h; replace H := bs H; obtain ⟨t378, A3, H⟩ := H
 by_cases c4 : t378 = true
 ·subst c4
  rw [if_pos rfl] at H
  replace H := bs H; obtain ⟨t379, A5, H⟩ := H; replace H := bs H; obtain ⟨t382, A6, H⟩ := H; replace H := bs H; obtain ⟨t385, A7, H⟩ := H; obtain rfl := Option.some.inj H
  go_enter Try.func45, Try.ntmps45
  go_wp2_with (first | ((with_reducible refine gate_callee (f := 75) rfl ?_); refine gl 7 Try.func75 #[.int .i64 a0, .slice A1 l1.length c1, .int .i64 8] ?_; (with_reducible refine (impl_areNumbers.calls a0 _ _ l1 8 true _ ?_ ?_ A3.out).mono ?_); exact wC HR1; exact HC1.out; rintro e w8 ⟨rfl, hb⟩; refine ⟨_, rfl, ?_⟩; replace HB := bq HB hb; (try clear hb)) | (go_at_call 81; (with_reducible refine (impl_rowsOf.calls (fun k_ => k_ < w.heap.size) _ _ l1 t379 _ ?_ A5.out).mono ?_); exact Kd.V_mk HC1.out (Kd.F_below (Kd.C_F (Kd.heap_int .i64) HR1.out) (bw HB)); rintro e w9 ⟨v380, rfl, ho0, hb⟩; have HO381 := am (Kd.N_lower (Kd.N_mono (ok' := fun k_ => True) ho0 (fun k_ hk_ => trivial)) (bz HB)); replace HB := bq HB hb; (try clear hb); (try clear ho0); obtain ⟨Ao10, co10, eo10⟩ := Kd.N_slice HO381.out; subst eo10) | (go_at_call 69; (with_reducible refine (impl_spanOf.calls k a0 _ _ t379 t382 _ ?_ ?_ A6.out).mono ?_); exact Kd.C_below (Kd.N_reads' HO381.out).2.2 gs; exact (Kd.N_reads' HO381.out).2.1; rintro e w11 ⟨v383, rfl, ho0, hb⟩; replace HO381 := eN HO381 (Kd.R_base ho0) hb; have HO384 := am (Kd.R_lower ho0 (bz HB)); replace HB := bq HB hb; (try clear hb); (try clear ho0); obtain ⟨Ao12, co12, eo12⟩ := Kd.R_slice HO384.out; subst eo12) | (go_at_call 68; (with_reducible refine (slices_Equal_int_int.calls k _ _ t382 _ _ l1 t385 _ ?_ ?_ ?_ ?_ A7.out).mono ?_); exact Kd.C_below (Kd.R_reads' HO384.out).2.2 gs; exact (Kd.R_reads' HO384.out).2.1; exact Kd.C_below HR1.out (bw HB); exact HC1.out; rintro e w' ⟨rfl, ⟨nd, rfl⟩⟩))
  go_ret
  exact ⟨fq, bw HB⟩
 ·replace c4 := Bool.eq_false_iff.mpr c4
  subst c4
  rw [if_neg (show ¬ (false = true) by decide)] at H
  obtain rfl := Option.some.inj H
  go_enter Try.func45, Try.ntmps45
  go_wp2_with (first | ((with_reducible refine gate_callee (f := 75) rfl ?_); refine gl 7 Try.func75 #[.int .i64 a0, .slice A1 l1.length c1, .int .i64 8] ?_; (with_reducible refine (impl_areNumbers.calls a0 _ _ l1 8 false _ ?_ ?_ A3.out).mono ?_); exact wC HR1; exact HC1.out; rintro e w13 ⟨rfl, hb⟩; refine ⟨_, rfl, ?_⟩; replace HB := bq HB hb; (try clear hb)))
  go_ret
  exact ⟨fq, bw HB⟩/-! ### impl_SpaceCross: function 24 -/
def impl_SpaceCross.f (k : Nat) (a0 : Int) (l1 : List Int) (l2 : List Int) : Option (Bool) := (impl_isSpaceLine.f k a0 l1).bind fun t386 => (if t386 = true then ((impl_isSpaceLine.f k a0 l2).bind fun t387 => (if t387 = true then ((impl_crosses.f k a0 l1 l2).bind fun t388 => (some t388)) else (some false))) else (some false))
theorem impl_SpaceCross.mono : ∀ a0 a1 a2 k, LeO (impl_SpaceCross.f k a0 a1 a2) (impl_SpaceCross.f (k + 1) a0 a1 a2) := by
 intro a0 a1 a2 k
 unfold impl_SpaceCross.f
 repeat' first | (with_reducible first | apply impl_crosses.mono | apply impl_isSpaceLine.mono | exact LeO.refl _ | exact LeO.none _ | refine LeO.ite ?_ ?_ | refine LeO.bind ?_ (fun _ => ?_)) | (first | apply impl_crosses.mono | apply impl_isSpaceLine.mono | exact LeO.none _ | refine LeO.ite ?_ ?_ | refine LeO.bind ?_ (fun _ => ?_))
set_option maxHeartbeats 8000000 in
set_option maxRecDepth 100000 in
theorem impl_SpaceCross.calls (k : Nat) (a0 : Int) (A1 : Option Addr) (c1 : Nat) (l1 : List Int) (A2 : Option Addr) (c2 : Nat) (l2 : List Int) (r : Bool) (w : World) (hr1 : Kd.C (Kd.int .i64) w A1 l1.length l1) (hc1 : l1.length ≤ c1) (hr2 : Kd.C (Kd.int .i64) w A2 l2.length l2) (hc2 : l2.length ≤ c2) (h : impl_SpaceCross.f k a0 l1 l2 = some r) :
  Calls Try.prog 24 #[.int .i64 a0, .slice A1 l1.length c1, .slice A2 l2.length c2] w fun e w' => e = .returned (.bool r) ∧ Below w.heap.size w w' := by
 have HR1 := am hr1
 have HC1 := am hc1
 clear hr1 hc1
 have HR2 := am hr2
 have HC2 := am hc2
 clear hr2 hc2
 have HB := am (Below.refl w.heap.size w)
 have H : ((impl_isSpaceLine.f k a0 l1).bind fun t386 => (if t386 = true then ((impl_isSpaceLine.f k a0 l2).bind fun t387 => (if t387 = true then ((impl_crosses.f k a0 l1 l2).bind fun t388 => (some t388)) else (some false))) else (some false))) = some r := h
 clear h; replace H := bs H; obtain ⟨t386, A4, H⟩ := H
 by_cases c5 : t386 = true
 ·subst c5
  rw [if_pos rfl] at H
  replace H := bs H; obtain ⟨t387, A6, H⟩ := H
  by_cases c7 : t387 = true
  ·subst c7
   rw [if_pos rfl] at H
   replace H := bs H; obtain ⟨t388, A8, H⟩ := H; obtain rfl := Option.some.inj H
   go_enter Try.func24, Try.ntmps24
   go_wp2_with (first | ((with_reducible refine gate_callee (f := 45) rfl ?_); refine gl 9 Try.func45 #[.int .i64 a0, .slice A1 l1.length c1] ?_; (with_reducible refine (impl_isSpaceLine.calls k a0 _ _ l1 true _ ?_ ?_ A4.out).mono ?_); exact wC HR1; exact HC1.out; rintro e w9 ⟨rfl, hb⟩; refine ⟨_, rfl, ?_⟩; replace HB := bq HB hb; (try clear hb)) | (go_at_call 45; (with_reducible refine (impl_isSpaceLine.calls k a0 _ _ l2 true _ ?_ ?_ A6.out).mono ?_); exact Kd.C_below HR2.out (bw HB); exact HC2.out; rintro e w10 ⟨rfl, hb⟩; replace HB := bq HB hb; (try clear hb)) | (go_at_call 46; (with_reducible refine (impl_crosses.calls k a0 _ _ l1 _ _ l2 t388 _ ?_ ?_ ?_ ?_ A8.out).mono ?_); exact Kd.C_below HR1.out (bw HB); exact HC1.out; exact Kd.C_below HR2.out (bw HB); exact HC2.out; rintro e w11 ⟨rfl, hb⟩; replace HB := bq HB hb; (try clear hb)))
   go_ret
   exact ⟨fq, bw HB⟩
  ·replace c7 := Bool.eq_false_iff.mpr c7
   subst c7
   rw [if_neg (show ¬ (false = true) by decide)] at H
   obtain rfl := Option.some.inj H
   go_enter Try.func24, Try.ntmps24
   go_wp2_with (first | ((with_reducible refine gate_callee (f := 45) rfl ?_); refine gl 9 Try.func45 #[.int .i64 a0, .slice A1 l1.length c1] ?_; (with_reducible refine (impl_isSpaceLine.calls k a0 _ _ l1 true _ ?_ ?_ A4.out).mono ?_); exact wC HR1; exact HC1.out; rintro e w12 ⟨rfl, hb⟩; refine ⟨_, rfl, ?_⟩; replace HB := bq HB hb; (try clear hb)) | (go_at_call 45; (with_reducible refine (impl_isSpaceLine.calls k a0 _ _ l2 false _ ?_ ?_ A6.out).mono ?_); exact Kd.C_below HR2.out (bw HB); exact HC2.out; rintro e w13 ⟨rfl, hb⟩; replace HB := bq HB hb; (try clear hb)))
   go_ret
   exact ⟨fq, bw HB⟩
 ·replace c5 := Bool.eq_false_iff.mpr c5
  subst c5
  rw [if_neg (show ¬ (false = true) by decide)] at H
  obtain rfl := Option.some.inj H
  go_enter Try.func24, Try.ntmps24
  go_wp2_with (first | ((with_reducible refine gate_callee (f := 45) rfl ?_); refine gl 9 Try.func45 #[.int .i64 a0, .slice A1 l1.length c1] ?_; (with_reducible refine (impl_isSpaceLine.calls k a0 _ _ l1 false _ ?_ ?_ A4.out).mono ?_); exact wC HR1; exact HC1.out; rintro e w14 ⟨rfl, hb⟩; refine ⟨_, rfl, ?_⟩; replace HB := bq HB hb; (try clear hb)))
  go_ret
  exact ⟨fq, bw HB⟩/-! ### laws_sameInts: function 28 -/
def laws_sameInts.l0 : Nat → List Int → List Int → Int → Option (Bool)
 | 0, _, _, _ => none
 | k + 1, x0, x1, x5 => if x5 < (x0.length : Int) then (if 0 ≤ x5 then (if x5 < (x1.length : Int) then (if (rd x0 x5) = (rd x1 x5) then (laws_sameInts.l0 k x0 x1 (wrap64 (x5 + 1))) else (some false)) else (none)) else (none)) else (some true)
def laws_sameInts.f (k : Nat) (l0 : List Int) (l1 : List Int) : Option (Bool) := if (l0.length : Int) = (l1.length : Int) then (laws_sameInts.l0 k l0 l1 0) else (some false)
theorem laws_sameInts.mono_l : ∀ k, (∀ y0 y1 y2, LeO (laws_sameInts.l0 k y0 y1 y2) (laws_sameInts.l0 (k + 1) y0 y1 y2))
 | 0 => fun _ _ _ r h => by simp [laws_sameInts.l0] at h
 | k + 1 => by
  have ih0 := laws_sameInts.mono_l k
  ·intro y0 y1 y2
   unfold laws_sameInts.l0
   repeat' first | (with_reducible first | apply ih0 | exact LeO.refl _ | exact LeO.none _ | refine LeO.ite ?_ ?_ | refine LeO.bind ?_ (fun _ => ?_)) | (first | apply ih0 | exact LeO.none _ | refine LeO.ite ?_ ?_ | refine LeO.bind ?_ (fun _ => ?_))
theorem laws_sameInts.mono : ∀ a0 a1 k, LeO (laws_sameInts.f k a0 a1) (laws_sameInts.f (k + 1) a0 a1) := by
 intro a0 a1 k
 have ih0 := laws_sameInts.mono_l k
 unfold laws_sameInts.f
 repeat' first | (with_reducible first | apply ih0 | exact LeO.refl _ | exact LeO.none _ | refine LeO.ite ?_ ?_ | refine LeO.bind ?_ (fun _ => ?_)) | (first | apply ih0 | exact LeO.none _ | refine LeO.ite ?_ ?_ | refine LeO.bind ?_ (fun _ => ?_))
set_option maxHeartbeats 8000000 in
set_option maxRecDepth 100000 in
theorem laws_sameInts.calls (k : Nat) (A0 : Option Addr) (c0 : Nat) (l0 : List Int) (A1 : Option Addr) (c1 : Nat) (l1 : List Int) (r : Bool) (w : World) (hr0 : Kd.C (Kd.int .i64) w A0 l0.length l0) (hc0 : l0.length ≤ c0) (hr1 : Kd.C (Kd.int .i64) w A1 l1.length l1) (hc1 : l1.length ≤ c1) (h : laws_sameInts.f k l0 l1 = some r) :
  Calls Try.prog 28 #[.slice A0 l0.length c0, .slice A1 l1.length c1] w fun e w' => e = .returned (.bool r) ∧ Drawn0 w w' := by
 have HR0 := am hr0
 have HC0 := am hc0
 clear hr0 hc0
 have HR1 := am hr1
 have HC1 := am hc1
 clear hr1 hc1
 have H : (if (l0.length : Int) = (l1.length : Int) then (laws_sameInts.l0 k l0 l1 0) else (some false)) = some r := h
 clear h
 by_cases c3 : (l0.length : Int) = (l1.length : Int)
 ·rw [if_pos c3] at H
  have c3b0 := beq_iff_eq.mpr c3; have c3b1 := bne_eq_false_iff_eq.mpr c3
  have c3b2 : (l0.length == l1.length) = true := by first | simpa using c3 | (simp at c3 ⊢; omega)
  clear c3; have H' := am H; clear H
  go_enter Try.func28, Try.ntmps28
  go_wp2
  repeat (go_quiet (fail); try go_wp2)
  go_loopg [5] k (fun kq v5 w' => ∃ (x5_1 : Int), v5 = .int .i64 x5_1 ∧ Aside0 (laws_sameInts.l0 kq l0 l1 x5_1 = some r) ∧ Aside0 (kq ≤ k) ∧ Drawn0 w w')
  case atStart => exact ⟨(0), fr, H', ⟨Nat.le_refl _⟩, df⟩
  case round =>
   clear H'; try clear c1; try clear c2; try clear p2; try clear c3; try clear c3b0; try clear c3b1; try clear c3b2
   obtain ⟨x5_1, rfl, HA, HK1, ⟨m1, rfl⟩⟩ := hrel
   cases gk with
   | zero => exact absurd HA.out (by simp [laws_sameInts.l0])
   | succ k1 =>
    have H := HA.out; clear HA
    simp only [laws_sameInts.l0] at H
    by_cases c4 : x5_1 < (l0.length : Int)
    ·rw [if_pos c4] at H
     have c4b0 := decide_eq_true c4; clear c4; replace H := ifn H; obtain ⟨c5, H⟩ := H; have c5b0 := decide_eq_true c5; clear c5; replace H := ifn H; obtain ⟨c6, H⟩ := H; have c6b0 := decide_eq_true c6; clear c6
     by_cases c7 : (rd l0 x5_1) = (rd l1 x5_1)
     ·rw [if_pos c7] at H
      have c7b0 := beq_iff_eq.mpr c7; have c7b1 := bne_eq_false_iff_eq.mpr c7; clear c7; have H' := am H; clear H
      have p389 : 0 ≤ (x5_1 : Int) := od
      have q389 : x5_1 < (l0.length : Int) := od
      obtain ⟨ad389, e389, hx389_0⟩ := Kd.at_int HR0.out x5_1 p389 q389
      cases e389; replace p389 := eq_true p389; replace q389 := eq_true q389
      have p390 : 0 ≤ (x5_1 : Int) := od
      have q390 : x5_1 < (l1.length : Int) := od
      obtain ⟨ad390, e390, hx390_0⟩ := Kd.at_int HR1.out x5_1 p390 q390
      cases e390; replace p390 := eq_true p390; replace q390 := eq_true q390; go_wp2
      repeat (go_quiet (fail); try go_wp2)
      go_roundg k1
      case measure => have := HK1.out; omega
      case rel => exact ⟨(wrap64 (x5_1 + 1)), fr, H', ⟨by have := HK1.out; omega⟩, df⟩
     ·rw [if_neg c7] at H
      have c7b0 := beq_eq_false_iff_ne.mpr c7; have c7b1 := bne_iff_ne.mpr c7; obtain rfl := Option.some.inj H
      have p389 : 0 ≤ (x5_1 : Int) := od
      have q389 : x5_1 < (l0.length : Int) := od
      obtain ⟨ad389, e389, hx389_0⟩ := Kd.at_int HR0.out x5_1 p389 q389
      cases e389; replace p389 := eq_true p389; replace q389 := eq_true q389
      have p390 : 0 ≤ (x5_1 : Int) := od
      have q390 : x5_1 < (l1.length : Int) := od
      obtain ⟨ad390, e390, hx390_0⟩ := Kd.at_int HR1.out x5_1 p390 q390
      cases e390; replace p390 := eq_true p390; replace q390 := eq_true q390; go_wp2
      repeat (go_quiet (fail); try go_wp2)
      go_ret
      exact ⟨fr, df⟩
    ·rw [if_neg c4] at H
     have c4b0 := decide_eq_false c4; clear c4; obtain rfl := Option.some.inj H; go_wp2
     repeat (go_quiet (fail); try go_wp2)
     go_ret
     exact ⟨fr, df⟩
 ·rw [if_neg c3] at H
  have c3b0 := beq_eq_false_iff_ne.mpr c3; have c3b1 := bne_iff_ne.mpr c3
  have c3b2 : (l0.length == l1.length) = false := by first | simpa using c3 | (simp at c3 ⊢; omega)
  obtain rfl := Option.some.inj H
  go_enter Try.func28, Try.ntmps28
  go_wp2
  repeat (go_quiet (fail); try go_wp2)
  go_ret
  exact ⟨fr, df⟩/-! ### impl_CubeLine: function 31 -/
def impl_CubeLine.f (k : Nat) (a0 : Int) (a1 : Int) : Option (List Int × Bool) := (impl_cubeRoots.f k a0).bind fun t391 => (if (t391.length : Int) = 3 then ((impl_isLine.f a1).bind fun t394 => (if t394 = true then ((impl_cubeLine.f k a0 t391 a1).bind fun t395 => (some (t395, true))) else (some (([] : List Int), false)))) else (some (([] : List Int), false)))
theorem impl_CubeLine.mono : ∀ a0 a1 k, LeO (impl_CubeLine.f k a0 a1) (impl_CubeLine.f (k + 1) a0 a1) := by
 intro a0 a1 k
 unfold impl_CubeLine.f
 repeat' first | (with_reducible first | apply impl_cubeLine.mono | apply impl_cubeRoots.mono | exact LeO.refl _ | exact LeO.none _ | refine LeO.ite ?_ ?_ | refine LeO.bind ?_ (fun _ => ?_)) | (first | apply impl_cubeLine.mono | apply impl_cubeRoots.mono | exact LeO.none _ | refine LeO.ite ?_ ?_ | refine LeO.bind ?_ (fun _ => ?_))
set_option maxHeartbeats 8000000 in
set_option maxRecDepth 100000 in
theorem impl_CubeLine.calls (k : Nat) (a0 : Int) (a1 : Int) (r1 : List Int) (r2 : Bool) (w : World) (h : impl_CubeLine.f k a0 a1 = some (r1, r2)) :
  Calls Try.prog 31 #[.int .i64 a0, .int .i64 a1] w fun e w' => ∃ v0_ : Value, e = .returned (.tuple #[v0_, .bool r2]) ∧ Kd.R (Kd.int .i64) 3 w' w.heap.size (fun _ => True) v0_ r1 ∧ Below w.heap.size w w' := by
 have HB := am (Below.refl w.heap.size w)
 have H : ((impl_cubeRoots.f k a0).bind fun t391 => (if (t391.length : Int) = 3 then ((impl_isLine.f a1).bind fun t394 => (if t394 = true then ((impl_cubeLine.f k a0 t391 a1).bind fun t395 => (some (t395, true))) else (some (([] : List Int), false)))) else (some (([] : List Int), false)))) = some (r1, r2) := h
 clear h; replace H := bs H; obtain ⟨t391, A3, H⟩ := H
 by_cases c4 : (t391.length : Int) = 3
 ·rw [if_pos c4] at H
  have c4b0 := beq_iff_eq.mpr c4; have c4b1 := bne_eq_false_iff_eq.mpr c4; clear c4; replace H := bs H; obtain ⟨t394, A5, H⟩ := H
  by_cases c6 : t394 = true
  ·subst c6
   rw [if_pos rfl] at H
   replace H := bs H; obtain ⟨t395, A7, H⟩ := H
   simp only [Option.some.injEq, Prod.mk.injEq] at H
   obtain ⟨rfl, rfl⟩ := H
   go_enter Try.func31, Try.ntmps31
   go_wp2_with (first | ((with_reducible refine gate_callee (f := 51) rfl ?_); refine gl 8 Try.func51 #[.int .i64 a0] ?_; (with_reducible refine (impl_cubeRoots.calls k a0 t391 _ A3.out).mono ?_); rintro e w8 ⟨v392, rfl, ho0, hb⟩; refine ⟨_, rfl, ?_⟩; have HO393 := am (Kd.R_lower ho0 (bz HB)); replace HB := bq HB hb; (try clear hb); (try clear ho0); obtain ⟨Ao9, co9, eo9⟩ := Kd.R_slice HO393.out; subst eo9) | (go_at_call 52; (with_reducible refine (impl_isLine.calls a1 true _ A5.out).mono ?_); rintro e w' ⟨rfl, ⟨nd, rfl⟩⟩) | ((with_reducible refine gate_callee (f := 71) rfl ?_); refine gl 20 Try.func71 #[.int .i64 a0, .slice Ao9 t391.length co9, .int .i64 a1] ?_; (with_reducible refine (impl_cubeLine.calls k a0 _ _ t391 a1 t395 _ ?_ ?_ A7.out).mono ?_); exact Kd.C_below (Kd.R_reads' HO393.out).2.2 gs; exact (Kd.R_reads' HO393.out).2.1; rintro e w10 ⟨v396, rfl, ho0, hb⟩; refine ⟨_, rfl, ?_⟩; have HO397 := am (Kd.R_lower (Kd.R_new' ho0 (Kd.R_lt (wR HO393))) (bz HB)); replace HO393 := eR HO393 (Kd.R_base ho0) hb; replace HB := bq HB hb; (try clear hb); (try clear ho0)))
   go_ret2
   exact ⟨_, fq, Kd.R_below (Kd.R_mono HO397.out (fun _ hk => trivial)) gs, bw HB⟩
  ·replace c6 := Bool.eq_false_iff.mpr c6
   subst c6
   rw [if_neg (show ¬ (false = true) by decide)] at H
   simp only [Option.some.injEq, Prod.mk.injEq] at H
   obtain ⟨rfl, rfl⟩ := H
   go_enter Try.func31, Try.ntmps31
   go_wp2_with (first | ((with_reducible refine gate_callee (f := 51) rfl ?_); refine gl 8 Try.func51 #[.int .i64 a0] ?_; (with_reducible refine (impl_cubeRoots.calls k a0 t391 _ A3.out).mono ?_); rintro e w11 ⟨v392, rfl, ho0, hb⟩; refine ⟨_, rfl, ?_⟩; have HO393 := am (Kd.R_lower ho0 (bz HB)); replace HB := bq HB hb; (try clear hb); (try clear ho0); obtain ⟨Ao12, co12, eo12⟩ := Kd.R_slice HO393.out; subst eo12) | (go_at_call 52; (with_reducible refine (impl_isLine.calls a1 false _ A5.out).mono ?_); rintro e w' ⟨rfl, ⟨nd, rfl⟩⟩))
   go_ret2
   exact ⟨_, fq, by first | exact Kd.R_nil _ _ _ _ _ | exact Kd.N_nil _ _ _ _ _ | exact Kd.V_nil _ _ _ _ _ | exact Kd.Q_nil _ _ _ _ _ | exact Kd.S_nil _ _ _ _ _, bw HB⟩
 ·rw [if_neg c4] at H
  have c4b0 := beq_eq_false_iff_ne.mpr c4; have c4b1 := bne_iff_ne.mpr c4
  simp only [Option.some.injEq, Prod.mk.injEq] at H
  obtain ⟨rfl, rfl⟩ := H
  go_enter Try.func31, Try.ntmps31
  go_wp2_with (first | ((with_reducible refine gate_callee (f := 51) rfl ?_); refine gl 8 Try.func51 #[.int .i64 a0] ?_; (with_reducible refine (impl_cubeRoots.calls k a0 t391 _ A3.out).mono ?_); rintro e w13 ⟨v392, rfl, ho0, hb⟩; refine ⟨_, rfl, ?_⟩; have HO393 := am (Kd.R_lower ho0 (bz HB)); replace HB := bq HB hb; (try clear hb); (try clear ho0); obtain ⟨Ao14, co14, eo14⟩ := Kd.R_slice HO393.out; subst eo14))
  go_ret2
  exact ⟨_, fq, by first | exact Kd.R_nil _ _ _ _ _ | exact Kd.N_nil _ _ _ _ _ | exact Kd.V_nil _ _ _ _ _ | exact Kd.Q_nil _ _ _ _ _ | exact Kd.S_nil _ _ _ _ _, bw HB⟩
/-- A state of type 78 at block g of W; what its slices lead to came in by w0. -/
def IsS78 (w0 W : World) (g : Nat) (f0 : List Int) (f1 : Int) : Prop := ∃ A0 c0, W.heap[g]? = some (.cells #[.slice A0 f0.length c0, .int .i64 f1] 78 (0, 0)) ∧ w0.heap.size ≤ g ∧ Kd.C (Kd.int .u8) w0 A0 f0.length f0
theorem IsS78.grown {w0 W : World} {g : Nat} {f0 : List Int} {f1 : Int} {W1 : World} {row : Option Nat} (h : IsS78 w0 W g f0 f1) (hw : W.grownBy W1 row) (hne : some g ≠ row) : IsS78 w0 W1 g f0 f1 := by
 obtain ⟨A0, c0, hb, hg, hr0⟩ := h
 exact ⟨A0, c0, blk_grown hb hw hne, hg, hr0⟩
theorem IsS78.own_neN {w0 W : World} {g : Nat} {f0 : List Int} {f1 : Int} {α : Type} {d : Kd α} {e : Nat} {base : Nat} {ok : Nat → Prop} {v : Value} {xs : List α} (h : IsS78 w0 W g f0 f1) (ho : Kd.N d e W base ok v xs) (ht : e ≠ 78) : some g ≠ v.ownBlock := by
 obtain ⟨A0, c0, hb, hg, hr0⟩ := h
 exact Kd.N_ne ho hb ht
theorem IsS78.fresh {w0 W : World} {g : Nat} {f0 : List Int} {f1 : Int} (h : IsS78 w0 W g f0 f1) : ∀ k, W.heap.size ≤ k → k ≠ g := by
 obtain ⟨A0, c0, hb, hg, hr0⟩ := h
 exact Kd.freshB hb
theorem IsS78.kept {w0 W : World} {g : Nat} {f0 : List Int} {f1 : Int} {W1 : World} {S : Nat → Prop} (h : IsS78 w0 W g f0 f1) (hk : Kept W W1 S) (hne : ¬ S g) : IsS78 w0 W1 g f0 f1 := by
 obtain ⟨A0, c0, hb, hg, hr0⟩ := h
 exact ⟨A0, c0, blk_kept hb hk hne, hg, hr0⟩
theorem IsS78.below {w0 W : World} {g : Nat} {f0 : List Int} {f1 : Int} {W1 : World} (h : IsS78 w0 W g f0 f1) (hw : Below W.heap.size W W1) : IsS78 w0 W1 g f0 f1 := h.grown (grown_of_below hw none) (by simp)
theorem IsS78.alloc {w0 W : World} {g : Nat} {f0 : List Int} {f1 : Int} (h : IsS78 w0 W g f0 f1) (o : Obj) : IsS78 w0 (W.alloc o) g f0 f1 := h.below (below_alloc (Below.refl _ _) o)
theorem IsS78.drewN {w0 W : World} {g : Nat} {f0 : List Int} {f1 : Int} (h : IsS78 w0 W g f0 f1) (m : Nat) : IsS78 w0 (W.drewN m) g f0 f1 := h
theorem IsS78.drew {w0 W : World} {g : Nat} {f0 : List Int} {f1 : Int} (h : IsS78 w0 W g f0 f1) : IsS78 w0 W.drew g f0 f1 := h
theorem IsS78.at_ {w0 W : World} {g : Nat} {f0 : List Int} {f1 : Int} {w' : World} {m : Nat} (hq : W.drewN m = w') (h : IsS78 w0 W g f0 f1) : IsS78 w0 w' g f0 f1 := by subst hq; exact IsS78.drewN h m
theorem IsS78.apart {w0 W : World} {g : Nat} {f0 : List Int} {f1 : Int} {α : Type} {d : Kd α} {e : Nat} {base : Nat} {ok : Nat → Prop} {v : Value} {xs : List α} (h : IsS78 w0 W g f0 f1) (ho : d.R e W base ok v xs) (ht : ∀ q, q ∈ e :: d.E → q ≠ 78) : d.R e W base (fun k => ok k ∧ k ≠ g) v xs := by
 obtain ⟨A0, c0, hb, hg, hr0⟩ := h
 exact Kd.R_types ho hb ht
theorem IsS78.own_ne {w0 W : World} {g : Nat} {f0 : List Int} {f1 : Int} {α : Type} {d : Kd α} {e : Nat} {base : Nat} {ok : Nat → Prop} {v : Value} {xs : List α} (h : IsS78 w0 W g f0 f1) (ho : d.R e W base ok v xs) (ht : e ≠ 78) : some g ≠ v.ownBlock := by
 obtain ⟨A0, c0, hb, hg, hr0⟩ := h
 exact Kd.R_ne ho hb ht
theorem IsS78.apartQ {w0 W : World} {g : Nat} {f0 : List Int} {f1 : Int} {α : Type} {d : Kd α} {e : Nat} {base : Nat} {ok : Nat → Prop} {v : Value} {xs : List α} (h : IsS78 w0 W g f0 f1) (ho : d.Q e W base ok v xs) (ht : ∀ q, q ∈ e :: d.E → q ≠ 78) : d.Q e W base (fun k => ok k ∧ k ≠ g) v xs := by
 obtain ⟨A0, c0, hb, hg, hr0⟩ := h
 exact Kd.Q_types ho hb ht
theorem IsS78.own_neQ {w0 W : World} {g : Nat} {f0 : List Int} {f1 : Int} {α : Type} {d : Kd α} {e : Nat} {base : Nat} {ok : Nat → Prop} {v : Value} {xs : List α} (h : IsS78 w0 W g f0 f1) (ho : d.Q e W base ok v xs) (ht : e ≠ 78) : some g ≠ v.ownBlock := by
 obtain ⟨A0, c0, hb, hg, hr0⟩ := h
 exact Kd.Q_ne ho hb ht
theorem IsS78.apartS {w0 W : World} {g : Nat} {f0 : List Int} {f1 : Int} {α : Type} {d : Kd α} {e : Nat} {base : Nat} {ok : Nat → Prop} {v : Value} {xs : List α} (h : IsS78 w0 W g f0 f1) (ho : d.S e W base ok v xs) (ht : ∀ q, q ∈ e :: d.E → q ≠ 78) : d.S e W base (fun k => ok k ∧ k ≠ g) v xs := by
 obtain ⟨A0, c0, hb, hg, hr0⟩ := h
 exact Kd.S_types ho hb ht
theorem IsS78.own_neS {w0 W : World} {g : Nat} {f0 : List Int} {f1 : Int} {α : Type} {d : Kd α} {e : Nat} {base : Nat} {ok : Nat → Prop} {v : Value} {xs : List α} (h : IsS78 w0 W g f0 f1) (ho : d.S e W base ok v xs) (ht : e ≠ 78) : some g ≠ v.ownBlock := by
 obtain ⟨A0, c0, hb, hg, hr0⟩ := h
 exact Kd.S_ne ho hb ht
theorem IsS78.lt {w0 W : World} {g : Nat} {f0 : List Int} {f1 : Int} (h : IsS78 w0 W g f0 f1) : g < W.heap.size := by
 obtain ⟨A0, c0, hb, hg, hr0⟩ := h
 exact blk_lt hb
theorem IsS78.ge {w0 W : World} {g : Nat} {f0 : List Int} {f1 : Int} (h : IsS78 w0 W g f0 f1) : w0.heap.size ≤ g := by
 obtain ⟨A0, c0, hb, hg, hr0⟩ := h
 exact hg
theorem IsS78.ne_blk {w0 W : World} {g : Nat} {f0 : List Int} {f1 : Int} {a : Nat} {cs : Array Value} {t : TypeId} {fr : Nat × Nat} (h : IsS78 w0 W g f0 f1) (hb2 : W.heap[a]? = some (.cells cs t fr)) (ht : t ≠ 78) : g ≠ a := by
 obtain ⟨A0, c0, hb, hg, hr0⟩ := h
 rintro rfl
 rw [hb] at hb2
 injection hb2 with hb2
 injection hb2 with _ ht2
 exact ht ht2.symm
theorem IsS78.far {w0 W : World} {g : Nat} {f0 : List Int} {f1 : Int} {p : Addr} (h : IsS78 w0 W g f0 f1) (hne : g ≠ p.block) (u : Value) : IsS78 w0 (W.setCell p u) g f0 f1 := by
 obtain ⟨A0, c0, hb, hg, hr0⟩ := h
 exact ⟨A0, c0, blk_far hb hne u, hg, hr0⟩
theorem cellS78_0 {W : World} {g : Nat} {A0 : Option Addr} {c0 : Nat} {f0 : List Int} {f1 : Int} (h : W.heap[g]? = some (.cells #[.slice A0 f0.length c0, .int .i64 f1] 78 (0, 0))) : W.cell? ⟨g, 0, none⟩ = some (.slice A0 f0.length c0) := (blk_cell h 0).trans rfl
theorem cellS78_1 {W : World} {g : Nat} {A0 : Option Addr} {c0 : Nat} {f0 : List Int} {f1 : Int} (h : W.heap[g]? = some (.cells #[.slice A0 f0.length c0, .int .i64 f1] 78 (0, 0))) : W.cell? ⟨g, 1, none⟩ = some (.int .i64 f1) := (blk_cell h 1).trans rfl
theorem IsS78.set_1 {w0 W : World} {g : Nat} {f0 : List Int} {f1 : Int} (h : IsS78 w0 W g f0 f1) (x : Int) : IsS78 w0 (W.setCell ⟨g, 1, none⟩ (.int .i64 x)) g f0 x := by
 obtain ⟨A0, c0, hb, hg, hr0⟩ := h
 exact ⟨A0, c0, by simpa using blk_set hb 1 (.int .i64 x), hg, hr0⟩
theorem iw78 {w0 W W' : World} {g : Nat} {f0 f0' : List Int} {f1 f1' : Int} (h : Aside0 (IsS78 w0 W g f0 f1)) (k : IsS78 w0 W g f0 f1 → IsS78 w0 W' g f0' f1' := by (intro h_; repeat (first | (with_reducible first | exact h_ | apply IsS78.alloc | apply IsS78.drewN | apply IsS78.drew | apply IsS78.set_1) | exact h_))) : IsS78 w0 W' g f0' f1' := k h.out
theorem bi78 {w w0 W W' W2 : World} {g : Nat} {f0 : List Int} {f1 : Int} (h : Aside0 (Below w.heap.size w W)) (i : Aside0 (IsS78 w0 W2 g f0 f1)) (k : IsS78 w0 W2 g f0 f1 → Below w.heap.size w W → Below w.heap.size w W' := by (intro i_ h_; repeat (first | (with_reducible first | exact h_ | apply below_alloc | apply pw_below_drewN | apply below_drew1 | refine below_set ?_ (IsS78.ge i_)) | exact h_))) : Below w.heap.size w W' := k i.out h.out
theorem IsS78.new (w0 W : World) (A0 : Option Addr) (c0 : Nat) (f0 : List Int) (f1 : Int) (hB : Below w0.heap.size w0 W) (hr0 : Kd.C (Kd.int .u8) w0 A0 f0.length f0) : IsS78 w0 (W.alloc (.cells #[.slice A0 f0.length c0, .int .i64 f1] 78)) W.heap.size f0 f1 := ⟨A0, c0, by simpa using heap_alloc_new W _, hB.size, hr0⟩/-! ### spec_l6Open: function 56 -/
def spec_l6Open.f (l0 : List Int) : Option (List Int × Int) := if (l0.length : Int) > 2000 then (if 2000 ≤ (l0.length : Int) then (some (l0.take 2000, 0)) else (none)) else (some (l0, 0))
set_option maxHeartbeats 8000000 in
set_option maxRecDepth 100000 in
theorem spec_l6Open.calls (A0 : Option Addr) (c0 : Nat) (l0 : List Int) (r1 : List Int) (r2 : Int) (w0 w : World) (hB : Below w0.heap.size w0 w) (hr0 : Kd.C (Kd.int .u8) w0 A0 l0.length l0) (hc0 : l0.length ≤ c0) (h : spec_l6Open.f l0 = some (r1, r2)) :
  Calls Try.prog 56 #[.slice A0 l0.length c0] w fun e w' => ∃ g_ : Nat, e = .returned (.pointer (some ⟨g_, 0, none⟩)) ∧ IsS78 w0 w' g_ r1 r2 ∧ Below w0.heap.size w0 w' ∧ Below w.heap.size w w' := by
 have hu78 := Try.underlying78
 have HR0 := am hr0
 have HC0 := am hc0
 clear hr0 hc0
 have HBW := am (Below.refl w.heap.size w)
 have HW0 := am hB.size
 have HB := am hB
 clear hB
 have H : (if (l0.length : Int) > 2000 then (if 2000 ≤ (l0.length : Int) then (some (l0.take 2000, 0)) else (none)) else (some (l0, 0))) = some (r1, r2) := h
 clear h
 by_cases c2 : (l0.length : Int) > 2000
 ·rw [if_pos c2] at H
  have c2b0 := decide_eq_true c2
  have c2b1 : decide (2000 < l0.length) = true := decide_eq_true (by omega)
  clear c2; replace H := ifn H; obtain ⟨c3, H⟩ := H; have c3b0 := eq_true c3; have c3b1 := decide_eq_true c3; clear c3
  simp only [Option.some.injEq, Prod.mk.injEq] at H
  obtain ⟨rfl, rfl⟩ := H
  obtain ⟨i04, hi04, _, hsz4, _⟩ := info_parts info5
  obtain ⟨hcut4, hA4, hC4⟩ := print_take_of (P := Try.prog) (Value.int .u8) 0 31 5 .i64 Try.underlying31 hi04 hsz4 A0 c0 l0 2000 (by omega) (od) HC0.out
  have HR398 := am (Kd.C_of_reads (h1 := fun _ => rfl) (hA4 _ (Kd.reads_of_C HR0.out)))
  have HC398 := am hC4
  clear hA4 hC4 hi04 hsz4
  go_enter Try.func56, Try.ntmps56
  go_wp2_with (first | ((with_reducible refine gate_dst (N := 10) rfl ?_); refine box_event ?hg (N := 10) ?hd (cs := #[.slice A0 (l0.take 2000).length c0, .int .i64 0]) (t := 78) ?hr ?_; (case hd => rfl); (case hg => rfl); (case hr => first | (go_simp; done) | (go_simp; rfl)); intro gb399 hg w5 hbox hb; have n0_ := am (below_step HBW.out hb); have n1_ := bq HB hb; have n2_ := am (hbox); have n3_ := am ((by rw [hg]; exact (below_size (bb HBW.out)) : w.heap.size ≤ gb399)); have n4_ := am ((Nat.le_trans HW0.out (by rw [hg]; exact (below_size (bb HBW.out)) : w.heap.size ≤ gb399) : w0.heap.size ≤ gb399)); clear HBW; clear HB; have HBW := n0_; have HB := n1_; have BK399 := n2_; have GW399 := n3_; have GE399 := n4_; clear n0_ n1_ n2_ n3_ n4_; clear hb hbox hg))
  go_ret
  exact ⟨_, rfl, (show IsS78 w0 _ gb399 (l0.take 2000) 0 from ⟨_, _, by (with_reducible repeat (first | refine blk_drewN ?_ _ | refine blk_drew ?_ | refine blk_alloc ?_ _)); exact BK399.out, GE399.out, HR398.out⟩), by repeat (first | (with_reducible first | exact HB.out | apply below_alloc | apply pw_below_drewN | apply below_drew1 | refine below_set ?_ GE399.out) | exact HB.out), by repeat (first | (with_reducible first | exact HBW.out | apply below_alloc | apply pw_below_drewN | apply below_drew1 | refine below_set ?_ GW399.out) | exact HBW.out)⟩
 ·rw [if_neg c2] at H
  have c2b0 := decide_eq_false c2
  have c2b1 : decide (2000 < l0.length) = false := decide_eq_false (by omega)
  clear c2
  simp only [Option.some.injEq, Prod.mk.injEq] at H
  obtain ⟨rfl, rfl⟩ := H
  go_enter Try.func56, Try.ntmps56
  go_wp2_with (first | ((with_reducible refine gate_dst (N := 10) rfl ?_); refine box_event ?hg (N := 10) ?hd (cs := #[.slice A0 l0.length c0, .int .i64 0]) (t := 78) ?hr ?_; (case hd => rfl); (case hg => rfl); (case hr => first | (go_simp; done) | (go_simp; rfl)); intro gb400 hg w6 hbox hb; have n0_ := am (below_step HBW.out hb); have n1_ := bq HB hb; have n2_ := am (hbox); have n3_ := am ((by rw [hg]; exact (below_size (bb HBW.out)) : w.heap.size ≤ gb400)); have n4_ := am ((Nat.le_trans HW0.out (by rw [hg]; exact (below_size (bb HBW.out)) : w.heap.size ≤ gb400) : w0.heap.size ≤ gb400)); clear HBW; clear HB; have HBW := n0_; have HB := n1_; have BK400 := n2_; have GW400 := n3_; have GE400 := n4_; clear n0_ n1_ n2_ n3_ n4_; clear hb hbox hg))
  go_ret
  exact ⟨_, rfl, (show IsS78 w0 _ gb400 l0 0 from ⟨_, _, by (with_reducible repeat (first | refine blk_drewN ?_ _ | refine blk_drew ?_ | refine blk_alloc ?_ _)); exact BK400.out, GE400.out, HR0.out⟩), by repeat (first | (with_reducible first | exact HB.out | apply below_alloc | apply pw_below_drewN | apply below_drew1 | refine below_set ?_ GE400.out) | exact HB.out), by repeat (first | (with_reducible first | exact HBW.out | apply below_alloc | apply pw_below_drewN | apply below_drew1 | refine below_set ?_ GW400.out) | exact HBW.out)⟩
end Go.Proofs.Ytmenehnfgenlpaa.PA

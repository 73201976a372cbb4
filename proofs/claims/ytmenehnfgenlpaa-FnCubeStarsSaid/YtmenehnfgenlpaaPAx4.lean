-- Written by xprint.py, a program of this claim's own (over the kit's print.py)
import Derived.Test.YtmenehnfgenlpaaPAx0
import Derived.Test.YtmenehnfgenlpaaPAx1
import Derived.Test.YtmenehnfgenlpaaPAx3
import Derived.Deep.RegionHeld3
import Derived.BigQuiet
import Derived.Deep.QuietTactic
namespace Go.Proofs.Ytmenehnfgenlpaa.PA
open Go.RowKit Go.Proofs.YtmenehnfgenlpaaW.PrintWords Go.Proofs.YtmenehnfgenlpaaW.PrintLast Go.Proofs.YtmenehnfgenlpaaW.PrintMore
attribute [local go_sem] max2_int min2_int max_two min_two max_three min_three max_four min_four   -- for this text's walks alone
set_option linter.unusedVariables false
set_option linter.unusedSimpArgs false

/-! ### spec_l7Same: function 61 -/
def spec_l7Same.l0 : Nat → List Int → List Int → Int → Option (Bool)
 | 0, _, _, _ => none
 | k + 1, x0, x1, x5 => if x5 < (x0.length : Int) then (if 0 ≤ x5 then (if x5 < (x1.length : Int) then (if (rd x0 x5) = (rd x1 x5) then (spec_l7Same.l0 k x0 x1 (wrap64 (x5 + 1))) else (some false)) else (none)) else (none)) else (some true)
def spec_l7Same.f (k : Nat) (l0 : List Int) (l1 : List Int) : Option (Bool) := spec_l7Same.l0 k l0 l1 0
theorem spec_l7Same.mono_l : ∀ k, (∀ y0 y1 y2, LeO (spec_l7Same.l0 k y0 y1 y2) (spec_l7Same.l0 (k + 1) y0 y1 y2))
 | 0 => fun _ _ _ r h => by simp [spec_l7Same.l0] at h
 | k + 1 => by
  have ih0 := spec_l7Same.mono_l k
  ·intro y0 y1 y2
   unfold spec_l7Same.l0
   repeat' first | (with_reducible first | apply ih0 | exact LeO.refl _ | exact LeO.none _ | refine LeO.ite ?_ ?_ | refine LeO.bind ?_ (fun _ => ?_)) | (first | apply ih0 | exact LeO.none _ | refine LeO.ite ?_ ?_ | refine LeO.bind ?_ (fun _ => ?_))
theorem spec_l7Same.mono : ∀ a0 a1 k, LeO (spec_l7Same.f k a0 a1) (spec_l7Same.f (k + 1) a0 a1) := by
 intro a0 a1 k
 have ih0 := spec_l7Same.mono_l k
 unfold spec_l7Same.f
 repeat' first | (with_reducible first | apply ih0 | exact LeO.refl _ | exact LeO.none _ | refine LeO.ite ?_ ?_ | refine LeO.bind ?_ (fun _ => ?_)) | (first | apply ih0 | exact LeO.none _ | refine LeO.ite ?_ ?_ | refine LeO.bind ?_ (fun _ => ?_))
set_option maxHeartbeats 8000000 in
set_option maxRecDepth 100000 in
theorem spec_l7Same.calls (k : Nat) (A0 : Option Addr) (c0 : Nat) (l0 : List Int) (A1 : Option Addr) (c1 : Nat) (l1 : List Int) (r : Bool) (w : World) (hr0 : Kd.C (Kd.int .i64) w A0 l0.length l0) (hc0 : l0.length ≤ c0) (hr1 : Kd.C (Kd.int .i64) w A1 l1.length l1) (hc1 : l1.length ≤ c1) (h : spec_l7Same.f k l0 l1 = some r) :
  Calls Try.prog 61 #[.slice A0 l0.length c0, .slice A1 l1.length c1] w fun e w' => e = .returned (.bool r) ∧ Drawn0 w w' := by
 have HR0 := am hr0
 have HC0 := am hc0
 clear hr0 hc0
 have HR1 := am hr1
 have HC1 := am hc1
 clear hr1 hc1
 have H : (spec_l7Same.l0 k l0 l1 0) = some r := h
 clear h; have H' := am H; clear H
 go_enter Try.func61, Try.ntmps61
 go_wp2
 repeat (go_quiet (fail); try go_wp2)
 go_loopg [5] k (fun kq v5 w' => ∃ (x5_1 : Int), v5 = .int .i64 x5_1 ∧ Aside0 (spec_l7Same.l0 kq l0 l1 x5_1 = some r) ∧ Aside0 (kq ≤ k) ∧ Drawn0 w w')
 case atStart => exact ⟨(0), fr, H', ⟨Nat.le_refl _⟩, df⟩
 case round =>
  clear H'; try clear c1; try clear p2
  obtain ⟨x5_1, rfl, HA, HK1, ⟨m1, rfl⟩⟩ := hrel
  cases gk with
  | zero => exact absurd HA.out (by simp [spec_l7Same.l0])
  | succ k1 =>
   have H := HA.out; clear HA
   simp only [spec_l7Same.l0] at H
   by_cases c3 : x5_1 < (l0.length : Int)
   ·rw [if_pos c3] at H
    have c3b0 := decide_eq_true c3; clear c3; replace H := ifn H; obtain ⟨c4, H⟩ := H; have c4b0 := decide_eq_true c4; clear c4; replace H := ifn H; obtain ⟨c5, H⟩ := H; have c5b0 := decide_eq_true c5; clear c5
    by_cases c6 : (rd l0 x5_1) = (rd l1 x5_1)
    ·rw [if_pos c6] at H
     have c6b0 := beq_iff_eq.mpr c6; have c6b1 := bne_eq_false_iff_eq.mpr c6; clear c6; have H' := am H; clear H
     have p180 : 0 ≤ (x5_1 : Int) := od
     have q180 : x5_1 < (l0.length : Int) := od
     obtain ⟨ad180, e180, hx180_0⟩ := Kd.at_int HR0.out x5_1 p180 q180
     cases e180; replace p180 := eq_true p180; replace q180 := eq_true q180
     have p181 : 0 ≤ (x5_1 : Int) := od
     have q181 : x5_1 < (l1.length : Int) := od
     obtain ⟨ad181, e181, hx181_0⟩ := Kd.at_int HR1.out x5_1 p181 q181
     cases e181; replace p181 := eq_true p181; replace q181 := eq_true q181; go_wp2
     repeat (go_quiet (fail); try go_wp2)
     go_roundg k1
     case measure => have := HK1.out; omega
     case rel => exact ⟨(wrap64 (x5_1 + 1)), fr, H', ⟨by have := HK1.out; omega⟩, df⟩
    ·rw [if_neg c6] at H
     have c6b0 := beq_eq_false_iff_ne.mpr c6; have c6b1 := bne_iff_ne.mpr c6; obtain rfl := Option.some.inj H
     have p180 : 0 ≤ (x5_1 : Int) := od
     have q180 : x5_1 < (l0.length : Int) := od
     obtain ⟨ad180, e180, hx180_0⟩ := Kd.at_int HR0.out x5_1 p180 q180
     cases e180; replace p180 := eq_true p180; replace q180 := eq_true q180
     have p181 : 0 ≤ (x5_1 : Int) := od
     have q181 : x5_1 < (l1.length : Int) := od
     obtain ⟨ad181, e181, hx181_0⟩ := Kd.at_int HR1.out x5_1 p181 q181
     cases e181; replace p181 := eq_true p181; replace q181 := eq_true q181; go_wp2
     repeat (go_quiet (fail); try go_wp2)
     go_ret
     exact ⟨fr, df⟩
   ·rw [if_neg c3] at H
    have c3b0 := decide_eq_false c3; clear c3; obtain rfl := Option.some.inj H; go_wp2
    repeat (go_quiet (fail); try go_wp2)
    go_ret
    exact ⟨fr, df⟩/-! ### spec_SpaceIn: function 23 (by hand) -/
theorem spi_own_nil (w : World) (e : Nat) (base : Nat) (hb : base ≤ w.heap.size) : (w.alloc (.cells #[] e)).ownsRow base e 1 (.slice (some ⟨w.heap.size, 0, none⟩) 0 0) 0 [] :=
 ⟨rfl, .inr ⟨w.heap.size, 0, #[], rfl, hb, (by show (w.heap.push _)[w.heap.size]? = _; simp), Nat.le_refl _, Nat.zero_le _, rfl, rfl⟩⟩
theorem spi_row_of_C {w : World} {A : Option Addr} {n : Nat} {rows : List (List Int)} (h : Kd.C (Kd.slice 3 (Kd.int .i64)) w A n rows) (j : Nat) (hj : j < rows.length) : ∃ ad B c, A = some ad ∧ w.cell? (ad.add j) = some (.slice B (rows[j]).length c) ∧ (rows[j]).length ≤ c ∧ Kd.C (Kd.int .i64) w B (rows[j]).length rows[j] := by
 obtain ⟨hl, hm, hr⟩ := h
 obtain ⟨ad, rfl, hc⟩ := hr (by omega)
 obtain ⟨cs, _, ⟨B, c, rfl, h1, h2⟩, hcell⟩ := hc j _ (List.getElem?_eq_getElem hj)
 refine ⟨ad, B, c, rfl, ?_, h1, h2⟩
 have := hcell 0 (.slice B (rows[j]).length c) rfl
 simpa [Kd.slice] using this
theorem spi_keep_row {w1 w2 : World} {g o : Nat} {v : Value} (hlt : g < w1.heap.size) (hb : Below w1.heap.size w1 w2) (hx : w1.cell? ⟨g, o, none⟩ = some v) : w2.cell? ⟨g, o, none⟩ = some v :=
 (World.cell?_of_block (a := ⟨g, o, none⟩) (hb.block g hlt)).trans hx
def lowB (p x : Int) : Bool := decide (0 ≤ x) && decide (x ≤ wrap64 (p - 1))
theorem l6In_low (p x : Int) : spec_l6In.f x 0 (wrap64 (p - 1)) = some (lowB p x) := by
 unfold spec_l6In.f lowB
 by_cases h : x ≥ 0
 ·have h' : 0 ≤ x := h
  simp [h, h']
 ·have h' : ¬ 0 ≤ x := h
  simp [h, h']
/-- what SpaceIn tells -/
def spec_SpaceIn.f (k : Nat) (a0 : Int) (l1 : List Int) : Option Bool := (spec_PrimeIn.f a0).bind fun t =>
 if t = true then (if l1.length = 8 then (if l1.all (lowB a0) = true then (spec_l4Reduce.f k a0 [l1.take 4, l1.drop 4] 4).bind fun r =>
  if r.1.length = 2 then (if (r.1.getD 0 []).length < 1000000 ∧ (r.1.getD 1 []).length < 1000000 then spec_l7Same.f k (r.1.getD 0 [] ++ r.1.getD 1 []) l1 else none) else some false else some false) else some false) else some false
theorem spec_SpaceIn.mono : ∀ a0 a1 k, LeO (spec_SpaceIn.f k a0 a1) (spec_SpaceIn.f (k + 1) a0 a1) := by
 intro a0 a1 k
 unfold spec_SpaceIn.f
 refine LeO.bind (LeO.refl _) fun _ => LeO.ite (LeO.ite (LeO.ite (LeO.bind (spec_l4Reduce.mono _ _ _ _) fun _ => LeO.ite (LeO.ite (spec_l7Same.mono _ _ _) (LeO.refl _)) (LeO.refl _)) (LeO.refl _)) (LeO.refl _)) (LeO.refl _)
theorem lit2_C {w : World} {A B : Option Addr} {ca cb : Nat} {x y : List Int} (hx : Kd.C (Kd.int .i64) w A x.length x) (hca : x.length ≤ ca) (hy : Kd.C (Kd.int .i64) w B y.length y) (hcb : y.length ≤ cb) :
  Kd.C (Kd.slice 3 (Kd.int .i64)) (w.alloc (.cells #[.slice A x.length ca, .slice B y.length cb] 22)) (some ⟨w.heap.size, 0, none⟩) 2 [x, y] := by
 refine ⟨rfl, by omega, fun _ => ⟨⟨w.heap.size, 0, none⟩, rfl, fun j p hj => ?_⟩⟩
 have hb := blk_new w (.cells #[.slice A x.length ca, .slice B y.length cb] 22)
 match j, hj with
 | 0, hj =>
  simp at hj
  subst hj
  refine ⟨[.slice A x.length ca], rfl, ⟨A, ca, rfl, hca, Kd.C_alloc hx _⟩, fun i u hu => ?_⟩
  match i, hu with
  | 0, hu => simp at hu; subst hu; rw [add_plain]; exact (blk_cell hb _).trans rfl
 | 1, hj =>
  simp at hj
  subst hj
  refine ⟨[.slice B y.length cb], rfl, ⟨B, cb, rfl, hcb, Kd.C_alloc hy _⟩, fun i u hu => ?_⟩
  match i, hu with
  | 0, hu => simp at hu; subst hu; rw [add_plain]; exact (blk_cell hb _).trans rfl
set_option maxHeartbeats 4000000 in
set_option maxRecDepth 100000 in
theorem spec_SpaceIn.calls (k : Nat) (a0 : Int) (A1 : Option Addr) (c1 : Nat) (l1 : List Int) (r : Bool) (w : World) (hr1 : Kd.C (Kd.int .i64) w A1 l1.length l1) (hc1 : l1.length ≤ c1) (h : spec_SpaceIn.f k a0 l1 = some r) :
  Calls Try.prog 23 #[.int .i64 a0, .slice A1 l1.length c1] w fun e w' => e = .returned (.bool r) ∧ Below w.heap.size w w' := by
 obtain ⟨t, hprime, h'⟩ := Option.bind_eq_some_iff.1 h
 clear h
 have HPR := Lib.hid hprime
 have HR1 := Lib.hid hr1
 have HC1 := Lib.hid hc1
 have H := Lib.hid h'
 clear hprime hr1 hc1 h'
 cases t with
 | false =>
  obtain rfl : r = false := by have h := H.out; simp at h; exact h
  go_enter Try.func23, Try.ntmps23
  go_wp2_with fail
  refine (spec_PrimeIn.calls a0 false _ HPR.out).mono ?_
  rintro e w1 ⟨rfl, ⟨q, rfl⟩⟩
  go_wp2; go_ret
  exact ⟨rfl, pw_below_drewN (Below.refl _ _) q⟩
 | true =>
  by_cases hl : l1.length = 8
  ·have HL := Lib.hid hl
   go_enter Try.func23, Try.ntmps23
   rw [hl]
   have h8 : ((8 : Int) != 8) = false := rfl
   clear hl
   go_wp2_with fail
   refine (spec_PrimeIn.calls a0 true _ HPR.out).mono ?_
   rintro e w1 ⟨rfl, ⟨q, rfl⟩⟩
   go_wp2_with fail
   have hb0 : Below w.heap.size w (w.drewN q) := pw_below_drewN (Below.refl _ _) q
   generalize w.drewN q = w1 at hb0 ⊢
   go_loopw [5] (fun i w' => ∃ j : Nat, j ≤ 8 ∧ i = .int .i64 j ∧ (l1.take j).all (lowB a0) = true ∧ Below w.heap.size w w') (fun i _ => 8 - (intOf i).toNat)
   case atStart => exact ⟨0, by omega, rfl, by simp, hb0⟩
   case round =>
    clear hb0
    obtain ⟨j, hj, rfl, hall, hB⟩ := hrel
    have HB := Lib.hid hB
    have HALL := Lib.hid hall
    have HJ := Lib.hid hj
    clear hB hall hj
    by_cases hlt : j < 8
    ·obtain ⟨ad, e, hx⟩ := Kd.at_int (Kd.C_below HR1.out HB.out) (j : Int) (by omega) (by have := HL.out; omega)
     subst e
     simp only [Int.toNat_natCast] at hx
     have hd1 : decide ((j : Int) < 8) = true := decide_eq_true (by omega)
     have p1 : (0 ≤ (j : Int)) = True := eq_true (by omega)
     have q1 : ((j : Int) < 8) = True := eq_true (by omega)
     have hlow := l6In_low a0 (rd l1 (j : Int))
     have HLT := Lib.hid hlt
     cases hv : lowB a0 (rd l1 (j : Int)) with
     | false =>
      rw [hv] at hlow
      have HLOW := Lib.hid hlow
      have hr : r = false := by
       have h := H.out
       have ha : l1.all (lowB a0) = false := by
        rw [List.all_eq_false]
        exact ⟨rd l1 (j : Int), by rw [rd, List.getD_eq_getElem?_getD, Int.toNat_natCast, List.getElem?_eq_getElem (by have := HL.out; omega)]; exact List.getElem_mem _, by simp [hv]⟩
       rw [if_pos trivial, if_pos HL.out, if_neg (by simp [ha])] at h
       exact (Option.some.inj h).symm
      subst hr; clear hlt hv hlow
      go_wp2_with fail
      refine (spec_l6In.calls _ _ _ _ _ HLOW.out).mono ?_
      rintro e w2 ⟨rfl, ⟨q, rfl⟩⟩
      go_wp2; go_ret
      exact ⟨rfl, pw_below_drewN HB.out q⟩
     | true =>
      rw [hv] at hlow
      have HLOW := Lib.hid hlow
      have HALL2 : Hid ((l1.take (j + 1)).all (lowB a0) = true) := Lib.hid (by
       have h9 : j < l1.length := by have := HL.out; omega
       rw [List.take_add_one, List.all_append, HALL.out, List.getElem?_eq_getElem h9]
       have e : rd l1 (j : Int) = l1[j] := by simp [rd, List.getD_eq_getElem?_getD, h9]
       rw [e] at hv
       simp [hv])
      clear hlt hv hlow
      go_wp2_with fail
      refine (spec_l6In.calls _ _ _ _ _ HLOW.out).mono ?_
      rintro e w2 ⟨rfl, ⟨q, rfl⟩⟩
      go_wp2_with fail
      have hw1 : wrap64 ((j : Int) + 1) = ((j + 1 : Nat) : Int) := by have := HLT.out; unfold wrap64; omega
      go_roundw
      case measure => (try rw [hw1]); simp only [intOf]; have := HLT.out; omega
      case rel => exact ⟨j + 1, by have := HLT.out; omega, by first | rw [hw1] | go_num, HALL2.out, pw_below_drewN HB.out q⟩
    ·have hje : j = 8 := by have := HJ.out; omega
     subst hje
     have hd1 : decide (((8 : Nat) : Int) < 8) = false := rfl
     have HALL3 : Hid (l1.all (lowB a0) = true) := Lib.hid (by have h := HALL.out; rwa [List.take_of_length_le (by have := HL.out; omega)] at h)
     clear hlt HALL
     obtain ⟨i0, hi0, _, hsz, _⟩ := info_parts info3
     obtain ⟨htk, htr, htc⟩ := print_take_of (P := Try.prog) (Value.int .i64) 0 22 3 .i64 Try.underlying22 hi0 hsz A1 c1 l1 4 (by omega) (by have := HL.out; omega) HC1.out
     obtain ⟨A2, hdk, hdr, hdc⟩ := print_drop_of (P := Try.prog) (Value.int .i64) 0 22 3 .i64 Try.underlying22 hi0 hsz A1 c1 l1 4 (by omega) (by have := HL.out; omega) HC1.out
     have e4 : (4 : Int).toNat = 4 := rfl
     rw [e4] at htk htr htc hdk hdr hdc
     have hC1 := Kd.C_below HR1.out HB.out
     have HX : Hid (Kd.C (Kd.int .i64) wr A1 (l1.take 4).length (l1.take 4)) := Lib.hid (Kd.C_of_reads (h1 := fun _ => rfl) (htr wr (Kd.reads_of_C hC1)))
     have HY : Hid (Kd.C (Kd.int .i64) wr A2 (l1.drop 4).length (l1.drop 4)) := Lib.hid (Kd.C_of_reads (h1 := fun _ => rfl) (hdr wr (Kd.reads_of_C hC1)))
     obtain ⟨X, hX⟩ : ∃ X, l1.take 4 = X := ⟨_, rfl⟩
     obtain ⟨Y, hY⟩ : ∃ Y, l1.drop 4 = Y := ⟨_, rfl⟩
     rw [hX] at HX htk htc
     rw [hY] at HY hdk hdc
     rw [HL.out] at htk hdk
     have HTC := Lib.hid htc
     have HDC := Lib.hid hdc
     have HEX := Lib.hid hX
     have HEY := Lib.hid hY
     have H2 : Hid (((spec_l4Reduce.f k a0 [X, Y] 4).bind fun r =>
       if r.1.length = 2 then (if (r.1.getD 0 []).length < 1000000 ∧ (r.1.getD 1 []).length < 1000000 then spec_l7Same.f k (r.1.getD 0 [] ++ r.1.getD 1 []) l1 else none) else some false) = some r) := Lib.hid (by
      have h := H.out
      rw [if_pos trivial, if_pos HL.out, if_pos HALL3.out, hX, hY] at h
      exact h)
     clear hX hY htr hdr htc hdc hC1 e4 hi0 hsz H
     obtain ⟨⟨L, hs⟩, hred, h2'⟩ := Option.bind_eq_some_iff.1 H2.out
     have HRED := Lib.hid hred
     have H3 := Lib.hid h2'
     clear hred h2' H2
     go_wp2_with fail
     go_region_held3 (fun w' => True) (trivial)
      (first | ((go_at_call 60; refine (spec_l4Reduce.calls k a0 _ _ _ [X, Y] 4 L hs _ (Kd.V_mk (Nat.le_refl 2) (Kd.C_F (Kd.heap_slice 3 (Kd.heap_int .i64)) (lit2_C (w := wr.drew) (Kd.C_drew HX.out) HTC.out (Kd.C_drew HY.out) HDC.out))) HRED.out).mono ?_; rintro e w2 ⟨v0, v1, rfl, ho0, ho1, hb⟩)))
     have HB2 : Hid (Below w.heap.size w w2) := Lib.hid (((HB.out.drew).alloc HB.out.size _).trans (hb.mono (by have := HB.out.size; simp; omega)))
     by_cases h2 : L.length = 2
     ·obtain ⟨x, y, rfl⟩ : ∃ x y, L = [x, y] := by
       match L, h2 with
       | [x, y], _ => exact ⟨x, y, rfl⟩
      obtain ⟨g, c0, rfl, _, hgl, _⟩ := Kd.N_form ho0 (by simp)
      obtain ⟨ad, B0, k0, e0, hx0, hb0, hC0⟩ := spi_row_of_C (Kd.F_now (Kd.N_F ho0)) 0 (by simp)
      obtain ⟨_, B1, k1, e1, hx1, hb1, hC1⟩ := spi_row_of_C (Kd.F_now (Kd.N_F ho0)) 1 (by simp)
      injection e0 with e0
      subst e0
      injection e1 with e1
      subst e1
      rw [add_plain] at hx0 hx1
      simp only [List.getElem_cons_zero, List.getElem_cons_succ] at hx0 hb0 hC0 hx1 hb1 hC1
      have HGL := Lib.hid hgl
      have HC0 := Lib.hid hC0
      have HCY := Lib.hid hC1
      obtain ⟨xy, hxy⟩ : ∃ xy, ([] ++ x ++ y : List Int) = xy := ⟨_, rfl⟩
      have HBN : Hid (x.length < 1000000 ∧ y.length < 1000000 ∧ spec_l7Same.f k xy l1 = some r) := Lib.hid (by
       have h := H3.out
       rw [← hxy]
       simp only [List.length_cons, List.length_nil, if_true, List.getD_cons_zero, List.getD_cons_succ] at h
       split at h
       ·next hh => exact ⟨hh.1, hh.2, h⟩
       ·simp at h)
      have HXY := Lib.hid hxy
      have HS7 : Hid (∀ (A0 : Option Addr) (c0 : Nat) (W : World), Kd.C (Kd.int .i64) W A0 xy.length xy → xy.length ≤ c0 → Below w.heap.size w W → Calls Try.prog 61 #[.slice A0 xy.length c0, .slice A1 8 c1] W fun e w' => e = .returned (.bool r) ∧ Drawn0 W w') := Lib.hid (fun A0 c0 W h0 h1 hb => by
       have h := spec_l7Same.calls k A0 c0 xy A1 c1 l1 r W h0 h1 (Kd.C_below HR1.out hb) HC1.out HBN.out.2.2
       rw [HL.out] at h
       exact h)
      clear H3 hC0 hC1 hb0 hb1 h2 hgl ho0 ho1 hb htk hdk hxy
      go_wp2_with fail
      go_region_held3 (fun w' => w'.cell? ⟨g, 0, none⟩ = some (.slice B0 x.length k0) ∧ w'.cell? ⟨g, 1, none⟩ = some (.slice B1 y.length k1)) (first | exact ⟨spi_keep_row HGL.out hb3 hx0, spi_keep_row HGL.out hb3 hx1⟩ | exact ⟨spi_keep_row HGL.out hb2 hx0, spi_keep_row HGL.out hb2 hx1⟩ | exact ⟨spi_keep_row HGL.out hb1 hx0, spi_keep_row HGL.out hb1 hx1⟩ | go_keep)
       (first
        | ((refine Kd.R_append_rows_step (Kd.int .i64) (Rr := fun x c => c = [Value.int .i64 x]) (w0 := w2) w2.heap.size (by rfl) (.tmp 42) (.tmp 45) 22 3 (.int .i64 0) 8 (by rfl) Try.underlying22 info3 rfl (by decide) (by decide) (.slice (some ⟨w2.heap.size, 0, none⟩) 0 0) [] x B0 x.length k0 (fun _ => True) (fun _ => False) (by rfl) (by rfl) ⟨fun _ _ => trivial, [], spi_own_nil _ 3 _ (Nat.le_refl _), Reps.none _ _⟩ (Kd.C_alloc (Kd.C_drew HC0.out) _) (fun _ _ h => h) (fun _ h => h.elim) (fun _ _ => trivial) (((Below.refl _ _).drew).alloc (Nat.le_refl _) _) (by simp) (by have := HBN.out.1; simp; omega) ?_; intro v2 w3 hown1 hb1 hg1 hat1))
        | ((refine Kd.R_append_rows_step (Kd.int .i64) (Rr := fun x c => c = [Value.int .i64 x]) (w0 := w2) w2.heap.size (by rfl) (.tmp 46) (.tmp 49) 22 3 (.int .i64 0) 8 (by rfl) Try.underlying22 info3 rfl (by decide) (by decide) v2 ([] ++ x) y B1 y.length k1 (fun _ => True) (fun _ => False) (by rfl) (by rfl) hown1 (Kd.C_below HCY.out hb1) (fun _ _ h => h) (fun _ h => h.elim) (fun _ _ => trivial) hb1 hb1.size (by have := HBN.out.1; have := HBN.out.2.1; simp; omega) ?_; intro v3 w4 hown2 hb2 hg2 hat2; rw [HXY.out] at hown2; obtain ⟨A3, c3, e3⟩ := Kd.R_slice hown2; subst e3))
        | ((go_at_call 61; refine (HS7.out _ _ _ (Kd.R_reads' hown2).2.2 (Kd.R_reads' hown2).2.1 (HB2.out.trans (hb2.mono HB2.out.size))).mono ?_; rintro e w5 ⟨rfl, ⟨nd, rfl⟩⟩; have hb3 := pw_below_drewN hb2 nd)))
      go_wp2; go_ret
      exact ⟨rfl, HB2.out.trans (hb3.mono HB2.out.size)⟩
     ·obtain ⟨A0, c0, rfl⟩ := Kd.N_slice ho0
      obtain rfl : r = false := by
       have h := H3.out
       rw [if_neg h2] at h
       exact (Option.some.inj h).symm
      have h3 : ((L.length : Int) == 2) = false := beq_eq_false_iff_ne.mpr (by omega)
      clear ho0 ho1 hb H3 h2 htk hdk
      go_wp2_with fail
      go_quiet (fail)
      go_wp2; go_ret
      exact ⟨rfl, pw_below_drewN HB2.out nq⟩
  ·obtain rfl : r = false := by have h := H.out; rw [if_neg hl] at h; simp at h; exact h
   have h8 : ((l1.length : Int) != 8) = true := bne_iff_ne.mpr (by omega)
   have h9 : ((l1.length : Int) == 8) = false := beq_eq_false_iff_ne.mpr (by omega)
   clear hl
   go_enter Try.func23, Try.ntmps23
   go_wp2_with fail
   refine (spec_PrimeIn.calls a0 true _ HPR.out).mono ?_
   rintro e w1 ⟨rfl, ⟨q, rfl⟩⟩
   go_wp2; go_ret
   exact ⟨rfl, pw_below_drewN (Below.refl _ _) q⟩/-! ### spec_l7Rank: function 67 -/
def spec_l7Rank.f (k : Nat) (a0 : Int) (l1 : List (List Int)) : Option (Int) := (spec_l4Reduce.f k a0 l1 4).bind fun bt182 => (some (bt182.1.length : Int))
theorem spec_l7Rank.mono : ∀ a0 a1 k, LeO (spec_l7Rank.f k a0 a1) (spec_l7Rank.f (k + 1) a0 a1) := by
 intro a0 a1 k
 unfold spec_l7Rank.f
 repeat' first | (with_reducible first | apply spec_l4Reduce.mono | exact LeO.refl _ | exact LeO.none _ | refine LeO.ite ?_ ?_ | refine LeO.bind ?_ (fun _ => ?_)) | (first | apply spec_l4Reduce.mono | exact LeO.none _ | refine LeO.ite ?_ ?_ | refine LeO.bind ?_ (fun _ => ?_))
set_option maxHeartbeats 8000000 in
set_option maxRecDepth 100000 in
theorem spec_l7Rank.calls (k : Nat) (a0 : Int) (A1 : Option Addr) (c1 : Nat) (l1 : List (List Int)) (r : Int) (w : World) (hr1 : Kd.C (Kd.slice 3 (Kd.int .i64)) w A1 l1.length l1) (hc1 : l1.length ≤ c1) (h : spec_l7Rank.f k a0 l1 = some r) :
  Calls Try.prog 67 #[.int .i64 a0, .slice A1 l1.length c1] w fun e w' => e = .returned (.int .i64 r) ∧ Below w.heap.size w w' := by
 have HR1 := am hr1
 have HC1 := am hc1
 clear hr1 hc1
 have HB := am (Below.refl w.heap.size w)
 have H : ((spec_l4Reduce.f k a0 l1 4).bind fun bt182 => (some (bt182.1.length : Int))) = some r := h
 clear h; replace H := bs H
 obtain ⟨⟨t182, t185⟩, A3, H⟩ := H
 dsimp only at H
 obtain rfl := Option.some.inj H
 go_enter Try.func67, Try.ntmps67
 go_wp2_with (first | ((with_reducible refine gate_callee (f := 60) rfl ?_); refine gl 10 Try.func60 #[.int .i64 a0, .slice A1 l1.length c1, .int .i64 4] ?_; (with_reducible refine (spec_l4Reduce.calls k a0 (fun k_ => k_ < w.heap.size) _ _ l1 4 t182 t185 _ ?_ A3.out).mono ?_); exact Kd.V_mk HC1.out (Kd.F_below (Kd.C_F (Kd.heap_slice 3 (Kd.heap_int .i64)) HR1.out) (bw HB)); rintro e w4 ⟨v183, v186, rfl, ho0, ho1, hb⟩; refine ⟨_, rfl, ?_⟩; have HO184 := am (Kd.N_lower (Kd.N_mono (ok' := fun k_ => some k_ ≠ (v186 : Value).ownBlock) ho0 (fun k_ hk_ => hk_.2)) (bz HB)); have HO187 := am (Kd.R_lower (Kd.R_mono (ok' := fun k_ => True) ho1 (fun _ hk_ => trivial)) (bz HB)); replace HB := bq HB hb; (try clear hb); (try clear ho0); (try clear ho1); obtain ⟨Ao5, co5, eo5⟩ := Kd.N_slice HO184.out; subst eo5))
 go_ret
 exact ⟨fq, bw HB⟩/-! ### spec_SpaceCross: function 37 (by hand) -/
def spec_SpaceCross.f (k : Nat) (a0 : Int) (l1 : List Int) (l2 : List Int) : Option (Bool) := (spec_SpaceIn.f k a0 l1).bind fun t168 => (if t168 = true then ((spec_SpaceIn.f k a0 l2).bind fun t169 => (if t169 = true then (if 4 ≤ (l1.length : Int) then (if 4 ≤ (l2.length : Int) then ((spec_l7Rank.f k a0 (([(l1.take 4), (l1.drop 4), (l2.take 4), (l2.drop 4)] : List (List Int)))).bind fun t193 => (some (t193 == 3))) else (none)) else (none)) else (some false))) else (some false))
theorem spec_SpaceCross.mono : ∀ a0 a1 a2 k, LeO (spec_SpaceCross.f k a0 a1 a2) (spec_SpaceCross.f (k + 1) a0 a1 a2) := by
 intro a0 a1 a2 k
 unfold spec_SpaceCross.f
 repeat' first | (with_reducible first | apply spec_SpaceIn.mono | apply spec_l7Rank.mono | exact LeO.refl _ | exact LeO.none _ | refine LeO.ite ?_ ?_ | refine LeO.bind ?_ (fun _ => ?_)) | (first | apply spec_SpaceIn.mono | apply spec_l7Rank.mono | exact LeO.none _ | refine LeO.ite ?_ ?_ | refine LeO.bind ?_ (fun _ => ?_))
def spec_SpaceCross.T1 : Bool × List (List Nat × List Nat) := (true, [([], []), ([], []), ([0, 1], [0, 1]), ([2, 2], [2]), ([3], [3]), ([3], [3]), ([4, 5, 3, 3], [3, 4, 5]), ([3, 6], [3, 6]), ([7, 6], [7]), ([8], [8]), ([8], [8]), ([10, 8], [8, 10]), ([8], [8]), ([12, 8], [8, 12]), ([8], [8]), ([14, 8], [8, 14]), ([8], [8]), ([16, 8], [8, 16]), ([11, 13, 15, 17, 8], [8, 11, 13, 15, 17]), ([9, 18, 8, 8], [8, 9, 18]), ([19, 8], [8, 19]), ([8, 20], [8, 20]), ([21, 19, 0, 1, 2, 3, 4, 5, 6, 7, 8, 9, 10, 11, 12, 13, 14, 15, 16, 17, 18, 19, 20, 21], [21])])
def spec_SpaceCross.B1 : List Nat := [0, 0, 3, 7, 15, 15, 63, 127, 255, 511, 511, 1535, 511, 4607, 511, 16895, 511, 66047, 261631, 524287, 1048575, 2097151, 4194303]
theorem spec_SpaceCross.tab1 : rtab .any (opsOf Try.f37 1) = spec_SpaceCross.T1 := by kernel_rfl
theorem spec_SpaceCross.bits1 : waitsOk spec_SpaceCross.T1.2 spec_SpaceCross.B1 = true := by kernel_rfl
set_option maxHeartbeats 8000000 in
set_option maxRecDepth 100000 in
theorem spec_SpaceCross.callsV (k : Nat) (a0 : Int) (P1_ : Nat → Prop) (A1 : Option Addr) (c1 : Nat) (l1 : List Int) (P2_ : Nat → Prop) (A2 : Option Addr) (c2 : Nat) (l2 : List Int) (r : Bool) (w : World) (hs1 : Kd.V (Kd.int .i64) 3 w w.heap.size (fun k_ => P1_ k_) (.slice A1 l1.length c1) l1) (hs2 : Kd.V (Kd.int .i64) 3 w w.heap.size (fun k_ => P2_ k_) (.slice A2 l2.length c2) l2) (h : spec_SpaceCross.f k a0 l1 l2 = some r) :
  Calls Try.prog 37 #[.int .i64 a0, .slice A1 l1.length c1, .slice A2 l2.length c2] w fun e w' => e = .returned (.bool r) ∧ Below w.heap.size w w' := by
 have HO1 := am (show Kd.V (Kd.int .i64) 3 w w.heap.size (fun k_ => ((P1_ k_ ∨ P2_ k_) ∨ w.heap.size ≤ k_)) (.slice A1 l1.length c1) l1 from Kd.V_mono hs1 (fun k_ hk => .inl (.inl hk)))
 have HO2 := am (show Kd.V (Kd.int .i64) 3 w w.heap.size (fun k_ => ((P1_ k_ ∨ P2_ k_) ∨ w.heap.size ≤ k_)) (.slice A2 l2.length c2) l2 from Kd.V_mono hs2 (fun k_ hk => .inl (.inr hk)))
 have HB := am (Below.refl w.heap.size w)
 have H : ((spec_SpaceIn.f k a0 l1).bind fun t168 => (if t168 = true then ((spec_SpaceIn.f k a0 l2).bind fun t169 => (if t169 = true then (if 4 ≤ (l1.length : Int) then (if 4 ≤ (l2.length : Int) then ((spec_l7Rank.f k a0 (([(l1.take 4), (l1.drop 4), (l2.take 4), (l2.drop 4)] : List (List Int)))).bind fun t193 => (some (t193 == 3))) else (none)) else (none)) else (some false))) else (some false))) = some r := h
 clear h; replace H := bs H; obtain ⟨t168, A4, H⟩ := H
 by_cases c5 : t168 = true
 ·subst c5
  rw [if_pos rfl] at H
  replace H := bs H; obtain ⟨t169, A6, H⟩ := H
  by_cases c7 : t169 = true
  ·subst c7
   rw [if_pos rfl] at H
   replace H := ifn H; obtain ⟨c8, H⟩ := H; have c8b0 := eq_true c8; have c8b1 := decide_eq_true c8; clear c8
   generalize hy170 : (l1.take 4 : List Int) = y170 at H
   have Ny170 := am hy170.symm; clear hy170
   have c9b0 := eq_true (od : 4 ≤ (l1.length : Int))
   generalize hy175 : (l1.drop 4 : List Int) = y175 at H
   have Ny175 := am hy175.symm; clear hy175; replace H := ifn H; obtain ⟨c10, H⟩ := H; have c10b0 := eq_true c10; have c10b1 := decide_eq_true c10; clear c10
   generalize hy180 : (l2.take 4 : List Int) = y180 at H
   have Ny180 := am hy180.symm; clear hy180
   have c11b0 := eq_true (od : 4 ≤ (l2.length : Int))
   generalize hy185 : (l2.drop 4 : List Int) = y185 at H
   have Ny185 := am hy185.symm; clear hy185
   generalize hy190 : (([y170, y175, y180, y185] : List (List Int))) = y190 at H
   have Ny190 := am hy190.symm; clear hy190; replace H := bs H; obtain ⟨t193, A12, H⟩ := H; obtain rfl := Option.some.inj H
   go_enter Try.func37, Try.ntmps37
   try go_wp2
   replace HO1 := am (Kd.V_drew HO1.out)
   replace HO2 := am (Kd.V_drew HO2.out)
   replace HB := am (below_drew1 HB.out)
   refine st 23 (fun w' => True) [] spec_SpaceCross.tab1 spec_SpaceCross.bits1 (trivial) fun hHeld HT_ HW_ => ?_
   generalize w.drew = w13 at HO1 HO2 HB hHeld ⊢
   refine pz 0 7 HT_ ?_; refine pz 1 8 HT_ ?_
   refine on 2 (some 9) HT_ fun K hK => ?_
   refine gs_ Try.func23 #[.int .i64 a0, .slice A1 l1.length c1] ?_
   with_reducible refine (spec_SpaceIn.calls k a0 _ _ l1 true _ ?side1 ?side2 A4.out).mono ?_
   (case side1 => exact Kd.C_below (Kd.V_reads' HO1.out).2.2 gs)
   (case side2 => exact (Kd.V_reads' HO1.out).2.1)
   rintro e w14 ⟨rfl, hb⟩
   refine ⟨_, rfl, ?_⟩
   replace HO1 := am (Kd.V_below (wV HO1) hb)
   replace HO2 := am (Kd.V_below (wV HO2) hb)
   replace HB := bq HB hb
   (try clear hb)
   (try clear hb2)
   (try clear hk)
   (try clear hi)
   refine hK.out _ _ trivial fun hHeld => nz ?_
   clear hK K; refine pz 3 10 HT_ ?_; refine pz 4 11 HT_ ?_; refine pz 5 12 HT_ ?_
   refine on 6 (some 13) HT_ fun K hK => ?_
   refine gs_ Try.func23 #[.int .i64 a0, .slice A2 l2.length c2] ?_
   with_reducible refine (spec_SpaceIn.calls k a0 _ _ l2 true _ ?side1 ?side2 A6.out).mono ?_
   (case side1 => exact Kd.C_below (Kd.V_reads' HO2.out).2.2 gs)
   (case side2 => exact (Kd.V_reads' HO2.out).2.1)
   rintro e w15 ⟨rfl, hb⟩
   refine ⟨_, rfl, ?_⟩
   replace HO1 := am (Kd.V_below (wV HO1) hb)
   replace HO2 := am (Kd.V_below (wV HO2) hb)
   replace HB := bq HB hb
   (try clear hb)
   (try clear hb2)
   (try clear hk)
   (try clear hi)
   have q16 : (4 : Int) ≤ ((l1.length : Int) : Int) := od
   obtain ⟨i016, hi016, _, hsz16, _⟩ := info_parts info3
   have hroom16 : l1.length ≤ c1 := (Kd.V_reads' HO1.out).2.1
   have hC16 : Kd.F (Kd.int .i64) _ _ A1 l1.length l1 := (Kd.V_at (base := w.heap.size) HO1.out).2.2
   have hcut16 := cut_to (P := Try.prog) 22 3 .i64 Try.underlying22 hi016 A1 l1.length c1 4 (by omega) q16 hroom16
   have hr16 := Kd.F_take (m := 4) hC16 (by omega)
   have hy16 : y170.length = (4 : Int).toNat := (by rw [Ny170.out, List.length_take]; omega)
   rw [← Ny170.out] at hr16
   rw [← hy16] at hcut16
   have HO174 := am (show Kd.V (Kd.int .i64) 3 _ w.heap.size _ (.slice A1 y170.length c1) y170 from Kd.V_mk (by omega) hr16)
   have HC174 := am (show y170.length ≤ c1 from by omega)
   clear hr16 hC16 hroom16 hi016 hsz16
   have KY16 := am hy16
   clear hy16; replace q16 := eq_true q16
   have q17 : (4 : Int) ≤ ((l1.length : Int) : Int) := od
   obtain ⟨i017, hi017, _, hsz17, _⟩ := info_parts info3
   have hroom17 : l1.length ≤ c1 := (Kd.V_reads' HO1.out).2.1
   have hC17 : Kd.F (Kd.int .i64) _ _ A1 l1.length l1 := (Kd.V_at (base := w.heap.size) HO1.out).2.2
   have hcut17 := cut_from (P := Try.prog) 22 3 .i64 Try.underlying22 hi017 1 hsz17 A1 l1.length c1 4 (by omega) q17
   have hr17 := Kd.F_cut (m := (4 : Int).toNat) (c := c1) hC17 (by omega) hroom17
   obtain ⟨A17, hA17⟩ : ∃ Az_, Az_ = (if c1 = (4 : Int).toNat then A1 else (A1 : Option Addr).map (·.add ((4 : Int).toNat * 1))) := ⟨_, rfl⟩
   obtain ⟨c17, hc17⟩ : ∃ cz_, cz_ = c1 - (4 : Int).toNat := ⟨_, rfl⟩
   have hy17 : y175.length = l1.length - (4 : Int).toNat := (by rw [Ny175.out, List.length_drop] <;> omega)
   rw [show (l1).drop (4 : Int).toNat = y175 from Ny175.out.symm] at hr17
   replace hr17 : Kd.F (Kd.int .i64) _ _ A17 y175.length y175 := (by rw [hA17]; exact hr17)
   rw [← hy17, ← hA17, ← hc17] at hcut17
   have HO179 := am (show Kd.V (Kd.int .i64) 3 _ w.heap.size _ (.slice A17 y175.length c17) y175 from Kd.V_mk (by rw [hy17, hc17]; exact Nat.sub_le_sub_right hroom17 _) hr17)
   have HC179 := am (show y175.length ≤ c17 from by rw [hy17, hc17]; exact Nat.sub_le_sub_right hroom17 _)
   clear hr17 hC17 hroom17 hi017 hsz17 hc17
   have KY17 := am hy17
   have KA17 := am hA17
   clear hy17 hA17; replace q17 := eq_true q17
   have q18 : (4 : Int) ≤ ((l2.length : Int) : Int) := od
   obtain ⟨i018, hi018, _, hsz18, _⟩ := info_parts info3
   have hroom18 : l2.length ≤ c2 := (Kd.V_reads' HO2.out).2.1
   have hC18 : Kd.F (Kd.int .i64) _ _ A2 l2.length l2 := (Kd.V_at (base := w.heap.size) HO2.out).2.2
   have hcut18 := cut_to (P := Try.prog) 22 3 .i64 Try.underlying22 hi018 A2 l2.length c2 4 (by omega) q18 hroom18
   have hr18 := Kd.F_take (m := 4) hC18 (by omega)
   have hy18 : y180.length = (4 : Int).toNat := (by rw [Ny180.out, List.length_take]; omega)
   rw [← Ny180.out] at hr18
   rw [← hy18] at hcut18
   have HO184 := am (show Kd.V (Kd.int .i64) 3 _ w.heap.size _ (.slice A2 y180.length c2) y180 from Kd.V_mk (by omega) hr18)
   have HC184 := am (show y180.length ≤ c2 from by omega)
   clear hr18 hC18 hroom18 hi018 hsz18
   have KY18 := am hy18
   clear hy18; replace q18 := eq_true q18
   have q19 : (4 : Int) ≤ ((l2.length : Int) : Int) := od
   obtain ⟨i019, hi019, _, hsz19, _⟩ := info_parts info3
   have hroom19 : l2.length ≤ c2 := (Kd.V_reads' HO2.out).2.1
   have hC19 : Kd.F (Kd.int .i64) _ _ A2 l2.length l2 := (Kd.V_at (base := w.heap.size) HO2.out).2.2
   have hcut19 := cut_from (P := Try.prog) 22 3 .i64 Try.underlying22 hi019 1 hsz19 A2 l2.length c2 4 (by omega) q19
   have hr19 := Kd.F_cut (m := (4 : Int).toNat) (c := c2) hC19 (by omega) hroom19
   obtain ⟨A19, hA19⟩ : ∃ Az_, Az_ = (if c2 = (4 : Int).toNat then A2 else (A2 : Option Addr).map (·.add ((4 : Int).toNat * 1))) := ⟨_, rfl⟩
   obtain ⟨c19, hc19⟩ : ∃ cz_, cz_ = c2 - (4 : Int).toNat := ⟨_, rfl⟩
   have hy19 : y185.length = l2.length - (4 : Int).toNat := (by rw [Ny185.out, List.length_drop] <;> omega)
   rw [show (l2).drop (4 : Int).toNat = y185 from Ny185.out.symm] at hr19
   replace hr19 : Kd.F (Kd.int .i64) _ _ A19 y185.length y185 := (by rw [hA19]; exact hr19)
   rw [← hy19, ← hA19, ← hc19] at hcut19
   have HO189 := am (show Kd.V (Kd.int .i64) 3 _ w.heap.size _ (.slice A19 y185.length c19) y185 from Kd.V_mk (by rw [hy19, hc19]; exact Nat.sub_le_sub_right hroom19 _) hr19)
   have HC189 := am (show y185.length ≤ c19 from by rw [hy19, hc19]; exact Nat.sub_le_sub_right hroom19 _)
   clear hr19 hC19 hroom19 hi019 hsz19 hc19
   have KY19 := am hy19
   have KA19 := am hA19
   clear hy19 hA19; replace q19 := eq_true q19
   refine hK.out _ _ trivial fun hHeld => nz ?_
   clear hK K; refine pz 7 14 HT_ ?_; refine pz 8 15 HT_ ?_; refine pz 9 16 HT_ ?_; refine pz 10 17 HT_ ?_; refine pz 11 18 HT_ ?_; refine pz 12 19 HT_ ?_; refine pz 13 20 HT_ ?_; refine pz 14 21 HT_ ?_; refine pz 15 22 HT_ ?_; refine pz 16 23 HT_ ?_
   refine pz 17 24 HT_ ?_
   refine on 18 (some 25) HT_ fun K hK => ?_
   refine Kd.N_lit_step (Kd.slice 3 (Kd.int .i64)) _ 22 ?hg (N' := 25) ?hd (xs := ([y170, y175, y180, y185] : List (List Int))) (inner := [.slice A1 y170.length c1, .slice A17 y175.length c17, .slice A2 y180.length c2, .slice A19 y185.length c19]) (ok := (fun k_ => ((P1_ k_ ∨ P2_ k_) ∨ w.heap.size ≤ k_))) (okp := (fun k_ => ((P1_ k_ ∨ P2_ k_) ∨ w.heap.size ≤ k_))) ?hr ?hp (fun _ hk => hk) ((show ∀ k_, w15.heap.size ≤ k_ → (fun k_ => ((P1_ k_ ∨ P2_ k_) ∨ w.heap.size ≤ k_)) k_ from fun k_ hk => (.inr (Nat.le_trans (bz HB) hk))) _ (Nat.le_refl _)) (Below.refl _ _) (Nat.le_refl _) (by simp) ?_; (case hd => rfl); (case hg => rfl); (case hr => first | (go_simp; done) | (go_simp; rfl)); (case hp => exact (Reps.one (show Kd.FK (Kd.slice 3 (Kd.int .i64)) _ _ y170 [.slice A1 y170.length c1] from (Kd.FK_slice_mk (Kd.V_reads' (HO174.out)).2.1 (Kd.V_F (wV HO174)))) (Reps.one (show Kd.FK (Kd.slice 3 (Kd.int .i64)) _ _ y175 [.slice A17 y175.length c17] from (Kd.FK_slice_mk (Kd.V_reads' (HO179.out)).2.1 (Kd.V_F (wV HO179)))) (Reps.one (show Kd.FK (Kd.slice 3 (Kd.int .i64)) _ _ y180 [.slice A2 y180.length c2] from (Kd.FK_slice_mk (Kd.V_reads' (HO184.out)).2.1 (Kd.V_F (wV HO184)))) (Reps.one (show Kd.FK (Kd.slice 3 (Kd.int .i64)) _ _ y185 [.slice A19 y185.length c19] from (Kd.FK_slice_mk (Kd.V_reads' (HO189.out)).2.1 (Kd.V_F (wV HO189)))) (Reps.none _ _))))))
   intro v191 w20 ho21 hb hg_ hnew_
   clear hg_ hnew_
   (first | rw [← Ny190.out] at ho21 | (simp only [Int.reduceToNat] at ho21; rw [← Ny190.out] at ho21))
   replace HO1 := eV HO1 (Kd.N_base ho21) hb
   replace HO2 := eV HO2 (Kd.N_base ho21) hb
   replace HO174 := eV HO174 (Kd.N_base ho21) hb
   replace HO179 := eV HO179 (Kd.N_base ho21) hb
   replace HO184 := eV HO184 (Kd.N_base ho21) hb
   replace HO189 := eV HO189 (Kd.N_base ho21) hb
   have HO192 := am (Kd.N_lower ho21 (bz HB))
   replace HB := bq HB hb
   clear hb ho21
   obtain ⟨Ao22, co22, eo22⟩ := Kd.N_slice HO192.out
   (first | subst eo22 | (injection eo22 with f1_ f2_ f3_; have f4_ := f1_.symm; have f5_ := f3_.symm; clear f1_ f2_ f3_; subst f4_; subst f5_))
   refine hK.out _ _ trivial fun hHeld => nz ?_
   clear hK K
   refine on 19 (some 26) HT_ fun K hK => ?_
   refine gs_ Try.func67 #[.int .i64 a0, .slice Ao22 y190.length co22] ?_
   with_reducible refine (spec_l7Rank.calls k a0 _ _ y190 t193 _ ?side1 ?side2 A12.out).mono ?_
   (case side1 => exact Kd.C_below (Kd.N_reads' HO192.out).2.2 gs)
   (case side2 => exact (Kd.N_reads' HO192.out).2.1)
   rintro e w23 ⟨rfl, hb⟩
   refine ⟨_, rfl, ?_⟩
   replace HO1 := am (Kd.V_below (wV HO1) hb)
   replace HO2 := am (Kd.V_below (wV HO2) hb)
   replace HO174 := am (Kd.V_below (wV HO174) hb)
   replace HO179 := am (Kd.V_below (wV HO179) hb)
   replace HO184 := am (Kd.V_below (wV HO184) hb)
   replace HO189 := am (Kd.V_below (wV HO189) hb)
   replace HO192 := am (Kd.N_below (wN HO192) hb)
   replace HB := bq HB hb
   (try clear hb)
   (try clear hb2)
   (try clear hk)
   (try clear hi)
   refine hK.out _ _ trivial fun hHeld => nz ?_
   clear hK K; refine pz 20 27 HT_ ?_; refine pz 21 28 HT_ ?_; refine pz 22 6 HT_ ?_
   refine done_ (done_of HT_.out (by kernel_rfl)) ?_
   try go_wp2
   go_ret
   exact ⟨fq, bw HB⟩
  ·replace c7 := Bool.eq_false_iff.mpr c7
   subst c7
   rw [if_neg (show ¬ (false = true) by decide)] at H
   obtain rfl := Option.some.inj H
   go_enter Try.func37, Try.ntmps37
   try go_wp2
   replace HO1 := am (Kd.V_drew HO1.out)
   replace HO2 := am (Kd.V_drew HO2.out)
   replace HB := am (below_drew1 HB.out)
   refine st 23 (fun w' => True) [] spec_SpaceCross.tab1 spec_SpaceCross.bits1 (trivial) fun hHeld HT_ HW_ => ?_
   generalize w.drew = w24 at HO1 HO2 HB hHeld ⊢
   refine pz 0 7 HT_ ?_; refine pz 1 8 HT_ ?_
   refine on 2 (some 9) HT_ fun K hK => ?_
   refine gs_ Try.func23 #[.int .i64 a0, .slice A1 l1.length c1] ?_
   with_reducible refine (spec_SpaceIn.calls k a0 _ _ l1 true _ ?side1 ?side2 A4.out).mono ?_
   (case side1 => exact Kd.C_below (Kd.V_reads' HO1.out).2.2 gs)
   (case side2 => exact (Kd.V_reads' HO1.out).2.1)
   rintro e w25 ⟨rfl, hb⟩
   refine ⟨_, rfl, ?_⟩
   replace HO1 := am (Kd.V_below (wV HO1) hb)
   replace HO2 := am (Kd.V_below (wV HO2) hb)
   replace HB := bq HB hb
   (try clear hb)
   (try clear hb2)
   (try clear hk)
   (try clear hi)
   refine hK.out _ _ trivial fun hHeld => nz ?_
   clear hK K; refine pz 3 10 HT_ ?_; refine pz 4 11 HT_ ?_; refine pz 5 12 HT_ ?_
   refine on 6 (some 13) HT_ fun K hK => ?_
   refine gs_ Try.func23 #[.int .i64 a0, .slice A2 l2.length c2] ?_
   with_reducible refine (spec_SpaceIn.calls k a0 _ _ l2 false _ ?side1 ?side2 A6.out).mono ?_
   (case side1 => exact Kd.C_below (Kd.V_reads' HO2.out).2.2 gs)
   (case side2 => exact (Kd.V_reads' HO2.out).2.1)
   rintro e w26 ⟨rfl, hb⟩
   refine ⟨_, rfl, ?_⟩
   replace HO1 := am (Kd.V_below (wV HO1) hb)
   replace HO2 := am (Kd.V_below (wV HO2) hb)
   replace HB := bq HB hb
   (try clear hb)
   (try clear hb2)
   (try clear hk)
   (try clear hi)
   refine hK.out _ _ trivial fun hHeld => nz ?_
   clear hK K; refine pz 7 14 HT_ ?_; refine pz 8 15 HT_ ?_; refine po 9 16 HT_ ?_; refine po 10 17 HT_ ?_; refine po 11 18 HT_ ?_; refine po 12 19 HT_ ?_; refine po 13 20 HT_ ?_; refine po 14 21 HT_ ?_; refine po 15 22 HT_ ?_; refine po 16 23 HT_ ?_
   refine po 17 24 HT_ ?_; refine po 18 25 HT_ ?_; refine po 19 26 HT_ ?_; refine po 20 27 HT_ ?_; refine pz 21 28 HT_ ?_; refine pz 22 6 HT_ ?_
   refine done_ (done_of HT_.out (by kernel_rfl)) ?_
   try go_wp2
   go_ret
   exact ⟨fq, bw HB⟩
 ·replace c5 := Bool.eq_false_iff.mpr c5
  subst c5
  rw [if_neg (show ¬ (false = true) by decide)] at H
  obtain rfl := Option.some.inj H
  go_enter Try.func37, Try.ntmps37
  try go_wp2
  replace HO1 := am (Kd.V_drew HO1.out)
  replace HO2 := am (Kd.V_drew HO2.out)
  replace HB := am (below_drew1 HB.out)
  refine st 23 (fun w' => True) [] spec_SpaceCross.tab1 spec_SpaceCross.bits1 (trivial) fun hHeld HT_ HW_ => ?_
  generalize w.drew = w27 at HO1 HO2 HB hHeld ⊢
  refine pz 0 7 HT_ ?_; refine pz 1 8 HT_ ?_
  refine on 2 (some 9) HT_ fun K hK => ?_
  refine gs_ Try.func23 #[.int .i64 a0, .slice A1 l1.length c1] ?_
  with_reducible refine (spec_SpaceIn.calls k a0 _ _ l1 false _ ?side1 ?side2 A4.out).mono ?_
  (case side1 => exact Kd.C_below (Kd.V_reads' HO1.out).2.2 gs)
  (case side2 => exact (Kd.V_reads' HO1.out).2.1)
  rintro e w28 ⟨rfl, hb⟩
  refine ⟨_, rfl, ?_⟩
  replace HO1 := am (Kd.V_below (wV HO1) hb)
  replace HO2 := am (Kd.V_below (wV HO2) hb)
  replace HB := bq HB hb
  (try clear hb)
  (try clear hb2)
  (try clear hk)
  (try clear hi)
  refine hK.out _ _ trivial fun hHeld => nz ?_
  clear hK K; refine pz 3 10 HT_ ?_; refine po 4 11 HT_ ?_; refine po 5 12 HT_ ?_; refine po 6 13 HT_ ?_; refine pz 7 14 HT_ ?_; refine pz 8 15 HT_ ?_; refine po 9 16 HT_ ?_; refine po 10 17 HT_ ?_; refine po 11 18 HT_ ?_; refine po 12 19 HT_ ?_
  refine po 13 20 HT_ ?_; refine po 14 21 HT_ ?_; refine po 15 22 HT_ ?_; refine po 16 23 HT_ ?_; refine po 17 24 HT_ ?_; refine po 18 25 HT_ ?_; refine po 19 26 HT_ ?_; refine po 20 27 HT_ ?_; refine pz 21 28 HT_ ?_; refine pz 22 6 HT_ ?_
  refine done_ (done_of HT_.out (by kernel_rfl)) ?_
  try go_wp2
  go_ret
  exact ⟨fq, bw HB⟩
theorem spec_SpaceCross.calls (k : Nat) (a0 : Int) (A1 : Option Addr) (c1 : Nat) (l1 : List Int) (A2 : Option Addr) (c2 : Nat) (l2 : List Int) (r : Bool) (w : World) (hr1 : Kd.C (Kd.int .i64) w A1 l1.length l1) (hc1 : l1.length ≤ c1) (hr2 : Kd.C (Kd.int .i64) w A2 l2.length l2) (hc2 : l2.length ≤ c2) (h : spec_SpaceCross.f k a0 l1 l2 = some r) :
  Calls Try.prog 37 #[.int .i64 a0, .slice A1 l1.length c1, .slice A2 l2.length c2] w fun e w' => e = .returned (.bool r) ∧ Below w.heap.size w w' :=
 spec_SpaceCross.callsV k a0 (fun q => q < w.heap.size) A1 c1 l1 (fun q => q < w.heap.size) A2 c2 l2 r w (Kd.V_mk hc1 (Kd.C_F (Kd.heap_int .i64) hr1)) (Kd.V_mk hc2 (Kd.C_F (Kd.heap_int .i64) hr2)) h/-! ### spec_l7Of: function 91 (by hand) -/
theorem l7o_own_nil (w : World) (e : Nat) (base : Nat) (hb : base ≤ w.heap.size) : (w.alloc (.cells #[] e)).ownsRow base e 1 (.slice (some ⟨w.heap.size, 0, none⟩) 0 0) 0 [] :=
 ⟨rfl, .inr ⟨w.heap.size, 0, #[], rfl, hb, (by show (w.heap.push _)[w.heap.size]? = _; simp), Nat.le_refl _, Nat.zero_le _, rfl, rfl⟩⟩
theorem l7o_row_of_C {w : World} {A : Option Addr} {n : Nat} {rows : List (List Int)} (h : Kd.C (Kd.slice 3 (Kd.int .i64)) w A n rows) (j : Nat) (hj : j < rows.length) : ∃ ad B c, A = some ad ∧ w.cell? (ad.add j) = some (.slice B (rows[j]).length c) ∧ (rows[j]).length ≤ c ∧ Kd.C (Kd.int .i64) w B (rows[j]).length rows[j] := by
 obtain ⟨hl, hm, hr⟩ := h
 obtain ⟨ad, rfl, hc⟩ := hr (by omega)
 obtain ⟨cs, _, ⟨B, c, rfl, h1, h2⟩, hcell⟩ := hc j _ (List.getElem?_eq_getElem hj)
 refine ⟨ad, B, c, rfl, ?_, h1, h2⟩
 have := hcell 0 (.slice B (rows[j]).length c) rfl
 simpa [Kd.slice] using this
theorem l7o_keep_row {w1 w2 : World} {g o : Nat} {v : Value} (hlt : g < w1.heap.size) (hb : Below w1.heap.size w1 w2) (hx : w1.cell? ⟨g, o, none⟩ = some v) : w2.cell? ⟨g, o, none⟩ = some v :=
 (World.cell?_of_block (a := ⟨g, o, none⟩) (hb.block g hlt)).trans hx
/-- what l7Of returns: the two rows one after the other, if there are just two -/
def spec_l7Of.f (k : Nat) (a0 : Int) (l1 : List (List Int)) : Option (List Int × Bool) := (spec_l4Reduce.f k a0 l1 4).bind fun t =>
 if t.1.length = 2 then (if (t.1.getD 0 []).length < 1000000 ∧ (t.1.getD 1 []).length < 1000000 then some (t.1.getD 0 [] ++ t.1.getD 1 [], true) else none) else some ([], false)
theorem spec_l7Of.mono : ∀ a0 a1 k, LeO (spec_l7Of.f k a0 a1) (spec_l7Of.f (k + 1) a0 a1) := by
 intro a0 a1 k
 unfold spec_l7Of.f
 exact LeO.bind (spec_l4Reduce.mono _ _ _ _) fun _ => LeO.refl _
set_option maxHeartbeats 4000000 in
set_option maxRecDepth 100000 in
theorem spec_l7Of.calls (k : Nat) (a0 : Int) (A1 : Option Addr) (c1 : Nat) (l1 : List (List Int)) (r1 : List Int) (r2 : Bool) (w : World) (hr1 : Kd.C (Kd.slice 3 (Kd.int .i64)) w A1 l1.length l1) (hc1 : l1.length ≤ c1) (h : spec_l7Of.f k a0 l1 = some (r1, r2)) :
  Calls Try.prog 91 #[.int .i64 a0, .slice A1 l1.length c1] w fun e w' => ∃ v0_ : Value, e = .returned (.tuple #[v0_, .bool r2]) ∧ Kd.R (Kd.int .i64) 3 w' w.heap.size (fun _ => True) v0_ r1 ∧ Below w.heap.size w w' := by
 obtain ⟨⟨L, hs⟩, hred, h'⟩ := Option.bind_eq_some_iff.1 h
 clear h
 have HRED := Lib.hid hred
 have H := Lib.hid h'
 have HV : Hid (Kd.V (Kd.slice 3 (Kd.int .i64)) 22 w w.heap.size (fun k_ => k_ < w.heap.size) (.slice A1 l1.length c1) l1) := Lib.hid (Kd.V_mk hc1 (Kd.C_F (Kd.heap_slice 3 (Kd.heap_int .i64)) hr1))
 clear h' hred hr1 hc1
 go_enter Try.func91, Try.ntmps91
 go_wp2_with fail
 refine (spec_l4Reduce.calls k a0 (fun k_ => k_ < w.heap.size) A1 c1 l1 4 L hs w HV.out HRED.out).mono ?_
 rintro e w1 ⟨v0, v1, rfl, ho0, _, hb⟩
 have HB := Lib.hid hb
 by_cases h2 : L.length = 2
 ·obtain ⟨x, y, rfl⟩ : ∃ x y, L = [x, y] := by
   match L, h2 with
   | [x, y], _ => exact ⟨x, y, rfl⟩
  obtain ⟨g, c0, rfl, _, hgl, _⟩ := Kd.N_form ho0 (by simp)
  have HGL := Lib.hid hgl
  clear hgl
  obtain ⟨ad, B0, k0, e0, hx0, hb0, hC0⟩ := l7o_row_of_C (Kd.F_now (Kd.N_F ho0)) 0 (by simp)
  obtain ⟨_, B1, k1, e1, hx1, hb1, hC1⟩ := l7o_row_of_C (Kd.F_now (Kd.N_F ho0)) 1 (by simp)
  injection e0 with e0
  subst e0
  injection e1 with e1
  subst e1
  rw [add_plain] at hx0 hx1
  simp only [List.getElem_cons_zero, List.getElem_cons_succ] at hx0 hb0 hC0 hx1 hb1 hC1
  clear ho0 hb HV
  have HC0 := Lib.hid hC0
  have HC1 := Lib.hid hC1
  have HBN : Hid (x.length < 1000000 ∧ y.length < 1000000 ∧ r1 = x ++ y ∧ r2 = true) := Lib.hid (by
   have h := H.out
   simp only [List.length_cons, List.length_nil, if_true, List.getD_cons_zero, List.getD_cons_succ] at h
   split at h
   ·next hh => simp at h; exact ⟨hh.1, hh.2, h.1.symm, h.2⟩
   ·simp at h)
  clear H hC0 hC1 hb0 hb1 h2
  go_wp2_with fail
  go_region_held3 (fun w' => w'.cell? ⟨g, 0, none⟩ = some (.slice B0 x.length k0) ∧ w'.cell? ⟨g, 1, none⟩ = some (.slice B1 y.length k1)) (first | exact ⟨l7o_keep_row HGL.out hb2 hx0, l7o_keep_row HGL.out hb2 hx1⟩ | exact ⟨l7o_keep_row HGL.out hb1 hx0, l7o_keep_row HGL.out hb1 hx1⟩ | go_keep)
   (first
    | ((refine Kd.R_append_rows_step (Kd.int .i64) (Rr := fun x c => c = [Value.int .i64 x]) (w0 := w1) w1.heap.size (by rfl) (.tmp 18) (.tmp 21) 22 3 (.int .i64 0) 8 (by rfl) Try.underlying22 info3 rfl (by decide) (by decide) (.slice (some ⟨w1.heap.size, 0, none⟩) 0 0) [] x B0 x.length k0 (fun _ => True) (fun _ => False) (by rfl) (by rfl) ⟨fun _ _ => trivial, [], l7o_own_nil _ 3 _ (Nat.le_refl _), Reps.none _ _⟩ (Kd.C_alloc (Kd.C_drew HC0.out) _) (fun _ _ h => h) (fun _ h => h.elim) (fun _ _ => trivial) (((Below.refl _ _).drew).alloc (Nat.le_refl _) _) (by simp) (by have := HBN.out.1; simp; omega) ?_; intro v2 w2 hown1 hb1 hg1 hat1))
    | ((refine Kd.R_append_rows_step (Kd.int .i64) (Rr := fun x c => c = [Value.int .i64 x]) (w0 := w1) w1.heap.size (by rfl) (.tmp 22) (.tmp 25) 22 3 (.int .i64 0) 8 (by rfl) Try.underlying22 info3 rfl (by decide) (by decide) v2 ([] ++ x) y B1 y.length k1 (fun _ => True) (fun _ => False) (by rfl) (by rfl) hown1 (Kd.C_below HC1.out hb1) (fun _ _ h => h) (fun _ h => h.elim) (fun _ _ => trivial) hb1 hb1.size (by have := HBN.out.1; have := HBN.out.2.1; simp; omega) ?_; intro v3 w3 hown2 hb2 hg2 hat2)))
  obtain ⟨_, _, rfl, rfl⟩ := HBN.out
  go_wp2
  go_ret2
  exact ⟨v3, rfl, Kd.R_lower hown2 HB.out.size, HB.out.trans (hb2.mono HB.out.size)⟩
 ·obtain ⟨A0, c0, rfl⟩ := Kd.N_slice ho0
  have HR : Hid (r1 = [] ∧ r2 = false) := Lib.hid (by
   have h := H.out
   rw [if_neg h2] at h
   simp at h
   exact h)
  have h3 : ((L.length : Int) == 2) = false := beq_eq_false_iff_ne.mpr (by omega)
  have h4 : ((L.length : Int) != 2) = true := bne_iff_ne.mpr (by omega)
  clear ho0 hb HV H h2
  obtain ⟨rfl, rfl⟩ := HR.out
  go_wp2
  go_ret2
  exact ⟨_, rfl, Kd.R_lower ⟨fun _ _ => trivial, [], l7o_own_nil w1 3 _ (Nat.le_refl _), Reps.none _ _⟩ HB.out.size, HB.out.trans ((Below.refl _ _).alloc HB.out.size _)⟩
end Go.Proofs.Ytmenehnfgenlpaa.PA

-- Written by xprint.py, a program of this claim's own (over the kit's print.py)
import Derived.Test.YtmenehnfgenlpaaPAx0
import Derived.Test.YtmenehnfgenlpaaPAx1
import Derived.Test.YtmenehnfgenlpaaPAx3
import Derived.Test.YtmenehnfgenlpaaPAx8
import Derived.Test.YtmenehnfgenlpaaPAx9
import Derived.Deep.RegionHeld3
import Derived.BigQuiet
import Derived.Deep.QuietTactic
namespace Go.Proofs.Ytmenehnfgenlpaa.PA
open Go.RowKit Go.Proofs.YtmenehnfgenlpaaW.PrintWords Go.Proofs.YtmenehnfgenlpaaW.PrintLast Go.Proofs.YtmenehnfgenlpaaW.PrintMore
attribute [local go_sem] max2_int min2_int max_two min_two max_three min_three max_four min_four   -- for this text's walks alone
set_option linter.unusedVariables false
set_option linter.unusedSimpArgs false

/-! ### spec_SpaceIn: function 23 (by hand) -/
theorem spi_own_nil (w : World) (e : Nat) (base : Nat) (hb : base ≤ w.heap.size) : (w.alloc (.cells #[] e)).ownsRow base e 1 (.slice (some ⟨w.heap.size, 0, none⟩) 0 0) 0 [] :=
  ⟨rfl, .inr ⟨w.heap.size, 0, #[], rfl, hb, (by show (w.heap.push _)[w.heap.size]? = _; simp), Nat.le_refl _, Nat.zero_le _, rfl, rfl⟩⟩
theorem spi_row_of_C {w : World} {A : Option Addr} {n : Nat} {rows : List (List Int)} (h : Kd.C (Kd.slice 3 (Kd.int .i64)) w A n rows) (j : Nat) (hj : j < rows.length) : ∃ ad B c, A = some ad ∧ w.cell? (ad.add j) = some (.slice B (rows[j]).length c) ∧ (rows[j]).length ≤ c ∧ Kd.C (Kd.int .i64) w B (rows[j]).length rows[j] := by
  obtain ⟨hl, hm, hr⟩ := h
  obtain ⟨ad, rfl, hc⟩ := hr (by omega)
  obtain ⟨cs, _, ⟨B, c, rfl, h1, h2⟩, hcell⟩ := hc j _ (List.getElem?_eq_getElem hj)
  refine ⟨ad, B, c, rfl, ?_, h1, h2⟩
  have := hcell 0 (.slice B (rows[j]).length c) rfl
  simpa [Kd.slice] using this
theorem spi_keep_row {w1 w2 : World} {g o : Nat} {v : Value} (hlt : g < w1.heap.size) (hb : Below w1.heap.size w1 w2) (hx : w1.cell? ⟨g, o, none⟩ = some v) : w2.cell? ⟨g, o, none⟩ = some v :=
  (World.cell?_of_block (a := ⟨g, o, none⟩) (hb.block g hlt)).trans hx
def lowB (p x : Int) : Bool := decide (0 ≤ x) && decide (x ≤ wrap64 (p - 1))
theorem l6In_low (p x : Int) : spec_l6In.f x 0 (wrap64 (p - 1)) = some (lowB p x) := by
  unfold spec_l6In.f lowB
  by_cases h : x ≥ 0
  · have h' : 0 ≤ x := h
    simp [h, h']
  · have h' : ¬ 0 ≤ x := h
    simp [h, h']
/-- what SpaceIn tells -/
def spec_SpaceIn.f (k : Nat) (a0 : Int) (l1 : List Int) : Option Bool := (spec_PrimeIn.f a0).bind fun t =>
  if t = true then (if l1.length = 8 then (if l1.all (lowB a0) = true then (spec_l4Reduce.f k a0 [l1.take 4, l1.drop 4] 4).bind fun r =>
    if r.1.length = 2 then (if (r.1.getD 0 []).length < 1000000 ∧ (r.1.getD 1 []).length < 1000000 then spec_l7Same.f k (r.1.getD 0 [] ++ r.1.getD 1 []) l1 else none) else some false else some false) else some false) else some false
theorem spec_SpaceIn.mono : ∀ a0 a1 k, LeO (spec_SpaceIn.f k a0 a1) (spec_SpaceIn.f (k + 1) a0 a1) := by
  intro a0 a1 k
  unfold spec_SpaceIn.f
  refine LeO.bind (LeO.refl _) fun _ => LeO.ite (LeO.ite (LeO.ite (LeO.bind (spec_l4Reduce.mono _ _ _ _) fun _ => LeO.ite (LeO.ite (spec_l7Same.mono _ _ _) (LeO.refl _)) (LeO.refl _)) (LeO.refl _)) (LeO.refl _)) (LeO.refl _)
theorem lit2_C {w : World} {A B : Option Addr} {ca cb : Nat} {x y : List Int} (hx : Kd.C (Kd.int .i64) w A x.length x) (hca : x.length ≤ ca) (hy : Kd.C (Kd.int .i64) w B y.length y) (hcb : y.length ≤ cb) :
    Kd.C (Kd.slice 3 (Kd.int .i64)) (w.alloc (.cells #[.slice A x.length ca, .slice B y.length cb] 22)) (some ⟨w.heap.size, 0, none⟩) 2 [x, y] := by
  refine ⟨rfl, by omega, fun _ => ⟨⟨w.heap.size, 0, none⟩, rfl, fun j p hj => ?_⟩⟩
  have hb := blk_new w (.cells #[.slice A x.length ca, .slice B y.length cb] 22)
  match j, hj with
  | 0, hj =>
    simp at hj
    subst hj
    refine ⟨[.slice A x.length ca], rfl, ⟨A, ca, rfl, hca, Kd.C_alloc hx _⟩, fun i u hu => ?_⟩
    match i, hu with
    | 0, hu => simp at hu; subst hu; rw [add_plain]; exact (blk_cell hb _).trans rfl
  | 1, hj =>
    simp at hj
    subst hj
    refine ⟨[.slice B y.length cb], rfl, ⟨B, cb, rfl, hcb, Kd.C_alloc hy _⟩, fun i u hu => ?_⟩
    match i, hu with
    | 0, hu => simp at hu; subst hu; rw [add_plain]; exact (blk_cell hb _).trans rfl
set_option maxHeartbeats 4000000 in
set_option maxRecDepth 100000 in
theorem spec_SpaceIn.calls (k : Nat) (a0 : Int) (A1 : Option Addr) (c1 : Nat) (l1 : List Int) (r : Bool) (w : World) (hr1 : Kd.C (Kd.int .i64) w A1 l1.length l1) (hc1 : l1.length ≤ c1) (h : spec_SpaceIn.f k a0 l1 = some r) :
    Calls Try.prog 23 #[.int .i64 a0, .slice A1 l1.length c1] w fun e w' => e = .returned (.bool r) ∧ Below w.heap.size w w' := by
  obtain ⟨t, hprime, h'⟩ := Option.bind_eq_some_iff.1 h
  clear h
  have HPR := Lib.hid hprime
  have HR1 := Lib.hid hr1
  have HC1 := Lib.hid hc1
  have H := Lib.hid h'
  clear hprime hr1 hc1 h'
  cases t with
  | false =>
    obtain rfl : r = false := by have h := H.out; simp at h; exact h
    go_enter Try.func23, Try.ntmps23
    go_wp2_with fail
    refine (spec_PrimeIn.calls a0 false _ HPR.out).mono ?_
    rintro e w1 ⟨rfl, ⟨q, rfl⟩⟩
    go_wp2
    go_ret
    exact ⟨rfl, pw_below_drewN (Below.refl _ _) q⟩
  | true =>
    by_cases hl : l1.length = 8
    · have HL := Lib.hid hl
      go_enter Try.func23, Try.ntmps23
      rw [hl]
      have h8 : ((8 : Int) != 8) = false := rfl
      clear hl
      go_wp2_with fail
      refine (spec_PrimeIn.calls a0 true _ HPR.out).mono ?_
      rintro e w1 ⟨rfl, ⟨q, rfl⟩⟩
      go_wp2_with fail
      have hb0 : Below w.heap.size w (w.drewN q) := pw_below_drewN (Below.refl _ _) q
      generalize w.drewN q = w1 at hb0 ⊢
      go_loopw [5] (fun i w' => ∃ j : Nat, j ≤ 8 ∧ i = .int .i64 j ∧ (l1.take j).all (lowB a0) = true ∧ Below w.heap.size w w') (fun i _ => 8 - (intOf i).toNat)
      case atStart => exact ⟨0, by omega, rfl, by simp, hb0⟩
      case round =>
        clear hb0
        obtain ⟨j, hj, rfl, hall, hB⟩ := hrel
        have HB := Lib.hid hB
        have HALL := Lib.hid hall
        have HJ := Lib.hid hj
        clear hB hall hj
        by_cases hlt : j < 8
        · obtain ⟨ad, e, hx⟩ := Kd.at_int (Kd.C_below HR1.out HB.out) (j : Int) (by omega) (by have := HL.out; omega)
          subst e
          simp only [Int.toNat_natCast] at hx
          have hd1 : decide ((j : Int) < 8) = true := decide_eq_true (by omega)
          have p1 : (0 ≤ (j : Int)) = True := eq_true (by omega)
          have q1 : ((j : Int) < 8) = True := eq_true (by omega)
          have hlow := l6In_low a0 (rd l1 (j : Int))
          have HLT := Lib.hid hlt
          cases hv : lowB a0 (rd l1 (j : Int)) with
          | false =>
            rw [hv] at hlow
            have HLOW := Lib.hid hlow
            have hr : r = false := by
              have h := H.out
              have ha : l1.all (lowB a0) = false := by
                rw [List.all_eq_false]
                exact ⟨rd l1 (j : Int), by rw [rd, List.getD_eq_getElem?_getD, Int.toNat_natCast, List.getElem?_eq_getElem (by have := HL.out; omega)]; exact List.getElem_mem _, by simp [hv]⟩
              rw [if_pos trivial, if_pos HL.out, if_neg (by simp [ha])] at h
              exact (Option.some.inj h).symm
            subst hr
            clear hlt hv hlow
            go_wp2_with fail
            refine (spec_l6In.calls _ _ _ _ _ HLOW.out).mono ?_
            rintro e w2 ⟨rfl, ⟨q, rfl⟩⟩
            go_wp2
            go_ret
            exact ⟨rfl, pw_below_drewN HB.out q⟩
          | true =>
            rw [hv] at hlow
            have HLOW := Lib.hid hlow
            have HALL2 : Hid ((l1.take (j + 1)).all (lowB a0) = true) := Lib.hid (by
              have h9 : j < l1.length := by have := HL.out; omega
              rw [List.take_add_one, List.all_append, HALL.out, List.getElem?_eq_getElem h9]
              have e : rd l1 (j : Int) = l1[j] := by simp [rd, List.getD_eq_getElem?_getD, h9]
              rw [e] at hv
              simp [hv])
            clear hlt hv hlow
            go_wp2_with fail
            refine (spec_l6In.calls _ _ _ _ _ HLOW.out).mono ?_
            rintro e w2 ⟨rfl, ⟨q, rfl⟩⟩
            go_wp2_with fail
            have hw1 : wrap64 ((j : Int) + 1) = ((j + 1 : Nat) : Int) := by have := HLT.out; unfold wrap64; omega
            go_roundw
            case measure => (try rw [hw1]); simp only [intOf]; have := HLT.out; omega
            case rel => exact ⟨j + 1, by have := HLT.out; omega, by first | rw [hw1] | go_num, HALL2.out, pw_below_drewN HB.out q⟩
        · have hje : j = 8 := by have := HJ.out; omega
          subst hje
          have hd1 : decide (((8 : Nat) : Int) < 8) = false := rfl
          have HALL3 : Hid (l1.all (lowB a0) = true) := Lib.hid (by have h := HALL.out; rwa [List.take_of_length_le (by have := HL.out; omega)] at h)
          clear hlt HALL
          obtain ⟨i0, hi0, _, hsz, _⟩ := info_parts info3
          obtain ⟨htk, htr, htc⟩ := print_take_of (P := Try.prog) (Value.int .i64) 0 22 3 .i64 Try.underlying22 hi0 hsz A1 c1 l1 4 (by omega) (by have := HL.out; omega) HC1.out
          obtain ⟨A2, hdk, hdr, hdc⟩ := print_drop_of (P := Try.prog) (Value.int .i64) 0 22 3 .i64 Try.underlying22 hi0 hsz A1 c1 l1 4 (by omega) (by have := HL.out; omega) HC1.out
          have e4 : (4 : Int).toNat = 4 := rfl
          rw [e4] at htk htr htc hdk hdr hdc
          have hC1 := Kd.C_below HR1.out HB.out
          have HX : Hid (Kd.C (Kd.int .i64) wr A1 (l1.take 4).length (l1.take 4)) := Lib.hid (Kd.C_of_reads (h1 := fun _ => rfl) (htr wr (Kd.reads_of_C hC1)))
          have HY : Hid (Kd.C (Kd.int .i64) wr A2 (l1.drop 4).length (l1.drop 4)) := Lib.hid (Kd.C_of_reads (h1 := fun _ => rfl) (hdr wr (Kd.reads_of_C hC1)))
          obtain ⟨X, hX⟩ : ∃ X, l1.take 4 = X := ⟨_, rfl⟩
          obtain ⟨Y, hY⟩ : ∃ Y, l1.drop 4 = Y := ⟨_, rfl⟩
          rw [hX] at HX htk htc
          rw [hY] at HY hdk hdc
          rw [HL.out] at htk hdk
          have HTC := Lib.hid htc
          have HDC := Lib.hid hdc
          have HEX := Lib.hid hX
          have HEY := Lib.hid hY
          have H2 : Hid (((spec_l4Reduce.f k a0 [X, Y] 4).bind fun r =>
              if r.1.length = 2 then (if (r.1.getD 0 []).length < 1000000 ∧ (r.1.getD 1 []).length < 1000000 then spec_l7Same.f k (r.1.getD 0 [] ++ r.1.getD 1 []) l1 else none) else some false) = some r) := Lib.hid (by
            have h := H.out
            rw [if_pos trivial, if_pos HL.out, if_pos HALL3.out, hX, hY] at h
            exact h)
          clear hX hY htr hdr htc hdc hC1 e4 hi0 hsz H
          obtain ⟨⟨L, hs⟩, hred, h2'⟩ := Option.bind_eq_some_iff.1 H2.out
          have HRED := Lib.hid hred
          have H3 := Lib.hid h2'
          clear hred h2' H2
          go_wp2_with fail
          go_region_held3 (fun w' => True) (trivial)
            (first | ((go_at_call 60; refine (spec_l4Reduce.calls k a0 _ _ _ [X, Y] 4 L hs _ (Kd.V_mk (Nat.le_refl 2) (Kd.C_F (Kd.heap_slice 3 (Kd.heap_int .i64)) (lit2_C (w := wr.drew) (Kd.C_drew HX.out) HTC.out (Kd.C_drew HY.out) HDC.out))) HRED.out).mono ?_; rintro e w2 ⟨v0, v1, rfl, ho0, ho1, hb⟩)))
          have HB2 : Hid (Below w.heap.size w w2) := Lib.hid (((HB.out.drew).alloc HB.out.size _).trans (hb.mono (by have := HB.out.size; simp; omega)))
          by_cases h2 : L.length = 2
          · obtain ⟨x, y, rfl⟩ : ∃ x y, L = [x, y] := by
              match L, h2 with
              | [x, y], _ => exact ⟨x, y, rfl⟩
            obtain ⟨g, c0, rfl, _, hgl, _⟩ := Kd.N_form ho0 (by simp)
            obtain ⟨ad, B0, k0, e0, hx0, hb0, hC0⟩ := spi_row_of_C (Kd.F_now (Kd.N_F ho0)) 0 (by simp)
            obtain ⟨_, B1, k1, e1, hx1, hb1, hC1⟩ := spi_row_of_C (Kd.F_now (Kd.N_F ho0)) 1 (by simp)
            injection e0 with e0
            subst e0
            injection e1 with e1
            subst e1
            rw [add_plain] at hx0 hx1
            simp only [List.getElem_cons_zero, List.getElem_cons_succ] at hx0 hb0 hC0 hx1 hb1 hC1
            have HGL := Lib.hid hgl
            have HC0 := Lib.hid hC0
            have HCY := Lib.hid hC1
            obtain ⟨xy, hxy⟩ : ∃ xy, ([] ++ x ++ y : List Int) = xy := ⟨_, rfl⟩
            have HBN : Hid (x.length < 1000000 ∧ y.length < 1000000 ∧ spec_l7Same.f k xy l1 = some r) := Lib.hid (by
              have h := H3.out
              rw [← hxy]
              simp only [List.length_cons, List.length_nil, if_true, List.getD_cons_zero, List.getD_cons_succ] at h
              split at h
              · next hh => exact ⟨hh.1, hh.2, h⟩
              · simp at h)
            have HXY := Lib.hid hxy
            have HS7 : Hid (∀ (A0 : Option Addr) (c0 : Nat) (W : World), Kd.C (Kd.int .i64) W A0 xy.length xy → xy.length ≤ c0 → Below w.heap.size w W → Calls Try.prog 61 #[.slice A0 xy.length c0, .slice A1 8 c1] W fun e w' => e = .returned (.bool r) ∧ Drawn0 W w') := Lib.hid (fun A0 c0 W h0 h1 hb => by
              have h := spec_l7Same.calls k A0 c0 xy A1 c1 l1 r W h0 h1 (Kd.C_below HR1.out hb) HC1.out HBN.out.2.2
              rw [HL.out] at h
              exact h)
            clear H3 hC0 hC1 hb0 hb1 h2 hgl ho0 ho1 hb htk hdk hxy
            go_wp2_with fail
            go_region_held3 (fun w' => w'.cell? ⟨g, 0, none⟩ = some (.slice B0 x.length k0) ∧ w'.cell? ⟨g, 1, none⟩ = some (.slice B1 y.length k1)) (first | exact ⟨spi_keep_row HGL.out hb3 hx0, spi_keep_row HGL.out hb3 hx1⟩ | exact ⟨spi_keep_row HGL.out hb2 hx0, spi_keep_row HGL.out hb2 hx1⟩ | exact ⟨spi_keep_row HGL.out hb1 hx0, spi_keep_row HGL.out hb1 hx1⟩ | go_keep)
              (first
                | ((refine Kd.R_append_rows_step (Kd.int .i64) (Rr := fun x c => c = [Value.int .i64 x]) (w0 := w2) w2.heap.size (by rfl) (.tmp 42) (.tmp 45) 22 3 (.int .i64 0) 8 (by rfl) Try.underlying22 info3 rfl (by decide) (by decide) (.slice (some ⟨w2.heap.size, 0, none⟩) 0 0) [] x B0 x.length k0 (fun _ => True) (fun _ => False) (by rfl) (by rfl) ⟨fun _ _ => trivial, [], spi_own_nil _ 3 _ (Nat.le_refl _), Reps.none _ _⟩ (Kd.C_alloc (Kd.C_drew HC0.out) _) (fun _ _ h => h) (fun _ h => h.elim) (fun _ _ => trivial) (((Below.refl _ _).drew).alloc (Nat.le_refl _) _) (by simp) (by have := HBN.out.1; simp; omega) ?_; intro v2 w3 hown1 hb1 hg1 hat1))
                | ((refine Kd.R_append_rows_step (Kd.int .i64) (Rr := fun x c => c = [Value.int .i64 x]) (w0 := w2) w2.heap.size (by rfl) (.tmp 46) (.tmp 49) 22 3 (.int .i64 0) 8 (by rfl) Try.underlying22 info3 rfl (by decide) (by decide) v2 ([] ++ x) y B1 y.length k1 (fun _ => True) (fun _ => False) (by rfl) (by rfl) hown1 (Kd.C_below HCY.out hb1) (fun _ _ h => h) (fun _ h => h.elim) (fun _ _ => trivial) hb1 hb1.size (by have := HBN.out.1; have := HBN.out.2.1; simp; omega) ?_; intro v3 w4 hown2 hb2 hg2 hat2; rw [HXY.out] at hown2; obtain ⟨A3, c3, e3⟩ := Kd.R_slice hown2; subst e3))
                | ((go_at_call 61; refine (HS7.out _ _ _ (Kd.R_reads' hown2).2.2 (Kd.R_reads' hown2).2.1 (HB2.out.trans (hb2.mono HB2.out.size))).mono ?_; rintro e w5 ⟨rfl, ⟨nd, rfl⟩⟩; have hb3 := pw_below_drewN hb2 nd)))
            go_wp2
            go_ret
            exact ⟨rfl, HB2.out.trans (hb3.mono HB2.out.size)⟩
          · obtain ⟨A0, c0, rfl⟩ := Kd.N_slice ho0
            obtain rfl : r = false := by
              have h := H3.out
              rw [if_neg h2] at h
              exact (Option.some.inj h).symm
            have h3 : ((L.length : Int) == 2) = false := beq_eq_false_iff_ne.mpr (by omega)
            clear ho0 ho1 hb H3 h2 htk hdk
            go_wp2_with fail
            go_quiet (fail)
            go_wp2
            go_ret
            exact ⟨rfl, pw_below_drewN HB2.out nq⟩
    · obtain rfl : r = false := by have h := H.out; rw [if_neg hl] at h; simp at h; exact h
      have h8 : ((l1.length : Int) != 8) = true := bne_iff_ne.mpr (by omega)
      have h9 : ((l1.length : Int) == 8) = false := beq_eq_false_iff_ne.mpr (by omega)
      clear hl
      go_enter Try.func23, Try.ntmps23
      go_wp2_with fail
      refine (spec_PrimeIn.calls a0 true _ HPR.out).mono ?_
      rintro e w1 ⟨rfl, ⟨q, rfl⟩⟩
      go_wp2
      go_ret
      exact ⟨rfl, pw_below_drewN (Below.refl _ _) q⟩

/-! ### impl_crosses: function 46 -/
def impl_crosses.f (k : Nat) (a0 : Int) (l1 : List Int) (l2 : List Int) : Option (Bool) := (impl_rowsOf.f l1).bind fun t363 => ((impl_rowsOf.f l2).bind fun t366 => (if t363.length + t366.length < 5864062014805 then ((impl_reduced.f k a0 (t363 ++ t366)).bind fun t372 => (some ((t372.length : Int) == 3))) else (none)))
theorem impl_crosses.mono : ∀ a0 a1 a2 k, LeO (impl_crosses.f k a0 a1 a2) (impl_crosses.f (k + 1) a0 a1 a2) := by
  intro a0 a1 a2 k
  unfold impl_crosses.f
  repeat' first
      | (with_reducible exact impl_reduced.mono _ _ _)
      | (with_reducible exact LeO.refl _)
      | (with_reducible exact LeO.none _)
      | (with_reducible refine LeO.ite ?_ ?_)
      | (with_reducible refine LeO.bind ?_ (fun _ => ?_))
      | exact impl_reduced.mono _ _ _
      | exact LeO.none _
      | refine LeO.ite ?_ ?_
      | refine LeO.bind ?_ (fun _ => ?_)
set_option maxHeartbeats 8000000 in
set_option maxRecDepth 100000 in
theorem impl_crosses.calls (k : Nat) (a0 : Int) (A1 : Option Addr) (c1 : Nat) (l1 : List Int) (A2 : Option Addr) (c2 : Nat) (l2 : List Int) (r : Bool) (w : World) (hr1 : Kd.C (Kd.int .i64) w A1 l1.length l1) (hc1 : l1.length ≤ c1) (hr2 : Kd.C (Kd.int .i64) w A2 l2.length l2) (hc2 : l2.length ≤ c2) (h : impl_crosses.f k a0 l1 l2 = some r) :
    Calls Try.prog 46 #[.int .i64 a0, .slice A1 l1.length c1, .slice A2 l2.length c2] w fun e w' => e = .returned (.bool r) ∧ Below w.heap.size w w' := by
  have HR1 := Aside0.mk hr1
  have HC1 := Aside0.mk hc1
  clear hr1 hc1
  have HR2 := Aside0.mk hr2
  have HC2 := Aside0.mk hc2
  clear hr2 hc2
  have HB := Aside0.mk (Below.refl w.heap.size w)
  have H : ((impl_rowsOf.f l1).bind fun t363 => ((impl_rowsOf.f l2).bind fun t366 => (if t363.length + t366.length < 5864062014805 then ((impl_reduced.f k a0 (t363 ++ t366)).bind fun t372 => (some ((t372.length : Int) == 3))) else (none)))) = some r := h
  clear h
  replace H := Option.bind_eq_some_iff.mp H
  obtain ⟨t363, A40, H⟩ := H
  replace H : ((impl_rowsOf.f l2).bind fun t366 => (if t363.length + t366.length < 5864062014805 then ((impl_reduced.f k a0 (t363 ++ t366)).bind fun t372 => (some ((t372.length : Int) == 3))) else (none))) = some r := H
  have A4 := Aside0.mk A40
  clear A40
  replace H := Option.bind_eq_some_iff.mp H
  obtain ⟨t366, A50, H⟩ := H
  replace H : (if t363.length + t366.length < 5864062014805 then ((impl_reduced.f k a0 (t363 ++ t366)).bind fun t372 => (some ((t372.length : Int) == 3))) else (none)) = some r := H
  have A5 := Aside0.mk A50
  clear A50
  by_cases c6 : t363.length + t366.length < 5864062014805
  · rw [if_pos c6] at H
    have LMc6 := Aside0.mk c6
    clear c6
    obtain ⟨y369, hy369⟩ : ∃ y_ : List (List Int), y_ = (t363 ++ t366) := ⟨_, rfl⟩
    replace H : ((impl_reduced.f k a0 y369).bind fun t372 => (some ((t372.length : Int) == 3))) = some r := by first | (rw [hy369]; with_reducible exact H) | (have H2_ := (Option.bind_some _ _).symm.trans H; rw [hy369]; with_reducible exact H2_) | (have H2_ := (Option.bind_some _ _).symm.trans H; with_reducible exact H2_) | with_reducible exact H | (rw [hy369]; exact H) | exact H
    have Ny369 := Aside0.mk hy369
    clear hy369
    replace H := Option.bind_eq_some_iff.mp H
    obtain ⟨t372, A70, H⟩ := H
    replace H : (some ((t372.length : Int) == 3)) = some r := H
    have A7 := Aside0.mk A70
    clear A70
    obtain rfl := Option.some.inj H
    go_enter Try.func46, Try.ntmps46
    go_wp2_with (first | ((with_reducible refine gate_callee (f := 81) rfl ?_); refine goesL_ (some 9) rfl rfl Try.func81 (by kernel_rfl) rfl #[.slice A1 l1.length c1] rfl (by (try simp only [List.map_toArray, List.map_cons, List.map_nil]); first | done | rfl | (simp only [List.length_drop, List.length_take]; rfl)) ?_; (with_reducible refine (impl_rowsOf.calls (fun k_ => k_ < w.heap.size) _ _ l1 t363 _ ?side1 A4.out).mono ?_); (case side1 => exact Kd.V_mk HC1.out (Kd.F_below (Kd.C_F (Kd.heap_int .i64) HR1.out) (bb HB.out))); rintro e w8 ⟨v364, rfl, ho0, hb⟩; refine ⟨_, rfl, ?_⟩; have n0_ := Aside0.mk (Kd.N_lower (Kd.N_mono (ok' := fun k_ => True) ho0 (fun k_ hk_ => trivial)) (below_size (bb HB.out))); have n1_ := Aside0.mk (below_step (bb HB.out) hb); clear HB; have HO365 := n0_; have HB := n1_; clear n0_ n1_; (try clear hb); (try clear hb2); (try clear hk); (try clear hi); (try clear ho0)) | ((with_reducible refine gate_callee (f := 81) rfl ?_); refine goesL_ (some 11) rfl rfl Try.func81 (by kernel_rfl) rfl #[.slice A2 l2.length c2] rfl (by (try simp only [List.map_toArray, List.map_cons, List.map_nil]); first | done | rfl | (simp only [List.length_drop, List.length_take]; rfl)) ?_; (with_reducible refine (impl_rowsOf.calls (fun k_ => k_ < w.heap.size) _ _ l2 t366 _ ?side1 A5.out).mono ?_); (case side1 => exact Kd.V_mk HC2.out (Kd.F_below (Kd.C_F (Kd.heap_int .i64) HR2.out) (bb HB.out))); rintro e w9 ⟨v367, rfl, ho0, hb⟩; refine ⟨_, rfl, ?_⟩; have n0_ := Aside0.mk (Kd.N_elder' (Kd.N_below HO365.out gs) (Kd.N_base ho0) hb); have n1_ := Aside0.mk (Kd.N_lower (Kd.N_mono (ok' := fun k_ => some k_ ≠ (v364 : Value).ownBlock) ho0 (fun k_ hk_ => Or.elim hk_ (fun hs_ => fun e_ => Nat.not_le.2 hs_ (Kd.N_base HO365.out k_ e_.symm)) (fun hn_ => (Kd.fresh' (Kd.N_lt (Kd.N_below HO365.out gs)) k_ hn_)))) (below_size (bb HB.out))); have n2_ := Aside0.mk (below_step (bb HB.out) hb); clear HO365; clear HB; have HO365 := n0_; have HO368 := n1_; have HB := n2_; clear n0_ n1_ n2_; (try clear hb); (try clear hb2); (try clear hk); (try clear hi); (try clear ho0); obtain ⟨Ao11, co11, eo11⟩ := Kd.N_slice HO368.out; subst eo11) | ((with_reducible refine gate_builtin (b := .append) (xs := #[.tmp 9, .tmp 11]) rfl ?_); at_builtin; refine Kd.N_append_rows (Kd.slice 3 (Kd.int .i64)) (w0 := w) w.heap.size rfl (.tmp 9) (.tmp 11) 45 22 (.slice none 0 0) 24 rfl Try.underlying45 info22 rfl (by decide) (by omega) v364 t363 t366 _ _ _ (fun _ => True) (fun k_ => ((fun _ => True)) k_ ∧ some k_ ≠ (v364 : Value).ownBlock) rfl rfl ?aO ?aR (fun _ hk => hk) ?aF ?aB ?aS ?aL ?_; (case aR => exact (by skip; exact Kd.N_F (Kd.N_mono (ok' := (fun k_ => ((fun _ => True)) k_ ∧ some k_ ≠ (v364 : Value).ownBlock)) (HO368.out) (fun k_ hk => ⟨trivial, hk⟩)))); (case aB => exact (bb HB.out)); (case aF => exact (fun _ _ => trivial)); (case aO => exact (by (with_reducible repeat (first | apply Kd.N_alloc | apply Kd.N_drewN | apply Kd.N_drew)); exact Kd.N_mono HO365.out (fun _ hk => trivial))); (case aS => exact (below_size (bb HB.out))); (case aL => have := LMc6.out; omega); intro v370 w10 ho hb hg hat; rw [← Ny369.out] at ho; have n0_ := Aside0.mk (Kd.N_afterv (ok := (fun _ => True)) (by (with_reducible repeat (first | apply Kd.N_alloc | apply Kd.N_drewN | apply Kd.N_drew)); exact Kd.N_mono HO368.out (fun _ hk => ⟨trivial, hk⟩)) hg hat); have n1_ := Aside0.mk (hb); have n2_ := Aside0.mk (ho); clear HO368; clear HB; clear HO365; have HO368 := n0_; have HB := n1_; have HO371 := n2_; clear n0_ n1_ n2_; clear ho hb hg hat; obtain ⟨Ao12, co12, eo12⟩ := Kd.N_slice HO371.out; subst eo12) | ((with_reducible refine gate_callee (f := 82) rfl ?_); refine goesL_ (some 13) rfl rfl Try.func82 (by kernel_rfl) rfl #[.int .i64 a0, .slice Ao12 y369.length co12] rfl (by (try simp only [List.map_toArray, List.map_cons, List.map_nil]); first | done | rfl | (simp only [List.length_drop, List.length_take]; rfl)) ?_; (with_reducible refine (impl_reduced.calls k a0 _ _ y369 t372 _ ?side1 ?side2 A7.out).mono ?_); (case side1 => exact Kd.C_below (Kd.N_reads' HO371.out).2.2 gs); (case side2 => exact (Kd.N_reads' HO371.out).2.1); rintro e w13 ⟨v373, rfl, ho0, hb⟩; refine ⟨_, rfl, ?_⟩; have n0_ := Aside0.mk (Kd.N_elder' (Kd.N_below HO368.out gs) (Kd.S_base ho0) hb); have n1_ := Aside0.mk (Kd.N_elder' (Kd.N_below HO371.out gs) (Kd.S_base ho0) hb); have n2_ := Aside0.mk (Kd.N_lower (Kd.N_mono (ok' := fun k_ => some k_ ≠ (.slice Ao11 t366.length co11 : Value).ownBlock ∧ some k_ ≠ (.slice Ao12 y369.length co12 : Value).ownBlock) (Kd.S_N (Kd.S_bound ho0)) (fun k_ hk_ => ⟨(Kd.fresh' (Kd.N_lt (Kd.N_below HO368.out gs)) k_ hk_.2.1), (Kd.fresh' (Kd.N_lt (Kd.N_below HO371.out gs)) k_ hk_.2.1)⟩)) (below_size (bb HB.out))); have n3_ := Aside0.mk (below_step (bb HB.out) hb); clear HO368; clear HO371; clear HB; have HO368 := n0_; have HO371 := n1_; have HO374 := n2_; have HB := n3_; clear n0_ n1_ n2_ n3_; (try clear hb); (try clear hb2); (try clear hk); (try clear hi); (try clear ho0); obtain ⟨Ao14, co14, eo14⟩ := Kd.N_slice HO374.out; subst eo14))
    go_ret
    exact ⟨by first | rfl | (simp [errW_none, errW_some] <;> rfl) | (simp [*, errW_none, errW_some] <;> rfl), by repeat (first | (with_reducible first | exact HB.out | apply below_alloc | apply pw_below_drewN | apply below_drew1) | exact HB.out)⟩
  · rw [if_neg c6] at H
    exact absurd H (by simp)

/-! ### impl_SpaceCross: function 24 -/
def impl_SpaceCross.f (k : Nat) (a0 : Int) (l1 : List Int) (l2 : List Int) : Option (Bool) := (impl_isSpaceLine.f k a0 l1).bind fun t375 => (if t375 = true then ((impl_isSpaceLine.f k a0 l2).bind fun t376 => (if t376 = true then ((impl_crosses.f k a0 l1 l2).bind fun t377 => (some t377)) else (some false))) else (some false))
theorem impl_SpaceCross.mono : ∀ a0 a1 a2 k, LeO (impl_SpaceCross.f k a0 a1 a2) (impl_SpaceCross.f (k + 1) a0 a1 a2) := by
  intro a0 a1 a2 k
  unfold impl_SpaceCross.f
  repeat' first
      | (with_reducible exact impl_crosses.mono _ _ _ _)
      | (with_reducible exact impl_isSpaceLine.mono _ _ _)
      | (with_reducible exact LeO.refl _)
      | (with_reducible exact LeO.none _)
      | (with_reducible refine LeO.ite ?_ ?_)
      | (with_reducible refine LeO.bind ?_ (fun _ => ?_))
      | exact impl_crosses.mono _ _ _ _
      | exact impl_isSpaceLine.mono _ _ _
      | exact LeO.none _
      | refine LeO.ite ?_ ?_
      | refine LeO.bind ?_ (fun _ => ?_)
set_option maxHeartbeats 8000000 in
set_option maxRecDepth 100000 in
theorem impl_SpaceCross.calls (k : Nat) (a0 : Int) (A1 : Option Addr) (c1 : Nat) (l1 : List Int) (A2 : Option Addr) (c2 : Nat) (l2 : List Int) (r : Bool) (w : World) (hr1 : Kd.C (Kd.int .i64) w A1 l1.length l1) (hc1 : l1.length ≤ c1) (hr2 : Kd.C (Kd.int .i64) w A2 l2.length l2) (hc2 : l2.length ≤ c2) (h : impl_SpaceCross.f k a0 l1 l2 = some r) :
    Calls Try.prog 24 #[.int .i64 a0, .slice A1 l1.length c1, .slice A2 l2.length c2] w fun e w' => e = .returned (.bool r) ∧ Below w.heap.size w w' := by
  have HR1 := Aside0.mk hr1
  have HC1 := Aside0.mk hc1
  clear hr1 hc1
  have HR2 := Aside0.mk hr2
  have HC2 := Aside0.mk hc2
  clear hr2 hc2
  have HB := Aside0.mk (Below.refl w.heap.size w)
  have H : ((impl_isSpaceLine.f k a0 l1).bind fun t375 => (if t375 = true then ((impl_isSpaceLine.f k a0 l2).bind fun t376 => (if t376 = true then ((impl_crosses.f k a0 l1 l2).bind fun t377 => (some t377)) else (some false))) else (some false))) = some r := h
  clear h
  replace H := Option.bind_eq_some_iff.mp H
  obtain ⟨t375, A40, H⟩ := H
  replace H : (if t375 = true then ((impl_isSpaceLine.f k a0 l2).bind fun t376 => (if t376 = true then ((impl_crosses.f k a0 l1 l2).bind fun t377 => (some t377)) else (some false))) else (some false)) = some r := H
  have A4 := Aside0.mk A40
  clear A40
  by_cases c5 : t375 = true
  · subst c5
    have H1 : ((impl_isSpaceLine.f k a0 l2).bind fun t376 => (if t376 = true then ((impl_crosses.f k a0 l1 l2).bind fun t377 => (some t377)) else (some false))) = some r := by rw [if_pos rfl] at H; exact H
    clear H
    have H := H1
    clear H1
    replace H := Option.bind_eq_some_iff.mp H
    obtain ⟨t376, A60, H⟩ := H
    replace H : (if t376 = true then ((impl_crosses.f k a0 l1 l2).bind fun t377 => (some t377)) else (some false)) = some r := H
    have A6 := Aside0.mk A60
    clear A60
    by_cases c7 : t376 = true
    · subst c7
      have H1 : ((impl_crosses.f k a0 l1 l2).bind fun t377 => (some t377)) = some r := by rw [if_pos rfl] at H; exact H
      clear H
      have H := H1
      clear H1
      replace H := Option.bind_eq_some_iff.mp H
      obtain ⟨t377, A80, H⟩ := H
      replace H : (some t377) = some r := H
      have A8 := Aside0.mk A80
      clear A80
      obtain rfl := Option.some.inj H
      go_enter Try.func24, Try.ntmps24
      go_wp2_with (first | ((with_reducible refine gate_callee (f := 45) rfl ?_); refine goesL_ (some 9) rfl rfl Try.func45 (by kernel_rfl) rfl #[.int .i64 a0, .slice A1 l1.length c1] rfl (by (try simp only [List.map_toArray, List.map_cons, List.map_nil]); first | done | rfl | (simp only [List.length_drop, List.length_take]; rfl)) ?_; (with_reducible refine (impl_isSpaceLine.calls k a0 _ _ l1 true _ ?side1 ?side2 A4.out).mono ?_); (case side1 => exact Kd.C_below HR1.out gs); (case side2 => exact HC1.out); rintro e w9 ⟨rfl, hb⟩; refine ⟨_, rfl, ?_⟩; have n0_ := Aside0.mk (below_step (bb HB.out) hb); clear HB; have HB := n0_; clear n0_; (try clear hb); (try clear hb2); (try clear hk); (try clear hi)) | (go_at_call 45; (with_reducible refine (impl_isSpaceLine.calls k a0 _ _ l2 true _ ?side1 ?side2 A6.out).mono ?_); (case side1 => exact Kd.C_below HR2.out (bb HB.out)); (case side2 => exact HC2.out); rintro e w10 ⟨rfl, hb⟩; have n0_ := Aside0.mk (below_step (bb HB.out) hb); clear HB; have HB := n0_; clear n0_; (try clear hb); (try clear hb2); (try clear hk); (try clear hi)) | (go_at_call 46; (with_reducible refine (impl_crosses.calls k a0 _ _ l1 _ _ l2 t377 _ ?side1 ?side2 ?side3 ?side4 A8.out).mono ?_); (case side1 => exact Kd.C_below HR1.out (bb HB.out)); (case side2 => exact HC1.out); (case side3 => exact Kd.C_below HR2.out (bb HB.out)); (case side4 => exact HC2.out); rintro e w11 ⟨rfl, hb⟩; have n0_ := Aside0.mk (below_step (bb HB.out) hb); clear HB; have HB := n0_; clear n0_; (try clear hb); (try clear hb2); (try clear hk); (try clear hi)))
      go_ret
      exact ⟨by first | rfl | (simp [errW_none, errW_some] <;> rfl) | (simp [*, errW_none, errW_some] <;> rfl), by repeat (first | (with_reducible first | exact HB.out | apply below_alloc | apply pw_below_drewN | apply below_drew1) | exact HB.out)⟩
    · replace c7 := Bool.eq_false_iff.mpr c7
      subst c7
      have H1 : (some false) = some r := by rw [if_neg (show ¬ (false = true) by decide)] at H; exact H
      clear H
      have H := H1
      clear H1
      obtain rfl := Option.some.inj H
      go_enter Try.func24, Try.ntmps24
      go_wp2_with (first | ((with_reducible refine gate_callee (f := 45) rfl ?_); refine goesL_ (some 9) rfl rfl Try.func45 (by kernel_rfl) rfl #[.int .i64 a0, .slice A1 l1.length c1] rfl (by (try simp only [List.map_toArray, List.map_cons, List.map_nil]); first | done | rfl | (simp only [List.length_drop, List.length_take]; rfl)) ?_; (with_reducible refine (impl_isSpaceLine.calls k a0 _ _ l1 true _ ?side1 ?side2 A4.out).mono ?_); (case side1 => exact Kd.C_below HR1.out gs); (case side2 => exact HC1.out); rintro e w12 ⟨rfl, hb⟩; refine ⟨_, rfl, ?_⟩; have n0_ := Aside0.mk (below_step (bb HB.out) hb); clear HB; have HB := n0_; clear n0_; (try clear hb); (try clear hb2); (try clear hk); (try clear hi)) | (go_at_call 45; (with_reducible refine (impl_isSpaceLine.calls k a0 _ _ l2 false _ ?side1 ?side2 A6.out).mono ?_); (case side1 => exact Kd.C_below HR2.out (bb HB.out)); (case side2 => exact HC2.out); rintro e w13 ⟨rfl, hb⟩; have n0_ := Aside0.mk (below_step (bb HB.out) hb); clear HB; have HB := n0_; clear n0_; (try clear hb); (try clear hb2); (try clear hk); (try clear hi)))
      go_ret
      exact ⟨by first | rfl | (simp [errW_none, errW_some] <;> rfl) | (simp [*, errW_none, errW_some] <;> rfl), by repeat (first | (with_reducible first | exact HB.out | apply below_alloc | apply pw_below_drewN | apply below_drew1) | exact HB.out)⟩
  · replace c5 := Bool.eq_false_iff.mpr c5
    subst c5
    have H1 : (some false) = some r := by rw [if_neg (show ¬ (false = true) by decide)] at H; exact H
    clear H
    have H := H1
    clear H1
    obtain rfl := Option.some.inj H
    go_enter Try.func24, Try.ntmps24
    go_wp2_with (first | ((with_reducible refine gate_callee (f := 45) rfl ?_); refine goesL_ (some 9) rfl rfl Try.func45 (by kernel_rfl) rfl #[.int .i64 a0, .slice A1 l1.length c1] rfl (by (try simp only [List.map_toArray, List.map_cons, List.map_nil]); first | done | rfl | (simp only [List.length_drop, List.length_take]; rfl)) ?_; (with_reducible refine (impl_isSpaceLine.calls k a0 _ _ l1 false _ ?side1 ?side2 A4.out).mono ?_); (case side1 => exact Kd.C_below HR1.out gs); (case side2 => exact HC1.out); rintro e w14 ⟨rfl, hb⟩; refine ⟨_, rfl, ?_⟩; have n0_ := Aside0.mk (below_step (bb HB.out) hb); clear HB; have HB := n0_; clear n0_; (try clear hb); (try clear hb2); (try clear hk); (try clear hi)))
    go_ret
    exact ⟨by first | rfl | (simp [errW_none, errW_some] <;> rfl) | (simp [*, errW_none, errW_some] <;> rfl), by repeat (first | (with_reducible first | exact HB.out | apply below_alloc | apply pw_below_drewN | apply below_drew1) | exact HB.out)⟩

/-! ### impl_isMonic: function 88 (by hand) -/
theorem nonZero_any (x : Int) (w : World) : Calls Try.prog 102 #[.int .i64 x] w fun e w' => e = .returned (.bool (x != 0)) ∧ Drawn0 w w' := by
  go_enter Try.func102, Try.ntmps102
  go_wp2
  go_ret
  exact ⟨rfl, Drawn0.refl _⟩

/-- the first number that is not 0 is 1 -/
def monicB (l : List Int) : Bool := (l.find? (fun x => x != 0)) == some 1
theorem idxOf_find (q : Int → Bool) : ∀ (l : List Int) (i : Int), 0 ≤ i → (l.find? q = none → idxOf q l i = -1) ∧ ∀ x, l.find? q = some x → i ≤ idxOf q l i ∧ idxOf q l i < i + l.length ∧ l.getD (idxOf q l i - i).toNat 0 = x
  | [], i, h => by simp [idxOf]
  | y :: ys, i, h => by
    obtain ⟨h1, h2⟩ := idxOf_find q ys (i + 1) (by omega)
    unfold idxOf
    cases hq : q y
    · simp only [List.find?_cons, hq, Bool.false_eq_true, if_false]
      refine ⟨h1, fun x hx => ?_⟩
      obtain ⟨h3, h4, h5⟩ := h2 x hx
      refine ⟨by omega, by simp only [List.length_cons]; omega, ?_⟩
      rw [show (idxOf q ys (i + 1) - i).toNat = (idxOf q ys (i + 1) - (i + 1)).toNat + 1 from by omega]
      simpa using h5
    · simp [List.find?_cons, hq]; omega
def impl_isMonic.f (l0 : List Int) : Option Bool := some (monicB l0)
set_option maxHeartbeats 1000000 in
theorem impl_isMonic.calls (A0 : Option Addr) (c0 : Nat) (l0 : List Int) (r : Bool) (w : World) (hr0 : Kd.C (Kd.int .i64) w A0 l0.length l0) (hc0 : l0.length ≤ c0) (h : impl_isMonic.f l0 = some r) :
    Calls Try.prog 88 #[.slice A0 l0.length c0] w fun e w' => e = .returned (.bool r) ∧ Drawn0 w w' := by
  have H := Lib.hid h
  clear h
  have hi := idxOf_find (fun x => x != 0) l0 0 (by omega)
  have HC := Lib.hid (indexFunc_any 102 #[] (fun x => x != 0) A0 c0 l0 w hr0 (Go.Proofs.enters_of Try.func102 (by kernel_rfl) rfl) (fun x w1 _ => nonZero_any x w1))
  generalize hz : idxOf (fun x => x != 0) l0 0 = z at *
  have HI := Lib.hid hi
  clear hi hz
  by_cases h0 : 0 ≤ z
  · have hlt : z < l0.length := by
      cases hf : l0.find? (fun x => x != 0) with
      | none => have := HI.out.1 hf; omega
      | some x => have := HI.out.2 x hf; omega
    obtain ⟨ad, e, hx⟩ := Kd.at_int hr0 z h0 hlt
    subst e
    have h1 : decide (0 ≤ z) = true := decide_eq_true h0
    have h2 : decide (z < (l0.length : Int)) = true := decide_eq_true hlt
    go_enter Try.func88, Try.ntmps88
    go_wp2_with fail
    refine HC.out.mono ?_
    rintro e w' ⟨rfl, ⟨m2, rfl⟩⟩
    go_wp2
    go_ret
    refine ⟨ret_bool (a := rd l0 z == 1) ?_, ⟨m2, rfl⟩⟩
    have hz := HI.out
    have hr : monicB l0 = r := by simpa [impl_isMonic.f] using H.out
    rw [← hr, monicB]
    cases hf : l0.find? (fun x => x != 0) with
    | none => have := hz.1 hf; omega
    | some x =>
      obtain ⟨_, _, h5⟩ := hz.2 x hf
      rw [Int.sub_zero] at h5
      simp only [rd, h5]
      rfl
  · have h1 : decide (0 ≤ z) = false := decide_eq_false h0
    go_enter Try.func88, Try.ntmps88
    go_wp2_with fail
    refine HC.out.mono ?_
    rintro e w' ⟨rfl, ⟨m2, rfl⟩⟩
    go_wp2
    go_ret
    refine ⟨ret_bool (a := false) ?_, ⟨m2, rfl⟩⟩
    have hz := HI.out
    have hr : monicB l0 = r := by simpa [impl_isMonic.f] using H.out
    rw [← hr, monicB]
    cases hf : l0.find? (fun x => x != 0) with
    | none => rfl
    | some x => have := (hz.2 x hf).1; omega

/-! ### impl_isPlace: function 62 -/
def impl_isPlace.f (a0 : Int) (l1 : List Int) : Option (Bool) := (impl_areNumbers.f a0 l1 4).bind fun t378 => (if t378 = true then ((impl_isMonic.f l1).bind fun t379 => (some t379)) else (some false))
set_option maxHeartbeats 8000000 in
set_option maxRecDepth 100000 in
theorem impl_isPlace.calls (a0 : Int) (A1 : Option Addr) (c1 : Nat) (l1 : List Int) (r : Bool) (w : World) (hr1 : Kd.C (Kd.int .i64) w A1 l1.length l1) (hc1 : l1.length ≤ c1) (h : impl_isPlace.f a0 l1 = some r) :
    Calls Try.prog 62 #[.int .i64 a0, .slice A1 l1.length c1] w fun e w' => e = .returned (.bool r) ∧ Below w.heap.size w w' := by
  have HR1 := Aside0.mk hr1
  have HC1 := Aside0.mk hc1
  clear hr1 hc1
  have HB := Aside0.mk (Below.refl w.heap.size w)
  have H : ((impl_areNumbers.f a0 l1 4).bind fun t378 => (if t378 = true then ((impl_isMonic.f l1).bind fun t379 => (some t379)) else (some false))) = some r := h
  clear h
  replace H := Option.bind_eq_some_iff.mp H
  obtain ⟨t378, A30, H⟩ := H
  replace H : (if t378 = true then ((impl_isMonic.f l1).bind fun t379 => (some t379)) else (some false)) = some r := H
  have A3 := Aside0.mk A30
  clear A30
  by_cases c4 : t378 = true
  · subst c4
    have H1 : ((impl_isMonic.f l1).bind fun t379 => (some t379)) = some r := by rw [if_pos rfl] at H; exact H
    clear H
    have H := H1
    clear H1
    replace H := Option.bind_eq_some_iff.mp H
    obtain ⟨t379, A50, H⟩ := H
    replace H : (some t379) = some r := H
    have A5 := Aside0.mk A50
    clear A50
    obtain rfl := Option.some.inj H
    go_enter Try.func62, Try.ntmps62
    go_wp2_with (first | ((with_reducible refine gate_callee (f := 75) rfl ?_); refine goesL_ (some 7) rfl rfl Try.func75 (by kernel_rfl) rfl #[.int .i64 a0, .slice A1 l1.length c1, .int .i64 4] rfl (by (try simp only [List.map_toArray, List.map_cons, List.map_nil]); first | done | rfl | (simp only [List.length_drop, List.length_take]; rfl)) ?_; (with_reducible refine (impl_areNumbers.calls a0 _ _ l1 4 true _ ?side1 ?side2 A3.out).mono ?_); (case side1 => exact Kd.C_below HR1.out gs); (case side2 => exact HC1.out); rintro e w6 ⟨rfl, hb⟩; refine ⟨_, rfl, ?_⟩; have n0_ := Aside0.mk (below_step (bb HB.out) hb); clear HB; have HB := n0_; clear n0_; (try clear hb); (try clear hb2); (try clear hk); (try clear hi)) | (go_at_call 88; (with_reducible refine (impl_isMonic.calls _ _ l1 t379 _ ?side1 ?side2 A5.out).mono ?_); (case side1 => exact Kd.C_below HR1.out (bb HB.out)); (case side2 => exact HC1.out); rintro e w' ⟨rfl, ⟨nd, rfl⟩⟩))
    go_ret
    exact ⟨by first | rfl | (simp [errW_none, errW_some] <;> rfl) | (simp [*, errW_none, errW_some] <;> rfl), by repeat (first | (with_reducible first | exact HB.out | apply below_alloc | apply pw_below_drewN | apply below_drew1) | exact HB.out)⟩
  · replace c4 := Bool.eq_false_iff.mpr c4
    subst c4
    have H1 : (some false) = some r := by rw [if_neg (show ¬ (false = true) by decide)] at H; exact H
    clear H
    have H := H1
    clear H1
    obtain rfl := Option.some.inj H
    go_enter Try.func62, Try.ntmps62
    go_wp2_with (first | ((with_reducible refine gate_callee (f := 75) rfl ?_); refine goesL_ (some 7) rfl rfl Try.func75 (by kernel_rfl) rfl #[.int .i64 a0, .slice A1 l1.length c1, .int .i64 4] rfl (by (try simp only [List.map_toArray, List.map_cons, List.map_nil]); first | done | rfl | (simp only [List.length_drop, List.length_take]; rfl)) ?_; (with_reducible refine (impl_areNumbers.calls a0 _ _ l1 4 false _ ?side1 ?side2 A3.out).mono ?_); (case side1 => exact Kd.C_below HR1.out gs); (case side2 => exact HC1.out); rintro e w7 ⟨rfl, hb⟩; refine ⟨_, rfl, ?_⟩; have n0_ := Aside0.mk (below_step (bb HB.out) hb); clear HB; have HB := n0_; clear n0_; (try clear hb); (try clear hb2); (try clear hk); (try clear hi)))
    go_ret
    exact ⟨by first | rfl | (simp [errW_none, errW_some] <;> rfl) | (simp [*, errW_none, errW_some] <;> rfl), by repeat (first | (with_reducible first | exact HB.out | apply below_alloc | apply pw_below_drewN | apply below_drew1) | exact HB.out)⟩

/-! ### impl_isOn: function 63 -/
def impl_isOn.f (k : Nat) (a0 : Int) (l1 : List Int) (l2 : List Int) : Option (Bool) := (impl_rowsOf.f l2).bind fun t380 => (if t380.length < 5864062014805 then ((impl_reduced.f k a0 (t380 ++ [l1])).bind fun t386 => (some ((t386.length : Int) == 2))) else (none))
theorem impl_isOn.mono : ∀ a0 a1 a2 k, LeO (impl_isOn.f k a0 a1 a2) (impl_isOn.f (k + 1) a0 a1 a2) := by
  intro a0 a1 a2 k
  unfold impl_isOn.f
  repeat' first
      | (with_reducible exact impl_reduced.mono _ _ _)
      | (with_reducible exact LeO.refl _)
      | (with_reducible exact LeO.none _)
      | (with_reducible refine LeO.ite ?_ ?_)
      | (with_reducible refine LeO.bind ?_ (fun _ => ?_))
      | exact impl_reduced.mono _ _ _
      | exact LeO.none _
      | refine LeO.ite ?_ ?_
      | refine LeO.bind ?_ (fun _ => ?_)
set_option maxHeartbeats 8000000 in
set_option maxRecDepth 100000 in
theorem impl_isOn.calls (k : Nat) (a0 : Int) (P1_ : Nat → Prop) (A1 : Option Addr) (c1 : Nat) (l1 : List Int) (P2_ : Nat → Prop) (A2 : Option Addr) (c2 : Nat) (l2 : List Int) (r : Bool) (w : World) (hs1 : Kd.V (Kd.int .i64) 3 w w.heap.size (fun k_ => P1_ k_) (.slice A1 l1.length c1) l1) (hs2 : Kd.V (Kd.int .i64) 3 w w.heap.size (fun k_ => P2_ k_) (.slice A2 l2.length c2) l2) (h : impl_isOn.f k a0 l1 l2 = some r) :
    Calls Try.prog 63 #[.int .i64 a0, .slice A1 l1.length c1, .slice A2 l2.length c2] w fun e w' => e = .returned (.bool r) ∧ Below w.heap.size w w' := by
  have HO1 := Aside0.mk (show Kd.V (Kd.int .i64) 3 w w.heap.size (fun k_ => ((P1_ k_ ∨ P2_ k_) ∨ w.heap.size ≤ k_)) (.slice A1 l1.length c1) l1 from Kd.V_mono hs1 (fun k_ hk => .inl (.inl hk)))
  have HO2 := Aside0.mk (show Kd.V (Kd.int .i64) 3 w w.heap.size (fun k_ => ((P1_ k_ ∨ P2_ k_) ∨ w.heap.size ≤ k_)) (.slice A2 l2.length c2) l2 from Kd.V_mono hs2 (fun k_ hk => .inl (.inr hk)))
  have HB := Aside0.mk (Below.refl w.heap.size w)
  have H : ((impl_rowsOf.f l2).bind fun t380 => (if t380.length < 5864062014805 then ((impl_reduced.f k a0 (t380 ++ [l1])).bind fun t386 => (some ((t386.length : Int) == 2))) else (none))) = some r := h
  clear h
  replace H := Option.bind_eq_some_iff.mp H
  obtain ⟨t380, A40, H⟩ := H
  replace H : (if t380.length < 5864062014805 then ((impl_reduced.f k a0 (t380 ++ [l1])).bind fun t386 => (some ((t386.length : Int) == 2))) else (none)) = some r := H
  have A4 := Aside0.mk A40
  clear A40
  by_cases c5 : t380.length < 5864062014805
  · rw [if_pos c5] at H
    have LMc5 := Aside0.mk c5
    clear c5
    obtain ⟨y383, hy383⟩ : ∃ y_ : List (List Int), y_ = (t380 ++ [l1]) := ⟨_, rfl⟩
    replace H : ((impl_reduced.f k a0 y383).bind fun t386 => (some ((t386.length : Int) == 2))) = some r := by first | (rw [hy383]; with_reducible exact H) | (have H2_ := (Option.bind_some _ _).symm.trans H; rw [hy383]; with_reducible exact H2_) | (have H2_ := (Option.bind_some _ _).symm.trans H; with_reducible exact H2_) | with_reducible exact H | (rw [hy383]; exact H) | exact H
    have Ny383 := Aside0.mk hy383
    clear hy383
    replace H := Option.bind_eq_some_iff.mp H
    obtain ⟨t386, A60, H⟩ := H
    replace H : (some ((t386.length : Int) == 2)) = some r := H
    have A6 := Aside0.mk A60
    clear A60
    obtain rfl := Option.some.inj H
    go_enter Try.func63, Try.ntmps63
    go_wp2_with (first | ((with_reducible refine gate_callee (f := 81) rfl ?_); refine goesL_ (some 9) rfl rfl Try.func81 (by kernel_rfl) rfl #[.slice A2 l2.length c2] rfl (by (try simp only [List.map_toArray, List.map_cons, List.map_nil]); first | done | rfl | (simp only [List.length_drop, List.length_take]; rfl)) ?_; (with_reducible refine (impl_rowsOf.calls (fun k_ => ((P1_ k_ ∨ P2_ k_) ∨ w.heap.size ≤ k_)) _ _ l2 t380 _ ?side1 A4.out).mono ?_); (case side1 => exact HO2.out); rintro e w7 ⟨v381, rfl, ho0, hb⟩; refine ⟨_, rfl, ?_⟩; have n0_ := Aside0.mk (Kd.V_elder' (Kd.V_below HO1.out gs) (Kd.N_base ho0) hb); have n1_ := Aside0.mk (Kd.V_elder' (Kd.V_below HO2.out gs) (Kd.N_base ho0) hb); have n2_ := Aside0.mk (Kd.N_lower (Kd.N_mono (ok' := fun k_ => ((P1_ k_ ∨ P2_ k_) ∨ w.heap.size ≤ k_)) ho0 (fun k_ hk_ => Or.elim hk_ (fun hs_ => hs_) (fun hn_ => (.inr (Nat.le_trans (below_size (bb HB.out)) hn_))))) (below_size (bb HB.out))); have n3_ := Aside0.mk (below_step (bb HB.out) hb); clear HO1; clear HO2; clear HB; have HO1 := n0_; have HO2 := n1_; have HO382 := n2_; have HB := n3_; clear n0_ n1_ n2_ n3_; (try clear hb); (try clear hb2); (try clear hk); (try clear hi); (try clear ho0)) | ((with_reducible refine gate_builtin (b := .append) (xs := #[.tmp 9, .tmp 11]) rfl ?_); at_builtin; refine Kd.N_append (Kd.slice 3 (Kd.int .i64)) (w0 := w) w.heap.size rfl (.tmp 9) (.tmp 11) 45 22 (.slice none 0 0) 24 rfl Try.underlying45 info22 rfl (by decide) (by omega) v381 t380 l1 [.slice A1 l1.length c1] (fun k_ => ((P1_ k_ ∨ P2_ k_) ∨ w.heap.size ≤ k_)) (fun k_ => ((fun k_ => ((P1_ k_ ∨ P2_ k_) ∨ w.heap.size ≤ k_))) k_ ∧ some k_ ≠ (v381 : Value).ownBlock) rfl rfl ?aP (fun _ hk => hk) ?aF ?aO ?aB ?aS ?aL ?_; (case aP => exact (Kd.FK_slice_mk (Kd.V_reads' (Kd.V_mono (ok' := (fun k_ => ((fun k_ => ((P1_ k_ ∨ P2_ k_) ∨ w.heap.size ≤ k_))) k_ ∧ some k_ ≠ (v381 : Value).ownBlock)) (HO1.out) (fun k_ hk => ⟨hk.1, hk.2⟩))).2.1 (Kd.V_F (Kd.V_mono (ok' := (fun k_ => ((fun k_ => ((P1_ k_ ∨ P2_ k_) ∨ w.heap.size ≤ k_))) k_ ∧ some k_ ≠ (v381 : Value).ownBlock)) (HO1.out) (fun k_ hk => ⟨hk.1, hk.2⟩))))); (case aB => exact (bb HB.out)); (case aF => exact (fun k_ hk => (.inr (Nat.le_trans (below_size (bb HB.out)) hk)))); (case aO => exact (Kd.N_below HO382.out gs)); (case aS => exact (below_size (bb HB.out))); (case aL => have := LMc5.out; omega); intro v384 w8 ho hb hg hat; rw [← Ny383.out] at ho; have n0_ := Aside0.mk (Kd.V_afterv (ok := (fun k_ => ((P1_ k_ ∨ P2_ k_) ∨ w.heap.size ≤ k_))) (Kd.V_below HO1.out gs) hg hat); have n1_ := Aside0.mk (Kd.V_afterv (ok := (fun k_ => ((P1_ k_ ∨ P2_ k_) ∨ w.heap.size ≤ k_))) (Kd.V_below HO2.out gs) hg hat); have n2_ := Aside0.mk (hb); have n3_ := Aside0.mk (ho); clear HO1; clear HO2; clear HB; clear HO382; have HO1 := n0_; have HO2 := n1_; have HB := n2_; have HO385 := n3_; clear n0_ n1_ n2_ n3_; clear ho hb hg hat; obtain ⟨Ao9, co9, eo9⟩ := Kd.N_slice HO385.out; subst eo9) | ((with_reducible refine gate_callee (f := 82) rfl ?_); refine goesL_ (some 13) rfl rfl Try.func82 (by kernel_rfl) rfl #[.int .i64 a0, .slice Ao9 y383.length co9] rfl (by (try simp only [List.map_toArray, List.map_cons, List.map_nil]); first | done | rfl | (simp only [List.length_drop, List.length_take]; rfl)) ?_; (with_reducible refine (impl_reduced.calls k a0 _ _ y383 t386 _ ?side1 ?side2 A6.out).mono ?_); (case side1 => exact Kd.C_below (Kd.N_reads' HO385.out).2.2 gs); (case side2 => exact (Kd.N_reads' HO385.out).2.1); rintro e w10 ⟨v387, rfl, ho0, hb⟩; refine ⟨_, rfl, ?_⟩; have n0_ := Aside0.mk (Kd.V_elder' (Kd.V_below HO1.out gs) (Kd.S_base ho0) hb); have n1_ := Aside0.mk (Kd.V_elder' (Kd.V_below HO2.out gs) (Kd.S_base ho0) hb); have n2_ := Aside0.mk (Kd.N_elder' (Kd.N_below HO385.out gs) (Kd.S_base ho0) hb); have n3_ := Aside0.mk (Kd.N_lower (Kd.N_mono (ok' := fun k_ => ((P1_ k_ ∨ P2_ k_) ∨ w.heap.size ≤ k_) ∧ some k_ ≠ (.slice Ao9 y383.length co9 : Value).ownBlock) (Kd.S_N (Kd.S_bound ho0)) (fun k_ hk_ => ⟨(.inr (Nat.le_trans (below_size (bb HB.out)) hk_.2.1)), (Kd.fresh' (Kd.N_lt (Kd.N_below HO385.out gs)) k_ hk_.2.1)⟩)) (below_size (bb HB.out))); have n4_ := Aside0.mk (below_step (bb HB.out) hb); clear HO1; clear HO2; clear HO385; clear HB; have HO1 := n0_; have HO2 := n1_; have HO385 := n2_; have HO388 := n3_; have HB := n4_; clear n0_ n1_ n2_ n3_ n4_; (try clear hb); (try clear hb2); (try clear hk); (try clear hi); (try clear ho0); obtain ⟨Ao11, co11, eo11⟩ := Kd.N_slice HO388.out; subst eo11))
    go_ret
    exact ⟨by first | rfl | (simp [errW_none, errW_some] <;> rfl) | (simp [*, errW_none, errW_some] <;> rfl), by repeat (first | (with_reducible first | exact HB.out | apply below_alloc | apply pw_below_drewN | apply below_drew1) | exact HB.out)⟩
  · rw [if_neg c5] at H
    exact absurd H (by simp)

/-! ### impl_SpaceOn: function 25 -/
def impl_SpaceOn.f (k : Nat) (a0 : Int) (l1 : List Int) (l2 : List Int) : Option (Bool) := (impl_isPlace.f a0 l1).bind fun t389 => (if t389 = true then ((impl_isSpaceLine.f k a0 l2).bind fun t390 => (if t390 = true then ((impl_isOn.f k a0 l1 l2).bind fun t391 => (some t391)) else (some false))) else (some false))
theorem impl_SpaceOn.mono : ∀ a0 a1 a2 k, LeO (impl_SpaceOn.f k a0 a1 a2) (impl_SpaceOn.f (k + 1) a0 a1 a2) := by
  intro a0 a1 a2 k
  unfold impl_SpaceOn.f
  repeat' first
      | (with_reducible exact impl_isOn.mono _ _ _ _)
      | (with_reducible exact impl_isSpaceLine.mono _ _ _)
      | (with_reducible exact LeO.refl _)
      | (with_reducible exact LeO.none _)
      | (with_reducible refine LeO.ite ?_ ?_)
      | (with_reducible refine LeO.bind ?_ (fun _ => ?_))
      | exact impl_isOn.mono _ _ _ _
      | exact impl_isSpaceLine.mono _ _ _
      | exact LeO.none _
      | refine LeO.ite ?_ ?_
      | refine LeO.bind ?_ (fun _ => ?_)
set_option maxHeartbeats 8000000 in
set_option maxRecDepth 100000 in
theorem impl_SpaceOn.calls (k : Nat) (a0 : Int) (A1 : Option Addr) (c1 : Nat) (l1 : List Int) (A2 : Option Addr) (c2 : Nat) (l2 : List Int) (r : Bool) (w : World) (hr1 : Kd.C (Kd.int .i64) w A1 l1.length l1) (hc1 : l1.length ≤ c1) (hr2 : Kd.C (Kd.int .i64) w A2 l2.length l2) (hc2 : l2.length ≤ c2) (h : impl_SpaceOn.f k a0 l1 l2 = some r) :
    Calls Try.prog 25 #[.int .i64 a0, .slice A1 l1.length c1, .slice A2 l2.length c2] w fun e w' => e = .returned (.bool r) ∧ Below w.heap.size w w' := by
  have HR1 := Aside0.mk hr1
  have HC1 := Aside0.mk hc1
  clear hr1 hc1
  have HR2 := Aside0.mk hr2
  have HC2 := Aside0.mk hc2
  clear hr2 hc2
  have HB := Aside0.mk (Below.refl w.heap.size w)
  have H : ((impl_isPlace.f a0 l1).bind fun t389 => (if t389 = true then ((impl_isSpaceLine.f k a0 l2).bind fun t390 => (if t390 = true then ((impl_isOn.f k a0 l1 l2).bind fun t391 => (some t391)) else (some false))) else (some false))) = some r := h
  clear h
  replace H := Option.bind_eq_some_iff.mp H
  obtain ⟨t389, A40, H⟩ := H
  replace H : (if t389 = true then ((impl_isSpaceLine.f k a0 l2).bind fun t390 => (if t390 = true then ((impl_isOn.f k a0 l1 l2).bind fun t391 => (some t391)) else (some false))) else (some false)) = some r := H
  have A4 := Aside0.mk A40
  clear A40
  by_cases c5 : t389 = true
  · subst c5
    have H1 : ((impl_isSpaceLine.f k a0 l2).bind fun t390 => (if t390 = true then ((impl_isOn.f k a0 l1 l2).bind fun t391 => (some t391)) else (some false))) = some r := by rw [if_pos rfl] at H; exact H
    clear H
    have H := H1
    clear H1
    replace H := Option.bind_eq_some_iff.mp H
    obtain ⟨t390, A60, H⟩ := H
    replace H : (if t390 = true then ((impl_isOn.f k a0 l1 l2).bind fun t391 => (some t391)) else (some false)) = some r := H
    have A6 := Aside0.mk A60
    clear A60
    by_cases c7 : t390 = true
    · subst c7
      have H1 : ((impl_isOn.f k a0 l1 l2).bind fun t391 => (some t391)) = some r := by rw [if_pos rfl] at H; exact H
      clear H
      have H := H1
      clear H1
      replace H := Option.bind_eq_some_iff.mp H
      obtain ⟨t391, A80, H⟩ := H
      replace H : (some t391) = some r := H
      have A8 := Aside0.mk A80
      clear A80
      obtain rfl := Option.some.inj H
      go_enter Try.func25, Try.ntmps25
      go_wp2_with (first | ((with_reducible refine gate_callee (f := 62) rfl ?_); refine goesL_ (some 9) rfl rfl Try.func62 (by kernel_rfl) rfl #[.int .i64 a0, .slice A1 l1.length c1] rfl (by (try simp only [List.map_toArray, List.map_cons, List.map_nil]); first | done | rfl | (simp only [List.length_drop, List.length_take]; rfl)) ?_; (with_reducible refine (impl_isPlace.calls a0 _ _ l1 true _ ?side1 ?side2 A4.out).mono ?_); (case side1 => exact Kd.C_below HR1.out gs); (case side2 => exact HC1.out); rintro e w9 ⟨rfl, hb⟩; refine ⟨_, rfl, ?_⟩; have n0_ := Aside0.mk (below_step (bb HB.out) hb); clear HB; have HB := n0_; clear n0_; (try clear hb); (try clear hb2); (try clear hk); (try clear hi)) | (go_at_call 45; (with_reducible refine (impl_isSpaceLine.calls k a0 _ _ l2 true _ ?side1 ?side2 A6.out).mono ?_); (case side1 => exact Kd.C_below HR2.out (bb HB.out)); (case side2 => exact HC2.out); rintro e w10 ⟨rfl, hb⟩; have n0_ := Aside0.mk (below_step (bb HB.out) hb); clear HB; have HB := n0_; clear n0_; (try clear hb); (try clear hb2); (try clear hk); (try clear hi)) | (go_at_call 63; (with_reducible refine (impl_isOn.calls k a0 (fun k_ => k_ < w.heap.size) _ _ l1 (fun k_ => k_ < w.heap.size) _ _ l2 t391 _ ?side1 ?side2 A8.out).mono ?_); (case side1 => exact Kd.V_mk HC1.out (Kd.F_below (Kd.C_F (Kd.heap_int .i64) HR1.out) (bb HB.out))); (case side2 => exact Kd.V_mk HC2.out (Kd.F_below (Kd.C_F (Kd.heap_int .i64) HR2.out) (bb HB.out))); rintro e w11 ⟨rfl, hb⟩; have n0_ := Aside0.mk (below_step (bb HB.out) hb); clear HB; have HB := n0_; clear n0_; (try clear hb); (try clear hb2); (try clear hk); (try clear hi)))
      go_ret
      exact ⟨by first | rfl | (simp [errW_none, errW_some] <;> rfl) | (simp [*, errW_none, errW_some] <;> rfl), by repeat (first | (with_reducible first | exact HB.out | apply below_alloc | apply pw_below_drewN | apply below_drew1) | exact HB.out)⟩
    · replace c7 := Bool.eq_false_iff.mpr c7
      subst c7
      have H1 : (some false) = some r := by rw [if_neg (show ¬ (false = true) by decide)] at H; exact H
      clear H
      have H := H1
      clear H1
      obtain rfl := Option.some.inj H
      go_enter Try.func25, Try.ntmps25
      go_wp2_with (first | ((with_reducible refine gate_callee (f := 62) rfl ?_); refine goesL_ (some 9) rfl rfl Try.func62 (by kernel_rfl) rfl #[.int .i64 a0, .slice A1 l1.length c1] rfl (by (try simp only [List.map_toArray, List.map_cons, List.map_nil]); first | done | rfl | (simp only [List.length_drop, List.length_take]; rfl)) ?_; (with_reducible refine (impl_isPlace.calls a0 _ _ l1 true _ ?side1 ?side2 A4.out).mono ?_); (case side1 => exact Kd.C_below HR1.out gs); (case side2 => exact HC1.out); rintro e w12 ⟨rfl, hb⟩; refine ⟨_, rfl, ?_⟩; have n0_ := Aside0.mk (below_step (bb HB.out) hb); clear HB; have HB := n0_; clear n0_; (try clear hb); (try clear hb2); (try clear hk); (try clear hi)) | (go_at_call 45; (with_reducible refine (impl_isSpaceLine.calls k a0 _ _ l2 false _ ?side1 ?side2 A6.out).mono ?_); (case side1 => exact Kd.C_below HR2.out (bb HB.out)); (case side2 => exact HC2.out); rintro e w13 ⟨rfl, hb⟩; have n0_ := Aside0.mk (below_step (bb HB.out) hb); clear HB; have HB := n0_; clear n0_; (try clear hb); (try clear hb2); (try clear hk); (try clear hi)))
      go_ret
      exact ⟨by first | rfl | (simp [errW_none, errW_some] <;> rfl) | (simp [*, errW_none, errW_some] <;> rfl), by repeat (first | (with_reducible first | exact HB.out | apply below_alloc | apply pw_below_drewN | apply below_drew1) | exact HB.out)⟩
  · replace c5 := Bool.eq_false_iff.mpr c5
    subst c5
    have H1 : (some false) = some r := by rw [if_neg (show ¬ (false = true) by decide)] at H; exact H
    clear H
    have H := H1
    clear H1
    obtain rfl := Option.some.inj H
    go_enter Try.func25, Try.ntmps25
    go_wp2_with (first | ((with_reducible refine gate_callee (f := 62) rfl ?_); refine goesL_ (some 9) rfl rfl Try.func62 (by kernel_rfl) rfl #[.int .i64 a0, .slice A1 l1.length c1] rfl (by (try simp only [List.map_toArray, List.map_cons, List.map_nil]); first | done | rfl | (simp only [List.length_drop, List.length_take]; rfl)) ?_; (with_reducible refine (impl_isPlace.calls a0 _ _ l1 false _ ?side1 ?side2 A4.out).mono ?_); (case side1 => exact Kd.C_below HR1.out gs); (case side2 => exact HC1.out); rintro e w14 ⟨rfl, hb⟩; refine ⟨_, rfl, ?_⟩; have n0_ := Aside0.mk (below_step (bb HB.out) hb); clear HB; have HB := n0_; clear n0_; (try clear hb); (try clear hb2); (try clear hk); (try clear hi)))
    go_ret
    exact ⟨by first | rfl | (simp [errW_none, errW_some] <;> rfl) | (simp [*, errW_none, errW_some] <;> rfl), by repeat (first | (with_reducible first | exact HB.out | apply below_alloc | apply pw_below_drewN | apply below_drew1) | exact HB.out)⟩

end Go.Proofs.Ytmenehnfgenlpaa.PA

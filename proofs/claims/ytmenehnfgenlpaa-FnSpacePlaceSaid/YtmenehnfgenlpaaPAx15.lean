-- Written by xprint.py, a program of this claim's own (over the kit's print.py)
import Derived.Test.YtmenehnfgenlpaaPAx0
import Derived.Test.YtmenehnfgenlpaaPAx1
import Derived.Test.YtmenehnfgenlpaaPAx2
import Derived.Deep.RegionHeld3
namespace Go.Proofs.Ytmenehnfgenlpaa.PA
open Go.RowKit Go.Proofs.YtmenehnfgenlpaaW.PrintWords Go.Proofs.YtmenehnfgenlpaaW.PrintLast Go.Proofs.YtmenehnfgenlpaaW.PrintMore
attribute [local go_sem] max2_int min2_int max_two min_two max_three min_three max_four min_four   -- for this text's walks alone
set_option linter.unusedVariables false
set_option linter.unusedSimpArgs false

/-! ### spec_l8Roots: function 85 -/
def spec_l8Roots.l0 : Nat → Int → List Int → Int → Option (List Int)
 | 0, _, _, _ => none
 | k + 1, x0, x3, x4 => if x4 < x0 then (if x0 = 0 then (none) else (if (Int.tmod (wrap64 ((Int.tmod (wrap64 (x4 * x4)) x0) * x4)) x0) = (wrap64 (x0 - 1)) then (if x3.length < 17592186044416 then (spec_l8Roots.l0 k x0 (x3 ++ [x4]) (wrap64 (x4 + 1))) else (none)) else (spec_l8Roots.l0 k x0 x3 (wrap64 (x4 + 1))))) else (some x3)
def spec_l8Roots.f (k : Nat) (a0 : Int) : Option (List Int) := spec_l8Roots.l0 k a0 (([] : List Int)) 1
theorem spec_l8Roots.mono_l : ∀ k, (∀ y0 y1 y2, LeO (spec_l8Roots.l0 k y0 y1 y2) (spec_l8Roots.l0 (k + 1) y0 y1 y2))
 | 0 => fun _ _ _ r h => by simp [spec_l8Roots.l0] at h
 | k + 1 => by
  have ih0 := spec_l8Roots.mono_l k
  ·intro y0 y1 y2
   unfold spec_l8Roots.l0
   repeat' first | (with_reducible first | apply ih0 | exact LeO.refl _ | exact LeO.none _ | refine LeO.ite ?_ ?_ | refine LeO.bind ?_ (fun _ => ?_)) | (first | apply ih0 | exact LeO.none _ | refine LeO.ite ?_ ?_ | refine LeO.bind ?_ (fun _ => ?_))
theorem spec_l8Roots.mono : ∀ a0 k, LeO (spec_l8Roots.f k a0) (spec_l8Roots.f (k + 1) a0) := by
 intro a0 k
 have ih0 := spec_l8Roots.mono_l k
 unfold spec_l8Roots.f
 repeat' first | (with_reducible first | apply ih0 | exact LeO.refl _ | exact LeO.none _ | refine LeO.ite ?_ ?_ | refine LeO.bind ?_ (fun _ => ?_)) | (first | apply ih0 | exact LeO.none _ | refine LeO.ite ?_ ?_ | refine LeO.bind ?_ (fun _ => ?_))
set_option maxHeartbeats 8000000 in
set_option maxRecDepth 100000 in
theorem spec_l8Roots.calls (k : Nat) (a0 : Int) (r : List Int) (w : World) (h : spec_l8Roots.f k a0 = some r) :
  Calls Try.prog 85 #[.int .i64 a0] w fun e w' => ∃ v0_ : Value, e = .returned (v0_) ∧ Kd.R (Kd.int .i64) 3 w' w.heap.size (fun _ => True) v0_ r ∧ Below w.heap.size w w' := by
 have HB := am (Below.refl w.heap.size w)
 have H : (spec_l8Roots.l0 k a0 (([] : List Int)) 1) = some r := h
 clear h
 generalize hy461 : (([] : List Int)) = y461 at H
 have Ny461 := am hy461.symm; clear hy461; have H' := am H; clear H
 go_enter Try.func85, Try.ntmps85
 go_wp2_with (first | ((with_reducible refine gate_dst (N := 5) rfl ?_); refine li 3 ([] : List Int) ?_; intro v462 w2 ho3 hb; (first | rw [← Ny461.out] at ho3 | (simp only [Int.reduceToNat] at ho3; rw [← Ny461.out] at ho3)); have HO463 := am (Kd.R_lower ho3 (bz HB)); replace HB := bq HB hb; clear hb ho3))
 go_loopg [3, 4] k (fun kq v3 v4 w' => ∃ (x3_1 : List Int) (x4_1 : Int), v4 = .int .i64 x4_1 ∧ Aside0 (spec_l8Roots.l0 kq a0 x3_1 x4_1 = some r) ∧ Aside0 (kq ≤ k) ∧ Aside0 (Kd.R (Kd.int .i64) 3 w' w.heap.size (fun _ => True) v3 x3_1) ∧ Aside0 (Below w.heap.size w w'))
 case atStart => exact ⟨(y461), (1), fr, H', ⟨Nat.le_refl _⟩, ⟨wR HO463⟩, ⟨bw HB⟩⟩
 case round =>
  clear H'; try clear p2
  obtain ⟨x3_1, x4_1, rfl, HA, HK1, HO_3, HB⟩ := hrel
  cases gk with
  | zero => exact absurd HA.out (by simp [spec_l8Roots.l0])
  | succ k1 =>
   have H := HA.out; clear HA
   simp only [spec_l8Roots.l0] at H
   by_cases c4 : x4_1 < a0
   ·rw [if_pos c4] at H
    have c4b0 := decide_eq_true c4; clear c4; replace H := ifm H; obtain ⟨c5, H⟩ := H; have c5b0 := beq_eq_false_iff_ne.mpr c5; have c5b1 := bne_iff_ne.mpr c5
    by_cases c6 : (Int.tmod (wrap64 ((Int.tmod (wrap64 (x4_1 * x4_1)) a0) * x4_1)) a0) = (wrap64 (a0 - 1))
    ·rw [if_pos c6] at H
     have c6b0 := beq_iff_eq.mpr c6; have c6b1 := bne_eq_false_iff_eq.mpr c6; clear c6; replace H := ifn H; obtain ⟨c7, H⟩ := H; have LMc7 := am c7; clear c7
     generalize hy464 : (x3_1 ++ [x4_1] : List Int) = y464 at H
     have Ny464 := am hy464.symm; clear hy464; have H' := am H; clear H
     go_wp2_with (first | ((with_reducible refine gate_builtin (b := .append) (xs := #[.tmp 23, .tmp 25]) rfl ?_); at_builtin; refine Kd.R_append (Kd.int .i64) (w0 := w) w.heap.size rfl (.tmp 23) (.tmp 25) 22 3 (.int .i64 0) 8 rfl Try.underlying22 info3 rfl (by decide) (by omega) u3 x3_1 x4_1 [.int .i64 x4_1] (fun _ => True) (fun _ => False) rfl rfl ?aP (fun _ hk => hk.elim) ?aF ?aO ?aB ?aS ?aL ?_; (case aP => exact rfl); (case aB => exact (bw HB)); (case aF => exact (fun _ _ => trivial)); (case aO => exact (wR HO_3)); (case aS => exact (bz HB)); (case aL => have := LMc7.out; omega); intro v465 w8 ho hb hg hat; rw [← Ny464.out] at ho; replace HB := am (hb); have HO466 := am (ho); clear HO_3; clear ho hb hg hat))
     go_roundg k1
     case measure => have := HK1.out; omega
     case rel => exact ⟨(y464), (wrap64 (x4_1 + 1)), fr, H', ⟨by have := HK1.out; omega⟩, ⟨wR HO466⟩, ⟨bw HB⟩⟩
    ·rw [if_neg c6] at H
     have c6b0 := beq_eq_false_iff_ne.mpr c6; have c6b1 := bne_iff_ne.mpr c6; have H' := am H; clear H; go_wp2
     go_roundg k1
     case measure => have := HK1.out; omega
     case rel => exact ⟨(x3_1), (wrap64 (x4_1 + 1)), fr, H', ⟨by have := HK1.out; omega⟩, ⟨wR HO_3⟩, ⟨bw HB⟩⟩
   ·rw [if_neg c4] at H
    have c4b0 := decide_eq_false c4; clear c4; obtain rfl := Option.some.inj H; go_wp2; go_ret
    exact ⟨_, fq, wR HO_3, bw HB⟩/-! ### spec_CubeRoots: function 48 -/
def spec_CubeRoots.f (k : Nat) (a0 : Int) : Option (List Int × Bool) := (spec_PrimeIn.f a0).bind fun t467 => (if t467 = true then ((spec_l8Roots.f k a0).bind fun t468 => (if (t468.length : Int) = 3 then (some (t468, true)) else (some ((([] : List Int)), false)))) else (some ((([] : List Int)), false)))
theorem spec_CubeRoots.mono : ∀ a0 k, LeO (spec_CubeRoots.f k a0) (spec_CubeRoots.f (k + 1) a0) := by
 intro a0 k
 unfold spec_CubeRoots.f
 repeat' first | (with_reducible first | apply spec_l8Roots.mono | exact LeO.refl _ | exact LeO.none _ | refine LeO.ite ?_ ?_ | refine LeO.bind ?_ (fun _ => ?_)) | (first | apply spec_l8Roots.mono | exact LeO.none _ | refine LeO.ite ?_ ?_ | refine LeO.bind ?_ (fun _ => ?_))
set_option maxHeartbeats 8000000 in
set_option maxRecDepth 100000 in
theorem spec_CubeRoots.calls (k : Nat) (a0 : Int) (r1 : List Int) (r2 : Bool) (w : World) (h : spec_CubeRoots.f k a0 = some (r1, r2)) :
  Calls Try.prog 48 #[.int .i64 a0] w fun e w' => ∃ v0_ : Value, e = .returned (.tuple #[v0_, .bool r2]) ∧ Kd.R (Kd.int .i64) 3 w' w.heap.size (fun _ => True) v0_ r1 ∧ Below w.heap.size w w' := by
 have HB := am (Below.refl w.heap.size w)
 have H : ((spec_PrimeIn.f a0).bind fun t467 => (if t467 = true then ((spec_l8Roots.f k a0).bind fun t468 => (if (t468.length : Int) = 3 then (some (t468, true)) else (some ((([] : List Int)), false)))) else (some ((([] : List Int)), false)))) = some (r1, r2) := h
 clear h; replace H := bs H; obtain ⟨t467, A2, H⟩ := H
 by_cases c3 : t467 = true
 ·subst c3
  rw [if_pos rfl] at H
  replace H := bs H; obtain ⟨t468, A4, H⟩ := H
  by_cases c5 : (t468.length : Int) = 3
  ·rw [if_pos c5] at H
   have c5b0 := beq_iff_eq.mpr c5; have c5b1 := bne_eq_false_iff_eq.mpr c5; clear c5
   simp only [Option.some.injEq, Prod.mk.injEq] at H
   obtain ⟨rfl, rfl⟩ := H
   go_enter Try.func48, Try.ntmps48
   go_wp2_with (first | ((with_reducible refine gate_callee (f := 59) rfl ?_); refine gl 6 Try.func59 #[.int .i64 a0] ?_; (with_reducible refine (spec_PrimeIn.calls a0 true _ A2.out).mono ?_); rintro e w' ⟨rfl, ⟨nd, rfl⟩⟩; refine ⟨_, rfl, ?_⟩) | ((with_reducible refine gate_callee (f := 85) rfl ?_); refine gl 10 Try.func85 #[.int .i64 a0] ?_; (with_reducible refine (spec_l8Roots.calls k a0 t468 _ A4.out).mono ?_); rintro e w6 ⟨v469, rfl, ho0, hb⟩; refine ⟨_, rfl, ?_⟩; have HO470 := am (Kd.R_lower ho0 (bz HB)); replace HB := bq HB hb; (try clear hb); (try clear ho0); obtain ⟨Ao7, co7, eo7⟩ := Kd.R_slice HO470.out; subst eo7))
   go_ret2
   exact ⟨_, fq, wR HO470, bw HB⟩
  ·rw [if_neg c5] at H
   have c5b0 := beq_eq_false_iff_ne.mpr c5; have c5b1 := bne_iff_ne.mpr c5
   generalize hy471 : (([] : List Int)) = y471 at H
   have Ny471 := am hy471.symm; clear hy471
   simp only [Option.some.injEq, Prod.mk.injEq] at H
   obtain ⟨rfl, rfl⟩ := H
   go_enter Try.func48, Try.ntmps48
   go_wp2_with (first | ((with_reducible refine gate_callee (f := 59) rfl ?_); refine gl 6 Try.func59 #[.int .i64 a0] ?_; (with_reducible refine (spec_PrimeIn.calls a0 true _ A2.out).mono ?_); rintro e w' ⟨rfl, ⟨nd, rfl⟩⟩; refine ⟨_, rfl, ?_⟩) | ((with_reducible refine gate_callee (f := 85) rfl ?_); refine gl 10 Try.func85 #[.int .i64 a0] ?_; (with_reducible refine (spec_l8Roots.calls k a0 t468 _ A4.out).mono ?_); rintro e w8 ⟨v469, rfl, ho0, hb⟩; refine ⟨_, rfl, ?_⟩; have HO470 := am (Kd.R_lower ho0 (bz HB)); replace HB := bq HB hb; (try clear hb); (try clear ho0); obtain ⟨Ao9, co9, eo9⟩ := Kd.R_slice HO470.out; subst eo9) | ((with_reducible refine gate_dst (N := 14) rfl ?_); refine li 3 ([] : List Int) ?_; intro v472 w10 ho11 hb; (first | rw [← Ny471.out] at ho11 | (simp only [Int.reduceToNat] at ho11; rw [← Ny471.out] at ho11)); have HO473 := am (Kd.R_lower (Kd.R_new' ho11 (Kd.R_lt (wR HO470))) (bz HB)); replace HO470 := eR HO470 (Kd.R_base ho11) hb; replace HB := bq HB hb; clear hb ho11))
   go_ret2
   exact ⟨_, fq, Kd.R_below (Kd.R_mono HO473.out (fun _ hk => trivial)) gs, bw HB⟩
 ·replace c3 := Bool.eq_false_iff.mpr c3
  subst c3
  rw [if_neg (show ¬ (false = true) by decide)] at H
  generalize hy474 : (([] : List Int)) = y474 at H
  have Ny474 := am hy474.symm; clear hy474
  simp only [Option.some.injEq, Prod.mk.injEq] at H
  obtain ⟨rfl, rfl⟩ := H
  go_enter Try.func48, Try.ntmps48
  go_wp2_with (first | ((with_reducible refine gate_callee (f := 59) rfl ?_); refine gl 6 Try.func59 #[.int .i64 a0] ?_; (with_reducible refine (spec_PrimeIn.calls a0 false _ A2.out).mono ?_); rintro e w' ⟨rfl, ⟨nd, rfl⟩⟩; refine ⟨_, rfl, ?_⟩) | ((with_reducible refine gate_dst (N := 8) rfl ?_); refine li 3 ([] : List Int) ?_; intro v475 w12 ho13 hb; (first | rw [← Ny474.out] at ho13 | (simp only [Int.reduceToNat] at ho13; rw [← Ny474.out] at ho13)); have HO476 := am (Kd.R_lower ho13 (bz HB)); replace HB := bq HB hb; clear hb ho13))
  go_ret2
  exact ⟨_, fq, wR HO476, bw HB⟩/-! ### spec_l7Of: function 91 (by hand) -/
theorem l7o_own_nil (w : World) (e : Nat) (base : Nat) (hb : base ≤ w.heap.size) : (w.alloc (.cells #[] e)).ownsRow base e 1 (.slice (some ⟨w.heap.size, 0, none⟩) 0 0) 0 [] :=
 ⟨rfl, .inr ⟨w.heap.size, 0, #[], rfl, hb, (by show (w.heap.push _)[w.heap.size]? = _; simp), Nat.le_refl _, Nat.zero_le _, rfl, rfl⟩⟩
theorem l7o_row_of_C {w : World} {A : Option Addr} {n : Nat} {rows : List (List Int)} (h : Kd.C (Kd.slice 3 (Kd.int .i64)) w A n rows) (j : Nat) (hj : j < rows.length) : ∃ ad B c, A = some ad ∧ w.cell? (ad.add j) = some (.slice B (rows[j]).length c) ∧ (rows[j]).length ≤ c ∧ Kd.C (Kd.int .i64) w B (rows[j]).length rows[j] := by
 obtain ⟨hl, hm, hr⟩ := h
 obtain ⟨ad, rfl, hc⟩ := hr (by omega)
 obtain ⟨cs, _, ⟨B, c, rfl, h1, h2⟩, hcell⟩ := hc j _ (List.getElem?_eq_getElem hj)
 refine ⟨ad, B, c, rfl, ?_, h1, h2⟩
 have := hcell 0 (.slice B (rows[j]).length c) rfl
 simpa [Kd.slice] using this
theorem l7o_keep_row {w1 w2 : World} {g o : Nat} {v : Value} (hlt : g < w1.heap.size) (hb : Below w1.heap.size w1 w2) (hx : w1.cell? ⟨g, o, none⟩ = some v) : w2.cell? ⟨g, o, none⟩ = some v :=
 (World.cell?_of_block (a := ⟨g, o, none⟩) (hb.block g hlt)).trans hx
/-- what l7Of returns: the two rows one after the other, if there are just two -/
def spec_l7Of.f (k : Nat) (a0 : Int) (l1 : List (List Int)) : Option (List Int × Bool) := (spec_l4Reduce.f k a0 l1 4).bind fun t =>
 if t.1.length = 2 then (if (t.1.getD 0 []).length < 1000000 ∧ (t.1.getD 1 []).length < 1000000 then some (t.1.getD 0 [] ++ t.1.getD 1 [], true) else none) else some ([], false)
theorem spec_l7Of.mono : ∀ a0 a1 k, LeO (spec_l7Of.f k a0 a1) (spec_l7Of.f (k + 1) a0 a1) := by
 intro a0 a1 k
 unfold spec_l7Of.f
 exact LeO.bind (spec_l4Reduce.mono _ _ _ _) fun _ => LeO.refl _
set_option maxHeartbeats 4000000 in
set_option maxRecDepth 100000 in
theorem spec_l7Of.calls (k : Nat) (a0 : Int) (A1 : Option Addr) (c1 : Nat) (l1 : List (List Int)) (r1 : List Int) (r2 : Bool) (w : World) (hr1 : Kd.C (Kd.slice 3 (Kd.int .i64)) w A1 l1.length l1) (hc1 : l1.length ≤ c1) (h : spec_l7Of.f k a0 l1 = some (r1, r2)) :
  Calls Try.prog 91 #[.int .i64 a0, .slice A1 l1.length c1] w fun e w' => ∃ v0_ : Value, e = .returned (.tuple #[v0_, .bool r2]) ∧ Kd.R (Kd.int .i64) 3 w' w.heap.size (fun _ => True) v0_ r1 ∧ Below w.heap.size w w' := by
 obtain ⟨⟨L, hs⟩, hred, h'⟩ := Option.bind_eq_some_iff.1 h
 clear h
 have HRED := Lib.hid hred
 have H := Lib.hid h'
 have HV : Hid (Kd.V (Kd.slice 3 (Kd.int .i64)) 22 w w.heap.size (fun k_ => k_ < w.heap.size) (.slice A1 l1.length c1) l1) := Lib.hid (Kd.V_mk hc1 (Kd.C_F (Kd.heap_slice 3 (Kd.heap_int .i64)) hr1))
 clear h' hred hr1 hc1
 go_enter Try.func91, Try.ntmps91
 go_wp2_with fail
 refine (spec_l4Reduce.calls k a0 (fun k_ => k_ < w.heap.size) A1 c1 l1 4 L hs w HV.out HRED.out).mono ?_
 rintro e w1 ⟨v0, v1, rfl, ho0, _, hb⟩
 have HB := Lib.hid hb
 by_cases h2 : L.length = 2
 ·obtain ⟨x, y, rfl⟩ : ∃ x y, L = [x, y] := by
   match L, h2 with
   | [x, y], _ => exact ⟨x, y, rfl⟩
  obtain ⟨g, c0, rfl, _, hgl, _⟩ := Kd.N_form ho0 (by simp)
  have HGL := Lib.hid hgl
  clear hgl
  obtain ⟨ad, B0, k0, e0, hx0, hb0, hC0⟩ := l7o_row_of_C (Kd.F_now (Kd.N_F ho0)) 0 (by simp)
  obtain ⟨_, B1, k1, e1, hx1, hb1, hC1⟩ := l7o_row_of_C (Kd.F_now (Kd.N_F ho0)) 1 (by simp)
  injection e0 with e0
  subst e0
  injection e1 with e1
  subst e1
  rw [add_plain] at hx0 hx1
  simp only [List.getElem_cons_zero, List.getElem_cons_succ] at hx0 hb0 hC0 hx1 hb1 hC1
  clear ho0 hb HV
  have HC0 := Lib.hid hC0
  have HC1 := Lib.hid hC1
  have HBN : Hid (x.length < 1000000 ∧ y.length < 1000000 ∧ r1 = x ++ y ∧ r2 = true) := Lib.hid (by
   have h := H.out
   simp only [List.length_cons, List.length_nil, if_true, List.getD_cons_zero, List.getD_cons_succ] at h
   split at h
   ·next hh => simp at h; exact ⟨hh.1, hh.2, h.1.symm, h.2⟩
   ·simp at h)
  clear H hC0 hC1 hb0 hb1 h2
  go_wp2_with fail
  go_region_held3 (fun w' => w'.cell? ⟨g, 0, none⟩ = some (.slice B0 x.length k0) ∧ w'.cell? ⟨g, 1, none⟩ = some (.slice B1 y.length k1)) (first | exact ⟨l7o_keep_row HGL.out hb2 hx0, l7o_keep_row HGL.out hb2 hx1⟩ | exact ⟨l7o_keep_row HGL.out hb1 hx0, l7o_keep_row HGL.out hb1 hx1⟩ | go_keep)
   (first
    | ((refine Kd.R_append_rows_step (Kd.int .i64) (Rr := fun x c => c = [Value.int .i64 x]) (w0 := w1) w1.heap.size (by rfl) (.tmp 18) (.tmp 21) 22 3 (.int .i64 0) 8 (by rfl) Try.underlying22 info3 rfl (by decide) (by decide) (.slice (some ⟨w1.heap.size, 0, none⟩) 0 0) [] x B0 x.length k0 (fun _ => True) (fun _ => False) (by rfl) (by rfl) ⟨fun _ _ => trivial, [], l7o_own_nil _ 3 _ (Nat.le_refl _), Reps.none _ _⟩ (Kd.C_alloc (Kd.C_drew HC0.out) _) (fun _ _ h => h) (fun _ h => h.elim) (fun _ _ => trivial) (((Below.refl _ _).drew).alloc (Nat.le_refl _) _) (by simp) (by have := HBN.out.1; simp; omega) ?_; intro v2 w2 hown1 hb1 hg1 hat1))
    | ((refine Kd.R_append_rows_step (Kd.int .i64) (Rr := fun x c => c = [Value.int .i64 x]) (w0 := w1) w1.heap.size (by rfl) (.tmp 22) (.tmp 25) 22 3 (.int .i64 0) 8 (by rfl) Try.underlying22 info3 rfl (by decide) (by decide) v2 ([] ++ x) y B1 y.length k1 (fun _ => True) (fun _ => False) (by rfl) (by rfl) hown1 (Kd.C_below HC1.out hb1) (fun _ _ h => h) (fun _ h => h.elim) (fun _ _ => trivial) hb1 hb1.size (by have := HBN.out.1; have := HBN.out.2.1; simp; omega) ?_; intro v3 w3 hown2 hb2 hg2 hat2)))
  obtain ⟨_, _, rfl, rfl⟩ := HBN.out
  go_wp2
  go_ret2
  exact ⟨v3, rfl, Kd.R_lower hown2 HB.out.size, HB.out.trans (hb2.mono HB.out.size)⟩
 ·obtain ⟨A0, c0, rfl⟩ := Kd.N_slice ho0
  have HR : Hid (r1 = [] ∧ r2 = false) := Lib.hid (by
   have h := H.out
   rw [if_neg h2] at h
   simp at h
   exact h)
  have h3 : ((L.length : Int) == 2) = false := beq_eq_false_iff_ne.mpr (by omega)
  have h4 : ((L.length : Int) != 2) = true := bne_iff_ne.mpr (by omega)
  clear ho0 hb HV H h2
  obtain ⟨rfl, rfl⟩ := HR.out
  go_wp2
  go_ret2
  exact ⟨_, rfl, Kd.R_lower ⟨fun _ _ => trivial, [], l7o_own_nil w1 3 _ (Nat.le_refl _), Reps.none _ _⟩ HB.out.size, HB.out.trans ((Below.refl _ _).alloc HB.out.size _)⟩/-! ### spec_l8Line: function 72 -/
def spec_l8Line.f (k : Nat) (a0 : Int) (l1 : List Int) (a2 : Int) : Option (List Int) := if 0 ≤ (Int.tmod (wrap64 (Int.tdiv a2 3)) 3) then (if (Int.tmod (wrap64 (Int.tdiv a2 3)) 3) < (l1.length : Int) then (if 0 ≤ (Int.tmod a2 3) then (if (Int.tmod a2 3) < (l1.length : Int) then (if (wrap64 (Int.tdiv a2 9)) = 1 then ((spec_l7Of.f k a0 (([(([rd l1 (Int.tmod (wrap64 (Int.tdiv a2 3)) 3), 0, 1, 0] : List Int)), (([0, rd l1 (Int.tmod a2 3), 0, 1] : List Int))] : List (List Int)))).bind fun bt497 => (some bt497.1)) else (if (wrap64 (Int.tdiv a2 9)) = 2 then ((spec_l7Of.f k a0 (([(([rd l1 (Int.tmod (wrap64 (Int.tdiv a2 3)) 3), 0, 0, 1] : List Int)), (([0, rd l1 (Int.tmod a2 3), 1, 0] : List Int))] : List (List Int)))).bind fun bt510 => (some bt510.1)) else ((spec_l7Of.f k a0 (([(([rd l1 (Int.tmod (wrap64 (Int.tdiv a2 3)) 3), 1, 0, 0] : List Int)), (([0, 0, rd l1 (Int.tmod a2 3), 1] : List Int))] : List (List Int)))).bind fun bt514 => (some bt514.1)))) else (none)) else (none)) else (none)) else (none)
theorem spec_l8Line.mono : ∀ a0 a1 a2 k, LeO (spec_l8Line.f k a0 a1 a2) (spec_l8Line.f (k + 1) a0 a1 a2) := by
 intro a0 a1 a2 k
 unfold spec_l8Line.f
 repeat' first | (with_reducible first | apply spec_l7Of.mono | exact LeO.refl _ | exact LeO.none _ | refine LeO.ite ?_ ?_ | refine LeO.bind ?_ (fun _ => ?_)) | (first | apply spec_l7Of.mono | exact LeO.none _ | refine LeO.ite ?_ ?_ | refine LeO.bind ?_ (fun _ => ?_))
set_option maxHeartbeats 8000000 in
set_option maxRecDepth 100000 in
theorem spec_l8Line.calls (k : Nat) (a0 : Int) (A1 : Option Addr) (c1 : Nat) (l1 : List Int) (a2 : Int) (r : List Int) (w : World) (hr1 : Kd.C (Kd.int .i64) w A1 l1.length l1) (hc1 : l1.length ≤ c1) (h : spec_l8Line.f k a0 l1 a2 = some r) :
  Calls Try.prog 72 #[.int .i64 a0, .slice A1 l1.length c1, .int .i64 a2] w fun e w' => ∃ v0_ : Value, e = .returned (v0_) ∧ Kd.R (Kd.int .i64) 3 w' w.heap.size (fun _ => True) v0_ r ∧ Below w.heap.size w w' := by
 have HR1 := am hr1
 have HC1 := am hc1
 clear hr1 hc1
 have HB := am (Below.refl w.heap.size w)
 have H : (if 0 ≤ (Int.tmod (wrap64 (Int.tdiv a2 3)) 3) then (if (Int.tmod (wrap64 (Int.tdiv a2 3)) 3) < (l1.length : Int) then (if 0 ≤ (Int.tmod a2 3) then (if (Int.tmod a2 3) < (l1.length : Int) then (if (wrap64 (Int.tdiv a2 9)) = 1 then ((spec_l7Of.f k a0 (([(([rd l1 (Int.tmod (wrap64 (Int.tdiv a2 3)) 3), 0, 1, 0] : List Int)), (([0, rd l1 (Int.tmod a2 3), 0, 1] : List Int))] : List (List Int)))).bind fun bt497 => (some bt497.1)) else (if (wrap64 (Int.tdiv a2 9)) = 2 then ((spec_l7Of.f k a0 (([(([rd l1 (Int.tmod (wrap64 (Int.tdiv a2 3)) 3), 0, 0, 1] : List Int)), (([0, rd l1 (Int.tmod a2 3), 1, 0] : List Int))] : List (List Int)))).bind fun bt510 => (some bt510.1)) else ((spec_l7Of.f k a0 (([(([rd l1 (Int.tmod (wrap64 (Int.tdiv a2 3)) 3), 1, 0, 0] : List Int)), (([0, 0, rd l1 (Int.tmod a2 3), 1] : List Int))] : List (List Int)))).bind fun bt514 => (some bt514.1)))) else (none)) else (none)) else (none)) else (none)) = some r := h
 clear h
 obtain ⟨ji4, hji4⟩ : ∃ j_ : Int, (Int.tmod (wrap64 (Int.tdiv a2 3)) 3) = j_ := ⟨_, rfl⟩
 (first | rw [hji4] at H | simp only [hji4] at H)
 by_cases c5 : 0 ≤ (ji4)
 ·rw [if_pos c5] at H
  have c5b0 := decide_eq_true c5; clear c5; replace H := ifn H; obtain ⟨c6, H⟩ := H; have c6b0 := decide_eq_true c6; clear c6
  obtain ⟨ji7, hji7⟩ : ∃ j_ : Int, (Int.tmod a2 3) = j_ := ⟨_, rfl⟩
  (first | rw [hji7] at H | simp only [hji7] at H)
  replace H := ifn H; obtain ⟨c8, H⟩ := H; have c8b0 := decide_eq_true c8; clear c8; replace H := ifn H; obtain ⟨c9, H⟩ := H; have c9b0 := decide_eq_true c9; clear c9
  generalize hy479 : (([rd l1 (ji4), 1, 0, 0] : List Int)) = y479 at H
  have Ny479 := am hy479.symm; clear hy479
  generalize hy482 : (([0, 0, rd l1 (ji7), 1] : List Int)) = y482 at H
  have Ny482 := am hy482.symm; clear hy482
  generalize hy485 : (([y479, y482] : List (List Int))) = y485 at H
  have Ny485 := am hy485.symm; clear hy485
  by_cases c10 : (wrap64 (Int.tdiv a2 9)) = 1
  ·rw [if_pos c10] at H
   have c10b0 := beq_iff_eq.mpr c10; have c10b1 := bne_eq_false_iff_eq.mpr c10; clear c10
   generalize hy488 : (([rd l1 (ji4), 0, 1, 0] : List Int)) = y488 at H
   have Ny488 := am hy488.symm; clear hy488
   generalize hy491 : (([0, rd l1 (ji7), 0, 1] : List Int)) = y491 at H
   have Ny491 := am hy491.symm; clear hy491
   generalize hy494 : (([y488, y491] : List (List Int))) = y494 at H
   have Ny494 := am hy494.symm; clear hy494; replace H := bs H
   obtain ⟨⟨t497, t498⟩, A11, H⟩ := H
   dsimp only at H
   obtain rfl := Option.some.inj H
   have p477 : 0 ≤ ((ji4) : Int) := od
   have q477 : (ji4) < (l1.length : Int) := od
   obtain ⟨ad477, e477, hx477_0⟩ := Kd.at_int HR1.out (ji4) p477 q477
   cases e477; replace p477 := eq_true p477; replace q477 := eq_true q477
   have p478 : 0 ≤ ((ji7) : Int) := od
   have q478 : (ji7) < (l1.length : Int) := od
   obtain ⟨ad478, e478, hx478_0⟩ := Kd.at_int HR1.out (ji7) p478 q478
   obtain rfl : ad477 = ad478 := (by injection e478)
   replace p478 := eq_true p478; replace q478 := eq_true q478
   go_enter Try.func72, Try.ntmps72
   go_wp2_with (first | ((with_reducible refine gate_dst (N := 24) rfl ?_); refine li 3 [rd l1 (ji4), 1, 0, 0] ?_; intro v480 w12 ho13 hb; (first | rw [← Ny479.out] at ho13 | (simp only [Int.reduceToNat] at ho13; rw [← Ny479.out] at ho13)); have HO481 := am (Kd.R_lower ho13 (bz HB)); replace HB := bq HB hb; clear hb ho13) | ((with_reducible refine gate_dst (N := 26) rfl ?_); refine li 3 [0, 0, rd l1 (ji7), 1] ?_; intro v483 w14 ho15 hb; (first | rw [← Ny482.out] at ho15 | (simp only [Int.reduceToNat] at ho15; rw [← Ny482.out] at ho15)); have HO484 := am (Kd.R_lower (Kd.R_new' ho15 (Kd.R_lt (wR HO481))) (bz HB)); replace HO481 := eR HO481 (Kd.R_base ho15) hb; replace HB := bq HB hb; clear hb ho15; obtain ⟨Ao16, co16, eo16⟩ := Kd.R_slice HO481.out; subst eo16; obtain ⟨Ao17, co17, eo17⟩ := Kd.R_slice HO484.out; subst eo17) | ((with_reducible refine gate_dst (N := 27) rfl ?_); refine Kd.N_lit (Kd.slice 3 (Kd.int .i64)) _ 22 ?hg (N' := 27) ?hd (xs := ([y479, y482] : List (List Int))) (inner := [.slice Ao16 y479.length co16, .slice Ao17 y482.length co17]) (ok := (fun _ => True)) (okp := (fun _ => True)) ?hr ?hp (fun _ hk => hk) ((show ∀ k_, w14.heap.size ≤ k_ → (fun _ => True) k_ from fun k_ hk => trivial) _ (Nat.le_refl _)) (Below.refl _ _) (Nat.le_refl _) (by simp) ?_; (case hd => rfl); (case hg => rfl); (case hr => first | (go_simp; done) | (go_simp; rfl)); (case hp => exact (Reps.one (show Kd.FK (Kd.slice 3 (Kd.int .i64)) _ _ y479 [.slice Ao16 y479.length co16] from (Kd.FK_slice_mk (Kd.R_reads' (Kd.R_mono (ok' := (fun _ => True)) (HO481.out) (fun k_ hk => trivial))).2.1 (Kd.R_F (Kd.R_mono (ok' := (fun _ => True)) (HO481.out) (fun k_ hk => trivial))))) (Reps.one (show Kd.FK (Kd.slice 3 (Kd.int .i64)) _ _ y482 [.slice Ao17 y482.length co17] from (Kd.FK_slice_mk (Kd.R_reads' (Kd.R_mono (ok' := (fun _ => True)) (HO484.out) (fun k_ hk => trivial))).2.1 (Kd.R_F (Kd.R_mono (ok' := (fun _ => True)) (HO484.out) (fun k_ hk => trivial))))) (Reps.none _ _)))); intro v486 w18 ho19 hb hg_ hnew_; clear hg_ hnew_; (first | rw [← Ny485.out] at ho19 | (simp only [Int.reduceToNat] at ho19; rw [← Ny485.out] at ho19)); have HO487 := am (Kd.N_lower ho19 (bz HB)); replace HB := bq HB hb; clear HO481 HO484; clear hb ho19) | ((with_reducible refine gate_dst (N := 33) rfl ?_); refine li 3 [rd l1 (ji4), 0, 1, 0] ?_; intro v489 w20 ho21 hb; (first | rw [← Ny488.out] at ho21 | (simp only [Int.reduceToNat] at ho21; rw [← Ny488.out] at ho21)); replace HO487 := eN HO487 (Kd.R_base ho21) hb; have HO490 := am (Kd.R_lower ho21 (bz HB)); replace HB := bq HB hb; clear hb ho21) | ((with_reducible refine gate_dst (N := 35) rfl ?_); refine li 3 [0, rd l1 (ji7), 0, 1] ?_; intro v492 w22 ho23 hb; (first | rw [← Ny491.out] at ho23 | (simp only [Int.reduceToNat] at ho23; rw [← Ny491.out] at ho23)); replace HO487 := eN HO487 (Kd.R_base ho23) hb; have HO493 := am (Kd.R_lower (Kd.R_new' ho23 (Kd.R_lt (wR HO490))) (bz HB)); replace HO490 := eR HO490 (Kd.R_base ho23) hb; replace HB := bq HB hb; clear hb ho23; obtain ⟨Ao24, co24, eo24⟩ := Kd.R_slice HO490.out; subst eo24; obtain ⟨Ao25, co25, eo25⟩ := Kd.R_slice HO493.out; subst eo25) | ((with_reducible refine gate_dst (N := 36) rfl ?_); refine Kd.N_lit (Kd.slice 3 (Kd.int .i64)) _ 22 ?hg (N' := 36) ?hd (xs := ([y488, y491] : List (List Int))) (inner := [.slice Ao24 y488.length co24, .slice Ao25 y491.length co25]) (ok := (fun k_ => some k_ ≠ (v486 : Value).ownBlock)) (okp := (fun k_ => some k_ ≠ (v486 : Value).ownBlock)) ?hr ?hp (fun _ hk => hk) ((show ∀ k_, w22.heap.size ≤ k_ → (fun k_ => some k_ ≠ (v486 : Value).ownBlock) k_ from fun k_ hk => Kd.fresh' (Kd.N_lt (wN HO487)) k_ hk) _ (Nat.le_refl _)) (Below.refl _ _) (Nat.le_refl _) (by simp) ?_; (case hd => rfl); (case hg => rfl); (case hr => first | (go_simp; done) | (go_simp; rfl)); (case hp => exact (Reps.one (show Kd.FK (Kd.slice 3 (Kd.int .i64)) _ _ y488 [.slice Ao24 y488.length co24] from (Kd.FK_slice_mk (Kd.R_reads' (Kd.R_mono (ok' := (fun k_ => some k_ ≠ (v486 : Value).ownBlock)) (Kd.R_apart' (HO490.out) (Kd.N_typed HO487.out) (by decide)) (fun k_ hk => hk.2))).2.1 (Kd.R_F (Kd.R_mono (ok' := (fun k_ => some k_ ≠ (v486 : Value).ownBlock)) (Kd.R_apart' (HO490.out) (Kd.N_typed HO487.out) (by decide)) (fun k_ hk => hk.2))))) (Reps.one (show Kd.FK (Kd.slice 3 (Kd.int .i64)) _ _ y491 [.slice Ao25 y491.length co25] from (Kd.FK_slice_mk (Kd.R_reads' (Kd.R_mono (ok' := (fun k_ => some k_ ≠ (v486 : Value).ownBlock)) (Kd.R_apart' (HO493.out) (Kd.N_typed HO487.out) (by decide)) (fun k_ hk => hk.2))).2.1 (Kd.R_F (Kd.R_mono (ok' := (fun k_ => some k_ ≠ (v486 : Value).ownBlock)) (Kd.R_apart' (HO493.out) (Kd.N_typed HO487.out) (by decide)) (fun k_ hk => hk.2))))) (Reps.none _ _)))); intro v495 w26 ho27 hb hg_ hnew_; clear hg_ hnew_; (first | rw [← Ny494.out] at ho27 | (simp only [Int.reduceToNat] at ho27; rw [← Ny494.out] at ho27)); replace HO487 := eN HO487 (Kd.N_base ho27) hb; have HO496 := am (Kd.N_lower ho27 (bz HB)); replace HB := bq HB hb; clear HO490 HO493; clear hb ho27; obtain ⟨Ao28, co28, eo28⟩ := Kd.N_slice HO496.out; subst eo28) | ((with_reducible refine gate_callee (f := 91) rfl ?_); refine gl 47 Try.func91 #[.int .i64 a0, .slice Ao28 y494.length co28] ?_; (with_reducible refine (spec_l7Of.calls k a0 _ _ y494 t497 t498 _ ?_ ?_ A11.out).mono ?_); exact Kd.C_below (Kd.N_reads' HO496.out).2.2 gs; exact (Kd.N_reads' HO496.out).2.1; rintro e w29 ⟨v499, rfl, ho0, hb⟩; refine ⟨_, rfl, ?_⟩; replace HO487 := eN HO487 (Kd.R_base ho0) hb; replace HO496 := eN HO496 (Kd.R_base ho0) hb; have HO500 := am (Kd.R_lower ho0 (bz HB)); replace HB := bq HB hb; (try clear hb); (try clear ho0)))
   go_ret
   exact ⟨_, by first | rfl | (simp [errW_none, errW_some] <;> rfl) | (simp only [← hji4, ← hji7]; first | rfl | (simp [errW_none, errW_some] <;> rfl)) | (simp [*, errW_none, errW_some] <;> rfl), wR HO500, bw HB⟩
  ·rw [if_neg c10] at H
   have c10b0 := beq_eq_false_iff_ne.mpr c10; have c10b1 := bne_iff_ne.mpr c10
   by_cases c30 : (wrap64 (Int.tdiv a2 9)) = 2
   ·rw [if_pos c30] at H
    have c30b0 := beq_iff_eq.mpr c30; have c30b1 := bne_eq_false_iff_eq.mpr c30; clear c30
    generalize hy501 : (([rd l1 (ji4), 0, 0, 1] : List Int)) = y501 at H
    have Ny501 := am hy501.symm; clear hy501
    generalize hy504 : (([0, rd l1 (ji7), 1, 0] : List Int)) = y504 at H
    have Ny504 := am hy504.symm; clear hy504
    generalize hy507 : (([y501, y504] : List (List Int))) = y507 at H
    have Ny507 := am hy507.symm; clear hy507; replace H := bs H
    obtain ⟨⟨t510, t511⟩, A31, H⟩ := H
    dsimp only at H
    obtain rfl := Option.some.inj H
    have p477 : 0 ≤ ((ji4) : Int) := od
    have q477 : (ji4) < (l1.length : Int) := od
    obtain ⟨ad477, e477, hx477_0⟩ := Kd.at_int HR1.out (ji4) p477 q477
    cases e477; replace p477 := eq_true p477; replace q477 := eq_true q477
    have p478 : 0 ≤ ((ji7) : Int) := od
    have q478 : (ji7) < (l1.length : Int) := od
    obtain ⟨ad478, e478, hx478_0⟩ := Kd.at_int HR1.out (ji7) p478 q478
    obtain rfl : ad477 = ad478 := (by injection e478)
    replace p478 := eq_true p478; replace q478 := eq_true q478
    go_enter Try.func72, Try.ntmps72
    go_wp2_with (first | ((with_reducible refine gate_dst (N := 24) rfl ?_); refine li 3 [rd l1 (ji4), 1, 0, 0] ?_; intro v480 w32 ho33 hb; (first | rw [← Ny479.out] at ho33 | (simp only [Int.reduceToNat] at ho33; rw [← Ny479.out] at ho33)); have HO481 := am (Kd.R_lower ho33 (bz HB)); replace HB := bq HB hb; clear hb ho33) | ((with_reducible refine gate_dst (N := 26) rfl ?_); refine li 3 [0, 0, rd l1 (ji7), 1] ?_; intro v483 w34 ho35 hb; (first | rw [← Ny482.out] at ho35 | (simp only [Int.reduceToNat] at ho35; rw [← Ny482.out] at ho35)); have HO484 := am (Kd.R_lower (Kd.R_new' ho35 (Kd.R_lt (wR HO481))) (bz HB)); replace HO481 := eR HO481 (Kd.R_base ho35) hb; replace HB := bq HB hb; clear hb ho35; obtain ⟨Ao36, co36, eo36⟩ := Kd.R_slice HO481.out; subst eo36; obtain ⟨Ao37, co37, eo37⟩ := Kd.R_slice HO484.out; subst eo37) | ((with_reducible refine gate_dst (N := 27) rfl ?_); refine Kd.N_lit (Kd.slice 3 (Kd.int .i64)) _ 22 ?hg (N' := 27) ?hd (xs := ([y479, y482] : List (List Int))) (inner := [.slice Ao36 y479.length co36, .slice Ao37 y482.length co37]) (ok := (fun _ => True)) (okp := (fun _ => True)) ?hr ?hp (fun _ hk => hk) ((show ∀ k_, w34.heap.size ≤ k_ → (fun _ => True) k_ from fun k_ hk => trivial) _ (Nat.le_refl _)) (Below.refl _ _) (Nat.le_refl _) (by simp) ?_; (case hd => rfl); (case hg => rfl); (case hr => first | (go_simp; done) | (go_simp; rfl)); (case hp => exact (Reps.one (show Kd.FK (Kd.slice 3 (Kd.int .i64)) _ _ y479 [.slice Ao36 y479.length co36] from (Kd.FK_slice_mk (Kd.R_reads' (Kd.R_mono (ok' := (fun _ => True)) (HO481.out) (fun k_ hk => trivial))).2.1 (Kd.R_F (Kd.R_mono (ok' := (fun _ => True)) (HO481.out) (fun k_ hk => trivial))))) (Reps.one (show Kd.FK (Kd.slice 3 (Kd.int .i64)) _ _ y482 [.slice Ao37 y482.length co37] from (Kd.FK_slice_mk (Kd.R_reads' (Kd.R_mono (ok' := (fun _ => True)) (HO484.out) (fun k_ hk => trivial))).2.1 (Kd.R_F (Kd.R_mono (ok' := (fun _ => True)) (HO484.out) (fun k_ hk => trivial))))) (Reps.none _ _)))); intro v486 w38 ho39 hb hg_ hnew_; clear hg_ hnew_; (first | rw [← Ny485.out] at ho39 | (simp only [Int.reduceToNat] at ho39; rw [← Ny485.out] at ho39)); have HO487 := am (Kd.N_lower ho39 (bz HB)); replace HB := bq HB hb; clear HO481 HO484; clear hb ho39) | ((with_reducible refine gate_dst (N := 40) rfl ?_); refine li 3 [rd l1 (ji4), 0, 0, 1] ?_; intro v502 w40 ho41 hb; (first | rw [← Ny501.out] at ho41 | (simp only [Int.reduceToNat] at ho41; rw [← Ny501.out] at ho41)); replace HO487 := eN HO487 (Kd.R_base ho41) hb; have HO503 := am (Kd.R_lower ho41 (bz HB)); replace HB := bq HB hb; clear hb ho41) | ((with_reducible refine gate_dst (N := 42) rfl ?_); refine li 3 [0, rd l1 (ji7), 1, 0] ?_; intro v505 w42 ho43 hb; (first | rw [← Ny504.out] at ho43 | (simp only [Int.reduceToNat] at ho43; rw [← Ny504.out] at ho43)); replace HO487 := eN HO487 (Kd.R_base ho43) hb; have HO506 := am (Kd.R_lower (Kd.R_new' ho43 (Kd.R_lt (wR HO503))) (bz HB)); replace HO503 := eR HO503 (Kd.R_base ho43) hb; replace HB := bq HB hb; clear hb ho43; obtain ⟨Ao44, co44, eo44⟩ := Kd.R_slice HO503.out; subst eo44; obtain ⟨Ao45, co45, eo45⟩ := Kd.R_slice HO506.out; subst eo45) | ((with_reducible refine gate_dst (N := 43) rfl ?_); refine Kd.N_lit (Kd.slice 3 (Kd.int .i64)) _ 22 ?hg (N' := 43) ?hd (xs := ([y501, y504] : List (List Int))) (inner := [.slice Ao44 y501.length co44, .slice Ao45 y504.length co45]) (ok := (fun k_ => some k_ ≠ (v486 : Value).ownBlock)) (okp := (fun k_ => some k_ ≠ (v486 : Value).ownBlock)) ?hr ?hp (fun _ hk => hk) ((show ∀ k_, w42.heap.size ≤ k_ → (fun k_ => some k_ ≠ (v486 : Value).ownBlock) k_ from fun k_ hk => Kd.fresh' (Kd.N_lt (wN HO487)) k_ hk) _ (Nat.le_refl _)) (Below.refl _ _) (Nat.le_refl _) (by simp) ?_; (case hd => rfl); (case hg => rfl); (case hr => first | (go_simp; done) | (go_simp; rfl)); (case hp => exact (Reps.one (show Kd.FK (Kd.slice 3 (Kd.int .i64)) _ _ y501 [.slice Ao44 y501.length co44] from (Kd.FK_slice_mk (Kd.R_reads' (Kd.R_mono (ok' := (fun k_ => some k_ ≠ (v486 : Value).ownBlock)) (Kd.R_apart' (HO503.out) (Kd.N_typed HO487.out) (by decide)) (fun k_ hk => hk.2))).2.1 (Kd.R_F (Kd.R_mono (ok' := (fun k_ => some k_ ≠ (v486 : Value).ownBlock)) (Kd.R_apart' (HO503.out) (Kd.N_typed HO487.out) (by decide)) (fun k_ hk => hk.2))))) (Reps.one (show Kd.FK (Kd.slice 3 (Kd.int .i64)) _ _ y504 [.slice Ao45 y504.length co45] from (Kd.FK_slice_mk (Kd.R_reads' (Kd.R_mono (ok' := (fun k_ => some k_ ≠ (v486 : Value).ownBlock)) (Kd.R_apart' (HO506.out) (Kd.N_typed HO487.out) (by decide)) (fun k_ hk => hk.2))).2.1 (Kd.R_F (Kd.R_mono (ok' := (fun k_ => some k_ ≠ (v486 : Value).ownBlock)) (Kd.R_apart' (HO506.out) (Kd.N_typed HO487.out) (by decide)) (fun k_ hk => hk.2))))) (Reps.none _ _)))); intro v508 w46 ho47 hb hg_ hnew_; clear hg_ hnew_; (first | rw [← Ny507.out] at ho47 | (simp only [Int.reduceToNat] at ho47; rw [← Ny507.out] at ho47)); replace HO487 := eN HO487 (Kd.N_base ho47) hb; have HO509 := am (Kd.N_lower ho47 (bz HB)); replace HB := bq HB hb; clear HO503 HO506; clear hb ho47; obtain ⟨Ao48, co48, eo48⟩ := Kd.N_slice HO509.out; subst eo48) | ((with_reducible refine gate_callee (f := 91) rfl ?_); refine gl 47 Try.func91 #[.int .i64 a0, .slice Ao48 y507.length co48] ?_; (with_reducible refine (spec_l7Of.calls k a0 _ _ y507 t510 t511 _ ?_ ?_ A31.out).mono ?_); exact Kd.C_below (Kd.N_reads' HO509.out).2.2 gs; exact (Kd.N_reads' HO509.out).2.1; rintro e w49 ⟨v512, rfl, ho0, hb⟩; refine ⟨_, rfl, ?_⟩; replace HO487 := eN HO487 (Kd.R_base ho0) hb; replace HO509 := eN HO509 (Kd.R_base ho0) hb; have HO513 := am (Kd.R_lower ho0 (bz HB)); replace HB := bq HB hb; (try clear hb); (try clear ho0)))
    go_ret
    exact ⟨_, by first | rfl | (simp [errW_none, errW_some] <;> rfl) | (simp only [← hji4, ← hji7]; first | rfl | (simp [errW_none, errW_some] <;> rfl)) | (simp [*, errW_none, errW_some] <;> rfl), wR HO513, bw HB⟩
   ·rw [if_neg c30] at H
    have c30b0 := beq_eq_false_iff_ne.mpr c30; have c30b1 := bne_iff_ne.mpr c30; replace H := bs H
    obtain ⟨⟨t514, t515⟩, A50, H⟩ := H
    dsimp only at H
    obtain rfl := Option.some.inj H
    have p477 : 0 ≤ ((ji4) : Int) := od
    have q477 : (ji4) < (l1.length : Int) := od
    obtain ⟨ad477, e477, hx477_0⟩ := Kd.at_int HR1.out (ji4) p477 q477
    cases e477; replace p477 := eq_true p477; replace q477 := eq_true q477
    have p478 : 0 ≤ ((ji7) : Int) := od
    have q478 : (ji7) < (l1.length : Int) := od
    obtain ⟨ad478, e478, hx478_0⟩ := Kd.at_int HR1.out (ji7) p478 q478
    obtain rfl : ad477 = ad478 := (by injection e478)
    replace p478 := eq_true p478; replace q478 := eq_true q478
    go_enter Try.func72, Try.ntmps72
    go_wp2_with (first | ((with_reducible refine gate_dst (N := 24) rfl ?_); refine li 3 [rd l1 (ji4), 1, 0, 0] ?_; intro v480 w51 ho52 hb; (first | rw [← Ny479.out] at ho52 | (simp only [Int.reduceToNat] at ho52; rw [← Ny479.out] at ho52)); have HO481 := am (Kd.R_lower ho52 (bz HB)); replace HB := bq HB hb; clear hb ho52) | ((with_reducible refine gate_dst (N := 26) rfl ?_); refine li 3 [0, 0, rd l1 (ji7), 1] ?_; intro v483 w53 ho54 hb; (first | rw [← Ny482.out] at ho54 | (simp only [Int.reduceToNat] at ho54; rw [← Ny482.out] at ho54)); have HO484 := am (Kd.R_lower (Kd.R_new' ho54 (Kd.R_lt (wR HO481))) (bz HB)); replace HO481 := eR HO481 (Kd.R_base ho54) hb; replace HB := bq HB hb; clear hb ho54; obtain ⟨Ao55, co55, eo55⟩ := Kd.R_slice HO481.out; subst eo55; obtain ⟨Ao56, co56, eo56⟩ := Kd.R_slice HO484.out; subst eo56) | ((with_reducible refine gate_dst (N := 27) rfl ?_); refine Kd.N_lit (Kd.slice 3 (Kd.int .i64)) _ 22 ?hg (N' := 27) ?hd (xs := ([y479, y482] : List (List Int))) (inner := [.slice Ao55 y479.length co55, .slice Ao56 y482.length co56]) (ok := (fun _ => True)) (okp := (fun _ => True)) ?hr ?hp (fun _ hk => hk) ((show ∀ k_, w53.heap.size ≤ k_ → (fun _ => True) k_ from fun k_ hk => trivial) _ (Nat.le_refl _)) (Below.refl _ _) (Nat.le_refl _) (by simp) ?_; (case hd => rfl); (case hg => rfl); (case hr => first | (go_simp; done) | (go_simp; rfl)); (case hp => exact (Reps.one (show Kd.FK (Kd.slice 3 (Kd.int .i64)) _ _ y479 [.slice Ao55 y479.length co55] from (Kd.FK_slice_mk (Kd.R_reads' (Kd.R_mono (ok' := (fun _ => True)) (HO481.out) (fun k_ hk => trivial))).2.1 (Kd.R_F (Kd.R_mono (ok' := (fun _ => True)) (HO481.out) (fun k_ hk => trivial))))) (Reps.one (show Kd.FK (Kd.slice 3 (Kd.int .i64)) _ _ y482 [.slice Ao56 y482.length co56] from (Kd.FK_slice_mk (Kd.R_reads' (Kd.R_mono (ok' := (fun _ => True)) (HO484.out) (fun k_ hk => trivial))).2.1 (Kd.R_F (Kd.R_mono (ok' := (fun _ => True)) (HO484.out) (fun k_ hk => trivial))))) (Reps.none _ _)))); intro v486 w57 ho58 hb hg_ hnew_; clear hg_ hnew_; (first | rw [← Ny485.out] at ho58 | (simp only [Int.reduceToNat] at ho58; rw [← Ny485.out] at ho58)); have HO487 := am (Kd.N_lower ho58 (bz HB)); replace HB := bq HB hb; clear HO481 HO484; clear hb ho58; obtain ⟨Ao59, co59, eo59⟩ := Kd.N_slice HO487.out; subst eo59) | ((with_reducible refine gate_callee (f := 91) rfl ?_); refine gl 47 Try.func91 #[.int .i64 a0, .slice Ao59 y485.length co59] ?_; (with_reducible refine (spec_l7Of.calls k a0 _ _ y485 t514 t515 _ ?_ ?_ A50.out).mono ?_); exact Kd.C_below (Kd.N_reads' HO487.out).2.2 gs; exact (Kd.N_reads' HO487.out).2.1; rintro e w60 ⟨v516, rfl, ho0, hb⟩; refine ⟨_, rfl, ?_⟩; replace HO487 := eN HO487 (Kd.R_base ho0) hb; have HO517 := am (Kd.R_lower ho0 (bz HB)); replace HB := bq HB hb; (try clear hb); (try clear ho0)))
    go_ret
    exact ⟨_, by first | rfl | (simp [errW_none, errW_some] <;> rfl) | (simp only [← hji4, ← hji7]; first | rfl | (simp [errW_none, errW_some] <;> rfl)) | (simp [*, errW_none, errW_some] <;> rfl), wR HO517, bw HB⟩
 ·rw [if_neg c5] at H
  exact absurd H (by simp)
end Go.Proofs.Ytmenehnfgenlpaa.PA

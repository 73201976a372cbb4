-- Written by xprint.py, a program of this claim's own (over the kit's print.py)
import Derived.Test.YtmenehnfgenlpaaPAx0
import Derived.Test.YtmenehnfgenlpaaPAx6
import Derived.Test.YtmenehnfgenlpaaPAx8
import Derived.Deep.RegionHeld3
namespace Go.Proofs.Ytmenehnfgenlpaa.PA
open Go.RowKit Go.Proofs.YtmenehnfgenlpaaW.PrintWords Go.Proofs.YtmenehnfgenlpaaW.PrintLast Go.Proofs.YtmenehnfgenlpaaW.PrintMore
attribute [local go_sem] max2_int min2_int max_two min_two max_three min_three max_four min_four   -- for this text's walks alone
set_option linter.unusedVariables false
set_option linter.unusedSimpArgs false

/-! ### spec_l7Of: function 91 (by hand) -/
theorem l7o_own_nil (w : World) (e : Nat) (base : Nat) (hb : base ≤ w.heap.size) : (w.alloc (.cells #[] e)).ownsRow base e 1 (.slice (some ⟨w.heap.size, 0, none⟩) 0 0) 0 [] :=
 ⟨rfl, .inr ⟨w.heap.size, 0, #[], rfl, hb, (by show (w.heap.push _)[w.heap.size]? = _; simp), Nat.le_refl _, Nat.zero_le _, rfl, rfl⟩⟩
theorem l7o_row_of_C {w : World} {A : Option Addr} {n : Nat} {rows : List (List Int)} (h : Kd.C (Kd.slice 3 (Kd.int .i64)) w A n rows) (j : Nat) (hj : j < rows.length) : ∃ ad B c, A = some ad ∧ w.cell? (ad.add j) = some (.slice B (rows[j]).length c) ∧ (rows[j]).length ≤ c ∧ Kd.C (Kd.int .i64) w B (rows[j]).length rows[j] := by
 obtain ⟨hl, hm, hr⟩ := h
 obtain ⟨ad, rfl, hc⟩ := hr (by omega)
 obtain ⟨cs, _, ⟨B, c, rfl, h1, h2⟩, hcell⟩ := hc j _ (List.getElem?_eq_getElem hj)
 refine ⟨ad, B, c, rfl, ?_, h1, h2⟩
 have := hcell 0 (.slice B (rows[j]).length c) rfl
 simpa [Kd.slice] using this
theorem l7o_keep_row {w1 w2 : World} {g o : Nat} {v : Value} (hlt : g < w1.heap.size) (hb : Below w1.heap.size w1 w2) (hx : w1.cell? ⟨g, o, none⟩ = some v) : w2.cell? ⟨g, o, none⟩ = some v :=
 (World.cell?_of_block (a := ⟨g, o, none⟩) (hb.block g hlt)).trans hx
/-- what l7Of returns: the two rows one after the other, if there are just two -/
def spec_l7Of.f (k : Nat) (a0 : Int) (l1 : List (List Int)) : Option (List Int × Bool) := (spec_l4Reduce.f k a0 l1 4).bind fun t =>
 if t.1.length = 2 then (if (t.1.getD 0 []).length < 1000000 ∧ (t.1.getD 1 []).length < 1000000 then some (t.1.getD 0 [] ++ t.1.getD 1 [], true) else none) else some ([], false)
theorem spec_l7Of.mono : ∀ a0 a1 k, LeO (spec_l7Of.f k a0 a1) (spec_l7Of.f (k + 1) a0 a1) := by
 intro a0 a1 k
 unfold spec_l7Of.f
 exact LeO.bind (spec_l4Reduce.mono _ _ _ _) fun _ => LeO.refl _
set_option maxHeartbeats 4000000 in
set_option maxRecDepth 100000 in
theorem spec_l7Of.calls (k : Nat) (a0 : Int) (A1 : Option Addr) (c1 : Nat) (l1 : List (List Int)) (r1 : List Int) (r2 : Bool) (w : World) (hr1 : Kd.C (Kd.slice 3 (Kd.int .i64)) w A1 l1.length l1) (hc1 : l1.length ≤ c1) (h : spec_l7Of.f k a0 l1 = some (r1, r2)) :
  Calls Try.prog 91 #[.int .i64 a0, .slice A1 l1.length c1] w fun e w' => ∃ v0_ : Value, e = .returned (.tuple #[v0_, .bool r2]) ∧ Kd.R (Kd.int .i64) 3 w' w.heap.size (fun _ => True) v0_ r1 ∧ Below w.heap.size w w' := by
 obtain ⟨⟨L, hs⟩, hred, h'⟩ := Option.bind_eq_some_iff.1 h
 clear h
 have HRED := Lib.hid hred
 have H := Lib.hid h'
 have HV : Hid (Kd.V (Kd.slice 3 (Kd.int .i64)) 22 w w.heap.size (fun k_ => k_ < w.heap.size) (.slice A1 l1.length c1) l1) := Lib.hid (Kd.V_mk hc1 (Kd.C_F (Kd.heap_slice 3 (Kd.heap_int .i64)) hr1))
 clear h' hred hr1 hc1
 go_enter Try.func91, Try.ntmps91
 go_wp2_with fail
 refine (spec_l4Reduce.calls k a0 (fun k_ => k_ < w.heap.size) A1 c1 l1 4 L hs w HV.out HRED.out).mono ?_
 rintro e w1 ⟨v0, v1, rfl, ho0, _, hb⟩
 have HB := Lib.hid hb
 by_cases h2 : L.length = 2
 ·obtain ⟨x, y, rfl⟩ : ∃ x y, L = [x, y] := by
   match L, h2 with
   | [x, y], _ => exact ⟨x, y, rfl⟩
  obtain ⟨g, c0, rfl, _, hgl, _⟩ := Kd.N_form ho0 (by simp)
  have HGL := Lib.hid hgl
  clear hgl
  obtain ⟨ad, B0, k0, e0, hx0, hb0, hC0⟩ := l7o_row_of_C (Kd.F_now (Kd.N_F ho0)) 0 (by simp)
  obtain ⟨_, B1, k1, e1, hx1, hb1, hC1⟩ := l7o_row_of_C (Kd.F_now (Kd.N_F ho0)) 1 (by simp)
  injection e0 with e0
  subst e0
  injection e1 with e1
  subst e1
  rw [add_plain] at hx0 hx1
  simp only [List.getElem_cons_zero, List.getElem_cons_succ] at hx0 hb0 hC0 hx1 hb1 hC1
  clear ho0 hb HV
  have HC0 := Lib.hid hC0
  have HC1 := Lib.hid hC1
  have HBN : Hid (x.length < 1000000 ∧ y.length < 1000000 ∧ r1 = x ++ y ∧ r2 = true) := Lib.hid (by
   have h := H.out
   simp only [List.length_cons, List.length_nil, if_true, List.getD_cons_zero, List.getD_cons_succ] at h
   split at h
   ·next hh => simp at h; exact ⟨hh.1, hh.2, h.1.symm, h.2⟩
   ·simp at h)
  clear H hC0 hC1 hb0 hb1 h2
  go_wp2_with fail
  go_region_held3 (fun w' => w'.cell? ⟨g, 0, none⟩ = some (.slice B0 x.length k0) ∧ w'.cell? ⟨g, 1, none⟩ = some (.slice B1 y.length k1)) (first | exact ⟨l7o_keep_row HGL.out hb2 hx0, l7o_keep_row HGL.out hb2 hx1⟩ | exact ⟨l7o_keep_row HGL.out hb1 hx0, l7o_keep_row HGL.out hb1 hx1⟩ | go_keep)
   (first
    | ((refine Kd.R_append_rows_step (Kd.int .i64) (Rr := fun x c => c = [Value.int .i64 x]) (w0 := w1) w1.heap.size (by rfl) (.tmp 18) (.tmp 21) 22 3 (.int .i64 0) 8 (by rfl) Try.underlying22 info3 rfl (by decide) (by decide) (.slice (some ⟨w1.heap.size, 0, none⟩) 0 0) [] x B0 x.length k0 (fun _ => True) (fun _ => False) (by rfl) (by rfl) ⟨fun _ _ => trivial, [], l7o_own_nil _ 3 _ (Nat.le_refl _), Reps.none _ _⟩ (Kd.C_alloc (Kd.C_drew HC0.out) _) (fun _ _ h => h) (fun _ h => h.elim) (fun _ _ => trivial) (((Below.refl _ _).drew).alloc (Nat.le_refl _) _) (by simp) (by have := HBN.out.1; simp; omega) ?_; intro v2 w2 hown1 hb1 hg1 hat1))
    | ((refine Kd.R_append_rows_step (Kd.int .i64) (Rr := fun x c => c = [Value.int .i64 x]) (w0 := w1) w1.heap.size (by rfl) (.tmp 22) (.tmp 25) 22 3 (.int .i64 0) 8 (by rfl) Try.underlying22 info3 rfl (by decide) (by decide) v2 ([] ++ x) y B1 y.length k1 (fun _ => True) (fun _ => False) (by rfl) (by rfl) hown1 (Kd.C_below HC1.out hb1) (fun _ _ h => h) (fun _ h => h.elim) (fun _ _ => trivial) hb1 hb1.size (by have := HBN.out.1; have := HBN.out.2.1; simp; omega) ?_; intro v3 w3 hown2 hb2 hg2 hat2)))
  obtain ⟨_, _, rfl, rfl⟩ := HBN.out
  go_wp2
  go_ret2
  exact ⟨v3, rfl, Kd.R_lower hown2 HB.out.size, HB.out.trans (hb2.mono HB.out.size)⟩
 ·obtain ⟨A0, c0, rfl⟩ := Kd.N_slice ho0
  have HR : Hid (r1 = [] ∧ r2 = false) := Lib.hid (by
   have h := H.out
   rw [if_neg h2] at h
   simp at h
   exact h)
  have h3 : ((L.length : Int) == 2) = false := beq_eq_false_iff_ne.mpr (by omega)
  have h4 : ((L.length : Int) != 2) = true := bne_iff_ne.mpr (by omega)
  clear ho0 hb HV H h2
  obtain ⟨rfl, rfl⟩ := HR.out
  go_wp2
  go_ret2
  exact ⟨_, rfl, Kd.R_lower ⟨fun _ _ => trivial, [], l7o_own_nil w1 3 _ (Nat.le_refl _), Reps.none _ _⟩ HB.out.size, HB.out.trans ((Below.refl _ _).alloc HB.out.size _)⟩/-! ### spec_l8Line: function 72 -/
def spec_l8Line.f (k : Nat) (a0 : Int) (l1 : List Int) (a2 : Int) : Option (List Int) := if 0 ≤ (Int.tmod (wrap64 (Int.tdiv a2 3)) 3) then (if (Int.tmod (wrap64 (Int.tdiv a2 3)) 3) < (l1.length : Int) then (if 0 ≤ (Int.tmod a2 3) then (if (Int.tmod a2 3) < (l1.length : Int) then (if (wrap64 (Int.tdiv a2 9)) = 1 then ((spec_l7Of.f k a0 (([(([rd l1 (Int.tmod (wrap64 (Int.tdiv a2 3)) 3), 0, 1, 0] : List Int)), (([0, rd l1 (Int.tmod a2 3), 0, 1] : List Int))] : List (List Int)))).bind fun bt319 => (some bt319.1)) else (if (wrap64 (Int.tdiv a2 9)) = 2 then ((spec_l7Of.f k a0 (([(([rd l1 (Int.tmod (wrap64 (Int.tdiv a2 3)) 3), 0, 0, 1] : List Int)), (([0, rd l1 (Int.tmod a2 3), 1, 0] : List Int))] : List (List Int)))).bind fun bt332 => (some bt332.1)) else ((spec_l7Of.f k a0 (([(([rd l1 (Int.tmod (wrap64 (Int.tdiv a2 3)) 3), 1, 0, 0] : List Int)), (([0, 0, rd l1 (Int.tmod a2 3), 1] : List Int))] : List (List Int)))).bind fun bt336 => (some bt336.1)))) else (none)) else (none)) else (none)) else (none)
theorem spec_l8Line.mono : ∀ a0 a1 a2 k, LeO (spec_l8Line.f k a0 a1 a2) (spec_l8Line.f (k + 1) a0 a1 a2) := by
 intro a0 a1 a2 k
 unfold spec_l8Line.f
 repeat' first | (with_reducible first | apply spec_l7Of.mono | exact LeO.refl _ | exact LeO.none _ | refine LeO.ite ?_ ?_ | refine LeO.bind ?_ (fun _ => ?_)) | (first | apply spec_l7Of.mono | exact LeO.none _ | refine LeO.ite ?_ ?_ | refine LeO.bind ?_ (fun _ => ?_))
set_option maxHeartbeats 8000000 in
set_option maxRecDepth 100000 in
theorem spec_l8Line.calls (k : Nat) (a0 : Int) (A1 : Option Addr) (c1 : Nat) (l1 : List Int) (a2 : Int) (r : List Int) (w : World) (hr1 : Kd.C (Kd.int .i64) w A1 l1.length l1) (hc1 : l1.length ≤ c1) (h : spec_l8Line.f k a0 l1 a2 = some r) :
  Calls Try.prog 72 #[.int .i64 a0, .slice A1 l1.length c1, .int .i64 a2] w fun e w' => ∃ v0_ : Value, e = .returned (v0_) ∧ Kd.R (Kd.int .i64) 3 w' w.heap.size (fun _ => True) v0_ r ∧ Below w.heap.size w w' := by
 have HR1 := am hr1
 have HC1 := am hc1
 clear hr1 hc1
 have HB := am (Below.refl w.heap.size w)
 have H : (if 0 ≤ (Int.tmod (wrap64 (Int.tdiv a2 3)) 3) then (if (Int.tmod (wrap64 (Int.tdiv a2 3)) 3) < (l1.length : Int) then (if 0 ≤ (Int.tmod a2 3) then (if (Int.tmod a2 3) < (l1.length : Int) then (if (wrap64 (Int.tdiv a2 9)) = 1 then ((spec_l7Of.f k a0 (([(([rd l1 (Int.tmod (wrap64 (Int.tdiv a2 3)) 3), 0, 1, 0] : List Int)), (([0, rd l1 (Int.tmod a2 3), 0, 1] : List Int))] : List (List Int)))).bind fun bt319 => (some bt319.1)) else (if (wrap64 (Int.tdiv a2 9)) = 2 then ((spec_l7Of.f k a0 (([(([rd l1 (Int.tmod (wrap64 (Int.tdiv a2 3)) 3), 0, 0, 1] : List Int)), (([0, rd l1 (Int.tmod a2 3), 1, 0] : List Int))] : List (List Int)))).bind fun bt332 => (some bt332.1)) else ((spec_l7Of.f k a0 (([(([rd l1 (Int.tmod (wrap64 (Int.tdiv a2 3)) 3), 1, 0, 0] : List Int)), (([0, 0, rd l1 (Int.tmod a2 3), 1] : List Int))] : List (List Int)))).bind fun bt336 => (some bt336.1)))) else (none)) else (none)) else (none)) else (none)) = some r := h
 clear h
 obtain ⟨ji4, hji4⟩ : ∃ j_ : Int, (Int.tmod (wrap64 (Int.tdiv a2 3)) 3) = j_ := ⟨_, rfl⟩
 (first | rw [hji4] at H | simp only [hji4] at H)
 by_cases c5 : 0 ≤ (ji4)
 ·rw [if_pos c5] at H
  have c5b0 := decide_eq_true c5; clear c5; replace H := ifn H; obtain ⟨c6, H⟩ := H; have c6b0 := decide_eq_true c6; clear c6
  obtain ⟨ji7, hji7⟩ : ∃ j_ : Int, (Int.tmod a2 3) = j_ := ⟨_, rfl⟩
  (first | rw [hji7] at H | simp only [hji7] at H)
  replace H := ifn H; obtain ⟨c8, H⟩ := H; have c8b0 := decide_eq_true c8; clear c8; replace H := ifn H; obtain ⟨c9, H⟩ := H; have c9b0 := decide_eq_true c9; clear c9
  generalize hy301 : (([rd l1 (ji4), 1, 0, 0] : List Int)) = y301 at H
  have Ny301 := am hy301.symm; clear hy301
  generalize hy304 : (([0, 0, rd l1 (ji7), 1] : List Int)) = y304 at H
  have Ny304 := am hy304.symm; clear hy304
  generalize hy307 : (([y301, y304] : List (List Int))) = y307 at H
  have Ny307 := am hy307.symm; clear hy307
  by_cases c10 : (wrap64 (Int.tdiv a2 9)) = 1
  ·rw [if_pos c10] at H
   have c10b0 := beq_iff_eq.mpr c10; have c10b1 := bne_eq_false_iff_eq.mpr c10; clear c10
   generalize hy310 : (([rd l1 (ji4), 0, 1, 0] : List Int)) = y310 at H
   have Ny310 := am hy310.symm; clear hy310
   generalize hy313 : (([0, rd l1 (ji7), 0, 1] : List Int)) = y313 at H
   have Ny313 := am hy313.symm; clear hy313
   generalize hy316 : (([y310, y313] : List (List Int))) = y316 at H
   have Ny316 := am hy316.symm; clear hy316; replace H := bs H
   obtain ⟨⟨t319, t320⟩, A11, H⟩ := H
   dsimp only at H
   obtain rfl := Option.some.inj H
   have p299 : 0 ≤ ((ji4) : Int) := od
   have q299 : (ji4) < (l1.length : Int) := od
   obtain ⟨ad299, e299, hx299_0⟩ := Kd.at_int HR1.out (ji4) p299 q299
   cases e299; replace p299 := eq_true p299; replace q299 := eq_true q299
   have p300 : 0 ≤ ((ji7) : Int) := od
   have q300 : (ji7) < (l1.length : Int) := od
   obtain ⟨ad300, e300, hx300_0⟩ := Kd.at_int HR1.out (ji7) p300 q300
   obtain rfl : ad299 = ad300 := (by injection e300)
   replace p300 := eq_true p300; replace q300 := eq_true q300
   go_enter Try.func72, Try.ntmps72
   go_wp2_with (first | ((with_reducible refine gate_dst (N := 24) rfl ?_); refine li 3 [rd l1 (ji4), 1, 0, 0] ?_; intro v302 w12 ho13 hb; (first | rw [← Ny301.out] at ho13 | (simp only [Int.reduceToNat] at ho13; rw [← Ny301.out] at ho13)); have HO303 := am (Kd.R_lower ho13 (bz HB)); replace HB := bq HB hb; clear hb ho13) | ((with_reducible refine gate_dst (N := 26) rfl ?_); refine li 3 [0, 0, rd l1 (ji7), 1] ?_; intro v305 w14 ho15 hb; (first | rw [← Ny304.out] at ho15 | (simp only [Int.reduceToNat] at ho15; rw [← Ny304.out] at ho15)); have HO306 := am (Kd.R_lower (Kd.R_new' ho15 (Kd.R_lt (wR HO303))) (bz HB)); replace HO303 := eR HO303 (Kd.R_base ho15) hb; replace HB := bq HB hb; clear hb ho15; obtain ⟨Ao16, co16, eo16⟩ := Kd.R_slice HO303.out; subst eo16; obtain ⟨Ao17, co17, eo17⟩ := Kd.R_slice HO306.out; subst eo17) | ((with_reducible refine gate_dst (N := 27) rfl ?_); refine Kd.N_lit (Kd.slice 3 (Kd.int .i64)) _ 22 ?hg (N' := 27) ?hd (xs := ([y301, y304] : List (List Int))) (inner := [.slice Ao16 y301.length co16, .slice Ao17 y304.length co17]) (ok := (fun _ => True)) (okp := (fun _ => True)) ?hr ?hp (fun _ hk => hk) ((show ∀ k_, w14.heap.size ≤ k_ → (fun _ => True) k_ from fun k_ hk => trivial) _ (Nat.le_refl _)) (Below.refl _ _) (Nat.le_refl _) (by simp) ?_; (case hd => rfl); (case hg => rfl); (case hr => first | (go_simp; done) | (go_simp; rfl)); (case hp => exact (Reps.one (show Kd.FK (Kd.slice 3 (Kd.int .i64)) _ _ y301 [.slice Ao16 y301.length co16] from (Kd.FK_slice_mk (Kd.R_reads' (Kd.R_mono (ok' := (fun _ => True)) (HO303.out) (fun k_ hk => trivial))).2.1 (Kd.R_F (Kd.R_mono (ok' := (fun _ => True)) (HO303.out) (fun k_ hk => trivial))))) (Reps.one (show Kd.FK (Kd.slice 3 (Kd.int .i64)) _ _ y304 [.slice Ao17 y304.length co17] from (Kd.FK_slice_mk (Kd.R_reads' (Kd.R_mono (ok' := (fun _ => True)) (HO306.out) (fun k_ hk => trivial))).2.1 (Kd.R_F (Kd.R_mono (ok' := (fun _ => True)) (HO306.out) (fun k_ hk => trivial))))) (Reps.none _ _)))); intro v308 w18 ho19 hb hg_ hnew_; clear hg_ hnew_; (first | rw [← Ny307.out] at ho19 | (simp only [Int.reduceToNat] at ho19; rw [← Ny307.out] at ho19)); have HO309 := am (Kd.N_lower ho19 (bz HB)); replace HB := bq HB hb; clear HO303 HO306; clear hb ho19) | ((with_reducible refine gate_dst (N := 33) rfl ?_); refine li 3 [rd l1 (ji4), 0, 1, 0] ?_; intro v311 w20 ho21 hb; (first | rw [← Ny310.out] at ho21 | (simp only [Int.reduceToNat] at ho21; rw [← Ny310.out] at ho21)); replace HO309 := eN HO309 (Kd.R_base ho21) hb; have HO312 := am (Kd.R_lower ho21 (bz HB)); replace HB := bq HB hb; clear hb ho21) | ((with_reducible refine gate_dst (N := 35) rfl ?_); refine li 3 [0, rd l1 (ji7), 0, 1] ?_; intro v314 w22 ho23 hb; (first | rw [← Ny313.out] at ho23 | (simp only [Int.reduceToNat] at ho23; rw [← Ny313.out] at ho23)); replace HO309 := eN HO309 (Kd.R_base ho23) hb; have HO315 := am (Kd.R_lower (Kd.R_new' ho23 (Kd.R_lt (wR HO312))) (bz HB)); replace HO312 := eR HO312 (Kd.R_base ho23) hb; replace HB := bq HB hb; clear hb ho23; obtain ⟨Ao24, co24, eo24⟩ := Kd.R_slice HO312.out; subst eo24; obtain ⟨Ao25, co25, eo25⟩ := Kd.R_slice HO315.out; subst eo25) | ((with_reducible refine gate_dst (N := 36) rfl ?_); refine Kd.N_lit (Kd.slice 3 (Kd.int .i64)) _ 22 ?hg (N' := 36) ?hd (xs := ([y310, y313] : List (List Int))) (inner := [.slice Ao24 y310.length co24, .slice Ao25 y313.length co25]) (ok := (fun k_ => some k_ ≠ (v308 : Value).ownBlock)) (okp := (fun k_ => some k_ ≠ (v308 : Value).ownBlock)) ?hr ?hp (fun _ hk => hk) ((show ∀ k_, w22.heap.size ≤ k_ → (fun k_ => some k_ ≠ (v308 : Value).ownBlock) k_ from fun k_ hk => Kd.fresh' (Kd.N_lt (wN HO309)) k_ hk) _ (Nat.le_refl _)) (Below.refl _ _) (Nat.le_refl _) (by simp) ?_; (case hd => rfl); (case hg => rfl); (case hr => first | (go_simp; done) | (go_simp; rfl)); (case hp => exact (Reps.one (show Kd.FK (Kd.slice 3 (Kd.int .i64)) _ _ y310 [.slice Ao24 y310.length co24] from (Kd.FK_slice_mk (Kd.R_reads' (Kd.R_mono (ok' := (fun k_ => some k_ ≠ (v308 : Value).ownBlock)) (Kd.R_apart' (HO312.out) (Kd.N_typed HO309.out) (by decide)) (fun k_ hk => hk.2))).2.1 (Kd.R_F (Kd.R_mono (ok' := (fun k_ => some k_ ≠ (v308 : Value).ownBlock)) (Kd.R_apart' (HO312.out) (Kd.N_typed HO309.out) (by decide)) (fun k_ hk => hk.2))))) (Reps.one (show Kd.FK (Kd.slice 3 (Kd.int .i64)) _ _ y313 [.slice Ao25 y313.length co25] from (Kd.FK_slice_mk (Kd.R_reads' (Kd.R_mono (ok' := (fun k_ => some k_ ≠ (v308 : Value).ownBlock)) (Kd.R_apart' (HO315.out) (Kd.N_typed HO309.out) (by decide)) (fun k_ hk => hk.2))).2.1 (Kd.R_F (Kd.R_mono (ok' := (fun k_ => some k_ ≠ (v308 : Value).ownBlock)) (Kd.R_apart' (HO315.out) (Kd.N_typed HO309.out) (by decide)) (fun k_ hk => hk.2))))) (Reps.none _ _)))); intro v317 w26 ho27 hb hg_ hnew_; clear hg_ hnew_; (first | rw [← Ny316.out] at ho27 | (simp only [Int.reduceToNat] at ho27; rw [← Ny316.out] at ho27)); replace HO309 := eN HO309 (Kd.N_base ho27) hb; have HO318 := am (Kd.N_lower ho27 (bz HB)); replace HB := bq HB hb; clear HO312 HO315; clear hb ho27; obtain ⟨Ao28, co28, eo28⟩ := Kd.N_slice HO318.out; subst eo28) | ((with_reducible refine gate_callee (f := 91) rfl ?_); refine gl 47 Try.func91 #[.int .i64 a0, .slice Ao28 y316.length co28] ?_; (with_reducible refine (spec_l7Of.calls k a0 _ _ y316 t319 t320 _ ?_ ?_ A11.out).mono ?_); exact Kd.C_below (Kd.N_reads' HO318.out).2.2 gs; exact (Kd.N_reads' HO318.out).2.1; rintro e w29 ⟨v321, rfl, ho0, hb⟩; refine ⟨_, rfl, ?_⟩; replace HO309 := eN HO309 (Kd.R_base ho0) hb; replace HO318 := eN HO318 (Kd.R_base ho0) hb; have HO322 := am (Kd.R_lower ho0 (bz HB)); replace HB := bq HB hb; (try clear hb); (try clear ho0)))
   go_ret
   exact ⟨_, by first | rfl | (simp [errW_none, errW_some] <;> rfl) | (simp only [← hji4, ← hji7]; first | rfl | (simp [errW_none, errW_some] <;> rfl)) | (simp [*, errW_none, errW_some] <;> rfl), wR HO322, bw HB⟩
  ·rw [if_neg c10] at H
   have c10b0 := beq_eq_false_iff_ne.mpr c10; have c10b1 := bne_iff_ne.mpr c10
   by_cases c30 : (wrap64 (Int.tdiv a2 9)) = 2
   ·rw [if_pos c30] at H
    have c30b0 := beq_iff_eq.mpr c30; have c30b1 := bne_eq_false_iff_eq.mpr c30; clear c30
    generalize hy323 : (([rd l1 (ji4), 0, 0, 1] : List Int)) = y323 at H
    have Ny323 := am hy323.symm; clear hy323
    generalize hy326 : (([0, rd l1 (ji7), 1, 0] : List Int)) = y326 at H
    have Ny326 := am hy326.symm; clear hy326
    generalize hy329 : (([y323, y326] : List (List Int))) = y329 at H
    have Ny329 := am hy329.symm; clear hy329; replace H := bs H
    obtain ⟨⟨t332, t333⟩, A31, H⟩ := H
    dsimp only at H
    obtain rfl := Option.some.inj H
    have p299 : 0 ≤ ((ji4) : Int) := od
    have q299 : (ji4) < (l1.length : Int) := od
    obtain ⟨ad299, e299, hx299_0⟩ := Kd.at_int HR1.out (ji4) p299 q299
    cases e299; replace p299 := eq_true p299; replace q299 := eq_true q299
    have p300 : 0 ≤ ((ji7) : Int) := od
    have q300 : (ji7) < (l1.length : Int) := od
    obtain ⟨ad300, e300, hx300_0⟩ := Kd.at_int HR1.out (ji7) p300 q300
    obtain rfl : ad299 = ad300 := (by injection e300)
    replace p300 := eq_true p300; replace q300 := eq_true q300
    go_enter Try.func72, Try.ntmps72
    go_wp2_with (first | ((with_reducible refine gate_dst (N := 24) rfl ?_); refine li 3 [rd l1 (ji4), 1, 0, 0] ?_; intro v302 w32 ho33 hb; (first | rw [← Ny301.out] at ho33 | (simp only [Int.reduceToNat] at ho33; rw [← Ny301.out] at ho33)); have HO303 := am (Kd.R_lower ho33 (bz HB)); replace HB := bq HB hb; clear hb ho33) | ((with_reducible refine gate_dst (N := 26) rfl ?_); refine li 3 [0, 0, rd l1 (ji7), 1] ?_; intro v305 w34 ho35 hb; (first | rw [← Ny304.out] at ho35 | (simp only [Int.reduceToNat] at ho35; rw [← Ny304.out] at ho35)); have HO306 := am (Kd.R_lower (Kd.R_new' ho35 (Kd.R_lt (wR HO303))) (bz HB)); replace HO303 := eR HO303 (Kd.R_base ho35) hb; replace HB := bq HB hb; clear hb ho35; obtain ⟨Ao36, co36, eo36⟩ := Kd.R_slice HO303.out; subst eo36; obtain ⟨Ao37, co37, eo37⟩ := Kd.R_slice HO306.out; subst eo37) | ((with_reducible refine gate_dst (N := 27) rfl ?_); refine Kd.N_lit (Kd.slice 3 (Kd.int .i64)) _ 22 ?hg (N' := 27) ?hd (xs := ([y301, y304] : List (List Int))) (inner := [.slice Ao36 y301.length co36, .slice Ao37 y304.length co37]) (ok := (fun _ => True)) (okp := (fun _ => True)) ?hr ?hp (fun _ hk => hk) ((show ∀ k_, w34.heap.size ≤ k_ → (fun _ => True) k_ from fun k_ hk => trivial) _ (Nat.le_refl _)) (Below.refl _ _) (Nat.le_refl _) (by simp) ?_; (case hd => rfl); (case hg => rfl); (case hr => first | (go_simp; done) | (go_simp; rfl)); (case hp => exact (Reps.one (show Kd.FK (Kd.slice 3 (Kd.int .i64)) _ _ y301 [.slice Ao36 y301.length co36] from (Kd.FK_slice_mk (Kd.R_reads' (Kd.R_mono (ok' := (fun _ => True)) (HO303.out) (fun k_ hk => trivial))).2.1 (Kd.R_F (Kd.R_mono (ok' := (fun _ => True)) (HO303.out) (fun k_ hk => trivial))))) (Reps.one (show Kd.FK (Kd.slice 3 (Kd.int .i64)) _ _ y304 [.slice Ao37 y304.length co37] from (Kd.FK_slice_mk (Kd.R_reads' (Kd.R_mono (ok' := (fun _ => True)) (HO306.out) (fun k_ hk => trivial))).2.1 (Kd.R_F (Kd.R_mono (ok' := (fun _ => True)) (HO306.out) (fun k_ hk => trivial))))) (Reps.none _ _)))); intro v308 w38 ho39 hb hg_ hnew_; clear hg_ hnew_; (first | rw [← Ny307.out] at ho39 | (simp only [Int.reduceToNat] at ho39; rw [← Ny307.out] at ho39)); have HO309 := am (Kd.N_lower ho39 (bz HB)); replace HB := bq HB hb; clear HO303 HO306; clear hb ho39) | ((with_reducible refine gate_dst (N := 40) rfl ?_); refine li 3 [rd l1 (ji4), 0, 0, 1] ?_; intro v324 w40 ho41 hb; (first | rw [← Ny323.out] at ho41 | (simp only [Int.reduceToNat] at ho41; rw [← Ny323.out] at ho41)); replace HO309 := eN HO309 (Kd.R_base ho41) hb; have HO325 := am (Kd.R_lower ho41 (bz HB)); replace HB := bq HB hb; clear hb ho41) | ((with_reducible refine gate_dst (N := 42) rfl ?_); refine li 3 [0, rd l1 (ji7), 1, 0] ?_; intro v327 w42 ho43 hb; (first | rw [← Ny326.out] at ho43 | (simp only [Int.reduceToNat] at ho43; rw [← Ny326.out] at ho43)); replace HO309 := eN HO309 (Kd.R_base ho43) hb; have HO328 := am (Kd.R_lower (Kd.R_new' ho43 (Kd.R_lt (wR HO325))) (bz HB)); replace HO325 := eR HO325 (Kd.R_base ho43) hb; replace HB := bq HB hb; clear hb ho43; obtain ⟨Ao44, co44, eo44⟩ := Kd.R_slice HO325.out; subst eo44; obtain ⟨Ao45, co45, eo45⟩ := Kd.R_slice HO328.out; subst eo45) | ((with_reducible refine gate_dst (N := 43) rfl ?_); refine Kd.N_lit (Kd.slice 3 (Kd.int .i64)) _ 22 ?hg (N' := 43) ?hd (xs := ([y323, y326] : List (List Int))) (inner := [.slice Ao44 y323.length co44, .slice Ao45 y326.length co45]) (ok := (fun k_ => some k_ ≠ (v308 : Value).ownBlock)) (okp := (fun k_ => some k_ ≠ (v308 : Value).ownBlock)) ?hr ?hp (fun _ hk => hk) ((show ∀ k_, w42.heap.size ≤ k_ → (fun k_ => some k_ ≠ (v308 : Value).ownBlock) k_ from fun k_ hk => Kd.fresh' (Kd.N_lt (wN HO309)) k_ hk) _ (Nat.le_refl _)) (Below.refl _ _) (Nat.le_refl _) (by simp) ?_; (case hd => rfl); (case hg => rfl); (case hr => first | (go_simp; done) | (go_simp; rfl)); (case hp => exact (Reps.one (show Kd.FK (Kd.slice 3 (Kd.int .i64)) _ _ y323 [.slice Ao44 y323.length co44] from (Kd.FK_slice_mk (Kd.R_reads' (Kd.R_mono (ok' := (fun k_ => some k_ ≠ (v308 : Value).ownBlock)) (Kd.R_apart' (HO325.out) (Kd.N_typed HO309.out) (by decide)) (fun k_ hk => hk.2))).2.1 (Kd.R_F (Kd.R_mono (ok' := (fun k_ => some k_ ≠ (v308 : Value).ownBlock)) (Kd.R_apart' (HO325.out) (Kd.N_typed HO309.out) (by decide)) (fun k_ hk => hk.2))))) (Reps.one (show Kd.FK (Kd.slice 3 (Kd.int .i64)) _ _ y326 [.slice Ao45 y326.length co45] from (Kd.FK_slice_mk (Kd.R_reads' (Kd.R_mono (ok' := (fun k_ => some k_ ≠ (v308 : Value).ownBlock)) (Kd.R_apart' (HO328.out) (Kd.N_typed HO309.out) (by decide)) (fun k_ hk => hk.2))).2.1 (Kd.R_F (Kd.R_mono (ok' := (fun k_ => some k_ ≠ (v308 : Value).ownBlock)) (Kd.R_apart' (HO328.out) (Kd.N_typed HO309.out) (by decide)) (fun k_ hk => hk.2))))) (Reps.none _ _)))); intro v330 w46 ho47 hb hg_ hnew_; clear hg_ hnew_; (first | rw [← Ny329.out] at ho47 | (simp only [Int.reduceToNat] at ho47; rw [← Ny329.out] at ho47)); replace HO309 := eN HO309 (Kd.N_base ho47) hb; have HO331 := am (Kd.N_lower ho47 (bz HB)); replace HB := bq HB hb; clear HO325 HO328; clear hb ho47; obtain ⟨Ao48, co48, eo48⟩ := Kd.N_slice HO331.out; subst eo48) | ((with_reducible refine gate_callee (f := 91) rfl ?_); refine gl 47 Try.func91 #[.int .i64 a0, .slice Ao48 y329.length co48] ?_; (with_reducible refine (spec_l7Of.calls k a0 _ _ y329 t332 t333 _ ?_ ?_ A31.out).mono ?_); exact Kd.C_below (Kd.N_reads' HO331.out).2.2 gs; exact (Kd.N_reads' HO331.out).2.1; rintro e w49 ⟨v334, rfl, ho0, hb⟩; refine ⟨_, rfl, ?_⟩; replace HO309 := eN HO309 (Kd.R_base ho0) hb; replace HO331 := eN HO331 (Kd.R_base ho0) hb; have HO335 := am (Kd.R_lower ho0 (bz HB)); replace HB := bq HB hb; (try clear hb); (try clear ho0)))
    go_ret
    exact ⟨_, by first | rfl | (simp [errW_none, errW_some] <;> rfl) | (simp only [← hji4, ← hji7]; first | rfl | (simp [errW_none, errW_some] <;> rfl)) | (simp [*, errW_none, errW_some] <;> rfl), wR HO335, bw HB⟩
   ·rw [if_neg c30] at H
    have c30b0 := beq_eq_false_iff_ne.mpr c30; have c30b1 := bne_iff_ne.mpr c30; replace H := bs H
    obtain ⟨⟨t336, t337⟩, A50, H⟩ := H
    dsimp only at H
    obtain rfl := Option.some.inj H
    have p299 : 0 ≤ ((ji4) : Int) := od
    have q299 : (ji4) < (l1.length : Int) := od
    obtain ⟨ad299, e299, hx299_0⟩ := Kd.at_int HR1.out (ji4) p299 q299
    cases e299; replace p299 := eq_true p299; replace q299 := eq_true q299
    have p300 : 0 ≤ ((ji7) : Int) := od
    have q300 : (ji7) < (l1.length : Int) := od
    obtain ⟨ad300, e300, hx300_0⟩ := Kd.at_int HR1.out (ji7) p300 q300
    obtain rfl : ad299 = ad300 := (by injection e300)
    replace p300 := eq_true p300; replace q300 := eq_true q300
    go_enter Try.func72, Try.ntmps72
    go_wp2_with (first | ((with_reducible refine gate_dst (N := 24) rfl ?_); refine li 3 [rd l1 (ji4), 1, 0, 0] ?_; intro v302 w51 ho52 hb; (first | rw [← Ny301.out] at ho52 | (simp only [Int.reduceToNat] at ho52; rw [← Ny301.out] at ho52)); have HO303 := am (Kd.R_lower ho52 (bz HB)); replace HB := bq HB hb; clear hb ho52) | ((with_reducible refine gate_dst (N := 26) rfl ?_); refine li 3 [0, 0, rd l1 (ji7), 1] ?_; intro v305 w53 ho54 hb; (first | rw [← Ny304.out] at ho54 | (simp only [Int.reduceToNat] at ho54; rw [← Ny304.out] at ho54)); have HO306 := am (Kd.R_lower (Kd.R_new' ho54 (Kd.R_lt (wR HO303))) (bz HB)); replace HO303 := eR HO303 (Kd.R_base ho54) hb; replace HB := bq HB hb; clear hb ho54; obtain ⟨Ao55, co55, eo55⟩ := Kd.R_slice HO303.out; subst eo55; obtain ⟨Ao56, co56, eo56⟩ := Kd.R_slice HO306.out; subst eo56) | ((with_reducible refine gate_dst (N := 27) rfl ?_); refine Kd.N_lit (Kd.slice 3 (Kd.int .i64)) _ 22 ?hg (N' := 27) ?hd (xs := ([y301, y304] : List (List Int))) (inner := [.slice Ao55 y301.length co55, .slice Ao56 y304.length co56]) (ok := (fun _ => True)) (okp := (fun _ => True)) ?hr ?hp (fun _ hk => hk) ((show ∀ k_, w53.heap.size ≤ k_ → (fun _ => True) k_ from fun k_ hk => trivial) _ (Nat.le_refl _)) (Below.refl _ _) (Nat.le_refl _) (by simp) ?_; (case hd => rfl); (case hg => rfl); (case hr => first | (go_simp; done) | (go_simp; rfl)); (case hp => exact (Reps.one (show Kd.FK (Kd.slice 3 (Kd.int .i64)) _ _ y301 [.slice Ao55 y301.length co55] from (Kd.FK_slice_mk (Kd.R_reads' (Kd.R_mono (ok' := (fun _ => True)) (HO303.out) (fun k_ hk => trivial))).2.1 (Kd.R_F (Kd.R_mono (ok' := (fun _ => True)) (HO303.out) (fun k_ hk => trivial))))) (Reps.one (show Kd.FK (Kd.slice 3 (Kd.int .i64)) _ _ y304 [.slice Ao56 y304.length co56] from (Kd.FK_slice_mk (Kd.R_reads' (Kd.R_mono (ok' := (fun _ => True)) (HO306.out) (fun k_ hk => trivial))).2.1 (Kd.R_F (Kd.R_mono (ok' := (fun _ => True)) (HO306.out) (fun k_ hk => trivial))))) (Reps.none _ _)))); intro v308 w57 ho58 hb hg_ hnew_; clear hg_ hnew_; (first | rw [← Ny307.out] at ho58 | (simp only [Int.reduceToNat] at ho58; rw [← Ny307.out] at ho58)); have HO309 := am (Kd.N_lower ho58 (bz HB)); replace HB := bq HB hb; clear HO303 HO306; clear hb ho58; obtain ⟨Ao59, co59, eo59⟩ := Kd.N_slice HO309.out; subst eo59) | ((with_reducible refine gate_callee (f := 91) rfl ?_); refine gl 47 Try.func91 #[.int .i64 a0, .slice Ao59 y307.length co59] ?_; (with_reducible refine (spec_l7Of.calls k a0 _ _ y307 t336 t337 _ ?_ ?_ A50.out).mono ?_); exact Kd.C_below (Kd.N_reads' HO309.out).2.2 gs; exact (Kd.N_reads' HO309.out).2.1; rintro e w60 ⟨v338, rfl, ho0, hb⟩; refine ⟨_, rfl, ?_⟩; replace HO309 := eN HO309 (Kd.R_base ho0) hb; have HO339 := am (Kd.R_lower ho0 (bz HB)); replace HB := bq HB hb; (try clear hb); (try clear ho0)))
    go_ret
    exact ⟨_, by first | rfl | (simp [errW_none, errW_some] <;> rfl) | (simp only [← hji4, ← hji7]; first | rfl | (simp [errW_none, errW_some] <;> rfl)) | (simp [*, errW_none, errW_some] <;> rfl), wR HO339, bw HB⟩
 ·rw [if_neg c5] at H
  exact absurd H (by simp)/-! ### spec_CubeLine: function 32 -/
def spec_CubeLine.f (k : Nat) (a0 : Int) (a1 : Int) : Option (List Int × Bool) := (spec_CubeRoots.f k a0).bind fun bt340 => (if bt340.2 = true then ((spec_l6In.f a1 0 26).bind fun t344 => (if t344 = true then ((spec_l8Line.f k a0 bt340.1 a1).bind fun t345 => (some (t345, true))) else (some ((([] : List Int)), false)))) else (some ((([] : List Int)), false)))
theorem spec_CubeLine.mono : ∀ a0 a1 k, LeO (spec_CubeLine.f k a0 a1) (spec_CubeLine.f (k + 1) a0 a1) := by
 intro a0 a1 k
 unfold spec_CubeLine.f
 repeat' first | (with_reducible first | apply spec_CubeRoots.mono | apply spec_l8Line.mono | exact LeO.refl _ | exact LeO.none _ | refine LeO.ite ?_ ?_ | refine LeO.bind ?_ (fun _ => ?_)) | (first | apply spec_CubeRoots.mono | apply spec_l8Line.mono | exact LeO.none _ | refine LeO.ite ?_ ?_ | refine LeO.bind ?_ (fun _ => ?_))
set_option maxHeartbeats 8000000 in
set_option maxRecDepth 100000 in
theorem spec_CubeLine.calls (k : Nat) (a0 : Int) (a1 : Int) (r1 : List Int) (r2 : Bool) (w : World) (h : spec_CubeLine.f k a0 a1 = some (r1, r2)) :
  Calls Try.prog 32 #[.int .i64 a0, .int .i64 a1] w fun e w' => ∃ v0_ : Value, e = .returned (.tuple #[v0_, .bool r2]) ∧ Kd.R (Kd.int .i64) 3 w' w.heap.size (fun _ => True) v0_ r1 ∧ Below w.heap.size w w' := by
 have HB := am (Below.refl w.heap.size w)
 have H : ((spec_CubeRoots.f k a0).bind fun bt340 => (if bt340.2 = true then ((spec_l6In.f a1 0 26).bind fun t344 => (if t344 = true then ((spec_l8Line.f k a0 bt340.1 a1).bind fun t345 => (some (t345, true))) else (some ((([] : List Int)), false)))) else (some ((([] : List Int)), false)))) = some (r1, r2) := h
 clear h; replace H := bs H
 obtain ⟨⟨t340, t341⟩, A3, H⟩ := H
 dsimp only at H
 by_cases c4 : t341 = true
 ·subst c4
  rw [if_pos rfl] at H
  replace H := bs H; obtain ⟨t344, A5, H⟩ := H
  by_cases c6 : t344 = true
  ·subst c6
   rw [if_pos rfl] at H
   replace H := bs H; obtain ⟨t345, A7, H⟩ := H
   simp only [Option.some.injEq, Prod.mk.injEq] at H
   obtain ⟨rfl, rfl⟩ := H
   go_enter Try.func32, Try.ntmps32
   go_wp2_with (first | ((with_reducible refine gate_callee (f := 48) rfl ?_); refine gl 10 Try.func48 #[.int .i64 a0] ?_; (with_reducible refine (spec_CubeRoots.calls k a0 t340 true _ A3.out).mono ?_); rintro e w8 ⟨v342, rfl, ho0, hb⟩; refine ⟨_, rfl, ?_⟩; have HO343 := am (Kd.R_lower ho0 (bz HB)); replace HB := bq HB hb; (try clear hb); (try clear ho0)) | (go_at_call 49; (with_reducible refine (spec_l6In.calls a1 0 26 true _ A5.out).mono ?_); rintro e w' ⟨rfl, ⟨nd, rfl⟩⟩; obtain ⟨Ao9, co9, eo9⟩ := Kd.R_slice HO343.out; subst eo9) | ((with_reducible refine gate_callee (f := 72) rfl ?_); refine gl 24 Try.func72 #[.int .i64 a0, .slice Ao9 t340.length co9, .int .i64 a1] ?_; (with_reducible refine (spec_l8Line.calls k a0 _ _ t340 a1 t345 _ ?_ ?_ A7.out).mono ?_); exact Kd.C_below (Kd.R_reads' HO343.out).2.2 gs; exact (Kd.R_reads' HO343.out).2.1; rintro e w10 ⟨v346, rfl, ho0, hb⟩; refine ⟨_, rfl, ?_⟩; have HO347 := am (Kd.R_lower (Kd.R_new' ho0 (Kd.R_lt (wR HO343))) (bz HB)); replace HO343 := eR HO343 (Kd.R_base ho0) hb; replace HB := bq HB hb; (try clear hb); (try clear ho0)))
   go_ret2
   exact ⟨_, fq, Kd.R_below (Kd.R_mono HO347.out (fun _ hk => trivial)) gs, bw HB⟩
  ·replace c6 := Bool.eq_false_iff.mpr c6
   subst c6
   rw [if_neg (show ¬ (false = true) by decide)] at H
   generalize hy348 : (([] : List Int)) = y348 at H
   have Ny348 := am hy348.symm; clear hy348
   simp only [Option.some.injEq, Prod.mk.injEq] at H
   obtain ⟨rfl, rfl⟩ := H
   go_enter Try.func32, Try.ntmps32
   go_wp2_with (first | ((with_reducible refine gate_callee (f := 48) rfl ?_); refine gl 10 Try.func48 #[.int .i64 a0] ?_; (with_reducible refine (spec_CubeRoots.calls k a0 t340 true _ A3.out).mono ?_); rintro e w11 ⟨v342, rfl, ho0, hb⟩; refine ⟨_, rfl, ?_⟩; have HO343 := am (Kd.R_lower ho0 (bz HB)); replace HB := bq HB hb; (try clear hb); (try clear ho0)) | (go_at_call 49; (with_reducible refine (spec_l6In.calls a1 0 26 false _ A5.out).mono ?_); rintro e w' ⟨rfl, ⟨nd, rfl⟩⟩) | ((with_reducible refine gate_dst (N := 20) rfl ?_); refine li 3 ([] : List Int) ?_; intro v349 w12 ho13 hb; (first | rw [← Ny348.out] at ho13 | (simp only [Int.reduceToNat] at ho13; rw [← Ny348.out] at ho13)); have HO350 := am (Kd.R_lower (Kd.R_new' ho13 (Kd.R_lt (wR HO343))) (bz HB)); replace HO343 := eR HO343 (Kd.R_base ho13) hb; replace HB := bq HB hb; clear hb ho13))
   go_ret2
   exact ⟨_, fq, Kd.R_below (Kd.R_mono HO350.out (fun _ hk => trivial)) gs, bw HB⟩
 ·replace c4 := Bool.eq_false_iff.mpr c4
  subst c4
  rw [if_neg (show ¬ (false = true) by decide)] at H
  generalize hy351 : (([] : List Int)) = y351 at H
  have Ny351 := am hy351.symm; clear hy351
  simp only [Option.some.injEq, Prod.mk.injEq] at H
  obtain ⟨rfl, rfl⟩ := H
  go_enter Try.func32, Try.ntmps32
  go_wp2_with (first | ((with_reducible refine gate_callee (f := 48) rfl ?_); refine gl 10 Try.func48 #[.int .i64 a0] ?_; (with_reducible refine (spec_CubeRoots.calls k a0 t340 false _ A3.out).mono ?_); rintro e w14 ⟨v342, rfl, ho0, hb⟩; refine ⟨_, rfl, ?_⟩; have HO343 := am (Kd.R_lower ho0 (bz HB)); replace HB := bq HB hb; (try clear hb); (try clear ho0)) | ((with_reducible refine gate_dst (N := 20) rfl ?_); refine li 3 ([] : List Int) ?_; intro v352 w15 ho16 hb; (first | rw [← Ny351.out] at ho16 | (simp only [Int.reduceToNat] at ho16; rw [← Ny351.out] at ho16)); have HO353 := am (Kd.R_lower (Kd.R_new' ho16 (Kd.R_lt (wR HO343))) (bz HB)); replace HO343 := eR HO343 (Kd.R_base ho16) hb; replace HB := bq HB hb; clear hb ho16))
  go_ret2
  exact ⟨_, fq, Kd.R_below (Kd.R_mono HO353.out (fun _ hk => trivial)) gs, bw HB⟩/-! ### impl_triples: function 74 -/
mutual
def impl_triples.l0 : Nat → List (S71) → Int → Option ((List (S71)))
 | 0, _, _ => none
 | k + 1, x1, x6 => if x6 < 4 then (impl_triples.l1 k x1 x6 x6 x6) else (some x1)
def impl_triples.l1 : Nat → List (S71) → Int → Int → Int → Option ((List (S71)))
 | 0, _, _, _, _ => none
 | k + 1, x1, x2, x3, x6 => if x3 < 4 then (impl_triples.l2 k x1 x2 x3 x3 x6) else (impl_triples.l0 k x1 (wrap64 (x6 + 1)))
def impl_triples.l2 : Nat → List (S71) → Int → Int → Int → Int → Option ((List (S71)))
 | 0, _, _, _, _, _ => none
 | k + 1, x1, x2, x3, x4, x6 => if x4 < 4 then (if x1.length < 5864062014805 then (impl_triples.l2 k (x1 ++ [(⟨x2, x3, x4⟩ : S71)]) x2 x3 (wrap64 (x4 + 1)) x6) else (none)) else (impl_triples.l1 k x1 x2 (wrap64 (x3 + 1)) x6)
end
def impl_triples.f (k : Nat)  : Option ((List (S71))) := impl_triples.l0 k (([] : List (S71))) 0
theorem impl_triples.mono_l : ∀ k, (∀ y0 y1, LeO (impl_triples.l0 k y0 y1) (impl_triples.l0 (k + 1) y0 y1)) ∧ (∀ y0 y1 y2 y3, LeO (impl_triples.l1 k y0 y1 y2 y3) (impl_triples.l1 (k + 1) y0 y1 y2 y3)) ∧ (∀ y0 y1 y2 y3 y4, LeO (impl_triples.l2 k y0 y1 y2 y3 y4) (impl_triples.l2 (k + 1) y0 y1 y2 y3 y4))
 | 0 => ⟨fun _ _ r h => by simp [impl_triples.l0] at h, fun _ _ _ _ r h => by simp [impl_triples.l1] at h, fun _ _ _ _ _ r h => by simp [impl_triples.l2] at h⟩
 | k + 1 => by
  obtain ⟨ih0, ih1, ih2⟩ := impl_triples.mono_l k
  refine ⟨?_, ?_, ?_⟩
  ·intro y0 y1
   unfold impl_triples.l0
   repeat' first | (with_reducible first | apply ih0 | apply ih1 | apply ih2 | exact LeO.refl _ | exact LeO.none _ | refine LeO.ite ?_ ?_ | refine LeO.bind ?_ (fun _ => ?_)) | (first | apply ih0 | apply ih1 | apply ih2 | exact LeO.none _ | refine LeO.ite ?_ ?_ | refine LeO.bind ?_ (fun _ => ?_))
  ·intro y0 y1 y2 y3
   unfold impl_triples.l1
   repeat' first | (with_reducible first | apply ih0 | apply ih1 | apply ih2 | exact LeO.refl _ | exact LeO.none _ | refine LeO.ite ?_ ?_ | refine LeO.bind ?_ (fun _ => ?_)) | (first | apply ih0 | apply ih1 | apply ih2 | exact LeO.none _ | refine LeO.ite ?_ ?_ | refine LeO.bind ?_ (fun _ => ?_))
  ·intro y0 y1 y2 y3 y4
   unfold impl_triples.l2
   repeat' first | (with_reducible first | apply ih0 | apply ih1 | apply ih2 | exact LeO.refl _ | exact LeO.none _ | refine LeO.ite ?_ ?_ | refine LeO.bind ?_ (fun _ => ?_)) | (first | apply ih0 | apply ih1 | apply ih2 | exact LeO.none _ | refine LeO.ite ?_ ?_ | refine LeO.bind ?_ (fun _ => ?_))
theorem impl_triples.mono : ∀ k, LeO (impl_triples.f k ) (impl_triples.f (k + 1) ) := by
 intro  k
 obtain ⟨ih0, ih1, ih2⟩ := impl_triples.mono_l k
 unfold impl_triples.f
 repeat' first | (with_reducible first | apply ih0 | apply ih1 | apply ih2 | exact LeO.refl _ | exact LeO.none _ | refine LeO.ite ?_ ?_ | refine LeO.bind ?_ (fun _ => ?_)) | (first | apply ih0 | apply ih1 | apply ih2 | exact LeO.none _ | refine LeO.ite ?_ ?_ | refine LeO.bind ?_ (fun _ => ?_))
set_option maxHeartbeats 8000000 in
set_option maxRecDepth 100000 in
theorem impl_triples.calls (k : Nat)  (r : List (S71)) (w : World) (h : impl_triples.f k  = some r) :
  Calls Try.prog 74 #[] w fun e w' => ∃ v0_ : Value, e = .returned (v0_) ∧ Kd.R k71 71 w' w.heap.size (fun _ => True) v0_ r ∧ Below w.heap.size w w' := by
 have hu71 := Try.underlying71
 have HB := am (Below.refl w.heap.size w)
 have H : (impl_triples.l0 k (([] : List (S71))) 0) = some r := h
 clear h
 generalize hy354 : (([] : List (S71))) = y354 at H
 have Ny354 := am hy354.symm; clear hy354; have H' := am H; clear H
 go_enter Try.func74, Try.ntmps74
 go_wp2_with (first | ((with_reducible refine gate_dst (N := 5) rfl ?_); refine Kd.R_lit k71 _ 71 ?hg (N := 5) ?hd (xs := ([] : List (S71))) (inner := []) (ok := fun _ => True) (okp := fun _ => True) ?hr ?hp (fun _ hk => hk) trivial (Below.refl _ _) (Nat.le_refl _) (by simp) ?_; (case hd => rfl); (case hg => rfl); (case hr => first | (go_simp; done) | (go_simp; rfl)); (case hp => exact (Reps.none _ _)); intro v355 w1 ho2 hb hg_ hnew_; clear hg_ hnew_; (first | rw [← Ny354.out] at ho2 | (simp only [Int.reduceToNat] at ho2; rw [← Ny354.out] at ho2)); have HO356 := am (Kd.R_lower ho2 (bz HB)); replace HB := bq HB hb; clear hb ho2))
 go_loopg [1, 6] k (fun kq v1 v6 w' => ∃ (x1_1 : List (S71)) (x6_1 : Int), v6 = .int .i64 x6_1 ∧ Aside0 (impl_triples.l0 kq x1_1 x6_1 = some r) ∧ Aside0 (kq ≤ k) ∧ Aside0 (Kd.R k71 71 w' w.heap.size (fun _ => True) v1 x1_1) ∧ Aside0 (Below w.heap.size w w'))
 case atStart => exact ⟨(y354), (0), fr, H', ⟨Nat.le_refl _⟩, ⟨wR HO356⟩, ⟨bw HB⟩⟩
 case round =>
  clear H'; try clear p2
  obtain ⟨x1_1, x6_1, rfl, HA, HK1, HO_1, HB⟩ := hrel
  cases gk with
  | zero => exact absurd HA.out (by simp [impl_triples.l0])
  | succ k1 =>
   have H := HA.out; clear HA
   simp only [impl_triples.l0] at H
   by_cases c3 : x6_1 < 4
   ·rw [if_pos c3] at H
    have c3b0 := decide_eq_true c3; clear c3; have H' := am H; clear H; go_wp2
    go_loopg [1, 3] k1 (fun kq v1 v3 w' => ∃ (x1_2 : List (S71)) (x3_2 : Int), v3 = .int .i64 x3_2 ∧ Aside0 (impl_triples.l1 kq x1_2 x6_1 x3_2 x6_1 = some r) ∧ Aside0 (kq ≤ k1) ∧ Aside0 (Kd.R k71 71 w' w.heap.size (fun _ => True) v1 x1_2) ∧ Aside0 (Below w.heap.size w w'))
    case atStart => exact ⟨(x1_1), (x6_1), fr, H', ⟨Nat.le_refl _⟩, ⟨wR HO_1⟩, ⟨bw HB⟩⟩
    case round =>
     clear H'; try clear p2; try clear c3; try clear c3b0; try clear p2
     obtain ⟨x1_2, x3_2, rfl, HA, HK2, HO_1, HB⟩ := hrel
     cases gk with
     | zero => exact absurd HA.out (by simp [impl_triples.l1])
     | succ k2 =>
      have H := HA.out; clear HA
      simp only [impl_triples.l1] at H
      by_cases c4 : x3_2 < 4
      ·rw [if_pos c4] at H
       have c4b0 := decide_eq_true c4; clear c4; have H' := am H; clear H; go_wp2
       go_loopg [1, 4] k2 (fun kq v1 v4 w' => ∃ (x1_3 : List (S71)) (x4_3 : Int), v4 = .int .i64 x4_3 ∧ Aside0 (impl_triples.l2 kq x1_3 x6_1 x3_2 x4_3 x6_1 = some r) ∧ Aside0 (kq ≤ k2) ∧ Aside0 (Kd.R k71 71 w' w.heap.size (fun _ => True) v1 x1_3) ∧ Aside0 (Below w.heap.size w w'))
       case atStart => exact ⟨(x1_2), (x3_2), fr, H', ⟨Nat.le_refl _⟩, ⟨wR HO_1⟩, ⟨bw HB⟩⟩
       case round =>
        clear H'; try clear p2; try clear c3; try clear c3b0; try clear c4; try clear c4b0; try clear p2
        obtain ⟨x1_3, x4_3, rfl, HA, HK3, HO_1, HB⟩ := hrel
        cases gk with
        | zero => exact absurd HA.out (by simp [impl_triples.l2])
        | succ k3 =>
         have H := HA.out; clear HA
         simp only [impl_triples.l2] at H
         by_cases c5 : x4_3 < 4
         ·rw [if_pos c5] at H
          have c5b0 := decide_eq_true c5; clear c5; replace H := ifn H; obtain ⟨c6, H⟩ := H; have LMc6 := am c6; clear c6
          generalize hy357 : (x1_3 ++ [(⟨x6_1, x3_2, x4_3⟩ : S71)] : List (S71)) = y357 at H
          have Ny357 := am hy357.symm; clear hy357; have H' := am H; clear H
          go_wp2_with (first | ((with_reducible refine gate_builtin (b := .append) (xs := #[.tmp 19, .tmp 24]) rfl ?_); at_builtin; refine Kd.R_append k71 (w0 := w) w.heap.size rfl (.tmp 19) (.tmp 24) 69 71 (.agg #[(.int .i64 0), (.int .i64 0), (.int .i64 0)]) 24 rfl Try.underlying69 info71 rfl (by decide) (by omega) u1 x1_3 (⟨x6_1, x3_2, x4_3⟩ : S71) [.int .i64 x6_1, .int .i64 x3_2, .int .i64 x4_3] (fun _ => True) (fun _ => False) rfl rfl ?aP (fun _ hk => hk.elim) ?aF ?aO ?aB ?aS ?aL ?_; (case aP => exact k71_mkM _ _ _ (⟨x6_1, x3_2, x4_3⟩ : S71)); (case aB => exact (bw HB)); (case aF => exact (fun _ _ => trivial)); (case aO => exact (wR HO_1)); (case aS => exact (bz HB)); (case aL => have := LMc6.out; omega); intro v358 w7 ho hb hg hat; rw [← Ny357.out] at ho; replace HB := am (hb); have HO359 := am (ho); clear HO_1; clear ho hb hg hat))
          go_roundg k3
          case measure => have := HK1.out; have := HK2.out; have := HK3.out; omega
          case rel => exact ⟨(y357), (wrap64 (x4_3 + 1)), fr, H', ⟨by have := HK1.out; have := HK2.out; have := HK3.out; omega⟩, ⟨wR HO359⟩, ⟨bw HB⟩⟩
         ·rw [if_neg c5] at H
          have c5b0 := decide_eq_false c5; clear c5; have H' := am H; clear H; go_wp2
          go_roundg k3
          case measure => have := HK1.out; have := HK2.out; have := HK3.out; omega
          case rel => exact ⟨(x1_3), (wrap64 (x3_2 + 1)), fr, H', ⟨by have := HK1.out; have := HK2.out; have := HK3.out; omega⟩, ⟨wR HO_1⟩, ⟨bw HB⟩⟩
      ·rw [if_neg c4] at H
       have c4b0 := decide_eq_false c4; clear c4; have H' := am H; clear H; go_wp2
       go_roundg k2
       case measure => have := HK1.out; have := HK2.out; omega
       case rel => exact ⟨(x1_2), (wrap64 (x6_1 + 1)), fr, H', ⟨by have := HK1.out; have := HK2.out; omega⟩, ⟨wR HO_1⟩, ⟨bw HB⟩⟩
   ·rw [if_neg c3] at H
    have c3b0 := decide_eq_false c3; clear c3; obtain rfl := Option.some.inj H; go_wp2; go_ret
    exact ⟨_, fq, wR HO_1, bw HB⟩
end Go.Proofs.Ytmenehnfgenlpaa.PA

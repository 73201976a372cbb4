-- Written by xprint.py, a program of this claim's own (over the kit's print.py)
import Derived.Test.YtmenehnfgenlpaaPAx0
import Derived.Test.YtmenehnfgenlpaaPAx7
import Derived.Test.YtmenehnfgenlpaaPAx8
import Derived.Test.YtmenehnfgenlpaaPAx10
import Derived.Test.YtmenehnfgenlpaaPAx11
import Derived.Test.YtmenehnfgenlpaaPAx13
import Derived.Test.YtmenehnfgenlpaaPAx17
import Derived.Test.YtmenehnfgenlpaaPAx19
namespace Go.Proofs.Ytmenehnfgenlpaa.PA
open Go.RowKit Go.Proofs.YtmenehnfgenlpaaW.PrintWords Go.Proofs.YtmenehnfgenlpaaW.PrintLast Go.Proofs.YtmenehnfgenlpaaW.PrintMore
attribute [local go_sem] max2_int min2_int max_two min_two max_three min_three max_four min_four   -- for this text's walks alone
set_option linter.unusedVariables false
set_option linter.unusedSimpArgs false

/-! ### impl_isOn: function 63 -/
def impl_isOn.f (k : Nat) (a0 : Int) (l1 : List Int) (l2 : List Int) : Option (Bool) := (impl_rowsOf.f l2).bind fun t604 => (if t604.length < 5864062014805 then ((impl_reduced.f k a0 (t604 ++ [l1])).bind fun t610 => (some ((t610.length : Int) == 2))) else (none))
theorem impl_isOn.mono : ∀ a0 a1 a2 k, LeO (impl_isOn.f k a0 a1 a2) (impl_isOn.f (k + 1) a0 a1 a2) := by
 intro a0 a1 a2 k
 unfold impl_isOn.f
 repeat' first | (with_reducible first | apply impl_reduced.mono | exact LeO.refl _ | exact LeO.none _ | refine LeO.ite ?_ ?_ | refine LeO.bind ?_ (fun _ => ?_)) | (first | apply impl_reduced.mono | exact LeO.none _ | refine LeO.ite ?_ ?_ | refine LeO.bind ?_ (fun _ => ?_))
set_option maxHeartbeats 8000000 in
set_option maxRecDepth 100000 in
theorem impl_isOn.calls (k : Nat) (a0 : Int) (P1_ : Nat → Prop) (A1 : Option Addr) (c1 : Nat) (l1 : List Int) (P2_ : Nat → Prop) (A2 : Option Addr) (c2 : Nat) (l2 : List Int) (r : Bool) (w : World) (hs1 : Kd.V (Kd.int .i64) 3 w w.heap.size (fun k_ => P1_ k_) (.slice A1 l1.length c1) l1) (hs2 : Kd.V (Kd.int .i64) 3 w w.heap.size (fun k_ => P2_ k_) (.slice A2 l2.length c2) l2) (h : impl_isOn.f k a0 l1 l2 = some r) :
  Calls Try.prog 63 #[.int .i64 a0, .slice A1 l1.length c1, .slice A2 l2.length c2] w fun e w' => e = .returned (.bool r) ∧ Below w.heap.size w w' := by
 have HO1 := am (show Kd.V (Kd.int .i64) 3 w w.heap.size (fun k_ => ((P1_ k_ ∨ P2_ k_) ∨ w.heap.size ≤ k_)) (.slice A1 l1.length c1) l1 from Kd.V_mono hs1 (fun k_ hk => .inl (.inl hk)))
 have HO2 := am (show Kd.V (Kd.int .i64) 3 w w.heap.size (fun k_ => ((P1_ k_ ∨ P2_ k_) ∨ w.heap.size ≤ k_)) (.slice A2 l2.length c2) l2 from Kd.V_mono hs2 (fun k_ hk => .inl (.inr hk)))
 have HB := am (Below.refl w.heap.size w)
 have H : ((impl_rowsOf.f l2).bind fun t604 => (if t604.length < 5864062014805 then ((impl_reduced.f k a0 (t604 ++ [l1])).bind fun t610 => (some ((t610.length : Int) == 2))) else (none))) = some r := h
 clear h; replace H := bs H; obtain ⟨t604, A4, H⟩ := H
 by_cases c5 : t604.length < 5864062014805
 ·rw [if_pos c5] at H
  have LMc5 := am c5; clear c5
  generalize hy607 : (t604 ++ [l1] : List (List Int)) = y607 at H
  have Ny607 := am hy607.symm; clear hy607; replace H := bs H; obtain ⟨t610, A6, H⟩ := H; obtain rfl := Option.some.inj H
  go_enter Try.func63, Try.ntmps63
  go_wp2_with (first | ((with_reducible refine gate_callee (f := 81) rfl ?_); refine gl 9 Try.func81 #[.slice A2 l2.length c2] ?_; (with_reducible refine (impl_rowsOf.calls (fun k_ => ((P1_ k_ ∨ P2_ k_) ∨ w.heap.size ≤ k_)) _ _ l2 t604 _ ?_ A4.out).mono ?_); exact HO2.out; rintro e w7 ⟨v605, rfl, ho0, hb⟩; refine ⟨_, rfl, ?_⟩; replace HO1 := eV HO1 (Kd.N_base ho0) hb; replace HO2 := eV HO2 (Kd.N_base ho0) hb; have HO606 := am (Kd.N_lower (Kd.N_mono (ok' := fun k_ => ((P1_ k_ ∨ P2_ k_) ∨ w.heap.size ≤ k_)) ho0 (fun k_ hk_ => Or.elim hk_ (fun hs_ => hs_) (fun hn_ => (.inr (Nat.le_trans (bz HB) hn_))))) (bz HB)); replace HB := bq HB hb; (try clear hb); (try clear ho0)) | ((with_reducible refine gate_builtin (b := .append) (xs := #[.tmp 9, .tmp 11]) rfl ?_); at_builtin; refine Kd.N_append (Kd.slice 3 (Kd.int .i64)) (w0 := w) w.heap.size rfl (.tmp 9) (.tmp 11) 45 22 (.slice none 0 0) 24 rfl Try.underlying45 info22 rfl (by decide) (by omega) v605 t604 l1 [.slice A1 l1.length c1] (fun k_ => ((P1_ k_ ∨ P2_ k_) ∨ w.heap.size ≤ k_)) (fun k_ => ((fun k_ => ((P1_ k_ ∨ P2_ k_) ∨ w.heap.size ≤ k_))) k_ ∧ some k_ ≠ (v605 : Value).ownBlock) rfl rfl ?aP (fun _ hk => hk) ?aF ?aO ?aB ?aS ?aL ?_; (case aP => exact (Kd.FK_slice_mk (Kd.V_reads' (Kd.V_mono (ok' := (fun k_ => ((fun k_ => ((P1_ k_ ∨ P2_ k_) ∨ w.heap.size ≤ k_))) k_ ∧ some k_ ≠ (v605 : Value).ownBlock)) (HO1.out) (fun k_ hk => ⟨hk.1, hk.2⟩))).2.1 (Kd.V_F (Kd.V_mono (ok' := (fun k_ => ((fun k_ => ((P1_ k_ ∨ P2_ k_) ∨ w.heap.size ≤ k_))) k_ ∧ some k_ ≠ (v605 : Value).ownBlock)) (HO1.out) (fun k_ hk => ⟨hk.1, hk.2⟩))))); (case aB => exact (bw HB)); (case aF => exact (fun k_ hk => (.inr (Nat.le_trans (bz HB) hk)))); (case aO => exact (wN HO606)); (case aS => exact (bz HB)); (case aL => have := LMc5.out; omega); intro v608 w8 ho hb hg hat; rw [← Ny607.out] at ho; replace HO1 := am (Kd.V_afterv (ok := (fun k_ => ((P1_ k_ ∨ P2_ k_) ∨ w.heap.size ≤ k_))) (wV HO1) hg hat); replace HO2 := am (Kd.V_afterv (ok := (fun k_ => ((P1_ k_ ∨ P2_ k_) ∨ w.heap.size ≤ k_))) (wV HO2) hg hat); replace HB := am (hb); have HO609 := am (ho); clear HO606; clear ho hb hg hat; obtain ⟨Ao9, co9, eo9⟩ := Kd.N_slice HO609.out; subst eo9) | ((with_reducible refine gate_callee (f := 82) rfl ?_); refine gl 13 Try.func82 #[.int .i64 a0, .slice Ao9 y607.length co9] ?_; (with_reducible refine (impl_reduced.calls k a0 _ _ y607 t610 _ ?_ ?_ A6.out).mono ?_); exact Kd.C_below (Kd.N_reads' HO609.out).2.2 gs; exact (Kd.N_reads' HO609.out).2.1; rintro e w10 ⟨v611, rfl, ho0, hb⟩; refine ⟨_, rfl, ?_⟩; replace HO1 := eV HO1 (Kd.S_base ho0) hb; replace HO2 := eV HO2 (Kd.S_base ho0) hb; have HO612 := am (Kd.N_lower (Kd.N_mono (ok' := fun k_ => ((P1_ k_ ∨ P2_ k_) ∨ w.heap.size ≤ k_) ∧ some k_ ≠ (.slice Ao9 y607.length co9 : Value).ownBlock) (Kd.S_N (Kd.S_bound ho0)) (fun k_ hk_ => ⟨(.inr (Nat.le_trans (bz HB) hk_.2.1)), (Kd.fresh' (Kd.N_lt (wN HO609)) k_ hk_.2.1)⟩)) (bz HB)); replace HO609 := eN HO609 (Kd.S_base ho0) hb; replace HB := bq HB hb; (try clear hb); (try clear ho0); obtain ⟨Ao11, co11, eo11⟩ := Kd.N_slice HO612.out; subst eo11))
  go_ret
  exact ⟨fq, bw HB⟩
 ·rw [if_neg c5] at H
  exact absurd H (by simp)/-! ### impl_CubeStars: function 39 (by hand) -/
/-- one for three lines that meet in one place -/
def starOne (n : Nat) (p : Int) (t : List Int) (T : List Bool) (i j k : Nat) : Option Int := if T.getD (27 * i + j) false = true ∧ T.getD (27 * i + k) false = true ∧ T.getD (27 * j + k) false = true then (impl_cubeLine.f n p t (i : Int)).bind fun a => (impl_cubeLine.f n p t (j : Int)).bind fun b => (impl_commonPlace.f n p a b).bind fun s => (impl_cubeLine.f n p t (k : Int)).bind fun l => (impl_isOn.f n p s l).bind fun o => some (if o = true then 1 else 0) else some 0
def sumO (f : Nat → Option Int) : Nat → Option Int
 | 0 => some 0
 | n + 1 => (sumO f n).bind fun a => (f n).bind fun b => some (a + b)
theorem sumO_step {f : Nat → Option Int} : ∀ {n : Nat} {r : Int}, sumO f n = some r → ∀ i, i < n → ∃ a b, sumO f i = some a ∧ f i = some b ∧ sumO f (i + 1) = some (a + b)
 | n + 1, r, h, i, hi => by
  rw [sumO] at h
  obtain ⟨a, ha, h⟩ := Option.bind_eq_some_iff.1 h
  obtain ⟨b, hb, h⟩ := Option.bind_eq_some_iff.1 h
  by_cases e : i = n
  ·subst e
   exact ⟨a, b, ha, hb, by rw [sumO, ha]; simp only [Option.bind_some]; rw [hb]; rfl⟩
  ·exact sumO_step ha i (by omega)
theorem sumO_bound {f : Nat → Option Int} {B : Int} : ∀ (n : Nat) (r : Int), (∀ i b, i < n → f i = some b → 0 ≤ b ∧ b ≤ B) → sumO f n = some r → 0 ≤ r ∧ r ≤ n * B
 | 0, r, _, h => by cases h; simp
 | n + 1, r, hf, h => by
  rw [sumO] at h
  obtain ⟨a, ha, h⟩ := Option.bind_eq_some_iff.1 h
  obtain ⟨b, hb, h⟩ := Option.bind_eq_some_iff.1 h
  obtain rfl := Option.some.inj h
  have h1 := sumO_bound n a (fun i b hi => hf i b (by omega)) ha
  have h2 := hf n b (by omega) hb
  have h3 : ((n + 1 : Nat) : Int) * B = n * B + B := by push_cast; rw [Int.add_mul]; omega
  omega
theorem sumO_mono {f g : Nat → Option Int} (h : ∀ i, LeO (f i) (g i)) : ∀ n, LeO (sumO f n) (sumO g n)
 | 0 => LeO.refl _
 | n + 1 => LeO.bind (sumO_mono h n) fun _ => LeO.bind (h n) fun _ => LeO.refl _
theorem starOne_mono (p : Int) (t : List Int) (T : List Bool) (i j k n : Nat) : LeO (starOne n p t T i j k) (starOne (n + 1) p t T i j k) := by
 unfold starOne
 exact LeO.ite (LeO.bind (impl_cubeLine.mono _ _ _ _) fun _ => LeO.bind (impl_cubeLine.mono _ _ _ _) fun _ => LeO.bind (impl_commonPlace.mono _ _ _ _) fun _ => LeO.bind (impl_cubeLine.mono _ _ _ _) fun _ => LeO.bind (impl_isOn.mono _ _ _ _) fun _ => LeO.refl _) (LeO.refl _)
theorem starOne_bound {n : Nat} {p : Int} {t : List Int} {T : List Bool} {i j k : Nat} {b : Int} (h : starOne n p t T i j k = some b) : 0 ≤ b ∧ b ≤ 1 := by
 unfold starOne at h
 split at h
 ·obtain ⟨_, _, h⟩ := Option.bind_eq_some_iff.1 h
  obtain ⟨_, _, h⟩ := Option.bind_eq_some_iff.1 h
  obtain ⟨_, _, h⟩ := Option.bind_eq_some_iff.1 h
  obtain ⟨_, _, h⟩ := Option.bind_eq_some_iff.1 h
  obtain ⟨o, _, h⟩ := Option.bind_eq_some_iff.1 h
  obtain rfl := Option.some.inj h
  split <;> omega
 ·obtain rfl := Option.some.inj h
  omega
def star2 (n : Nat) (p : Int) (t : List Int) (T : List Bool) (i j : Nat) : Option Int := sumO (starOne n p t T i j) j
def star1 (n : Nat) (p : Int) (t : List Int) (T : List Bool) (i : Nat) : Option Int := sumO (star2 n p t T i) i
theorem star2_bound {n : Nat} {p : Int} {t : List Int} {T : List Bool} {i j : Nat} {b : Int} (hj : j < 27) (h : star2 n p t T i j = some b) : 0 ≤ b ∧ b ≤ 27 := by
 have := sumO_bound j b (fun _ _ _ h => starOne_bound h) h
 omega
theorem star1_bound {n : Nat} {p : Int} {t : List Int} {T : List Bool} {i : Nat} {b : Int} (hi : i < 27) (h : star1 n p t T i = some b) : 0 ≤ b ∧ b ≤ 729 := by
 have := sumO_bound i b (fun j _ hj h => star2_bound (by omega) h) h
 omega
def impl_CubeStars.f (n : Nat) (p : Int) : Option (Int × Bool) := (impl_cubeRoots.f n p).bind fun t => if t.length = 3 then ((impl_cubeTable.f n p t).bind fun T => (sumO (star1 n p t T) 27).bind fun s => some (s, true)) else some (0, false)
theorem impl_CubeStars.mono : ∀ a0 k, LeO (impl_CubeStars.f k a0) (impl_CubeStars.f (k + 1) a0) := by
 intro a0 k
 unfold impl_CubeStars.f
 exact LeO.bind (impl_cubeRoots.mono _ _) fun _ => LeO.ite (LeO.bind (impl_cubeTable.mono _ _ _) fun _ => LeO.bind (sumO_mono (fun i => sumO_mono (fun j => sumO_mono (fun l => starOne_mono _ _ _ _ _ _ _) _) _) _) fun _ => LeO.refl _) (LeO.refl _)
set_option maxHeartbeats 8000000 in
set_option maxRecDepth 100000 in
theorem impl_CubeStars.calls (n : Nat) (p : Int) (r1 : Int) (r2 : Bool) (w : World) (h : impl_CubeStars.f n p = some (r1, r2)) :
  Calls Try.prog 39 #[.int .i64 p] w fun e w' => e = .returned (.tuple #[.int .i64 r1, .bool r2]) ∧ Below w.heap.size w w' := by
 replace h := Option.bind_eq_some_iff.1 h
 obtain ⟨t, ht, h⟩ := h
 have HT := am ht
 have H := am h
 clear ht h
 by_cases h3 : t.length = 3
 ·have H2 : Aside0 (((impl_cubeTable.f n p t).bind fun T => (sumO (star1 n p t T) 27).bind fun s => some (s, true)) = some (r1, r2)) := am (by have h := H.out; rwa [if_pos h3] at h)
  clear H
  obtain ⟨T, hT, h⟩ := Option.bind_eq_some_iff.1 H2.out
  clear H2
  replace h := Option.bind_eq_some_iff.1 h
  obtain ⟨s, hs, h⟩ := h
  obtain ⟨rfl, rfl⟩ : s = r1 ∧ true = r2 := by simpa using h
  have HTF := am hT
  have HS := am hs
  have htl := (tab_facts hT).1
  clear hT h hs
  obtain ⟨C, hC⟩ : ∃ C : Array Value, C = (T.map Value.bool).toArray := ⟨_, rfl⟩
  have hCs : C.size = 729 := by rw [hC]; simp [htl]
  have hCq : ∀ j, j < 729 → C[j]? = some (.bool (T.getD j false)) := by
   intro j hj
   rw [hC, List.getElem?_toArray, List.getElem?_map, List.getElem?_eq_getElem (by omega : j < T.length), List.getD_eq_getElem?_getD, List.getElem?_eq_getElem (by omega : j < T.length)]
   simp
  have hC1 : C.all (·.oneCell') = true := by
   rw [Array.all_eq_true]
   intro i hi
   have := hCq i (by omega)
   rw [Array.getElem?_eq_getElem hi] at this
   rw [Option.some.inj this]; rfl
  have hzs : (Try.zeroCells56).size = 729 := by rw [zero56]; simp
  have hinf : (Try.prog.info? 56).map (·.size) = some 729 := by kernel_rfl
  have hst : ∀ W : World, Sem.run Try.prog (storeCells ⟨W.heap.size, 0, none⟩ C.toList) (W.alloc (.cells Try.zeroCells56 56)) = .ok () (W.alloc (.cells C 56)) := by
   intro W
   exact run_storeCells_new (P := Try.prog) W 56 Try.zeroCells56 C (by rw [hCs]; exact hinf) (by rw [hzs, hCs]) hC1
  have HC := am hC
  have HCQ := am hCq
  clear hzs hinf hC1 hCq hC htl
  have hq : ((t.length : Int) != 3) = false := by simp; omega
  clear h3
  go_enter Try.func39, Try.ntmps39
  go_wp2_with fail
  refine (impl_cubeRoots.calls n p t _ HT.out).mono ?_
  rintro e w1 ⟨v0, rfl, hv, hb⟩
  obtain ⟨B1, d1, e1⟩ := Kd.R_slice hv
  subst e1
  have HB1 := am hb
  have HV1 := am (Kd.R_reads' hv)
  clear hv hb
  go_wp2_with fail
  refine (impl_cubeTable.calls n p B1 d1 t T _ ?_ ?_ HTF.out).mono ?_
  ·exact Kd.C_below HV1.out.2.2 gs
  ·exact HV1.out.2.1
  rintro e w3 ⟨rfl, hb⟩
  rw [← HC.out]
  have HB3 := am (below_step HB1.out hb)
  have HR3 := am (Kd.C_below HV1.out.2.2 hb)
  have HL := am HV1.out.2.1
  clear hb HV1 HB1
  go_wp2_with fail
  obtain ⟨b, hb⟩ : ∃ b : Nat, b = w3.heap.size := ⟨_, rfl⟩
  rw [← hb]
  have HBS := am hb
  go_loopw [6, 19] (fun x6 x19 w' => ∃ (i : Nat) (s0 : Int), i ≤ 27 ∧ x6 = .int .i64 s0 ∧ x19 = .int .i64 i ∧ sumO (star1 n p t T) i = some s0 ∧ Below w.heap.size w w' ∧ w'.heap[b]? = some (.cells C 56 (0, 0)) ∧ Kd.C (Kd.int .i64) w' B1 t.length t) (fun _ x _ => 27 - (intOf x).toNat)
  case atStart => exact ⟨0, 0, by omega, rfl, rfl, rfl, HB3.out.alloc HB3.out.size _, by rw [HBS.out]; exact heap_alloc_last w3 _, Kd.C_below HR3.out gs⟩
  case round =>
   clear HB3 HR3 hst hb hq HBS
   obtain ⟨i, s0, hi, rfl, rfl, h0, hB, hT, hR⟩ := hrel
   have HB := am hB
   have HTB := am hT
   have HR := am hR
   have HI := am hi
   have H0 := am h0
   clear hB hT hR h0 hi
   by_cases hlt : i < 27
   ·have hd : decide ((i : Int) < 27) = true := decide_eq_true (by omega)
    have HLT := am hlt
    obtain ⟨a0, b0, ha0, hb0, hn0⟩ := sumO_step HS.out i hlt
    obtain rfl : a0 = s0 := by have := H0.out; rw [ha0] at this; exact Option.some.inj this
    have HN0 := am hn0
    have HB0 := am hb0
    have hbd0 := sumO_bound i a0 (fun j _ hj h => star1_bound (by omega) h) ha0
    have HD0 := am hbd0
    clear hlt ha0 hb0 hn0 hbd0 H0
    have hw0 : wrap64 ((i : Int) + 1) = ((i + 1 : Nat) : Int) := by have := HLT.out; unfold wrap64; omega
    go_wp2
    go_loopw [6, 23] (fun x6 x23 w' => ∃ (j : Nat) (s1 : Int), j ≤ i ∧ x6 = .int .i64 (a0 + s1) ∧ x23 = .int .i64 j ∧ sumO (star2 n p t T i) j = some s1 ∧ Below w.heap.size w w' ∧ w'.heap[b]? = some (.cells C 56 (0, 0)) ∧ Kd.C (Kd.int .i64) w' B1 t.length t) (fun _ x _ => 27 - (intOf x).toNat)
    case atStart => exact ⟨0, 0, by omega, by rw [Int.add_zero], rfl, rfl, HB.out, HTB.out, HR.out⟩
    case round =>
     clear HB HTB HR hd
     obtain ⟨j, s1, hj, rfl, rfl, h1, hB, hT, hR⟩ := hrel
     have HB := am hB
     have HTB := am hT
     have HR := am hR
     have HJ := am hj
     have H1 := am h1
     clear hB hT hR h1 hj
     by_cases hlt : j < i
     ·have hd : (j < i) = True := eq_true hlt
      have HJT := am hlt
      obtain ⟨a1, b1, ha1, hb1, hn1⟩ := sumO_step HB0.out j hlt
      obtain rfl : a1 = s1 := by have := H1.out; rw [ha1] at this; exact Option.some.inj this
      have HN1 := am hn1
      have HB1 := am hb1
      have hbd1 := sumO_bound j a1 (fun k _ hk h => star2_bound (by have := HLT.out; omega) h) ha1
      have HD1 := am hbd1
      clear hlt ha1 hb1 hn1 hbd1 H1
      have hw1 : wrap64 ((j : Int) + 1) = ((j + 1 : Nat) : Int) := by have := HLT.out; have := HJT.out; unfold wrap64; omega
      go_wp2
      go_loopw [6, 27] (fun x6 x27 w' => ∃ (k : Nat) (s2 : Int), k ≤ j ∧ x6 = .int .i64 (a0 + a1 + s2) ∧ x27 = .int .i64 k ∧ sumO (starOne n p t T i j) k = some s2 ∧ Below w.heap.size w w' ∧ w'.heap[b]? = some (.cells C 56 (0, 0)) ∧ Kd.C (Kd.int .i64) w' B1 t.length t) (fun _ x _ => 27 - (intOf x).toNat)
      case atStart => exact ⟨0, 0, by omega, by rw [Int.add_zero], rfl, rfl, HB.out, HTB.out, HR.out⟩
      case round =>
       clear HB HTB HR hd
       obtain ⟨k, s2, hk, rfl, rfl, h2, hB, hT, hR⟩ := hrel
       have HB := am hB
       have HTB := am hT
       have HR := am hR
       have HK := am hk
       have H2 := am h2
       clear hB hT hR h2 hk
       by_cases hlt : k < j
       ·have hd : (k < j) = True := eq_true hlt
        have HKT := am hlt
        obtain ⟨a2, b2, ha2, hb2, hn2⟩ := sumO_step HB1.out k hlt
        obtain rfl : a2 = s2 := by have := H2.out; rw [ha2] at this; exact Option.some.inj this
        have HN2 := am hn2
        have hbd2 := sumO_bound k a2 (fun _ _ _ h => starOne_bound h) ha2
        have HD2 := am hbd2
        have HB2 := am hb2
        clear hlt ha2 hb2 hn2 hbd2 H2
        have hw2 : wrap64 ((k : Int) + 1) = ((k + 1 : Nat) : Int) := by have := HLT.out; have := HJT.out; have := HKT.out; unfold wrap64; omega
        have hw3 : wrap64 (a0 + a1 + a2 + 1) = a0 + (a1 + (a2 + 1)) := by have := HLT.out; have := HJT.out; have := HKT.out; have := HD0.out; have := HD1.out; have := HD2.out; unfold wrap64; omega
        have p1 : (0 ≤ (i : Int)) = True := eq_true (by omega)
        have p2 : ((i : Int) < 27) = True := eq_true (by have := HLT.out; omega)
        have p3 : (0 ≤ (j : Int)) = True := eq_true (by omega)
        have p4 : ((j : Int) < 27) = True := eq_true (by have := HLT.out; have := HJT.out; omega)
        have p5 : (0 ≤ (k : Int)) = True := eq_true (by omega)
        have p6 : ((k : Int) < 27) = True := eq_true (by have := HLT.out; have := HJT.out; have := HKT.out; omega)
        have hx1 : wr.cell? ⟨b, i * 27 + j, none⟩ = some (.bool (T.getD (27 * i + j) false)) := by
         rw [cell_of_row _ _ _ _ _ _ HTB.out, Nat.mul_comm]; exact HCQ.out _ (by have := HLT.out; have := HJT.out; omega)
        have hx2 : wr.cell? ⟨b, i * 27 + k, none⟩ = some (.bool (T.getD (27 * i + k) false)) := by
         rw [cell_of_row _ _ _ _ _ _ HTB.out, Nat.mul_comm]; exact HCQ.out _ (by have := HLT.out; have := HJT.out; have := HKT.out; omega)
        have hx3 : wr.cell? ⟨b, j * 27 + k, none⟩ = some (.bool (T.getD (27 * j + k) false)) := by
         rw [cell_of_row _ _ _ _ _ _ HTB.out, Nat.mul_comm]; exact HCQ.out _ (by have := HLT.out; have := HJT.out; have := HKT.out; omega)
        obtain ⟨u1, hu1⟩ : ∃ u : Bool, T.getD (27 * i + j) false = u := ⟨_, rfl⟩
        obtain ⟨u2, hu2⟩ : ∃ u : Bool, T.getD (27 * i + k) false = u := ⟨_, rfl⟩
        obtain ⟨u3, hu3⟩ : ∃ u : Bool, T.getD (27 * j + k) false = u := ⟨_, rfl⟩
        rw [hu1] at hx1
        rw [hu2] at hx2
        rw [hu3] at hx3
        have HB2' : Aside0 ((if u1 = true ∧ u2 = true ∧ u3 = true then (impl_cubeLine.f n p t (i : Int)).bind fun a => (impl_cubeLine.f n p t (j : Int)).bind fun b => (impl_commonPlace.f n p a b).bind fun s => (impl_cubeLine.f n p t (k : Int)).bind fun l => (impl_isOn.f n p s l).bind fun o => some (if o = true then (1 : Int) else 0) else some 0) = some b2) := am (by have := HB2.out; unfold starOne at this; rwa [hu1, hu2, hu3] at this)
        clear hu1 hu2 hu3 HB2
        by_cases hall : u1 = true ∧ u2 = true ∧ u3 = true
        ·obtain ⟨rfl, rfl, rfl⟩ := hall
         have h := HB2'.out
         clear HB2'
         rw [if_pos ⟨rfl, rfl, rfl⟩] at h
         replace h := bs h
         obtain ⟨l1, HL1, h⟩ := h
         replace h := bs h
         obtain ⟨l2, HL2, h⟩ := h
         replace h := bs h
         obtain ⟨st_, HST, h⟩ := h
         replace h := bs h
         obtain ⟨l3, HL3, h⟩ := h
         replace h := bs h
         obtain ⟨o, HO, h⟩ := h
         have HV := am (Option.some.inj h)
         clear h
         go_wp2_with fail
         clear hx1 hx2 hx3
         refine (impl_cubeLine.calls n p B1 d1 t (i : Int) l1 _ ?_ ?_ HL1.out).mono ?_
         ·exact HR.out
         ·exact HL.out
         rintro e w4 ⟨v0, rfl, hv, hb⟩
         obtain ⟨A1, c1, e1⟩ := Kd.R_slice hv
         subst e1
         have HX4 := am hb
         have HV4 := am (Kd.R_reads' hv)
         clear hv hb
         go_wp2_with fail
         refine (impl_cubeLine.calls n p B1 d1 t (j : Int) l2 _ ?_ ?_ HL2.out).mono ?_
         ·exact Kd.C_below HR.out HX4.out
         ·exact HL.out
         rintro e w5 ⟨v0, rfl, hv, hb⟩
         obtain ⟨A2, c2, e1⟩ := Kd.R_slice hv
         subst e1
         have HX5 := am (below_step HX4.out hb)
         have HV5 := am (Kd.R_reads' hv)
         have HC4 := am (Kd.C_below HV4.out.2.2 hb)
         clear hv hb
         go_wp2_with fail
         refine (impl_commonPlace.calls n p A1 c1 l1 A2 c2 l2 st_ _ ?_ ?_ ?_ ?_ HST.out).mono ?_
         ·exact HC4.out
         ·exact HV4.out.2.1
         ·exact HV5.out.2.2
         ·exact HV5.out.2.1
         rintro e w6 ⟨v0, rfl, hv, hb⟩
         obtain ⟨A3, c3, e1⟩ := Kd.R_slice hv
         subst e1
         have HX6 := am (below_step HX5.out hb)
         have HV6 := am (Kd.R_reads' hv)
         clear hv hb
         go_wp2_with fail
         refine (impl_cubeLine.calls n p B1 d1 t (k : Int) l3 _ ?_ ?_ HL3.out).mono ?_
         ·exact Kd.C_below HR.out HX6.out
         ·exact HL.out
         rintro e w7 ⟨v0, rfl, hv, hb⟩
         obtain ⟨A4, c4, e1⟩ := Kd.R_slice hv
         subst e1
         have HX7 := am (below_step HX6.out hb)
         have HV7 := am (Kd.R_reads' hv)
         have HC6 := am (Kd.C_below HV6.out.2.2 hb)
         clear hv hb
         go_wp2_with fail
         refine (impl_isOn.calls n p (fun k_ => k_ < w7.heap.size) A3 c3 st_ (fun k_ => k_ < w7.heap.size) A4 c4 l3 o _ ?_ ?_ HO.out).mono ?_
         ·exact Kd.V_mk HV6.out.2.1 (Kd.C_F (Kd.heap_int .i64) HC6.out)
         ·exact Kd.V_mk HV7.out.2.1 (Kd.C_F (Kd.heap_int .i64) HV7.out.2.2)
         rintro e w8 ⟨rfl, hb⟩
         have HX8 := am (below_step HX7.out hb)
         clear hb
         have HT8 := am ((HX8.out.block _ (Array.getElem?_eq_some_iff.1 HTB.out).1).trans HTB.out)
         have HB8 := am (below_step HB.out HX8.out)
         have HR8 := am (Kd.C_below HR.out HX8.out)
         cases o with
         | false =>
          have hv2 : (0 : Int) = b2 := HV.out
          subst hv2; go_wp2
          go_roundw
          case measure => (try rw [hw2]); simp only [intOf]; have := HLT.out; have := HJT.out; have := HKT.out; omega
          case rel => exact ⟨k + 1, a2, by have := HKT.out; omega, rfl, by first | rw [hw2] | go_num, by rw [HN2.out, Int.add_zero], HB8.out, HT8.out, HR8.out⟩
         | true =>
          have hv2 : (1 : Int) = b2 := HV.out
          subst hv2; go_wp2
          go_roundw
          case measure => (try rw [hw2]); simp only [intOf]; have := HLT.out; have := HJT.out; have := HKT.out; omega
          case rel => exact ⟨k + 1, a2 + 1, by have := HKT.out; omega, by rw [hw3, Int.add_assoc], by first | rw [hw2] | go_num, HN2.out, HB8.out, HT8.out, HR8.out⟩
        ·have hz : b2 = 0 := by have h := HB2'.out; rw [if_neg hall] at h; exact (Option.some.inj h).symm
         subst hz; clear HB2'
         rw [Int.add_zero] at HN2
         cases u1 with
         | false =>
          clear hall hx2 hx3; go_wp2
          go_roundw
          case measure => (try rw [hw2]); simp only [intOf]; have := HLT.out; have := HJT.out; have := HKT.out; omega
          case rel => exact ⟨k + 1, a2, by have := HKT.out; omega, rfl, by first | rw [hw2] | go_num, HN2.out, HB.out, HTB.out, HR.out⟩
         | true =>
          cases u2 with
          | false =>
           clear hall hx3; go_wp2
           go_roundw
           case measure => (try rw [hw2]); simp only [intOf]; have := HLT.out; have := HJT.out; have := HKT.out; omega
           case rel => exact ⟨k + 1, a2, by have := HKT.out; omega, rfl, by first | rw [hw2] | go_num, HN2.out, HB.out, HTB.out, HR.out⟩
          | true =>
           cases u3 with
           | true => exact absurd ⟨rfl, rfl, rfl⟩ hall
           | false =>
            clear hall; go_wp2
            go_roundw
            case measure => (try rw [hw2]); simp only [intOf]; have := HLT.out; have := HJT.out; have := HKT.out; omega
            case rel => exact ⟨k + 1, a2, by have := HKT.out; omega, rfl, by first | rw [hw2] | go_num, HN2.out, HB.out, HTB.out, HR.out⟩
       ·have hke : k = j := by have := HK.out; omega
        subst hke
        have hd : (k < k) = False := eq_false (by omega)
        obtain rfl : b1 = s2 := by have h := HB1.out; unfold star2 at h; rw [H2.out] at h; exact (Option.some.inj h).symm
        clear hlt; go_wp2
        go_roundw
        case measure => (try rw [hw1]); simp only [intOf]; have := HLT.out; have := HJT.out; omega
        case rel => exact ⟨k + 1, a1 + b1, by have := HJT.out; omega, by rw [Int.add_assoc], by first | rw [hw1] | go_num, HN1.out, HB.out, HTB.out, HR.out⟩
     ·have hje : j = i := by have := HJ.out; omega
      subst hje
      have hd : (j < j) = False := eq_false (by omega)
      obtain rfl : b0 = s1 := by have h := HB0.out; unfold star1 at h; rw [H1.out] at h; exact (Option.some.inj h).symm
      clear hlt; go_wp2
      go_roundw
      case measure => (try rw [hw0]); simp only [intOf]; have := HLT.out; omega
      case rel => exact ⟨j + 1, a0 + b0, by have := HLT.out; omega, rfl, by first | rw [hw0] | go_num, HN0.out, HB.out, HTB.out, HR.out⟩
   ·have hie : i = 27 := by have := HI.out; omega
    subst hie
    have hd : decide (((27 : Nat) : Int) < 27) = false := rfl
    obtain rfl : s0 = s := by have h := H0.out; rw [HS.out] at h; exact (Option.some.inj h).symm
    clear hlt; go_wp2
    go_ret2
    exact ⟨rfl, HB.out⟩
 ·obtain ⟨rfl, rfl⟩ : 0 = r1 ∧ false = r2 := by have h := H.out; rw [if_neg h3] at h; simpa using h
  go_enter Try.func39, Try.ntmps39
  go_wp2_with fail
  refine (impl_cubeRoots.calls n p t _ HT.out).mono ?_
  rintro e w1 ⟨v0, rfl, hv, hb⟩
  obtain ⟨B1, d1, e1⟩ := Kd.R_slice hv
  subst e1
  have HB1 := am hb
  clear hv hb
  have hq : ((t.length : Int) != 3) = true := by simp; omega
  clear h3; go_wp2
  go_ret2
  exact ⟨rfl, HB1.out⟩/-! ### laws_FnExactCubeStars: function 10 -/
def laws_FnExactCubeStars.f (k : Nat) (a0 : Int) : Option (Bool) := (spec_CubeStars.f k a0).bind fun bt613 => ((impl_CubeStars.f k a0).bind fun bt615 => (if bt615.1 = bt613.1 then (if (bt615.2 != bt613.2) = true then (some false) else (some true)) else (some false)))
theorem laws_FnExactCubeStars.mono : ∀ a0 k, LeO (laws_FnExactCubeStars.f k a0) (laws_FnExactCubeStars.f (k + 1) a0) := by
 intro a0 k
 unfold laws_FnExactCubeStars.f
 repeat' first | (with_reducible first | apply impl_CubeStars.mono | apply spec_CubeStars.mono | exact LeO.refl _ | exact LeO.none _ | refine LeO.ite ?_ ?_ | refine LeO.bind ?_ (fun _ => ?_)) | (first | apply impl_CubeStars.mono | apply spec_CubeStars.mono | exact LeO.none _ | refine LeO.ite ?_ ?_ | refine LeO.bind ?_ (fun _ => ?_))
set_option maxHeartbeats 8000000 in
set_option maxRecDepth 100000 in
theorem laws_FnExactCubeStars.calls (k : Nat) (a0 : Int) (r : Bool) (w : World) (hT : r = true) (h : laws_FnExactCubeStars.f k a0 = some r) :
  Calls Try.prog 10 #[.int .i64 a0] w fun e w' => e = .returned (.bool r) ∧ Below w.heap.size w w' := by
 have HT := am hT
 clear hT
 have HB := am (Below.refl w.heap.size w)
 have H : ((spec_CubeStars.f k a0).bind fun bt613 => ((impl_CubeStars.f k a0).bind fun bt615 => (if bt615.1 = bt613.1 then (if (bt615.2 != bt613.2) = true then (some false) else (some true)) else (some false)))) = some r := h
 clear h; replace H := bs H
 obtain ⟨⟨t613, t614⟩, A2, H⟩ := H
 dsimp only at H
 replace H := bs H
 obtain ⟨⟨t615, t616⟩, A3, H⟩ := H
 dsimp only at H
 by_cases c4 : t615 = t613
 ·rw [if_pos c4] at H
  have c4b0 := beq_iff_eq.mpr c4; have c4b1 := bne_eq_false_iff_eq.mpr c4; clear c4
  by_cases c5 : (t616 != t614) = true
  ·rw [if_pos c5] at H
   have c5b0 : (t616 != t614) = true := c5
   (try (have c5b1 : decide (t616 = t614) = false := by simpa using c5))
   (try (have c5b2 : (t616 == t614) = false := by simpa using c5))
   (try (have c5b3 : ¬ (t616 = t614) := by simpa using c5))
   clear c5
   exact absurd (H.trans (congrArg some HT.out)) (by simp)
  ·rw [if_neg c5] at H
   have c5b0 : (t616 != t614) = false := by simpa using c5
   (try (have c5b1 : decide (t616 = t614) = true := by simpa using c5))
   (try (have c5b2 : (t616 == t614) = true := by simpa using c5))
   clear c5; obtain rfl := Option.some.inj H
   go_enter Try.func10, Try.ntmps10
   go_wp2_with (first | ((with_reducible refine gate_callee (f := 38) rfl ?_); refine gl 9 Try.func38 #[.int .i64 a0] ?_; (with_reducible refine (spec_CubeStars.calls k a0 t613 t614 _ A2.out).mono ?_); rintro e w6 ⟨rfl, hb⟩; refine ⟨_, rfl, ?_⟩; replace HB := bq HB hb; (try clear hb)) | ((with_reducible refine gate_callee (f := 39) rfl ?_); refine gl 14 Try.func39 #[.int .i64 a0] ?_; (with_reducible refine (impl_CubeStars.calls k a0 t615 t616 _ A3.out).mono ?_); rintro e w7 ⟨rfl, hb⟩; refine ⟨_, rfl, ?_⟩; replace HB := bq HB hb; (try clear hb)))
   go_ret
   exact ⟨fq, bw HB⟩
 ·rw [if_neg c4] at H
  have c4b0 := beq_eq_false_iff_ne.mpr c4; have c4b1 := bne_iff_ne.mpr c4
  exact absurd (H.trans (congrArg some HT.out)) (by simp)
/-- THE ONE PURE STATEMENT of laws_FnExactCubeStars: yours. -/
def laws_FnExactCubeStars.Pure : Prop := ∀ (a0 : Int), (Lit.int .i64 a0).wf = true → ∃ k, laws_FnExactCubeStars.f k a0 = some true
theorem laws_FnExactCubeStars.walk (P : laws_FnExactCubeStars.Pure) (a0 : Int) (w : World) (w0 : (Lit.int .i64 a0).wf = true) :
  Calls Try.prog 10 #[.int .i64 a0] w fun e w' => e = .returned (.bool true) ∧ Below w.heap.size w w' := by
 obtain ⟨k, h⟩ := P a0 w0
 refine (laws_FnExactCubeStars.calls k a0 true w rfl h).mono ?_
 rintro e w' ⟨rfl, hd⟩
 exact ⟨rfl, hd⟩/-! ### spec_DrawCubeStars: function 40 -/
def spec_DrawCubeStars.f (k : Nat) (l0 : List Int) : Option (Int) := (spec_l92Cube.f k l0).bind fun bt617 => (some bt617.1)
theorem spec_DrawCubeStars.mono : ∀ a0 k, LeO (spec_DrawCubeStars.f k a0) (spec_DrawCubeStars.f (k + 1) a0) := by
 intro a0 k
 unfold spec_DrawCubeStars.f
 repeat' first | (with_reducible first | apply spec_l92Cube.mono | exact LeO.refl _ | exact LeO.none _ | refine LeO.ite ?_ ?_ | refine LeO.bind ?_ (fun _ => ?_)) | (first | apply spec_l92Cube.mono | exact LeO.none _ | refine LeO.ite ?_ ?_ | refine LeO.bind ?_ (fun _ => ?_))
set_option maxHeartbeats 8000000 in
set_option maxRecDepth 100000 in
theorem spec_DrawCubeStars.calls (k : Nat) (A0 : Option Addr) (c0 : Nat) (l0 : List Int) (r : Int) (w : World) (hr0 : Kd.C (Kd.int .u8) w A0 l0.length l0) (hc0 : l0.length ≤ c0) (h : spec_DrawCubeStars.f k l0 = some r) :
  Calls Try.prog 40 #[.slice A0 l0.length c0] w fun e w' => e = .returned (.int .i64 r) ∧ Below w.heap.size w w' := by
 have HR0 := am hr0
 have HC0 := am hc0
 clear hr0 hc0
 have HB := am (Below.refl w.heap.size w)
 have H : ((spec_l92Cube.f k l0).bind fun bt617 => (some bt617.1)) = some r := h
 clear h; replace H := bs H
 obtain ⟨⟨t617, t618⟩, A2, H⟩ := H
 dsimp only at H
 obtain rfl := Option.some.inj H
 go_enter Try.func40, Try.ntmps40
 go_wp2_with (first | ((with_reducible refine gate_callee (f := 70) rfl ?_); refine gl 7 Try.func70 #[.slice A0 l0.length c0] ?_; (with_reducible refine (spec_l92Cube.calls k _ _ l0 t617 t618 _ ?_ ?_ A2.out).mono ?_); exact wC HR0; exact HC0.out; rintro e w3 ⟨rfl, hb⟩; refine ⟨_, rfl, ?_⟩; replace HB := bq HB hb; (try clear hb)))
 go_ret
 exact ⟨fq, bw HB⟩/-! ### laws_FnCubeStars: function 11 -/
def laws_FnCubeStars.f (k : Nat) (l0 : List Int) : Option (Bool) := if (l0.length : Int) > 1048576 then (some true) else ((spec_DrawCubeStars.f k l0).bind fun t619 => ((impl_CubeStars.f k t619).bind fun bt620 => ((spec_CubeStars.f k t619).bind fun bt622 => (if (bt620.2 != bt622.2) = true then (if (bt620.2 == bt622.2) = true then (some (bt620.1 == bt622.1)) else (some false)) else (if bt620.1 = bt622.1 then (if bt620.2 = true then (some (bt620.1 == 18)) else (if (bt620.2 == bt622.2) = true then (some (bt620.1 == bt622.1)) else (some false))) else (if (bt620.2 == bt622.2) = true then (some (bt620.1 == bt622.1)) else (some false)))))))
theorem laws_FnCubeStars.mono : ∀ a0 k, LeO (laws_FnCubeStars.f k a0) (laws_FnCubeStars.f (k + 1) a0) := by
 intro a0 k
 unfold laws_FnCubeStars.f
 repeat' first | (with_reducible first | apply impl_CubeStars.mono | apply spec_CubeStars.mono | apply spec_DrawCubeStars.mono | exact LeO.refl _ | exact LeO.none _ | refine LeO.ite ?_ ?_ | refine LeO.bind ?_ (fun _ => ?_)) | (first | apply impl_CubeStars.mono | apply spec_CubeStars.mono | apply spec_DrawCubeStars.mono | exact LeO.none _ | refine LeO.ite ?_ ?_ | refine LeO.bind ?_ (fun _ => ?_))
set_option maxHeartbeats 8000000 in
set_option maxRecDepth 100000 in
theorem laws_FnCubeStars.calls (k : Nat) (A0 : Option Addr) (c0 : Nat) (l0 : List Int) (r : Bool) (w : World) (hr0 : Kd.C (Kd.int .u8) w A0 l0.length l0) (hc0 : l0.length ≤ c0) (hT : r = true) (h : laws_FnCubeStars.f k l0 = some r) :
  Calls Try.prog 11 #[.slice A0 l0.length c0] w fun e w' => e = .returned (.bool r) ∧ Below w.heap.size w w' := by
 have HT := am hT
 clear hT
 have HR0 := am hr0
 have HC0 := am hc0
 clear hr0 hc0
 have HB := am (Below.refl w.heap.size w)
 have H : (if (l0.length : Int) > 1048576 then (some true) else ((spec_DrawCubeStars.f k l0).bind fun t619 => ((impl_CubeStars.f k t619).bind fun bt620 => ((spec_CubeStars.f k t619).bind fun bt622 => (if (bt620.2 != bt622.2) = true then (if (bt620.2 == bt622.2) = true then (some (bt620.1 == bt622.1)) else (some false)) else (if bt620.1 = bt622.1 then (if bt620.2 = true then (some (bt620.1 == 18)) else (if (bt620.2 == bt622.2) = true then (some (bt620.1 == bt622.1)) else (some false))) else (if (bt620.2 == bt622.2) = true then (some (bt620.1 == bt622.1)) else (some false)))))))) = some r := h
 clear h
 by_cases c2 : (l0.length : Int) > 1048576
 ·rw [if_pos c2] at H
  have c2b0 := decide_eq_true c2
  have c2b1 : decide (1048576 < l0.length) = true := decide_eq_true (by omega)
  clear c2; obtain rfl := Option.some.inj H
  go_enter Try.func11, Try.ntmps11
  go_wp2; go_ret
  exact ⟨fq, bw HB⟩
 ·rw [if_neg c2] at H
  have c2b0 := decide_eq_false c2
  have c2b1 : decide (1048576 < l0.length) = false := decide_eq_false (by omega)
  clear c2; replace H := bs H; obtain ⟨t619, A3, H⟩ := H; replace H := bs H
  obtain ⟨⟨t620, t621⟩, A4, H⟩ := H
  dsimp only at H
  replace H := bs H
  obtain ⟨⟨t622, t623⟩, A5, H⟩ := H
  dsimp only at H
  by_cases c6 : (t621 != t623) = true
  ·rw [if_pos c6] at H
   have c6b0 : (t621 != t623) = true := c6
   (try (have c6b1 : decide (t621 = t623) = false := by simpa using c6))
   (try (have c6b2 : (t621 == t623) = false := by simpa using c6))
   (try (have c6b3 : ¬ (t621 = t623) := by simpa using c6))
   clear c6
   by_cases c7 : (t621 == t623) = true
   ·rw [if_pos c7] at H
    have c7b0 : (t621 == t623) = true := c7
    exact absurd (eq_of_beq c7b0) (by simpa using c6b0)
   ·rw [if_neg c7] at H
    have c7b0 : (t621 == t623) = false := by simpa using c7
    (try (have c7b1 : decide (t621 = t623) = false := by simpa using c7))
    (try (have c7b2 : (t621 == t623) = false := by simpa using c7))
    (try (have c7b3 : ¬ (t621 = t623) := by simpa using c7))
    clear c7
    exact absurd (H.trans (congrArg some HT.out)) (by simp)
  ·rw [if_neg c6] at H
   have c6b0 : (t621 != t623) = false := by simpa using c6
   (try (have c6b1 : decide (t621 = t623) = true := by simpa using c6))
   (try (have c6b2 : (t621 == t623) = true := by simpa using c6))
   clear c6
   by_cases c11 : t620 = t622
   ·rw [if_pos c11] at H
    have c11b0 := beq_iff_eq.mpr c11; have c11b1 := bne_eq_false_iff_eq.mpr c11; clear c11
    by_cases c12 : t621 = true
    ·subst c12
     rw [if_pos rfl] at H
     obtain rfl := Option.some.inj H
     go_enter Try.func11, Try.ntmps11
     go_wp2_with (first | ((with_reducible refine gate_callee (f := 40) rfl ?_); refine gl 12 Try.func40 #[.slice A0 l0.length c0] ?_; (with_reducible refine (spec_DrawCubeStars.calls k _ _ l0 t619 _ ?_ ?_ A3.out).mono ?_); exact wC HR0; exact HC0.out; rintro e w13 ⟨rfl, hb⟩; refine ⟨_, rfl, ?_⟩; replace HB := bq HB hb; (try clear hb)) | ((with_reducible refine gate_callee (f := 39) rfl ?_); refine gl 15 Try.func39 #[.int .i64 t619] ?_; (with_reducible refine (impl_CubeStars.calls k t619 t620 true _ A4.out).mono ?_); rintro e w14 ⟨rfl, hb⟩; refine ⟨_, rfl, ?_⟩; replace HB := bq HB hb; (try clear hb)) | ((with_reducible refine gate_callee (f := 38) rfl ?_); refine gl 20 Try.func38 #[.int .i64 t619] ?_; (with_reducible refine (spec_CubeStars.calls k t619 t622 t623 _ A5.out).mono ?_); rintro e w15 ⟨rfl, hb⟩; refine ⟨_, rfl, ?_⟩; replace HB := bq HB hb; (try clear hb)))
     go_ret
     exact ⟨fq, bw HB⟩
    ·replace c12 := Bool.eq_false_iff.mpr c12
     subst c12
     rw [if_neg (show ¬ (false = true) by decide)] at H
     by_cases c16 : (false == t623) = true
     ·rw [if_pos c16] at H
      have c16b0 : (false == t623) = true := c16
      (try (have c16b1 : decide (false = t623) = true := by simpa using c16))
      (try (have c16b2 : (false == t623) = true := by simpa using c16))
      clear c16; obtain rfl := Option.some.inj H
      go_enter Try.func11, Try.ntmps11
      go_wp2_with (first | ((with_reducible refine gate_callee (f := 40) rfl ?_); refine gl 12 Try.func40 #[.slice A0 l0.length c0] ?_; (with_reducible refine (spec_DrawCubeStars.calls k _ _ l0 t619 _ ?_ ?_ A3.out).mono ?_); exact wC HR0; exact HC0.out; rintro e w17 ⟨rfl, hb⟩; refine ⟨_, rfl, ?_⟩; replace HB := bq HB hb; (try clear hb)) | ((with_reducible refine gate_callee (f := 39) rfl ?_); refine gl 15 Try.func39 #[.int .i64 t619] ?_; (with_reducible refine (impl_CubeStars.calls k t619 t620 false _ A4.out).mono ?_); rintro e w18 ⟨rfl, hb⟩; refine ⟨_, rfl, ?_⟩; replace HB := bq HB hb; (try clear hb)) | ((with_reducible refine gate_callee (f := 38) rfl ?_); refine gl 20 Try.func38 #[.int .i64 t619] ?_; (with_reducible refine (spec_CubeStars.calls k t619 t622 t623 _ A5.out).mono ?_); rintro e w19 ⟨rfl, hb⟩; refine ⟨_, rfl, ?_⟩; replace HB := bq HB hb; (try clear hb)))
      go_ret
      exact ⟨fq, bw HB⟩
     ·rw [if_neg c16] at H
      have c16b0 : (false == t623) = false := by simpa using c16
      (try (have c16b1 : decide (false = t623) = false := by simpa using c16))
      (try (have c16b2 : (false == t623) = false := by simpa using c16))
      (try (have c16b3 : ¬ (false = t623) := by simpa using c16))
      clear c16
      exact absurd (H.trans (congrArg some HT.out)) (by simp)
   ·rw [if_neg c11] at H
    have c11b0 := beq_eq_false_iff_ne.mpr c11; have c11b1 := bne_iff_ne.mpr c11
    by_cases c20 : (t621 == t623) = true
    ·rw [if_pos c20] at H
     have c20b0 : (t621 == t623) = true := c20
     (try (have c20b1 : decide (t621 = t623) = true := by simpa using c20))
     (try (have c20b2 : (t621 == t623) = true := by simpa using c20))
     clear c20; obtain rfl := Option.some.inj H
     go_enter Try.func11, Try.ntmps11
     go_wp2_with (first | ((with_reducible refine gate_callee (f := 40) rfl ?_); refine gl 12 Try.func40 #[.slice A0 l0.length c0] ?_; (with_reducible refine (spec_DrawCubeStars.calls k _ _ l0 t619 _ ?_ ?_ A3.out).mono ?_); exact wC HR0; exact HC0.out; rintro e w21 ⟨rfl, hb⟩; refine ⟨_, rfl, ?_⟩; replace HB := bq HB hb; (try clear hb)) | ((with_reducible refine gate_callee (f := 39) rfl ?_); refine gl 15 Try.func39 #[.int .i64 t619] ?_; (with_reducible refine (impl_CubeStars.calls k t619 t620 t621 _ A4.out).mono ?_); rintro e w22 ⟨rfl, hb⟩; refine ⟨_, rfl, ?_⟩; replace HB := bq HB hb; (try clear hb)) | ((with_reducible refine gate_callee (f := 38) rfl ?_); refine gl 20 Try.func38 #[.int .i64 t619] ?_; (with_reducible refine (spec_CubeStars.calls k t619 t622 t623 _ A5.out).mono ?_); rintro e w23 ⟨rfl, hb⟩; refine ⟨_, rfl, ?_⟩; replace HB := bq HB hb; (try clear hb)))
     go_ret
     exact ⟨fq, bw HB⟩
    ·rw [if_neg c20] at H
     have c20b0 : (t621 == t623) = false := by simpa using c20
     (try (have c20b1 : decide (t621 = t623) = false := by simpa using c20))
     (try (have c20b2 : (t621 == t623) = false := by simpa using c20))
     (try (have c20b3 : ¬ (t621 = t623) := by simpa using c20))
     clear c20
     exact absurd (H.trans (congrArg some HT.out)) (by simp)
/-- THE ONE PURE STATEMENT of laws_FnCubeStars: yours. -/
def laws_FnCubeStars.Pure : Prop := ∀ (l0 : List Int), l0.length ≤ maxLen → l0.length * 1 ≤ 140737488351232 → (∀ x ∈ l0, (Lit.int .u8 x).wf = true) → ∃ k, laws_FnCubeStars.f k l0 = some true
theorem laws_FnCubeStars.walk (P : laws_FnCubeStars.Pure) (a0 : Option Addr) (len0 cap0 : Nat) (z0 : List Int) (w : World) (w0 : (a0 = none ∧ len0 = 0 ∧ cap0 = 0 ∧ z0 = []) ∨ ∃ x, a0 = some x ∧ len0 ≤ cap0 ∧ cap0 ≤ maxLen ∧ z0.length = cap0 ∧ (∀ i, i < z0.length → w.cell? (x.add i) = some (.int .u8 (z0.getD i 0))) ∧ ∀ n ∈ z0, (Lit.int .u8 n).wf = true) (y0 : len0 * 1 ≤ 140737488351232) :
  Calls Try.prog 11 #[.slice a0 len0 cap0] w fun e w' => e = .returned (.bool true) ∧ Below w.heap.size w w' := by
 obtain ⟨l0, rfl, hr0, hm0, hw0, hc0⟩ := ReadsInt.ofRowC w0
 obtain ⟨k, h⟩ := P l0 hm0 y0 hw0
 refine (laws_FnCubeStars.calls k _ _ l0 true w (Kd.C_of_reads (d := (0 : Int)) (h1 := fun _ => rfl) hr0) hc0 rfl h).mono ?_
 rintro e w' ⟨rfl, hd⟩
 exact ⟨rfl, hd⟩
end Go.Proofs.Ytmenehnfgenlpaa.PA

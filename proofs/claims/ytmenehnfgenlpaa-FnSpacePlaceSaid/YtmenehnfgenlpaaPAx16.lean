-- Written by xprint.py, a program of this claim's own (over the kit's print.py)
import Derived.Test.YtmenehnfgenlpaaPAx0
import Derived.Test.YtmenehnfgenlpaaPAx1
import Derived.Test.YtmenehnfgenlpaaPAx14
import Derived.Test.YtmenehnfgenlpaaPAx15
import Derived.BigQuiet
import Derived.Deep.QuietTactic
namespace Go.Proofs.Ytmenehnfgenlpaa.PA
open Go.RowKit Go.Proofs.YtmenehnfgenlpaaW.PrintWords Go.Proofs.YtmenehnfgenlpaaW.PrintLast Go.Proofs.YtmenehnfgenlpaaW.PrintMore
attribute [local go_sem] max2_int min2_int max_two min_two max_three min_three max_four min_four   -- for this text's walks alone
set_option linter.unusedVariables false
set_option linter.unusedSimpArgs false

/-! ### spec_CubeLine: function 32 -/
def spec_CubeLine.f (k : Nat) (a0 : Int) (a1 : Int) : Option (List Int × Bool) := (spec_CubeRoots.f k a0).bind fun bt518 => (if bt518.2 = true then ((spec_l6In.f a1 0 26).bind fun t522 => (if t522 = true then ((spec_l8Line.f k a0 bt518.1 a1).bind fun t523 => (some (t523, true))) else (some ((([] : List Int)), false)))) else (some ((([] : List Int)), false)))
theorem spec_CubeLine.mono : ∀ a0 a1 k, LeO (spec_CubeLine.f k a0 a1) (spec_CubeLine.f (k + 1) a0 a1) := by
 intro a0 a1 k
 unfold spec_CubeLine.f
 repeat' first | (with_reducible first | apply spec_CubeRoots.mono | apply spec_l8Line.mono | exact LeO.refl _ | exact LeO.none _ | refine LeO.ite ?_ ?_ | refine LeO.bind ?_ (fun _ => ?_)) | (first | apply spec_CubeRoots.mono | apply spec_l8Line.mono | exact LeO.none _ | refine LeO.ite ?_ ?_ | refine LeO.bind ?_ (fun _ => ?_))
set_option maxHeartbeats 8000000 in
set_option maxRecDepth 100000 in
theorem spec_CubeLine.calls (k : Nat) (a0 : Int) (a1 : Int) (r1 : List Int) (r2 : Bool) (w : World) (h : spec_CubeLine.f k a0 a1 = some (r1, r2)) :
  Calls Try.prog 32 #[.int .i64 a0, .int .i64 a1] w fun e w' => ∃ v0_ : Value, e = .returned (.tuple #[v0_, .bool r2]) ∧ Kd.R (Kd.int .i64) 3 w' w.heap.size (fun _ => True) v0_ r1 ∧ Below w.heap.size w w' := by
 have HB := am (Below.refl w.heap.size w)
 have H : ((spec_CubeRoots.f k a0).bind fun bt518 => (if bt518.2 = true then ((spec_l6In.f a1 0 26).bind fun t522 => (if t522 = true then ((spec_l8Line.f k a0 bt518.1 a1).bind fun t523 => (some (t523, true))) else (some ((([] : List Int)), false)))) else (some ((([] : List Int)), false)))) = some (r1, r2) := h
 clear h; replace H := bs H
 obtain ⟨⟨t518, t519⟩, A3, H⟩ := H
 dsimp only at H
 by_cases c4 : t519 = true
 ·subst c4
  rw [if_pos rfl] at H
  replace H := bs H; obtain ⟨t522, A5, H⟩ := H
  by_cases c6 : t522 = true
  ·subst c6
   rw [if_pos rfl] at H
   replace H := bs H; obtain ⟨t523, A7, H⟩ := H
   simp only [Option.some.injEq, Prod.mk.injEq] at H
   obtain ⟨rfl, rfl⟩ := H
   go_enter Try.func32, Try.ntmps32
   go_wp2_with (first | ((with_reducible refine gate_callee (f := 48) rfl ?_); refine gl 10 Try.func48 #[.int .i64 a0] ?_; (with_reducible refine (spec_CubeRoots.calls k a0 t518 true _ A3.out).mono ?_); rintro e w8 ⟨v520, rfl, ho0, hb⟩; refine ⟨_, rfl, ?_⟩; have HO521 := am (Kd.R_lower ho0 (bz HB)); replace HB := bq HB hb; (try clear hb); (try clear ho0)) | (go_at_call 49; (with_reducible refine (spec_l6In.calls a1 0 26 true _ A5.out).mono ?_); rintro e w' ⟨rfl, ⟨nd, rfl⟩⟩; obtain ⟨Ao9, co9, eo9⟩ := Kd.R_slice HO521.out; subst eo9) | ((with_reducible refine gate_callee (f := 72) rfl ?_); refine gl 24 Try.func72 #[.int .i64 a0, .slice Ao9 t518.length co9, .int .i64 a1] ?_; (with_reducible refine (spec_l8Line.calls k a0 _ _ t518 a1 t523 _ ?_ ?_ A7.out).mono ?_); exact Kd.C_below (Kd.R_reads' HO521.out).2.2 gs; exact (Kd.R_reads' HO521.out).2.1; rintro e w10 ⟨v524, rfl, ho0, hb⟩; refine ⟨_, rfl, ?_⟩; have HO525 := am (Kd.R_lower (Kd.R_new' ho0 (Kd.R_lt (wR HO521))) (bz HB)); replace HO521 := eR HO521 (Kd.R_base ho0) hb; replace HB := bq HB hb; (try clear hb); (try clear ho0)))
   go_ret2
   exact ⟨_, fq, Kd.R_below (Kd.R_mono HO525.out (fun _ hk => trivial)) gs, bw HB⟩
  ·replace c6 := Bool.eq_false_iff.mpr c6
   subst c6
   rw [if_neg (show ¬ (false = true) by decide)] at H
   generalize hy526 : (([] : List Int)) = y526 at H
   have Ny526 := am hy526.symm; clear hy526
   simp only [Option.some.injEq, Prod.mk.injEq] at H
   obtain ⟨rfl, rfl⟩ := H
   go_enter Try.func32, Try.ntmps32
   go_wp2_with (first | ((with_reducible refine gate_callee (f := 48) rfl ?_); refine gl 10 Try.func48 #[.int .i64 a0] ?_; (with_reducible refine (spec_CubeRoots.calls k a0 t518 true _ A3.out).mono ?_); rintro e w11 ⟨v520, rfl, ho0, hb⟩; refine ⟨_, rfl, ?_⟩; have HO521 := am (Kd.R_lower ho0 (bz HB)); replace HB := bq HB hb; (try clear hb); (try clear ho0)) | (go_at_call 49; (with_reducible refine (spec_l6In.calls a1 0 26 false _ A5.out).mono ?_); rintro e w' ⟨rfl, ⟨nd, rfl⟩⟩) | ((with_reducible refine gate_dst (N := 20) rfl ?_); refine li 3 ([] : List Int) ?_; intro v527 w12 ho13 hb; (first | rw [← Ny526.out] at ho13 | (simp only [Int.reduceToNat] at ho13; rw [← Ny526.out] at ho13)); have HO528 := am (Kd.R_lower (Kd.R_new' ho13 (Kd.R_lt (wR HO521))) (bz HB)); replace HO521 := eR HO521 (Kd.R_base ho13) hb; replace HB := bq HB hb; clear hb ho13))
   go_ret2
   exact ⟨_, fq, Kd.R_below (Kd.R_mono HO528.out (fun _ hk => trivial)) gs, bw HB⟩
 ·replace c4 := Bool.eq_false_iff.mpr c4
  subst c4
  rw [if_neg (show ¬ (false = true) by decide)] at H
  generalize hy529 : (([] : List Int)) = y529 at H
  have Ny529 := am hy529.symm; clear hy529
  simp only [Option.some.injEq, Prod.mk.injEq] at H
  obtain ⟨rfl, rfl⟩ := H
  go_enter Try.func32, Try.ntmps32
  go_wp2_with (first | ((with_reducible refine gate_callee (f := 48) rfl ?_); refine gl 10 Try.func48 #[.int .i64 a0] ?_; (with_reducible refine (spec_CubeRoots.calls k a0 t518 false _ A3.out).mono ?_); rintro e w14 ⟨v520, rfl, ho0, hb⟩; refine ⟨_, rfl, ?_⟩; have HO521 := am (Kd.R_lower ho0 (bz HB)); replace HB := bq HB hb; (try clear hb); (try clear ho0)) | ((with_reducible refine gate_dst (N := 20) rfl ?_); refine li 3 ([] : List Int) ?_; intro v530 w15 ho16 hb; (first | rw [← Ny529.out] at ho16 | (simp only [Int.reduceToNat] at ho16; rw [← Ny529.out] at ho16)); have HO531 := am (Kd.R_lower (Kd.R_new' ho16 (Kd.R_lt (wR HO521))) (bz HB)); replace HO521 := eR HO521 (Kd.R_base ho16) hb; replace HB := bq HB hb; clear hb ho16))
  go_ret2
  exact ⟨_, fq, Kd.R_below (Kd.R_mono HO531.out (fun _ hk => trivial)) gs, bw HB⟩/-! ### spec_l4Zero: function 89 -/
def spec_l4Zero.l0 : Nat → List Int → Int → Option (Bool)
 | 0, _, _ => none
 | k + 1, x0, x3 => if x3 < (x0.length : Int) then (if 0 ≤ x3 then (if (rd x0 x3) = 0 then (spec_l4Zero.l0 k x0 (wrap64 (x3 + 1))) else (some false)) else (none)) else (some true)
def spec_l4Zero.f (k : Nat) (l0 : List Int) : Option (Bool) := spec_l4Zero.l0 k l0 0
theorem spec_l4Zero.mono_l : ∀ k, (∀ y0 y1, LeO (spec_l4Zero.l0 k y0 y1) (spec_l4Zero.l0 (k + 1) y0 y1))
 | 0 => fun _ _ r h => by simp [spec_l4Zero.l0] at h
 | k + 1 => by
  have ih0 := spec_l4Zero.mono_l k
  ·intro y0 y1
   unfold spec_l4Zero.l0
   repeat' first | (with_reducible first | apply ih0 | exact LeO.refl _ | exact LeO.none _ | refine LeO.ite ?_ ?_ | refine LeO.bind ?_ (fun _ => ?_)) | (first | apply ih0 | exact LeO.none _ | refine LeO.ite ?_ ?_ | refine LeO.bind ?_ (fun _ => ?_))
theorem spec_l4Zero.mono : ∀ a0 k, LeO (spec_l4Zero.f k a0) (spec_l4Zero.f (k + 1) a0) := by
 intro a0 k
 have ih0 := spec_l4Zero.mono_l k
 unfold spec_l4Zero.f
 repeat' first | (with_reducible first | apply ih0 | exact LeO.refl _ | exact LeO.none _ | refine LeO.ite ?_ ?_ | refine LeO.bind ?_ (fun _ => ?_)) | (first | apply ih0 | exact LeO.none _ | refine LeO.ite ?_ ?_ | refine LeO.bind ?_ (fun _ => ?_))
set_option maxHeartbeats 8000000 in
set_option maxRecDepth 100000 in
theorem spec_l4Zero.calls (k : Nat) (A0 : Option Addr) (c0 : Nat) (l0 : List Int) (r : Bool) (w : World) (hr0 : Kd.C (Kd.int .i64) w A0 l0.length l0) (hc0 : l0.length ≤ c0) (h : spec_l4Zero.f k l0 = some r) :
  Calls Try.prog 89 #[.slice A0 l0.length c0] w fun e w' => e = .returned (.bool r) ∧ Drawn0 w w' := by
 have HR0 := am hr0
 have HC0 := am hc0
 clear hr0 hc0
 have H : (spec_l4Zero.l0 k l0 0) = some r := h
 clear h; have H' := am H; clear H
 go_enter Try.func89, Try.ntmps89
 go_wp2
 go_loopg [3] k (fun kq v3 w' => ∃ (x3_1 : Int), v3 = .int .i64 x3_1 ∧ Aside0 (spec_l4Zero.l0 kq l0 x3_1 = some r) ∧ Aside0 (kq ≤ k) ∧ Drawn0 w w')
 case atStart => exact ⟨(0), fr, H', ⟨Nat.le_refl _⟩, df⟩
 case round =>
  clear H'
  obtain ⟨x3_1, rfl, HA, HK1, ⟨m1, rfl⟩⟩ := hrel
  cases gk with
  | zero => exact absurd HA.out (by simp [spec_l4Zero.l0])
  | succ k1 =>
   have H := HA.out; clear HA
   simp only [spec_l4Zero.l0] at H
   by_cases c2 : x3_1 < (l0.length : Int)
   ·rw [if_pos c2] at H
    have c2b0 := decide_eq_true c2; clear c2; replace H := ifn H; obtain ⟨c3, H⟩ := H; have c3b0 := decide_eq_true c3; clear c3
    by_cases c4 : (rd l0 x3_1) = 0
    ·rw [if_pos c4] at H
     have c4b0 := beq_iff_eq.mpr c4; have c4b1 := bne_eq_false_iff_eq.mpr c4; clear c4; have H' := am H; clear H
     have p532 : 0 ≤ (x3_1 : Int) := od
     have q532 : x3_1 < (l0.length : Int) := od
     obtain ⟨ad532, e532, hx532_0⟩ := Kd.at_int HR0.out x3_1 p532 q532
     cases e532; replace p532 := eq_true p532; replace q532 := eq_true q532; go_wp2
     go_roundg k1
     case measure => have := HK1.out; omega
     case rel => exact ⟨(wrap64 (x3_1 + 1)), fr, H', ⟨by have := HK1.out; omega⟩, df⟩
    ·rw [if_neg c4] at H
     have c4b0 := beq_eq_false_iff_ne.mpr c4; have c4b1 := bne_iff_ne.mpr c4; obtain rfl := Option.some.inj H
     have p532 : 0 ≤ (x3_1 : Int) := od
     have q532 : x3_1 < (l0.length : Int) := od
     obtain ⟨ad532, e532, hx532_0⟩ := Kd.at_int HR0.out x3_1 p532 q532
     cases e532; replace p532 := eq_true p532; replace q532 := eq_true q532; go_wp2; go_ret
     exact ⟨fr, df⟩
   ·rw [if_neg c2] at H
    have c2b0 := decide_eq_false c2; clear c2; obtain rfl := Option.some.inj H; go_wp2; go_ret
    exact ⟨fr, df⟩/-! ### spec_l92Place: function 65 -/
def spec_l92Place.f (k : Nat) (s0_0 : List Int) (s0_1 : Int) (a1 : Int) : Option (List Int × Int) := (spec_l6Rd_pick.f k s0_0 s0_1 2).bind fun bt533 => ((spec_l6Rd_pick.f k s0_0 bt533.2 a1).bind fun bt535 => ((spec_l6Rd_pick.f k s0_0 bt535.2 a1).bind fun bt537 => ((spec_l6Rd_pick.f k s0_0 bt537.2 a1).bind fun bt539 => ((spec_l4Row.f k a1 (([bt533.1, bt535.1, bt537.1, bt539.1] : List Int))).bind fun t544 => ((spec_l4Zero.f k t544).bind fun t547 => (if t547 = true then ((spec_l6Rd_pick.f k s0_0 bt539.2 a1).bind fun bt548 => (some ((([0, 0, 1, bt548.1] : List Int)), bt548.2))) else ((spec_l6Rd_pick.f k s0_0 bt539.2 24).bind fun bt553 => (if bt553.1 = 0 then (if t544.length < 17592186044416 then (some ((t544 ++ [0]), bt553.2)) else (none)) else (some (t544, bt553.2))))))))))
theorem spec_l92Place.mono : ∀ a0 a1 a2 k, LeO (spec_l92Place.f k a0 a1 a2) (spec_l92Place.f (k + 1) a0 a1 a2) := by
 intro a0 a1 a2 k
 unfold spec_l92Place.f
 repeat' first | (with_reducible first | apply spec_l4Row.mono | apply spec_l4Zero.mono | apply spec_l6Rd_pick.mono | exact LeO.refl _ | exact LeO.none _ | refine LeO.ite ?_ ?_ | refine LeO.bind ?_ (fun _ => ?_)) | (first | apply spec_l4Row.mono | apply spec_l4Zero.mono | apply spec_l6Rd_pick.mono | exact LeO.none _ | refine LeO.ite ?_ ?_ | refine LeO.bind ?_ (fun _ => ?_))
set_option maxHeartbeats 8000000 in
set_option maxRecDepth 100000 in
theorem spec_l92Place.calls (k : Nat) (g : Nat) (s0_0 : List Int) (s0_1 : Int) (a1 : Int) (r1 : List Int) (r2 : Int) (w0 w : World) (hI : IsS78 w0 w g s0_0 s0_1) (hB : Below w0.heap.size w0 w) (h : spec_l92Place.f k s0_0 s0_1 a1 = some (r1, r2)) :
  Calls Try.prog 65 #[.pointer (some ⟨g, 0, none⟩), .int .i64 a1] w fun e w' => ∃ v0_ : Value, e = .returned (v0_) ∧ Kd.R (Kd.int .i64) 3 w' w.heap.size (fun _ => True) v0_ r1 ∧ IsS78 w0 w' g s0_0 r2 ∧ Below w0.heap.size w0 w' ∧ KeepBut w w' g none := by
 have HI0 := am hI
 have HK := am (KeepBut.refl w g none)
 have HL := am hB.size
 clear hI
 have HW0 := am hB.size
 have HB := am hB
 clear hB
 have H : ((spec_l6Rd_pick.f k s0_0 s0_1 2).bind fun bt533 => ((spec_l6Rd_pick.f k s0_0 bt533.2 a1).bind fun bt535 => ((spec_l6Rd_pick.f k s0_0 bt535.2 a1).bind fun bt537 => ((spec_l6Rd_pick.f k s0_0 bt537.2 a1).bind fun bt539 => ((spec_l4Row.f k a1 (([bt533.1, bt535.1, bt537.1, bt539.1] : List Int))).bind fun t544 => ((spec_l4Zero.f k t544).bind fun t547 => (if t547 = true then ((spec_l6Rd_pick.f k s0_0 bt539.2 a1).bind fun bt548 => (some ((([0, 0, 1, bt548.1] : List Int)), bt548.2))) else ((spec_l6Rd_pick.f k s0_0 bt539.2 24).bind fun bt553 => (if bt553.1 = 0 then (if t544.length < 17592186044416 then (some ((t544 ++ [0]), bt553.2)) else (none)) else (some (t544, bt553.2))))))))))) = some (r1, r2) := h
 clear h; replace H := bs H
 obtain ⟨⟨t533, t534⟩, A3, H⟩ := H
 dsimp only at H
 replace H := bs H
 obtain ⟨⟨t535, t536⟩, A4, H⟩ := H
 dsimp only at H
 replace H := bs H
 obtain ⟨⟨t537, t538⟩, A5, H⟩ := H
 dsimp only at H
 replace H := bs H
 obtain ⟨⟨t539, t540⟩, A6, H⟩ := H
 dsimp only at H
 generalize hy541 : (([t533, t535, t537, t539] : List Int)) = y541 at H
 have Ny541 := am hy541.symm; clear hy541; replace H := bs H; obtain ⟨t544, A7, H⟩ := H; replace H := bs H; obtain ⟨t547, A8, H⟩ := H
 by_cases c9 : t547 = true
 ·subst c9
  rw [if_pos rfl] at H
  replace H := bs H
  obtain ⟨⟨t548, t549⟩, A10, H⟩ := H
  dsimp only at H
  generalize hy550 : (([0, 0, 1, t548] : List Int)) = y550 at H
  have Ny550 := am hy550.symm; clear hy550
  simp only [Option.some.injEq, Prod.mk.injEq] at H
  obtain ⟨rfl, rfl⟩ := H
  go_enter Try.func65, Try.ntmps65
  go_wp2_with (first | ((with_reducible refine gate_callee (f := 64) rfl ?_); refine gl 8 Try.func64 #[.pointer (some ⟨g, 0, none⟩), .int .i64 2] ?_; (with_reducible refine (spec_l6Rd_pick.calls k g s0_0 s0_1 2 t533 t534 w0 _ ?_ ?_ A3.out).mono ?_); (· repeat (first | (with_reducible first | exact HI0.out | apply IsS78.alloc | apply IsS78.drewN | apply IsS78.drew | apply IsS78.set_1) | exact HI0.out)); (· repeat (first | (with_reducible first | exact HB.out | apply below_alloc | apply pw_below_drewN | apply below_drew1 | refine below_set ?_ (IsS78.ge HI0.out)) | exact HB.out)); rintro e w11 ⟨rfl, hi, hb, hk⟩; refine ⟨_, rfl, ?_⟩; replace HK := am (KeepBut.trans (kw HK) hk (.inl rfl)); replace HB := am (hb); replace HI0 := am (hi); (try clear hb); (try clear hk); (try clear hi)) | ((with_reducible refine gate_callee (f := 64) rfl ?_); refine gl 11 Try.func64 #[.pointer (some ⟨g, 0, none⟩), .int .i64 a1] ?_; (with_reducible refine (spec_l6Rd_pick.calls k g s0_0 t534 a1 t535 t536 w0 _ ?_ ?_ A4.out).mono ?_); (· repeat (first | (with_reducible first | exact HI0.out | apply IsS78.alloc | apply IsS78.drewN | apply IsS78.drew | apply IsS78.set_1) | exact HI0.out)); (· repeat (first | (with_reducible first | exact HB.out | apply below_alloc | apply pw_below_drewN | apply below_drew1 | refine below_set ?_ (IsS78.ge HI0.out)) | exact HB.out)); rintro e w12 ⟨rfl, hi, hb, hk⟩; refine ⟨_, rfl, ?_⟩; replace HK := am (KeepBut.trans (kw HK) hk (.inl rfl)); replace HB := am (hb); replace HI0 := am (hi); (try clear hb); (try clear hk); (try clear hi)) | ((with_reducible refine gate_callee (f := 64) rfl ?_); refine gl 14 Try.func64 #[.pointer (some ⟨g, 0, none⟩), .int .i64 a1] ?_; (with_reducible refine (spec_l6Rd_pick.calls k g s0_0 t536 a1 t537 t538 w0 _ ?_ ?_ A5.out).mono ?_); (· repeat (first | (with_reducible first | exact HI0.out | apply IsS78.alloc | apply IsS78.drewN | apply IsS78.drew | apply IsS78.set_1) | exact HI0.out)); (· repeat (first | (with_reducible first | exact HB.out | apply below_alloc | apply pw_below_drewN | apply below_drew1 | refine below_set ?_ (IsS78.ge HI0.out)) | exact HB.out)); rintro e w13 ⟨rfl, hi, hb, hk⟩; refine ⟨_, rfl, ?_⟩; replace HK := am (KeepBut.trans (kw HK) hk (.inl rfl)); replace HB := am (hb); replace HI0 := am (hi); (try clear hb); (try clear hk); (try clear hi)) | ((with_reducible refine gate_callee (f := 64) rfl ?_); refine gl 17 Try.func64 #[.pointer (some ⟨g, 0, none⟩), .int .i64 a1] ?_; (with_reducible refine (spec_l6Rd_pick.calls k g s0_0 t538 a1 t539 t540 w0 _ ?_ ?_ A6.out).mono ?_); (· repeat (first | (with_reducible first | exact HI0.out | apply IsS78.alloc | apply IsS78.drewN | apply IsS78.drew | apply IsS78.set_1) | exact HI0.out)); (· repeat (first | (with_reducible first | exact HB.out | apply below_alloc | apply pw_below_drewN | apply below_drew1 | refine below_set ?_ (IsS78.ge HI0.out)) | exact HB.out)); rintro e w14 ⟨rfl, hi, hb, hk⟩; refine ⟨_, rfl, ?_⟩; replace HK := am (KeepBut.trans (kw HK) hk (.inl rfl)); replace HB := am (hb); replace HI0 := am (hi); (try clear hb); (try clear hk); (try clear hi)) | ((with_reducible refine gate_dst (N := 18) rfl ?_); refine li 3 [t533, t535, t537, t539] ?_; intro v542 w15 ho16 hb; (first | rw [← Ny541.out] at ho16 | (simp only [Int.reduceToNat] at ho16; rw [← Ny541.out] at ho16)); have HO543 := am (Kd.R_lower ho16 (keep_size (w := w) (g := g) (row := none) (kw HK))); replace HK := am (KeepBut.trans (kw HK) (KeepBut.of_below hb g none) (.inl rfl)); replace HB := am (below_step (bi78 HB HI0) hb); replace HI0 := am (IsS78.below (iw78 HI0) hb); clear hb ho16; obtain ⟨Ao17, co17, eo17⟩ := Kd.R_slice HO543.out; subst eo17) | ((with_reducible refine gate_callee (f := 44) rfl ?_); refine gl 19 Try.func44 #[.int .i64 a1, .slice Ao17 y541.length co17] ?_; (with_reducible refine (spec_l4Row.calls k a1 _ _ y541 t544 _ ?_ ?_ A7.out).mono ?_); exact Kd.C_below (Kd.R_reads' HO543.out).2.2 gs; exact (Kd.R_reads' HO543.out).2.1; rintro e w18 ⟨v545, rfl, ho0, hb⟩; refine ⟨_, rfl, ?_⟩; have HO546 := am (Kd.R_lower (Kd.R_new' ho0 (Kd.R_lt (wR HO543))) (keep_size (w := w) (g := g) (row := none) (kw HK))); replace HO543 := eR HO543 (Kd.R_base ho0) hb; replace HK := am (KeepBut.trans (kw HK) (KeepBut.of_below hb g none) (.inl rfl)); replace HB := am (below_step (bi78 HB HI0) hb); replace HI0 := am (IsS78.below (iw78 HI0) hb); (try clear hb); (try clear ho0); obtain ⟨Ao19, co19, eo19⟩ := Kd.R_slice HO546.out; subst eo19) | ((with_reducible refine gate_callee (f := 89) rfl ?_); refine gl 21 Try.func89 #[.slice Ao19 t544.length co19] ?_; (with_reducible refine (spec_l4Zero.calls k _ _ t544 true _ ?_ ?_ A8.out).mono ?_); exact Kd.C_below (Kd.R_reads' HO546.out).2.2 gs; exact (Kd.R_reads' HO546.out).2.1; rintro e w' ⟨rfl, ⟨nd, rfl⟩⟩; refine ⟨_, rfl, ?_⟩) | ((with_reducible refine gate_callee (f := 64) rfl ?_); refine gl 24 Try.func64 #[.pointer (some ⟨g, 0, none⟩), .int .i64 a1] ?_; (with_reducible refine (spec_l6Rd_pick.calls k g s0_0 t540 a1 t548 t549 w0 _ ?_ ?_ A10.out).mono ?_); (· repeat (first | (with_reducible first | exact HI0.out | apply IsS78.alloc | apply IsS78.drewN | apply IsS78.drew | apply IsS78.set_1) | exact HI0.out)); (· repeat (first | (with_reducible first | exact HB.out | apply below_alloc | apply pw_below_drewN | apply below_drew1 | refine below_set ?_ (IsS78.ge HI0.out)) | exact HB.out)); rintro e w20 ⟨rfl, hi, hb, hk⟩; refine ⟨_, rfl, ?_⟩; replace HO543 := am (Kd.R_mono (Kd.R_keep (IsS78.apart (show IsS78 w0 _ g s0_0 t540 from iw78 HI0) (wR HO543) (by decide)) hk (fun _ h => h.2)) (fun _ h => h.1)); replace HO546 := am (Kd.R_mono (Kd.R_keep (IsS78.apart (show IsS78 w0 _ g s0_0 t540 from iw78 HI0) (wR HO546) (by decide)) hk (fun _ h => h.2)) (fun _ h => h.1)); replace HK := am (KeepBut.trans (kw HK) hk (.inl rfl)); replace HB := am (hb); replace HI0 := am (hi); (try clear hb); (try clear hk); (try clear hi)) | ((with_reducible refine gate_dst (N := 25) rfl ?_); refine li 3 [0, 0, 1, t548] ?_; intro v551 w21 ho22 hb; (first | rw [← Ny550.out] at ho22 | (simp only [Int.reduceToNat] at ho22; rw [← Ny550.out] at ho22)); have HO552 := am (Kd.R_lower (Kd.R_new' (Kd.R_new' ho22 (Kd.R_lt (wR HO543))) (Kd.R_lt (wR HO546))) (keep_size (w := w) (g := g) (row := none) (kw HK))); replace HO543 := eR HO543 (Kd.R_base ho22) hb; replace HO546 := eR HO546 (Kd.R_base ho22) hb; replace HK := am (KeepBut.trans (kw HK) (KeepBut.of_below hb g none) (.inl rfl)); replace HB := am (below_step (bi78 HB HI0) hb); replace HI0 := am (IsS78.below (iw78 HI0) hb); clear hb ho22))
  go_ret
  exact ⟨_, fq, Kd.R_below (Kd.R_mono HO552.out (fun _ hk => trivial)) gs, iw78 HI0, bi78 HB HI0, kw HK⟩
 ·replace c9 := Bool.eq_false_iff.mpr c9
  subst c9
  rw [if_neg (show ¬ (false = true) by decide)] at H
  replace H := bs H
  obtain ⟨⟨t553, t554⟩, A23, H⟩ := H
  dsimp only at H
  by_cases c24 : t553 = 0
  ·rw [if_pos c24] at H
   have c24b0 := beq_iff_eq.mpr c24; have c24b1 := bne_eq_false_iff_eq.mpr c24; clear c24; replace H := ifn H; obtain ⟨c25, H⟩ := H; have LMc25 := am c25; clear c25
   generalize hy555 : (t544 ++ [0] : List Int) = y555 at H
   have Ny555 := am hy555.symm; clear hy555
   simp only [Option.some.injEq, Prod.mk.injEq] at H
   obtain ⟨rfl, rfl⟩ := H
   go_enter Try.func65, Try.ntmps65
   go_wp2_with (first | ((with_reducible refine gate_callee (f := 64) rfl ?_); refine gl 8 Try.func64 #[.pointer (some ⟨g, 0, none⟩), .int .i64 2] ?_; (with_reducible refine (spec_l6Rd_pick.calls k g s0_0 s0_1 2 t533 t534 w0 _ ?_ ?_ A3.out).mono ?_); (· repeat (first | (with_reducible first | exact HI0.out | apply IsS78.alloc | apply IsS78.drewN | apply IsS78.drew | apply IsS78.set_1) | exact HI0.out)); (· repeat (first | (with_reducible first | exact HB.out | apply below_alloc | apply pw_below_drewN | apply below_drew1 | refine below_set ?_ (IsS78.ge HI0.out)) | exact HB.out)); rintro e w26 ⟨rfl, hi, hb, hk⟩; refine ⟨_, rfl, ?_⟩; replace HK := am (KeepBut.trans (kw HK) hk (.inl rfl)); replace HB := am (hb); replace HI0 := am (hi); (try clear hb); (try clear hk); (try clear hi)) | ((with_reducible refine gate_callee (f := 64) rfl ?_); refine gl 11 Try.func64 #[.pointer (some ⟨g, 0, none⟩), .int .i64 a1] ?_; (with_reducible refine (spec_l6Rd_pick.calls k g s0_0 t534 a1 t535 t536 w0 _ ?_ ?_ A4.out).mono ?_); (· repeat (first | (with_reducible first | exact HI0.out | apply IsS78.alloc | apply IsS78.drewN | apply IsS78.drew | apply IsS78.set_1) | exact HI0.out)); (· repeat (first | (with_reducible first | exact HB.out | apply below_alloc | apply pw_below_drewN | apply below_drew1 | refine below_set ?_ (IsS78.ge HI0.out)) | exact HB.out)); rintro e w27 ⟨rfl, hi, hb, hk⟩; refine ⟨_, rfl, ?_⟩; replace HK := am (KeepBut.trans (kw HK) hk (.inl rfl)); replace HB := am (hb); replace HI0 := am (hi); (try clear hb); (try clear hk); (try clear hi)) | ((with_reducible refine gate_callee (f := 64) rfl ?_); refine gl 14 Try.func64 #[.pointer (some ⟨g, 0, none⟩), .int .i64 a1] ?_; (with_reducible refine (spec_l6Rd_pick.calls k g s0_0 t536 a1 t537 t538 w0 _ ?_ ?_ A5.out).mono ?_); (· repeat (first | (with_reducible first | exact HI0.out | apply IsS78.alloc | apply IsS78.drewN | apply IsS78.drew | apply IsS78.set_1) | exact HI0.out)); (· repeat (first | (with_reducible first | exact HB.out | apply below_alloc | apply pw_below_drewN | apply below_drew1 | refine below_set ?_ (IsS78.ge HI0.out)) | exact HB.out)); rintro e w28 ⟨rfl, hi, hb, hk⟩; refine ⟨_, rfl, ?_⟩; replace HK := am (KeepBut.trans (kw HK) hk (.inl rfl)); replace HB := am (hb); replace HI0 := am (hi); (try clear hb); (try clear hk); (try clear hi)) | ((with_reducible refine gate_callee (f := 64) rfl ?_); refine gl 17 Try.func64 #[.pointer (some ⟨g, 0, none⟩), .int .i64 a1] ?_; (with_reducible refine (spec_l6Rd_pick.calls k g s0_0 t538 a1 t539 t540 w0 _ ?_ ?_ A6.out).mono ?_); (· repeat (first | (with_reducible first | exact HI0.out | apply IsS78.alloc | apply IsS78.drewN | apply IsS78.drew | apply IsS78.set_1) | exact HI0.out)); (· repeat (first | (with_reducible first | exact HB.out | apply below_alloc | apply pw_below_drewN | apply below_drew1 | refine below_set ?_ (IsS78.ge HI0.out)) | exact HB.out)); rintro e w29 ⟨rfl, hi, hb, hk⟩; refine ⟨_, rfl, ?_⟩; replace HK := am (KeepBut.trans (kw HK) hk (.inl rfl)); replace HB := am (hb); replace HI0 := am (hi); (try clear hb); (try clear hk); (try clear hi)) | ((with_reducible refine gate_dst (N := 18) rfl ?_); refine li 3 [t533, t535, t537, t539] ?_; intro v542 w30 ho31 hb; (first | rw [← Ny541.out] at ho31 | (simp only [Int.reduceToNat] at ho31; rw [← Ny541.out] at ho31)); have HO543 := am (Kd.R_lower ho31 (keep_size (w := w) (g := g) (row := none) (kw HK))); replace HK := am (KeepBut.trans (kw HK) (KeepBut.of_below hb g none) (.inl rfl)); replace HB := am (below_step (bi78 HB HI0) hb); replace HI0 := am (IsS78.below (iw78 HI0) hb); clear hb ho31; obtain ⟨Ao32, co32, eo32⟩ := Kd.R_slice HO543.out; subst eo32) | ((with_reducible refine gate_callee (f := 44) rfl ?_); refine gl 19 Try.func44 #[.int .i64 a1, .slice Ao32 y541.length co32] ?_; (with_reducible refine (spec_l4Row.calls k a1 _ _ y541 t544 _ ?_ ?_ A7.out).mono ?_); exact Kd.C_below (Kd.R_reads' HO543.out).2.2 gs; exact (Kd.R_reads' HO543.out).2.1; rintro e w33 ⟨v545, rfl, ho0, hb⟩; refine ⟨_, rfl, ?_⟩; have HO546 := am (Kd.R_lower (Kd.R_new' ho0 (Kd.R_lt (wR HO543))) (keep_size (w := w) (g := g) (row := none) (kw HK))); replace HO543 := eR HO543 (Kd.R_base ho0) hb; replace HK := am (KeepBut.trans (kw HK) (KeepBut.of_below hb g none) (.inl rfl)); replace HB := am (below_step (bi78 HB HI0) hb); replace HI0 := am (IsS78.below (iw78 HI0) hb); (try clear hb); (try clear ho0); obtain ⟨Ao34, co34, eo34⟩ := Kd.R_slice HO546.out; subst eo34) | ((with_reducible refine gate_callee (f := 89) rfl ?_); refine gl 21 Try.func89 #[.slice Ao34 t544.length co34] ?_; (with_reducible refine (spec_l4Zero.calls k _ _ t544 false _ ?_ ?_ A8.out).mono ?_); exact Kd.C_below (Kd.R_reads' HO546.out).2.2 gs; exact (Kd.R_reads' HO546.out).2.1; rintro e w' ⟨rfl, ⟨nd, rfl⟩⟩; refine ⟨_, rfl, ?_⟩) | ((with_reducible refine gate_callee (f := 64) rfl ?_); refine gl 27 Try.func64 #[.pointer (some ⟨g, 0, none⟩), .int .i64 24] ?_; (with_reducible refine (spec_l6Rd_pick.calls k g s0_0 t540 24 t553 t554 w0 _ ?_ ?_ A23.out).mono ?_); (· repeat (first | (with_reducible first | exact HI0.out | apply IsS78.alloc | apply IsS78.drewN | apply IsS78.drew | apply IsS78.set_1) | exact HI0.out)); (· repeat (first | (with_reducible first | exact HB.out | apply below_alloc | apply pw_below_drewN | apply below_drew1 | refine below_set ?_ (IsS78.ge HI0.out)) | exact HB.out)); rintro e w35 ⟨rfl, hi, hb, hk⟩; refine ⟨_, rfl, ?_⟩; replace HO543 := am (Kd.R_mono (Kd.R_keep (IsS78.apart (show IsS78 w0 _ g s0_0 t540 from iw78 HI0) (wR HO543) (by decide)) hk (fun _ h => h.2)) (fun _ h => h.1)); replace HO546 := am (Kd.R_mono (Kd.R_keep (IsS78.apart (show IsS78 w0 _ g s0_0 t540 from iw78 HI0) (wR HO546) (by decide)) hk (fun _ h => h.2)) (fun _ h => h.1)); replace HK := am (KeepBut.trans (kw HK) hk (.inl rfl)); replace HB := am (hb); replace HI0 := am (hi); (try clear hb); (try clear hk); (try clear hi)) | ((with_reducible refine gate_builtin (b := .append) (xs := #[.tmp 29, .tmp 30]) rfl ?_); at_builtin; refine Kd.R_append (Kd.int .i64) w.heap.size rfl (.tmp 29) (.tmp 30) 22 3 (.int .i64 0) 8 rfl Try.underlying22 info3 rfl (by decide) (by omega) (.slice Ao34 t544.length co34) t544 0 [.int .i64 0] (fun k_ => some k_ ≠ (.slice Ao32 y541.length co32 : Value).ownBlock) (fun _ => False) rfl rfl ?aP (fun _ hk => hk.elim) ?aF ?aO (Below.refl _ _) ?aS ?aL ?_; (case aP => exact rfl); (case aF => exact (fun k_ hk => Kd.fresh' (Kd.R_lt (wR HO543)) k_ hk)); (case aO => exact (by (with_reducible repeat (first | apply Kd.R_alloc | apply Kd.R_drewN | apply Kd.R_drew)); exact Kd.R_mono HO546.out (fun _ hk => hk.2))); (case aS => exact (keep_size (w := w) (g := g) (row := none) (kw HK))); (case aL => have := LMc25.out; omega); intro v556 w36 ho hb hg hat; rw [← Ny555.out] at ho; replace HO543 := am (Kd.R_after (ok := (fun _ => True)) (wR HO543) hg hat); replace HB := am (below_weaken (bi78 HB HI0) HL.out hb); replace HI0 := am (IsS78.grown (iw78 HI0) hg (IsS78.own_ne HI0.out HO546.out (by decide))); replace HK := am (KeepBut.trans (kw HK) (KeepBut.of_grown hg g) (Kd.R_base2 HO546.out)); have HO557 := am (ho); clear HO546; clear ho hb hg hat))
   go_ret
   exact ⟨_, fq, Kd.R_below (Kd.R_mono HO557.out (fun _ hk => trivial)) gs, iw78 HI0, bi78 HB HI0, kw HK⟩
  ·rw [if_neg c24] at H
   have c24b0 := beq_eq_false_iff_ne.mpr c24; have c24b1 := bne_iff_ne.mpr c24
   simp only [Option.some.injEq, Prod.mk.injEq] at H
   obtain ⟨rfl, rfl⟩ := H
   go_enter Try.func65, Try.ntmps65
   go_wp2_with (first | ((with_reducible refine gate_callee (f := 64) rfl ?_); refine gl 8 Try.func64 #[.pointer (some ⟨g, 0, none⟩), .int .i64 2] ?_; (with_reducible refine (spec_l6Rd_pick.calls k g s0_0 s0_1 2 t533 t534 w0 _ ?_ ?_ A3.out).mono ?_); (· repeat (first | (with_reducible first | exact HI0.out | apply IsS78.alloc | apply IsS78.drewN | apply IsS78.drew | apply IsS78.set_1) | exact HI0.out)); (· repeat (first | (with_reducible first | exact HB.out | apply below_alloc | apply pw_below_drewN | apply below_drew1 | refine below_set ?_ (IsS78.ge HI0.out)) | exact HB.out)); rintro e w37 ⟨rfl, hi, hb, hk⟩; refine ⟨_, rfl, ?_⟩; replace HK := am (KeepBut.trans (kw HK) hk (.inl rfl)); replace HB := am (hb); replace HI0 := am (hi); (try clear hb); (try clear hk); (try clear hi)) | ((with_reducible refine gate_callee (f := 64) rfl ?_); refine gl 11 Try.func64 #[.pointer (some ⟨g, 0, none⟩), .int .i64 a1] ?_; (with_reducible refine (spec_l6Rd_pick.calls k g s0_0 t534 a1 t535 t536 w0 _ ?_ ?_ A4.out).mono ?_); (· repeat (first | (with_reducible first | exact HI0.out | apply IsS78.alloc | apply IsS78.drewN | apply IsS78.drew | apply IsS78.set_1) | exact HI0.out)); (· repeat (first | (with_reducible first | exact HB.out | apply below_alloc | apply pw_below_drewN | apply below_drew1 | refine below_set ?_ (IsS78.ge HI0.out)) | exact HB.out)); rintro e w38 ⟨rfl, hi, hb, hk⟩; refine ⟨_, rfl, ?_⟩; replace HK := am (KeepBut.trans (kw HK) hk (.inl rfl)); replace HB := am (hb); replace HI0 := am (hi); (try clear hb); (try clear hk); (try clear hi)) | ((with_reducible refine gate_callee (f := 64) rfl ?_); refine gl 14 Try.func64 #[.pointer (some ⟨g, 0, none⟩), .int .i64 a1] ?_; (with_reducible refine (spec_l6Rd_pick.calls k g s0_0 t536 a1 t537 t538 w0 _ ?_ ?_ A5.out).mono ?_); (· repeat (first | (with_reducible first | exact HI0.out | apply IsS78.alloc | apply IsS78.drewN | apply IsS78.drew | apply IsS78.set_1) | exact HI0.out)); (· repeat (first | (with_reducible first | exact HB.out | apply below_alloc | apply pw_below_drewN | apply below_drew1 | refine below_set ?_ (IsS78.ge HI0.out)) | exact HB.out)); rintro e w39 ⟨rfl, hi, hb, hk⟩; refine ⟨_, rfl, ?_⟩; replace HK := am (KeepBut.trans (kw HK) hk (.inl rfl)); replace HB := am (hb); replace HI0 := am (hi); (try clear hb); (try clear hk); (try clear hi)) | ((with_reducible refine gate_callee (f := 64) rfl ?_); refine gl 17 Try.func64 #[.pointer (some ⟨g, 0, none⟩), .int .i64 a1] ?_; (with_reducible refine (spec_l6Rd_pick.calls k g s0_0 t538 a1 t539 t540 w0 _ ?_ ?_ A6.out).mono ?_); (· repeat (first | (with_reducible first | exact HI0.out | apply IsS78.alloc | apply IsS78.drewN | apply IsS78.drew | apply IsS78.set_1) | exact HI0.out)); (· repeat (first | (with_reducible first | exact HB.out | apply below_alloc | apply pw_below_drewN | apply below_drew1 | refine below_set ?_ (IsS78.ge HI0.out)) | exact HB.out)); rintro e w40 ⟨rfl, hi, hb, hk⟩; refine ⟨_, rfl, ?_⟩; replace HK := am (KeepBut.trans (kw HK) hk (.inl rfl)); replace HB := am (hb); replace HI0 := am (hi); (try clear hb); (try clear hk); (try clear hi)) | ((with_reducible refine gate_dst (N := 18) rfl ?_); refine li 3 [t533, t535, t537, t539] ?_; intro v542 w41 ho42 hb; (first | rw [← Ny541.out] at ho42 | (simp only [Int.reduceToNat] at ho42; rw [← Ny541.out] at ho42)); have HO543 := am (Kd.R_lower ho42 (keep_size (w := w) (g := g) (row := none) (kw HK))); replace HK := am (KeepBut.trans (kw HK) (KeepBut.of_below hb g none) (.inl rfl)); replace HB := am (below_step (bi78 HB HI0) hb); replace HI0 := am (IsS78.below (iw78 HI0) hb); clear hb ho42; obtain ⟨Ao43, co43, eo43⟩ := Kd.R_slice HO543.out; subst eo43) | ((with_reducible refine gate_callee (f := 44) rfl ?_); refine gl 19 Try.func44 #[.int .i64 a1, .slice Ao43 y541.length co43] ?_; (with_reducible refine (spec_l4Row.calls k a1 _ _ y541 t544 _ ?_ ?_ A7.out).mono ?_); exact Kd.C_below (Kd.R_reads' HO543.out).2.2 gs; exact (Kd.R_reads' HO543.out).2.1; rintro e w44 ⟨v545, rfl, ho0, hb⟩; refine ⟨_, rfl, ?_⟩; have HO546 := am (Kd.R_lower (Kd.R_new' ho0 (Kd.R_lt (wR HO543))) (keep_size (w := w) (g := g) (row := none) (kw HK))); replace HO543 := eR HO543 (Kd.R_base ho0) hb; replace HK := am (KeepBut.trans (kw HK) (KeepBut.of_below hb g none) (.inl rfl)); replace HB := am (below_step (bi78 HB HI0) hb); replace HI0 := am (IsS78.below (iw78 HI0) hb); (try clear hb); (try clear ho0); obtain ⟨Ao45, co45, eo45⟩ := Kd.R_slice HO546.out; subst eo45) | ((with_reducible refine gate_callee (f := 89) rfl ?_); refine gl 21 Try.func89 #[.slice Ao45 t544.length co45] ?_; (with_reducible refine (spec_l4Zero.calls k _ _ t544 false _ ?_ ?_ A8.out).mono ?_); exact Kd.C_below (Kd.R_reads' HO546.out).2.2 gs; exact (Kd.R_reads' HO546.out).2.1; rintro e w' ⟨rfl, ⟨nd, rfl⟩⟩; refine ⟨_, rfl, ?_⟩) | ((with_reducible refine gate_callee (f := 64) rfl ?_); refine gl 27 Try.func64 #[.pointer (some ⟨g, 0, none⟩), .int .i64 24] ?_; (with_reducible refine (spec_l6Rd_pick.calls k g s0_0 t540 24 t553 t554 w0 _ ?_ ?_ A23.out).mono ?_); (· repeat (first | (with_reducible first | exact HI0.out | apply IsS78.alloc | apply IsS78.drewN | apply IsS78.drew | apply IsS78.set_1) | exact HI0.out)); (· repeat (first | (with_reducible first | exact HB.out | apply below_alloc | apply pw_below_drewN | apply below_drew1 | refine below_set ?_ (IsS78.ge HI0.out)) | exact HB.out)); rintro e w46 ⟨rfl, hi, hb, hk⟩; refine ⟨_, rfl, ?_⟩; replace HO543 := am (Kd.R_mono (Kd.R_keep (IsS78.apart (show IsS78 w0 _ g s0_0 t540 from iw78 HI0) (wR HO543) (by decide)) hk (fun _ h => h.2)) (fun _ h => h.1)); replace HO546 := am (Kd.R_mono (Kd.R_keep (IsS78.apart (show IsS78 w0 _ g s0_0 t540 from iw78 HI0) (wR HO546) (by decide)) hk (fun _ h => h.2)) (fun _ h => h.1)); replace HK := am (KeepBut.trans (kw HK) hk (.inl rfl)); replace HB := am (hb); replace HI0 := am (hi); (try clear hb); (try clear hk); (try clear hi)))
   go_ret
   exact ⟨_, fq, Kd.R_below (Kd.R_mono HO546.out (fun _ hk => trivial)) gs, iw78 HI0, bi78 HB HI0, kw HK⟩/-! ### spec_PlaceIn: function 66 (by hand) -/
def pl_lowB (p x : Int) : Bool := decide (0 ≤ x) && decide (x ≤ wrap64 (p - 1))
theorem pl_l6In_low (p x : Int) : spec_l6In.f x 0 (wrap64 (p - 1)) = some (pl_lowB p x) := by
 unfold spec_l6In.f pl_lowB
 by_cases h : x ≥ 0
 ·have h' : 0 ≤ x := h
  simp [h, h']
 ·have h' : ¬ 0 ≤ x := h
  simp [h, h']
/-- what PlaceIn tells -/
def spec_PlaceIn.f (k : Nat) (a0 : Int) (l1 : List Int) : Option Bool := (spec_PrimeIn.f a0).bind fun t =>
 if t = true then (if l1.length = 4 then (if l1.all (pl_lowB a0) = true then (spec_l4Row.f k a0 l1).bind fun row => (spec_l4Zero.f k l1).bind fun z => if row.length = 4 then some (!z && (row == l1)) else none else some false) else some false) else some false
theorem spec_PlaceIn.mono : ∀ a0 a1 k, LeO (spec_PlaceIn.f k a0 a1) (spec_PlaceIn.f (k + 1) a0 a1) := by
 intro a0 a1 k
 unfold spec_PlaceIn.f
 refine LeO.bind (LeO.refl _) fun _ => LeO.ite (LeO.ite (LeO.ite (LeO.bind (spec_l4Row.mono _ _ _) fun _ => LeO.bind (spec_l4Zero.mono _ _) fun _ => LeO.refl _) (LeO.refl _)) (LeO.refl _)) (LeO.refl _)
theorem quiet_ {P : Program} {f : FuncId} {args : Array Value} {w : World} {v : Value} (h : Calls P f args w fun e w' => e = .returned v ∧ Drawn0 w w') : Calls P f args w fun e w' => e = .returned v ∧ ∃ n, w' = w.drewN n :=
 h.mono fun e w' h => ⟨h.1, h.2.out⟩
set_option maxHeartbeats 4000000 in
set_option maxRecDepth 100000 in
theorem spec_PlaceIn.calls (k : Nat) (a0 : Int) (A1 : Option Addr) (c1 : Nat) (l1 : List Int) (r : Bool) (w : World) (hr1 : Kd.C (Kd.int .i64) w A1 l1.length l1) (hc1 : l1.length ≤ c1) (h : spec_PlaceIn.f k a0 l1 = some r) :
  Calls Try.prog 66 #[.int .i64 a0, .slice A1 l1.length c1] w fun e w' => e = .returned (.bool r) ∧ Below w.heap.size w w' := by
 obtain ⟨t, hprime, h'⟩ := Option.bind_eq_some_iff.1 h
 clear h
 have HPR := Lib.hid hprime
 have HR1 := Lib.hid hr1
 have HC1 := Lib.hid hc1
 have H := Lib.hid h'
 clear hprime hr1 hc1 h'
 cases t with
 | false =>
  obtain rfl : r = false := by have h := H.out; simp at h; exact h
  go_enter Try.func66, Try.ntmps66
  go_wp2_with fail
  refine (spec_PrimeIn.calls a0 false _ HPR.out).mono ?_
  rintro e w1 ⟨rfl, ⟨q, rfl⟩⟩
  go_wp2; go_ret
  exact ⟨rfl, pw_below_drewN (Below.refl _ _) q⟩
 | true =>
  by_cases hl : l1.length = 4
  ·have HL := Lib.hid hl
   go_enter Try.func66, Try.ntmps66
   rw [hl]
   have h8 : ((4 : Int) != 4) = false := rfl
   clear hl
   go_wp2_with fail
   refine (spec_PrimeIn.calls a0 true _ HPR.out).mono ?_
   rintro e w1 ⟨rfl, ⟨q, rfl⟩⟩
   go_wp2_with fail
   have hb0 : Below w.heap.size w (w.drewN q) := pw_below_drewN (Below.refl _ _) q
   generalize w.drewN q = w1 at hb0 ⊢
   go_loopw [5] (fun i w' => ∃ j : Nat, j ≤ 4 ∧ i = .int .i64 j ∧ (l1.take j).all (pl_lowB a0) = true ∧ Below w.heap.size w w') (fun i _ => 4 - (intOf i).toNat)
   case atStart => exact ⟨0, by omega, rfl, by simp, hb0⟩
   case round =>
    clear hb0
    obtain ⟨j, hj, rfl, hall, hB⟩ := hrel
    have HB := Lib.hid hB
    have HALL := Lib.hid hall
    have HJ := Lib.hid hj
    clear hB hall hj
    by_cases hlt : j < 4
    ·obtain ⟨ad, e, hx⟩ := Kd.at_int (Kd.C_below HR1.out HB.out) (j : Int) (by omega) (by have := HL.out; omega)
     subst e
     simp only [Int.toNat_natCast] at hx
     have hd1 : decide ((j : Int) < 4) = true := decide_eq_true (by omega)
     have p1 : (0 ≤ (j : Int)) = True := eq_true (by omega)
     have q1 : ((j : Int) < 4) = True := eq_true (by omega)
     have hlow := pl_l6In_low a0 (rd l1 (j : Int))
     have HLT := Lib.hid hlt
     cases hv : pl_lowB a0 (rd l1 (j : Int)) with
     | false =>
      rw [hv] at hlow
      have HLOW := Lib.hid hlow
      have hr : r = false := by
       have h := H.out
       have ha : l1.all (pl_lowB a0) = false := by
        rw [List.all_eq_false]
        exact ⟨rd l1 (j : Int), by rw [rd, List.getD_eq_getElem?_getD, Int.toNat_natCast, List.getElem?_eq_getElem (by have := HL.out; omega)]; exact List.getElem_mem _, by simp [hv]⟩
       rw [if_pos trivial, if_pos HL.out, if_neg (by simp [ha])] at h
       exact (Option.some.inj h).symm
      subst hr; clear hlt hv hlow
      go_wp2_with fail
      refine (spec_l6In.calls _ _ _ _ _ HLOW.out).mono ?_
      rintro e w2 ⟨rfl, ⟨q, rfl⟩⟩
      go_wp2; go_ret
      exact ⟨rfl, pw_below_drewN HB.out q⟩
     | true =>
      rw [hv] at hlow
      have HLOW := Lib.hid hlow
      have HALL2 : Hid ((l1.take (j + 1)).all (pl_lowB a0) = true) := Lib.hid (by
       have h9 : j < l1.length := by have := HL.out; omega
       rw [List.take_add_one, List.all_append, HALL.out, List.getElem?_eq_getElem h9]
       have e : rd l1 (j : Int) = l1[j] := by simp [rd, List.getD_eq_getElem?_getD, h9]
       rw [e] at hv
       simp [hv])
      clear hlt hv hlow
      go_wp2_with fail
      refine (spec_l6In.calls _ _ _ _ _ HLOW.out).mono ?_
      rintro e w2 ⟨rfl, ⟨q, rfl⟩⟩
      go_wp2_with fail
      have hw1 : wrap64 ((j : Int) + 1) = ((j + 1 : Nat) : Int) := by have := HLT.out; unfold wrap64; omega
      go_roundw
      case measure => (try rw [hw1]); simp only [intOf]; have := HLT.out; omega
      case rel => exact ⟨j + 1, by have := HLT.out; omega, by first | rw [hw1] | go_num, HALL2.out, pw_below_drewN HB.out q⟩
    ·have hje : j = 4 := by have := HJ.out; omega
     subst hje
     have hd1 : decide (((4 : Nat) : Int) < 4) = false := rfl
     have h2 : ((spec_l4Row.f k a0 l1).bind fun row => (spec_l4Zero.f k l1).bind fun z => if row.length = 4 then some (!z && (row == l1)) else none) = some r := by
      have h := H.out
      rw [if_pos trivial, if_pos HL.out, if_pos (by have h := HALL.out; rwa [List.take_of_length_le (by have := HL.out; omega)] at h)] at h
      exact h
     obtain ⟨row, hrow, h3⟩ := Option.bind_eq_some_iff.1 h2
     obtain ⟨z, hz, h4⟩ := Option.bind_eq_some_iff.1 h3
     have hrl : row.length = 4 := by
      by_cases e : row.length = 4
      ·exact e
      ·rw [if_neg e] at h4; simp at h4
     rw [if_pos hrl] at h4
     have HROW := Lib.hid hrow
     have HZ := Lib.hid hz
     have HRES := Lib.hid (Option.some.inj h4)
     have HRL := Lib.hid hrl
     have hcall := spec_l4Row.calls k a0 A1 c1 l1 row wr (Kd.C_below HR1.out HB.out) HC1.out hrow
     rw [HL.out] at hcall
     have HCALL := Lib.hid hcall
     clear hlt HALL h2 h3 h4 hrow hz hrl H hcall
     go_wp2_with fail
     refine HCALL.out.mono ?_
     rintro e w2 ⟨v, rfl, hR, hb⟩
     obtain ⟨A2, c2, rfl⟩ := Kd.R_slice hR
     have HB2 : Hid (Below w.heap.size w w2) := Lib.hid (HB.out.trans (hb.mono HB.out.size))
     have HC2 := Lib.hid (Kd.R_reads' hR).2.2
     clear hR hb HCALL
     rw [HRL.out]
     obtain ⟨ad, e, hx0⟩ := Kd.at_int (Kd.C_below HR1.out HB2.out) 0 (by omega) (by have := HL.out; omega)
     subst e
     obtain ⟨_, e, hx1⟩ := Kd.at_int (Kd.C_below HR1.out HB2.out) 1 (by omega) (by have := HL.out; omega)
     cases e
     obtain ⟨_, e, hx2⟩ := Kd.at_int (Kd.C_below HR1.out HB2.out) 2 (by omega) (by have := HL.out; omega)
     cases e
     obtain ⟨_, e, hx3⟩ := Kd.at_int (Kd.C_below HR1.out HB2.out) 3 (by omega) (by have := HL.out; omega)
     cases e
     obtain ⟨ad2, e, hy0⟩ := Kd.at_int HC2.out 0 (by omega) (by have := HRL.out; omega)
     subst e
     obtain ⟨_, e, hy1⟩ := Kd.at_int HC2.out 1 (by omega) (by have := HRL.out; omega)
     cases e
     obtain ⟨_, e, hy2⟩ := Kd.at_int HC2.out 2 (by omega) (by have := HRL.out; omega)
     cases e
     obtain ⟨_, e, hy3⟩ := Kd.at_int HC2.out 3 (by omega) (by have := HRL.out; omega)
     cases e
     rw [show ((0 : Int)).toNat = 0 from rfl, Addr.add_zero'] at hx0 hy0
     simp only [show (1 : Int).toNat = 1 from rfl, show (2 : Int).toNat = 2 from rfl, show (3 : Int).toNat = 3 from rfl, Nat.reduceMul, Nat.reduceEqDiff, Go.Addr.add, ↓reduceIte] at hx1 hx2 hx3 hy1 hy2 hy3
     have hq : ∀ nq : Nat, Calls Try.prog 89 #[.slice (some ad) 4 c1] (w2.drewN nq) fun e w' => e = .returned (.bool z) ∧ ∃ n, w' = (w2.drewN nq).drewN n := fun nq => by
      have h := quiet_ (spec_l4Zero.calls k (some ad) c1 l1 z (w2.drewN nq) (Kd.C_drewN (Kd.C_below HR1.out HB2.out) nq) HC1.out HZ.out)
      rwa [HL.out] at h
     have hrow4 : row = [rd row 0, rd row 1, rd row 2, rd row 3] := by
      match row, HRL.out with
      | [_, _, _, _], _ => rfl
     have hl4 : l1 = [rd l1 0, rd l1 1, rd l1 2, rd l1 3] := by
      match l1, HL.out with
      | [_, _, _, _], _ => rfl
     have HEQ : Hid ((row == l1) = ((rd row 0 == rd l1 0) && (rd row 1 == rd l1 1) && (rd row 2 == rd l1 2) && (rd row 3 == rd l1 3))) := Lib.hid (by
      conv => lhs; rw [hrow4, hl4]
      rw [Bool.eq_iff_iff]
      simp [and_assoc])
     clear hrow4 hl4
     generalize rd row 0 = b0 at *
     generalize rd row 1 = b1 at *
     generalize rd row 2 = b2 at *
     generalize rd row 3 = b3 at *
     generalize rd l1 0 = a0' at *
     generalize rd l1 1 = a1' at *
     generalize rd l1 2 = a2' at *
     generalize rd l1 3 = a3' at *
     have HRES2 : Hid ((!z && (((b0 == a0') && (b1 == a1') && (b2 == a2') && (b3 == a3')))) = r) := Lib.hid (by rw [← HEQ.out]; exact HRES.out)
     clear HEQ HRES HROW HZ
     cases z with
     | true =>
      obtain rfl : r = false := by have h := HRES2.out; simpa using h.symm
      go_wp2_with fail
      go_quiet ((go_at_call 89; exact Calls.quiet_of (hq _)))
      go_wp2; go_ret
      exact ⟨rfl, pw_below_drewN HB2.out nq⟩
     | false =>
      cases e0 : (b0 == a0') with
      | false =>
       obtain rfl : r = false := by have h := HRES2.out; rw [e0] at h; simpa using h.symm
       go_wp2_with fail
       go_quiet ((go_at_call 89; exact Calls.quiet_of (hq _)))
       go_wp2; go_ret
       exact ⟨rfl, pw_below_drewN HB2.out nq⟩
      | true =>
       cases e1 : (b1 == a1') with
       | false =>
        obtain rfl : r = false := by have h := HRES2.out; rw [e1] at h; simpa using h.symm
        go_wp2_with fail
        go_quiet ((go_at_call 89; exact Calls.quiet_of (hq _)))
        go_wp2; go_ret
        exact ⟨rfl, pw_below_drewN HB2.out nq⟩
       | true =>
        cases e2 : (b2 == a2') with
        | false =>
         obtain rfl : r = false := by have h := HRES2.out; rw [e2] at h; simpa using h.symm
         go_wp2_with fail
         go_quiet ((go_at_call 89; exact Calls.quiet_of (hq _)))
         go_wp2; go_ret
         exact ⟨rfl, pw_below_drewN HB2.out nq⟩
        | true =>
         have hr : (b3 == a3') = r := by have h := HRES2.out; rw [e0, e1, e2] at h; simpa using h
         have HR := Lib.hid hr
         clear hr
         go_wp2_with fail
         go_quiet ((go_at_call 89; exact Calls.quiet_of (hq _)))
         go_wp2; go_ret
         exact ⟨by rw [← HR.out]; first | rfl | simp, pw_below_drewN HB2.out nq⟩
  ·obtain rfl : r = false := by have h := H.out; rw [if_neg hl] at h; simp at h; exact h
   have h8 : ((l1.length : Int) != 4) = true := bne_iff_ne.mpr (by omega)
   have h9 : ((l1.length : Int) == 4) = false := beq_eq_false_iff_ne.mpr (by omega)
   clear hl
   go_enter Try.func66, Try.ntmps66
   go_wp2_with fail
   refine (spec_PrimeIn.calls a0 true _ HPR.out).mono ?_
   rintro e w1 ⟨rfl, ⟨q, rfl⟩⟩
   go_wp2; go_ret
   exact ⟨rfl, pw_below_drewN (Below.refl _ _) q⟩
end Go.Proofs.Ytmenehnfgenlpaa.PA

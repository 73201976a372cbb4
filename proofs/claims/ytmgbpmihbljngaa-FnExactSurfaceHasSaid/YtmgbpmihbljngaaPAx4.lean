-- Written by xprint.py, a program of this claim's own (over the kit's print.py)
import Derived.Test.YtmgbpmihbljngaaPAx0
import Derived.Test.YtmgbpmihbljngaaPAx3
import Derived.Shelf.SlicesE.Delete
import Derived.Deep.WholeRow
namespace Go.Proofs.Ytmgbpmihbljngaa.PA
open Go.RowKit Go.Proofs.YtmgbpmihbljngaaW.PrintWords Go.Proofs.YtmgbpmihbljngaaW.PrintLast Go.Proofs.YtmgbpmihbljngaaW.PrintMore
attribute [local go_sem] max2_int min2_int max_two min_two max_three min_three max_four min_four   -- for this text's walks alone
set_option linter.unusedVariables false
set_option linter.unusedSimpArgs false

/-! ### impl_areApart: function 111 (by hand) -/
/-- is point m (or one behind it, before j) on the line through points i and j -/
def ap2 (k : Nat) (p : Int) (l : List S43) (i j : Nat) : Nat → Nat → Option Bool
 | 0, _ => some false
 | d + 1, m => (impl_cross.f (rd_T43 l (i : Int)).f0.f0 (rd_T43 l (i : Int)).f0.f1 (rd_T43 l (i : Int)).f0.f2 (rd_T43 l (j : Int)).f0.f0 (rd_T43 l (j : Int)).f0.f1 (rd_T43 l (j : Int)).f0.f2).bind fun c => (impl_dot.f k p c [(rd_T43 l (m : Int)).f0.f0, (rd_T43 l (m : Int)).f0.f1, (rd_T43 l (m : Int)).f0.f2]).bind fun t => if t = 0 then some true else ap2 k p l i j d (m + 1)
def ap1 (k : Nat) (p : Int) (l : List S43) (i : Nat) : Nat → Nat → Option Bool
 | 0, _ => some false
 | d + 1, j => (ap2 k p l i j j 0).bind fun b => if b = true then some true else ap1 k p l i d (j + 1)
def ap0 (k : Nat) (p : Int) (l : List S43) : Nat → Nat → Option Bool
 | 0, _ => some true
 | d + 1, i => (impl_isPoint.f p (rd_T43 l (i : Int)).f0.f0 (rd_T43 l (i : Int)).f0.f1 (rd_T43 l (i : Int)).f0.f2).bind fun t => if t = true then (ap1 k p l i i 0).bind fun b => if b = true then some false else ap0 k p l d (i + 1) else some false
def impl_areApart.f (k : Nat) (p : Int) (l : List S43) : Option Bool := if l.length ≤ 1000000 then ap0 k p l l.length 0 else none
theorem ap2_mono (p : Int) (l : List S43) (i j k : Nat) : ∀ d m, LeO (ap2 k p l i j d m) (ap2 (k + 1) p l i j d m)
 | 0, _ => LeO.refl _
 | d + 1, m => by rw [ap2, ap2]; exact LeO.bind (LeO.refl _) fun _ => LeO.bind (impl_dot.mono _ _ _ _) fun _ => LeO.ite (LeO.refl _) (ap2_mono p l i j k d _)
theorem ap1_mono (p : Int) (l : List S43) (i k : Nat) : ∀ d j, LeO (ap1 k p l i d j) (ap1 (k + 1) p l i d j)
 | 0, _ => LeO.refl _
 | d + 1, j => by rw [ap1, ap1]; exact LeO.bind (ap2_mono _ _ _ _ _ _ _) fun _ => LeO.ite (LeO.refl _) (ap1_mono p l i k d _)
theorem ap0_mono (p : Int) (l : List S43) (k : Nat) : ∀ d i, LeO (ap0 k p l d i) (ap0 (k + 1) p l d i)
 | 0, _ => LeO.refl _
 | d + 1, i => by rw [ap0, ap0]; exact LeO.bind (LeO.refl _) fun _ => LeO.ite (LeO.bind (ap1_mono _ _ _ _ _ _) fun _ => LeO.ite (LeO.refl _) (ap0_mono p l k d _)) (LeO.refl _)
theorem ct_lt_ {w : World} {b : Nat} {o : Obj} (h : w.heap[b]? = some o) : b < w.heap.size := (Array.getElem?_eq_some_iff.1 h).1
theorem ct_old_ {w : World} {b : Nat} {o : Obj} (h : w.heap[b]? = some o) (o2 : Obj) : (w.alloc o2).heap[b]? = some o := by rw [Below.heap_alloc _ _ _ (Array.getElem?_eq_some_iff.1 h).1]; exact h
theorem ap_meas {i d n : Nat} (h : i + (d + 1) = n) : n - (((i + 1 : Nat) : Int)).toNat < n - ((i : Int)).toNat := by omega
theorem impl_areApart.mono : ∀ a0 a1 k, LeO (impl_areApart.f k a0 a1) (impl_areApart.f (k + 1) a0 a1) := by
 intro a0 a1 k
 unfold impl_areApart.f
 exact LeO.ite (ap0_mono _ _ _ _ _) (LeO.refl _)
def impl_areApart.T12 : Bool × List (List Nat × List Nat) := (true, [([], []), ([], []), ([], []), ([1, 2], [1, 2]), ([], []), ([4], [4]), ([0, 3, 5, 3], [0, 3, 5]), ([6], [6])])
def impl_areApart.B12 : List Nat := [0, 0, 0, 6, 0, 16, 63, 127]
theorem impl_areApart.tab12 : rtab .any (opsOf Try.f111 12) = impl_areApart.T12 := by kernel_rfl
theorem impl_areApart.bits12 : waitsOk impl_areApart.T12.2 impl_areApart.B12 = true := by kernel_rfl
/-- the cells of a point's block -/
def ptCells (x : S43) : Array Value := #[.int .i64 x.f0.f0, .int .i64 x.f0.f1, .int .i64 x.f0.f2]
set_option maxHeartbeats 8000000 in
set_option maxRecDepth 100000 in
theorem impl_areApart.calls (k : Nat) (a0 : Int) (A1 : Option Addr) (c1 : Nat) (l1 : List S43) (r : Bool) (w : World) (hr1 : Kd.C k43 w A1 l1.length l1) (hc1 : l1.length ≤ c1) (h : impl_areApart.f k a0 l1 = some r) :
  Calls Try.prog 111 #[.int .i64 a0, .slice A1 l1.length c1] w fun e w' => e = .returned (.bool r) ∧ Below w.heap.size w w' := by
 have hu43 := Try.underlying43
 have hu41 := Try.underlying41
 have hu34 := Try.underlying34
 have HR1 := am hr1
 have HC1 := am hc1
 have HB := am (Below.refl w.heap.size w)
 unfold impl_areApart.f at h
 split at h
 rotate_left
 ·exact absurd h (by simp)
 next hlen =>
 have HLEN := am hlen
 have H := am h
 clear hr1 hc1 h hlen
 go_enter Try.func111, Try.ntmps111
 go_wp2
 go_loopw [13] (fun v w' => ∃ d i : Nat, v = .int .i64 (i : Int) ∧ Aside0 (i + d = l1.length) ∧ Aside0 (ap0 k a0 l1 d i = some r) ∧ Aside0 (Below w.heap.size w w')) (fun v _ => l1.length - (intOf v).toNat)
 case atStart => exact ⟨l1.length, 0, rfl, ⟨by omega⟩, H, ⟨bw HB⟩⟩
 case round =>
  clear H HB
  obtain ⟨d, i, rfl, HD, H, HB⟩ := hrel
  cases d with
  | zero =>
   have hlt : decide (i < l1.length) = false := decide_eq_false (by have := HD.out; omega)
   have hr := H.out
   rw [ap0] at hr
   obtain rfl := Option.some.inj hr
   clear hr; go_wp2; go_ret
   exact ⟨fq, bw HB⟩
  | succ d =>
   have hlt : decide (i < l1.length) = true := decide_eq_true (by have := HD.out; omega)
   obtain ⟨t, ht, H2⟩ := Option.bind_eq_some_iff.1 (show _ = some r by have := H.out; rwa [ap0] at this)
   have HT := am ht
   have HN := am H2
   clear H ht H2
   obtain ⟨ad, e1, x0, x1, x2⟩ := at_T43 HR1.out (i : Int) (by omega) (by have := HD.out; omega)
   have HA := am e1
   subst e1
   rw [Int.toNat_natCast] at x0 x1 x2
   replace x0 := wcl HB x0
   replace x1 := wcl HB x1
   replace x2 := wcl HB x2
   have p0 : (0 ≤ (i : Int)) = True := eq_true (by omega)
   have q0 : (i < l1.length) = True := eq_true (by have := HD.out; omega)
   generalize hX : rd_T43 l1 (i : Int) = X at *
   have HX := am hX
   clear hX
   go_wp2_with fail
   refine (impl_isPoint.calls a0 X.f0.f0 X.f0.f1 X.f0.f2 t _ HT.out).mono ?_
   rintro e w1 ⟨rfl, hb⟩
   have HB1 := bq HB hb
   have HX1 := am ((hb.block wr.heap.size (by simp)).trans (heap_alloc_last wr (.cells (ptCells X) 43)))
   clear hb x0 x1 x2 p0 q0
   cases t with
   | false =>
    have hr := HN.out
    rw [if_neg (by simp)] at hr
    obtain rfl := Option.some.inj hr
    clear hr HN HX1 HB
    go_wp2_with fail
    go_ret
    exact ⟨fq, bw HB1⟩
   | true =>
    obtain ⟨b, hb1, hr⟩ := Option.bind_eq_some_iff.1 (show _ = some r by have := HN.out; rwa [if_pos rfl] at this)
    have H1 := am hb1
    have H0 := am hr
    clear hb1 hr HN HB
    obtain ⟨gi, hgi⟩ : ∃ g, wr.heap.size = g := ⟨_, rfl⟩
    rw [hgi] at HX1
    have HGI := am hgi
    have c0 : (i ≤ c1) = True := eq_true (by have := HC1.out; have := HD.out; omega)
    have c2 : (0 ≤ (i : Int)) = True := eq_true (by omega)
    go_wp2_with fail
    clear hgi
    go_loopw [26] (fun v w' => ∃ d2 j : Nat, v = .int .i64 (j : Int) ∧ Aside0 (j + d2 = i) ∧ Aside0 (ap1 k a0 l1 i d2 j = some b) ∧ Aside0 (Below w.heap.size w w') ∧ Aside0 (w'.heap[gi]? = some (.cells (ptCells X) 43 (0, 0)))) (fun v _ => i - (intOf v).toNat)
    case atStart => exact ⟨i, 0, rfl, ⟨by omega⟩, H1, ⟨HB1.out⟩, ⟨HX1.out⟩⟩
    case round =>
     clear H1 HB1 HX1
     obtain ⟨d2, j, rfl, HD2, H1, HB1, HX1⟩ := hrel
     cases d2 with
     | zero =>
      have hj : j = i := by have := HD2.out; omega
      subst hj
      have hb0 := H1.out
      rw [ap1] at hb0
      obtain rfl := Option.some.inj hb0
      have h0 := H0.out
      rw [if_neg (by simp)] at h0
      have hlt2 : decide (j < j) = false := decide_eq_false (by omega)
      have HN := am h0
      clear hb0 h0
      have hw1 : wrap64 ((j : Int) + 1) = ((j + 1 : Nat) : Int) := by have := HD.out; have := HLEN.out; unfold wrap64; omega
      go_wp2
      go_roundw
      case measure => rw [hw1]; exact ap_meas HD.out
      case rel => exact ⟨d, j + 1, by rw [hw1], ⟨by have := HD.out; omega⟩, HN, ⟨bw HB1⟩⟩
     | succ d2 =>
      have hlt2 : decide (j < i) = true := decide_eq_true (by have := HD2.out; omega)
      obtain ⟨b2, hb2, hr⟩ := Option.bind_eq_some_iff.1 (show _ = some b by have := H1.out; rwa [ap1] at this)
      have H2 := am hb2
      have H1n := am hr
      clear H1 hb2 hr
      obtain ⟨ad2, e1, x0, x1, x2⟩ := at_T43 HR1.out (j : Int) (by omega) (by have := HD.out; have := HD2.out; omega)
      obtain rfl := Option.some.inj e1
      rw [Int.toNat_natCast] at x0 x1 x2
      replace x0 := wcl HB1 x0
      replace x1 := wcl HB1 x1
      replace x2 := wcl HB1 x2
      have p0 : (0 ≤ (j : Int)) = True := eq_true (by omega)
      have q0 : (j < i) = True := eq_true (by have := HD2.out; omega)
      have q1 : (j ≤ c1) = True := eq_true (by have := HC1.out; have := HD.out; have := HD2.out; omega)
      generalize hY : rd_T43 l1 (j : Int) = Y at *
      have HY := am hY
      clear hY
      go_wp2_with fail
      clear x0 x1 x2 hlt2 q0 q1
      have HB2 := bq HB1 (Below.refl _ (wr.alloc (.cells (ptCells Y) 43)))
      have HX2 := am (ct_old_ HX1.out (.cells (ptCells Y) 43))
      have HY2 := am (heap_alloc_last wr (.cells (ptCells Y) 43))
      obtain ⟨gj, hgj⟩ : ∃ g, wr.heap.size = g := ⟨_, rfl⟩
      obtain ⟨w2, hw2⟩ : ∃ u, wr.alloc (.cells (ptCells Y) 43) = u := ⟨_, rfl⟩
      rw [hgj, hw2] at HY2
      rw [hw2] at HB2 HX2
      have e2 : wr.alloc (.cells #[.int .i64 Y.f0.f0, .int .i64 Y.f0.f1, .int .i64 Y.f0.f2] 43) = w2 := hw2
      rw [e2, hgj]
      have HGJ := am hgj
      have HW2 := am hw2
      clear hgj hw2 e2
      go_loopw [35] (fun v w' => ∃ d3 m : Nat, v = .int .i64 (m : Int) ∧ Aside0 (m + d3 = j) ∧ Aside0 (ap2 k a0 l1 i j d3 m = some b2) ∧ Aside0 (Below w.heap.size w w') ∧ Aside0 (w'.heap[gi]? = some (.cells (ptCells X) 43 (0, 0))) ∧ Aside0 (w'.heap[gj]? = some (.cells (ptCells Y) 43 (0, 0)))) (fun v _ => j - (intOf v).toNat)
      case atStart => exact ⟨j, 0, rfl, ⟨by omega⟩, H2, ⟨HB2.out⟩, ⟨HX2.out⟩, ⟨HY2.out⟩⟩
      case round =>
       clear H2 HB2 HX2 HY2 HB1 HX1
       obtain ⟨d3, m, rfl, HD3, H2, HB2, HX2, HY2⟩ := hrel
       cases d3 with
       | zero =>
        have hm : m = j := by have := HD3.out; omega
        subst hm
        have hb0 := H2.out
        rw [ap2] at hb0
        obtain rfl := Option.some.inj hb0
        have h1 := H1n.out
        rw [if_neg (by simp)] at h1
        have H1' := am h1
        clear hb0 h1
        have hlt3 : decide (m < m) = false := decide_eq_false (by omega)
        have hw1 : wrap64 ((m : Int) + 1) = ((m + 1 : Nat) : Int) := by have := HD.out; have := HD2.out; have := HLEN.out; unfold wrap64; omega
        go_wp2
        go_roundw
        case measure => rw [hw1]; exact ap_meas HD2.out
        case rel => exact ⟨d2, m + 1, by rw [hw1], ⟨by have := HD2.out; omega⟩, H1', ⟨bw HB2⟩, HX2⟩
       | succ d3 =>
        have hlt3 : decide (m < j) = true := decide_eq_true (by have := HD3.out; omega)
        obtain ⟨c, hc, hr⟩ := Option.bind_eq_some_iff.1 (show _ = some b2 by have := H2.out; rwa [ap2] at this)
        obtain ⟨t, ht, hr⟩ := Option.bind_eq_some_iff.1 hr
        rw [HX.out, HY.out] at hc
        have HC := am hc
        have HDT := am ht
        have H2n := am hr
        clear H2 hc ht hr
        obtain ⟨ad3, e1, x0, x1, x2⟩ := at_T43 HR1.out (m : Int) (by omega) (by have := HD.out; have := HD2.out; have := HD3.out; omega)
        obtain rfl := Option.some.inj e1
        rw [Int.toNat_natCast] at x0 x1 x2
        replace x0 := wcl HB2 x0
        replace x1 := wcl HB2 x1
        replace x2 := wcl HB2 x2
        have p0 : (0 ≤ (m : Int)) = True := eq_true (by omega)
        have q0 : (m < j) = True := eq_true (by have := HD3.out; omega)
        generalize hZ : rd_T43 l1 (m : Int) = Z at *
        clear hZ; clear hr e1
        go_wp2_with fail
        clear x0 x1 x2 hlt3 p0 q0
        have HB3 := am (bq HB2 (Below.refl _ ((wr.alloc (.cells (ptCells Z) 43)).drew))).out
        have HX3 := am (ct_old_ HX2.out (.cells (ptCells Z) 43))
        have HY3 := am (ct_old_ HY2.out (.cells (ptCells Z) 43))
        have HZ3 := am (heap_alloc_last wr (.cells (ptCells Z) 43))
        have e2 : wr.alloc (.cells #[.int .i64 Z.f0.f0, .int .i64 Z.f0.f1, .int .i64 Z.f0.f2] 43) = wr.alloc (.cells (ptCells Z) 43) := rfl
        rw [e2]
        clear e2
        generalize wr.alloc (.cells (ptCells Z) 43) = w3 at HB3 HX3 HY3 HZ3 ⊢
        have hS : (fun w' : World => w'.cell? ⟨gi, 0, none⟩ = some (.int .i64 X.f0.f0) ∧ w'.cell? ⟨gi, 1, none⟩ = some (.int .i64 X.f0.f1) ∧ w'.cell? ⟨gi, 2, none⟩ = some (.int .i64 X.f0.f2) ∧ w'.cell? ⟨gj, 0, none⟩ = some (.int .i64 Y.f0.f0) ∧ w'.cell? ⟨gj, 1, none⟩ = some (.int .i64 Y.f0.f1) ∧ w'.cell? ⟨gj, 2, none⟩ = some (.int .i64 Y.f0.f2)) w3.drew := ⟨cell_of_row w3 _ 0 _ _ _ HX3.out, cell_of_row w3 _ 1 _ _ _ HX3.out, cell_of_row w3 _ 2 _ _ _ HX3.out, cell_of_row w3 _ 0 _ _ _ HY3.out, cell_of_row w3 _ 1 _ _ _ HY3.out, cell_of_row w3 _ 2 _ _ _ HY3.out⟩
        refine st 8 (fun w' : World => w'.cell? ⟨gi, 0, none⟩ = some (.int .i64 X.f0.f0) ∧ w'.cell? ⟨gi, 1, none⟩ = some (.int .i64 X.f0.f1) ∧ w'.cell? ⟨gi, 2, none⟩ = some (.int .i64 X.f0.f2) ∧ w'.cell? ⟨gj, 0, none⟩ = some (.int .i64 Y.f0.f0) ∧ w'.cell? ⟨gj, 1, none⟩ = some (.int .i64 Y.f0.f1) ∧ w'.cell? ⟨gj, 2, none⟩ = some (.int .i64 Y.f0.f2)) [] impl_areApart.tab12 impl_areApart.bits12 hS fun hHeld HT_ HW_ => ?_
        clear hS
        refine pz 0 39 HT_ ?_; refine tk 1 40 HT_ HW_ hHeld ?_; refine tk 2 41 HT_ HW_ hHeld ?_; refine pz 4 43 HT_ ?_; refine pz 5 44 HT_ ?_
        refine on 3 (some 42) HT_ fun K hK => ?_
        refine gs_ Try.func139 #[.agg #[.int .i64 X.f0.f0, .int .i64 X.f0.f1, .int .i64 X.f0.f2], .agg #[.int .i64 Y.f0.f0, .int .i64 Y.f0.f1, .int .i64 Y.f0.f2]] ?_
        refine (impl_cross.calls X.f0.f0 X.f0.f1 X.f0.f2 Y.f0.f0 Y.f0.f1 Y.f0.f2 c _ HC.out).mono ?_
        rintro e w4 ⟨v0, rfl, hv, hb⟩
        obtain ⟨B, cb, e1⟩ := Kd.R_slice hv
        subst e1
        have HV := am (Kd.R_reads' hv)
        have hbk := hb.block
        have HX4 := am ((hbk gi (ct_lt_ HX3.out)).trans HX3.out)
        have HY4 := am ((hbk gj (ct_lt_ HY3.out)).trans HY3.out)
        have HZ4 := am ((hbk _ (ct_lt_ HZ3.out)).trans HZ3.out)
        have HB4 := am (below_step HB3.out hb)
        clear hv hb hbk
        refine ⟨_, rfl, ?_⟩
        refine hK.out _ _ ⟨cell_of_row w4 _ 0 _ _ _ HX4.out, cell_of_row w4 _ 1 _ _ _ HX4.out, cell_of_row w4 _ 2 _ _ _ HX4.out, cell_of_row w4 _ 0 _ _ _ HY4.out, cell_of_row w4 _ 1 _ _ _ HY4.out, cell_of_row w4 _ 2 _ _ _ HY4.out⟩ fun hHeld => nz ?_
        clear hK K HX3 HY3 HZ3 HB3
        refine on 6 (some 45) HT_ fun K hK => ?_
        refine gs_ Try.func81 #[.int .i64 a0, .slice B c.length cb, .slice (some ⟨wr.heap.size, 0, none⟩) 3 3] ?_
        refine (impl_dot.calls k a0 B cb c (some ⟨wr.heap.size, 0, none⟩) 3 [Z.f0.f0, Z.f0.f1, Z.f0.f2] t _ HV.out.2.2 HV.out.2.1 (ip_reads3 HZ4.out) (Nat.le_refl _) HDT.out).mono ?_
        rintro e w5 ⟨rfl, ⟨m5, rfl⟩⟩
        refine ⟨_, rfl, ?_⟩
        refine hK.out _ _ hHeld fun hHeld => nz ?_
        clear hK K; refine pz 7 46 HT_ ?_
        refine done_ (done_of HT_.out (by kernel_rfl)) ?_
        clear HT_ HW_ hHeld
        by_cases h0 : t = 0
        ·have hr := H2n.out
         rw [if_pos h0] at hr
         obtain rfl := Option.some.inj hr
         have hr := H1n.out
         rw [if_pos rfl] at hr
         obtain rfl := Option.some.inj hr
         have hr := H0.out
         rw [if_pos rfl] at hr
         obtain rfl := Option.some.inj hr
         have ht : (t == 0) = true := by rw [h0]; rfl
         clear hr h0
         go_wp2_with fail
         go_ret
         exact ⟨fq, bw HB4⟩
        ·have hr := H2n.out
         rw [if_neg h0] at hr
         have H2' := am hr
         have ht : (t == 0) = false := beq_eq_false_iff_ne.2 h0
         clear hr h0
         have hw1 : wrap64 ((m : Int) + 1) = ((m + 1 : Nat) : Int) := by have := HD.out; have := HD2.out; have := HD3.out; have := HLEN.out; unfold wrap64; omega
         go_wp2_with fail
         go_roundw
         case measure => rw [hw1]; exact ap_meas HD3.out
         case rel => exact ⟨d3, m + 1, by rw [hw1], ⟨by have := HD3.out; omega⟩, H2', ⟨bw HB4⟩, ⟨HX4.out⟩, ⟨HY4.out⟩⟩
-- NOT PRINTED: function 166 (slices_IndexFunc_int_int_166)
-- NOT PRINTED: function 168 (slices_Delete_int_int)/-! ### impl_inverse: function 169 -/
def impl_inverse.l0 : Nat → Int → Int → Int → Int → Int → Option (Int)
 | 0, _, _, _, _, _ => none
 | k + 1, x0, x1, x5, x7, x8 => if x8 < x7 then (if x1 = 0 then (none) else (impl_inverse.l0 k x0 x1 (Int.tmod (wrap64 (x5 * x0)) x1) x7 (wrap64 (x8 + 1)))) else (some x5)
def impl_inverse.f (k : Nat) (a0 : Int) (a1 : Int) : Option (Int) := impl_inverse.l0 k a0 a1 1 (wrap64 (a1 - 2)) 0
theorem impl_inverse.mono_l : ∀ k, (∀ y0 y1 y2 y3 y4, LeO (impl_inverse.l0 k y0 y1 y2 y3 y4) (impl_inverse.l0 (k + 1) y0 y1 y2 y3 y4))
 | 0 => fun _ _ _ _ _ r h => by simp [impl_inverse.l0] at h
 | k + 1 => by
  have ih0 := impl_inverse.mono_l k
  ·intro y0 y1 y2 y3 y4
   unfold impl_inverse.l0
   repeat' first | (with_reducible first | apply ih0 | exact LeO.refl _ | exact LeO.none _ | refine LeO.ite ?_ ?_ | refine LeO.bind ?_ (fun _ => ?_)) | (first | apply ih0 | exact LeO.none _ | refine LeO.ite ?_ ?_ | refine LeO.bind ?_ (fun _ => ?_))
theorem impl_inverse.mono : ∀ a0 a1 k, LeO (impl_inverse.f k a0 a1) (impl_inverse.f (k + 1) a0 a1) := by
 intro a0 a1 k
 have ih0 := impl_inverse.mono_l k
 unfold impl_inverse.f
 repeat' first | (with_reducible first | apply ih0 | exact LeO.refl _ | exact LeO.none _ | refine LeO.ite ?_ ?_ | refine LeO.bind ?_ (fun _ => ?_)) | (first | apply ih0 | exact LeO.none _ | refine LeO.ite ?_ ?_ | refine LeO.bind ?_ (fun _ => ?_))
set_option maxHeartbeats 8000000 in
set_option maxRecDepth 100000 in
theorem impl_inverse.calls (k : Nat) (a0 : Int) (a1 : Int) (r : Int) (w : World) (h : impl_inverse.f k a0 a1 = some r) :
  Calls Try.prog 169 #[.int .i64 a0, .int .i64 a1] w fun e w' => e = .returned (.int .i64 r) ∧ Drawn0 w w' := by
 have H : (impl_inverse.l0 k a0 a1 1 (wrap64 (a1 - 2)) 0) = some r := h
 clear h; have H' := am H; clear H
 go_enter Try.func169, Try.ntmps169
 go_wp2
 go_loopg [5, 8] k (fun kq v5 v8 w' => ∃ (x5_1 : Int) (x8_1 : Int), v5 = .int .i64 x5_1 ∧ v8 = .int .i64 x8_1 ∧ Aside0 (impl_inverse.l0 kq a0 a1 x5_1 (wrap64 (a1 - 2)) x8_1 = some r) ∧ Aside0 (kq ≤ k) ∧ Drawn0 w w')
 case atStart => exact ⟨(1), (0), fr, fr, H', ⟨Nat.le_refl _⟩, df⟩
 case round =>
  clear H'; try clear c1; try clear p2
  obtain ⟨x5_1, x8_1, rfl, rfl, HA, HK1, ⟨m1, rfl⟩⟩ := hrel
  cases gk with
  | zero => exact absurd HA.out (by simp [impl_inverse.l0])
  | succ k1 =>
   have H := HA.out; clear HA
   simp only [impl_inverse.l0] at H
   by_cases c3 : x8_1 < (wrap64 (a1 - 2))
   ·rw [if_pos c3] at H
    have c3b0 := decide_eq_true c3; clear c3; replace H := ifm H; obtain ⟨c4, H⟩ := H; have c4b0 := beq_eq_false_iff_ne.mpr c4; have c4b1 := bne_iff_ne.mpr c4; have H' := am H; clear H; go_wp2
    go_roundg k1
    case measure => have := HK1.out; omega
    case rel => exact ⟨(Int.tmod (wrap64 (x5_1 * a0)) a1), (wrap64 (x8_1 + 1)), fr, fr, H', ⟨by have := HK1.out; omega⟩, df⟩
   ·rw [if_neg c3] at H
    have c3b0 := decide_eq_false c3; clear c3; obtain rfl := Option.some.inj H; go_wp2; go_ret
    exact ⟨fr, df⟩
end Go.Proofs.Ytmgbpmihbljngaa.PA
